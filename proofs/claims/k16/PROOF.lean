import PyProof.Rows.All
import HandS.ForMost
import HandS.TupAny
import KE.SortData
import KE.DataCmp
import KE.DataAny
import HandS.Flow
import HandS.Style
import HandS.Zip
import HandS.DictComp
import HandS.IsInst
import HandS.Iter
import HandS.Set
import HandS.SetFor
import HandS.SetIn
import HandS.More
import KE.KDictPairs
import PySem.Challenge.RW_chiplore_k16_how_far_apart_rings_and_way
set_option Elab.async false
set_option linter.all false
set_option maxRecDepth 100000
/-! PdA0: new tuples, known to their object (so that it is known that they hold no attributes). -/
namespace PD
open PySem PySem.Spec PyProof.Rows L2
/-- a new tuple, its object known -/
def NewT (H : Hp) (xs : List V) (Q : VK) : Prop := ∀ p o, H p = none → o.dict = none → Q (.ref p) (upd H p (.frz o (.tup xs)))
section
variable {X : Cx} {es : List Expr} {pos : Pos}
def tTupF (t : TA) : TE := fun σ H Q => t σ H fun xs H1 => xs.length ≤ sizeLine ∧ NewT H1 xs Q
theorem newT_ok {pins : List (Addr × Obj)} {σ : L2.St} {H : Hp} {s : Shared} {xs : List V} {us : List Value} {h' : Heap} {Q : VK} (I : Inv X pins σ H { s with heap := h' }) (r : Vals xs us) (z : xs.length ≤ sizeLine) (q : NewT H xs Q) {n : Nat} :
    EP X pins σ Q (.ref h'.objs.size) { s with heap := h'.push { cls := .type "tuple", data := .seq us.toArray n } } := by
  refine ⟨.ref h'.objs.size, upd H h'.objs.size (.frz { cls := .type "tuple", data := .seq us.toArray n } (.tup xs)), I.laid (t' := s.toks) (fun b u e => Heap.get?_push_of_some _ e) (Nat.le_refl _) ?_, rfl, q _ _ (I.hok.fresh (Nat.le_refl _)) rfl⟩
  exact ⟨Heap.get?_push_size _ rfl, z, us, r, ⟨_, Heap.get?_push_size _ rfl, rfl, _, rfl⟩⟩
theorem pe_tupF {x1} (h : PA X es t) : PE X (.Tuple es x1 pos) (tTupF t) := by
  refine ⟨fun pins s σ H Q I hq => ?_⟩
  refine wpAny_Tuple_spliced (thn (h.run pos pins s σ H _ I hq) fun us s1 ⟨xs, H1, I1, r, z, q⟩ => ⟨by rw [← r.length]; exact z, ?_⟩)
  exact newT_ok (s := s1) I1 r z q
def rSlF (K : PySem.W.Frag) : V → Option Int → Option Int → Hp → VK → Prop := fun x lo hi H Q => ∃ a xs, x = .ref a ∧ SqT K H a xs ∧
  (HT.sIx xs.length 0 lo = 0 ∧ HT.sIx xs.length xs.length hi = xs.length → Q (.ref a) H) ∧ (¬ (HT.sIx xs.length 0 lo = 0 ∧ HT.sIx xs.length xs.length hi = xs.length) → NewT H (cutV xs lo hi) Q)
theorem sl_tupF : SlR X (rSlF X.K) := by
  intro pins s σ H x v vl vu lo hi sl Q I rx hs pl pu h
  obtain ⟨a, xs, rfl, hx, q1, q2⟩ := h
  cases rx
  obtain ⟨its, r, ht, hz⟩ := I.tuple hx
  have hlen : its.toArray.size = xs.length := by rw [List.size_toArray]; exact r.length.symm
  refine ⟨"tuple", _, PyProof.Rows.slot_tuple_getitem.lookup, ht.typeIs, ?_⟩
  by_cases hw : HT.sIx xs.length 0 lo = 0 ∧ HT.sIx xs.length xs.length hi = xs.length
  · exact getItem_tuple_whole ht hs pl pu (by rw [hlen]; exact hw) ⟨.ref a, H, I, rfl, q1 hw⟩
  · refine HT.getItem_tuple_cut ht hs pl pu (by rw [hlen]; exact hw) ?_ (by rw [hlen]; exact hz)
    rw [hlen]
    exact newT_ok (s := s) I ((r.drop (HT.sIx xs.length 0 lo)).take (HT.sIx xs.length xs.length hi - HT.sIx xs.length 0 lo)) (Nat.le_trans (cutV_length xs lo hi) hz) (q2 hw)
def rCatF (K : PySem.W.Frag) : R2 := fun x y H Q => ∃ a b xs ys, x = .ref a ∧ y = .ref b ∧ SqT K H a xs ∧ SqT K H b ys ∧ xs.length + ys.length ≤ sizeLine ∧
  (xs = [] → Q (.ref b) H) ∧ (xs ≠ [] → ys = [] → Q (.ref a) H) ∧ (xs ≠ [] → ys ≠ [] → NewT H (xs ++ ys) Q)
theorem op_catF : OpR X (binaryOp .Add) (rCatF X.K) := by
  intro pins s σ H x y v u Q I rx ry h
  obtain ⟨a, b, xs, ys, rfl, rfl, ha, hb, hz, q0, q1, q2⟩ := h
  cases rx
  cases ry
  obtain ⟨its, r1, p1, _⟩ := I.tuple ha
  obtain ⟨its2, r2, p2, _⟩ := I.tuple hb
  by_cases hx : xs = []
  · subst hx
    cases r1
    exact cat_tup0 p1 p2 ⟨.ref b, H, I, rfl, q0 rfl⟩
  · refine HT.cat_tup p1 p2 (fun z => hx (r1.nil_iff.mp z)) (fun z => ⟨.ref a, H, I, rfl, q1 hx (r2.nil_iff.mp z)⟩) (fun z => ?_) (by rw [← r1.length, ← r2.length]; exact hz)
    exact newT_ok (s := s) I (r1.append r2) (by rw [List.length_append]; exact hz) (q2 hx fun w => z (r2.nil_iff.mpr w))
theorem call_tupleF : CallR X (.type "tuple") (fun xs H Q => ∃ p ys, xs = [.ref p] ∧ ((SqL X.K H p ys ∧ NewT H ys Q) ∨ (SqT X.K H p ys ∧ Q (.ref p) H))) := by
  intro pins s σ H xs us Q I r h
  obtain ⟨p, ys, rfl, h⟩ := h
  obtain ⟨u, rfl, rx⟩ := vals1 r
  cases rx
  rcases h with ⟨hq, q⟩ | ⟨hq, q⟩
  · obtain ⟨its, r', pl, hz⟩ := I.list hq
    have hlen := r'.length
    refine call_tuple_list pl.isList (fun h' kp => ?_) (by simp only [List.size_toArray] <;> omega)
    exact newT_ok (s := s) (I.kept (t' := s.toks) kp) r' hz q
  · obtain ⟨its, r', pl, hz⟩ := I.tuple hq
    exact call_tuple_same pl ⟨.ref p, H, I, rfl, q⟩
end
end PD

/-! PdA: values as data over the abstract heap; frames as data; what an expression does, said of data. -/
namespace PD
open PySem PySem.Spec PyProof.Rows L2

abbrev D := PyData
abbrev Sl := L2.St

/-- a key as data -/
def kD : Key → D
  | .inl i => .int i
  | .inr x => .str x

/-- a row of pairs -/
def pairy : List D → Bool
  | [] => false
  | ds => ds.all fun | .tuple [_, _] => true | _ => false
/-- the tuple at a holds no attributes -/
def TNone (K : PySem.W.Frag) (H : Hp) (a : Addr) : Prop := (∃ o vs, H a = some (.frz o (.tup vs)) ∧ o.dict = none) ∨ ∃ o, K.lookup a = some o ∧ o.dict = none
section
variable (K : PySem.W.Frag) (H : Hp)
mutual
/-- the value is this data in the heap -/
def Den : D → V → Prop
  | .none, v => v = .non
  | .bool b, v => v = .bl b
  | .int i, v => v = .int i
  | .str x, v => v = .str x
  | .tuple ds, v => ∃ a vs, v = .ref a ∧ SqT K H a vs ∧ DenL ds vs ∧ (pairy ds = true → TNone K H a)
  | .list ds, v => ∃ a vs, v = .ref a ∧ SqL K H a vs ∧ DenL ds vs
  | .dict kvs, v => ∃ a kv, v = .ref a ∧ Rd H a (.dK kv) ∧ DenP kvs kv
def DenL : List D → List V → Prop
  | [], vs => vs = []
  | d :: ds, vs => ∃ v r, vs = v :: r ∧ Den d v ∧ DenL ds r
def DenP : List (D × D) → List (Key × V) → Prop
  | [], kv => kv = []
  | (k, d) :: r, kv => ∃ q v t, kv = (q, v) :: t ∧ k = kD q ∧ Den d v ∧ DenP r t
end
end

/-- all that may be read may still be read -/
def Le (H H' : Hp) : Prop := (∀ a u, Rd H a u → Rd H' a u) ∧ ∀ a o vs, H a = some (.frz o (.tup vs)) → H' a = some (.frz o (.tup vs))
theorem Le.refl (H : Hp) : Le H H := ⟨fun _ _ h => h, fun _ _ _ h => h⟩
theorem Le.trans {A B C : Hp} (h : Le A B) (k : Le B C) : Le A C := ⟨fun a u x => k.1 a u (h.1 a u x), fun a o vs x => k.2 a o vs (h.2 a o vs x)⟩
theorem Le.of_same {A B : Hp} (h : Same A B) : Le A B := ⟨fun a u x => by
  rcases x with x | ⟨o, x⟩
  · exact .inl (h _ _ x)
  · exact .inr ⟨o, h _ _ x⟩, fun _ _ _ x => h _ _ x⟩
theorem TNone.le {K : PySem.W.Frag} {A B : Hp} {a : Addr} (h : Le A B) : TNone K A a → TNone K B a
  | .inl ⟨o, vs, e, d⟩ => .inl ⟨o, vs, h.2 _ _ _ e, d⟩
  | .inr z => .inr z
theorem sqT_le {K : PySem.W.Frag} {H H' : Hp} {a : Addr} {xs : List V} (e : Le H H') (h : SqT K H a xs) : SqT K H' a xs := by
  rcases h with h | h
  · exact .inl (e.1 _ _ h)
  · exact .inr h
theorem sqL_le {K : PySem.W.Frag} {H H' : Hp} {a : Addr} {xs : List V} (e : Le H H') (h : SqL K H a xs) : SqL K H' a xs := by
  rcases h with h | h
  · exact .inl (e.1 _ _ h)
  · exact .inr h

section
variable {K : PySem.W.Frag} {H H' : Hp}
mutual
theorem den_le (e : Le H H') : ∀ {d : D} {v : V}, Den K H d v → Den K H' d v
  | .none, _, h => h
  | .bool _, _, h => h
  | .int _, _, h => h
  | .str _, _, h => h
  | .tuple ds, _, h => by
    obtain ⟨a, vs, e1, h1, h2, h3⟩ := h
    exact ⟨a, vs, e1, sqT_le e h1, denL_le e h2, fun z => (h3 z).le e⟩
  | .list ds, _, h => by
    obtain ⟨a, vs, e1, h1, h2⟩ := h
    exact ⟨a, vs, e1, sqL_le e h1, denL_le e h2⟩
  | .dict kvs, _, h => by
    obtain ⟨a, vs, e1, h1, h2⟩ := h
    exact ⟨a, vs, e1, e.1 _ _ h1, denP_le e h2⟩
theorem denL_le (e : Le H H') : ∀ {ds : List D} {vs : List V}, DenL K H ds vs → DenL K H' ds vs
  | [], _, h => h
  | _ :: _, _, h => by
    obtain ⟨v, r, e1, h1, h2⟩ := h
    exact ⟨v, r, e1, den_le e h1, denL_le e h2⟩
theorem denP_le (e : Le H H') : ∀ {ds : List (D × D)} {vs : List (Key × V)}, DenP K H ds vs → DenP K H' ds vs
  | [], _, h => h
  | (_, _) :: _, _, h => by
    obtain ⟨q, v, t, e1, e2, h1, h2⟩ := h
    exact ⟨q, v, t, e1, e2, den_le e h1, denP_le e h2⟩
end
end

/-! ### heaps without some addresses -/
open Classical in
noncomputable def cut (H : Hp) (O : Addr → Prop) : Hp := fun a => if O a then none else H a
section
variable {H H' : Hp} {O O' : Addr → Prop} {a : Addr} {u : HO}
theorem cut_some : cut H O a = some u ↔ ¬ O a ∧ H a = some u := by
  unfold cut
  by_cases h : O a
  · rw [if_pos h]; simp [h]
  · rw [if_neg h]; simp [h]
theorem cut_rd : Rd (cut H O) a u ↔ ¬ O a ∧ Rd H a u := by
  unfold Rd
  simp only [cut_some]
  constructor
  · rintro (⟨h, e⟩ | ⟨o, h, e⟩)
    · exact ⟨h, .inl e⟩
    · exact ⟨h, .inr ⟨o, e⟩⟩
  · rintro ⟨h, e | ⟨o, e⟩⟩
    · exact .inl ⟨h, e⟩
    · exact .inr ⟨o, h, e⟩
theorem cut_le : Le (cut H O) H := ⟨fun _ _ h => (cut_rd.mp h).2, fun _ _ _ h => (cut_some.mp h).2⟩
theorem cut_same (h : Same H H') (o : ∀ a, H a ≠ none → O' a → O a) : Same (cut H O) (cut H' O') := fun a u e => by
  obtain ⟨h1, h2⟩ := cut_some.mp e
  exact cut_some.mpr ⟨fun z => h1 (o a (by rw [h2]; simp) z), h _ _ h2⟩
theorem cut_anti (o : ∀ a, O' a → O a) : Same (cut H O) (cut H O') := cut_same (Same.refl H) fun a _ => o a
end

/-! ### frames as data -/
inductive Ow where
  | sh | ow | br
  deriving DecidableEq, Repr
abbrev Ev := List (Option (D × Ow))
/-- the object at a is this data and nobody else's -/
def OwnAt (K : PySem.W.Frag) (B H : Hp) (a : Addr) : D → Prop
  | .list ds => ∃ vs, H a = some (.lst vs) ∧ DenL K B ds vs
  | .dict kvs => ∃ kv, H a = some (.dK kv) ∧ DenP K B kvs kv
  | _ => False
theorem OwnAt.mono {K : PySem.W.Frag} {B B' H H' : Hp} {a : Addr} (e : Le B B') (k : H' a = H a) : ∀ {d : D}, OwnAt K B H a d → OwnAt K B' H' a d
  | .list _, ⟨vs, h1, h2⟩ => ⟨vs, k.trans h1, denL_le e h2⟩
  | .dict _, ⟨vs, h1, h2⟩ => ⟨vs, k.trans h1, denP_le e h2⟩
theorem OwnAt.ex {K : PySem.W.Frag} {B H : Hp} {a : Addr} : ∀ {d : D}, OwnAt K B H a d → ∃ u, H a = some u ∧ Mut (some u)
  | .list _, ⟨vs, h1, h2⟩ => ⟨_, h1, trivial⟩
  | .dict _, ⟨vs, h1, h2⟩ => ⟨_, h1, trivial⟩
/-- joined to what all may read -/
theorem OwnAt.den {K : PySem.W.Frag} {B B' H : Hp} {a : Addr} (e : Le B B') (k : ∀ u, H a = some u → B' a = some u) : ∀ {d : D}, OwnAt K B H a d → Den K B' d (V.ref a)
  | .list _, ⟨vs, h1, h2⟩ => ⟨a, vs, rfl, .inl (.inl (k _ h1)), denL_le e h2⟩
  | .dict _, ⟨vs, h1, h2⟩ => ⟨a, vs, rfl, .inl (k _ h1), denP_le e h2⟩
/-- the roots that the frame's names own -/
def Rt (env : Ev) (σ : Sl) (a : Addr) : Prop := ∃ (i : Nat) (d : D) (o : Ow), env[i]? = some (some (d, o)) ∧ o ≠ Ow.sh ∧ σ[i]? = some (some (V.ref a))
def Oo (O : Addr → Prop) (env : Ev) (σ : Sl) (a : Addr) : Prop := O a ∨ Rt env σ a
noncomputable abbrev Pb (O : Addr → Prop) (env : Ev) (σ : Sl) (H : Hp) : Hp := cut H (Oo O env σ)

structure R (K : PySem.W.Frag) (O : Addr → Prop) (fx : Nat → Option Addr) (env : Ev) (σ : Sl) (H : Hp) : Prop where
  len : env.length = σ.length
  val : ∀ (i : Nat) d, env[i]? = some (some (d, .sh)) → ∃ v, σ[i]? = some (some v) ∧ Den K (Pb O env σ H) d v
  own : ∀ (i : Nat) d o, env[i]? = some (some (d, o)) → o ≠ .sh → ∃ a, σ[i]? = some (some (.ref a)) ∧ ¬ O a ∧ OwnAt K (Pb O env σ H) H a d
  apart : ∀ (i j : Nat) a d e o p, env[i]? = some (some (d, o)) → o ≠ .sh → env[j]? = some (some (e, p)) → p ≠ .sh → σ[i]? = some (some (V.ref a)) → σ[j]? = some (some (V.ref a)) → i = j
  out : ∀ a, O a → Mut (H a)
  fix : ∀ p : Nat × Addr, fx p.1 = some p.2 → ∃ d, env[p.1]? = some (some (d, .br)) ∧ σ[p.1]? = some (some (.ref p.2))
  -- nothing else is pinned
  pin : ∀ (i : Nat) d, env[i]? = some (some (d, Ow.br)) → ∃ a, fx i = some a

/-- one address more -/
def plus (O : Addr → Prop) (a : Addr) : Addr → Prop := fun b => O b ∨ b = a

section
variable {K : PySem.W.Frag} {O : Addr → Prop} {fx : Nat → Option Addr} {env env' : Ev} {σ : Sl} {H H' : Hp}
/-- the heap has grown -/
theorem R.grow (r : R K O fx env σ H) (s : Same H H') : R K O fx env σ H' := by
  have le : Le (Pb O env σ H) (Pb O env σ H') := Le.of_same (cut_same s fun a _ h => h)
  refine ⟨r.len, fun i d h => ?_, fun i d o h n => ?_, r.apart, fun a h => ?_, r.fix, r.pin⟩
  · obtain ⟨v, e, h⟩ := r.val i d h
    exact ⟨v, e, den_le le h⟩
  · obtain ⟨a, e, n1, h⟩ := r.own i d o h n
    obtain ⟨u, hu, _⟩ := h.ex
    exact ⟨a, e, n1, h.mono le ((s _ _ hu).trans hu.symm)⟩
  · have q := r.out a h
    cases e : H a with
    | none => rw [e] at q; exact q.elim
    | some u => rw [s _ _ e]; rw [e] at q; exact q
theorem mut_ne {H : Hp} {a : Addr} (h : Mut (H a)) : H a ≠ none := fun z => by rw [z] at h; exact h
theorem R.root_mut (r : R K O fx env σ H) {a : Addr} (h : Oo O env σ a) : Mut (H a) := by
  rcases h with h | ⟨i, d, o, e1, n, e2⟩
  · exact r.out a h
  · obtain ⟨b, e3, _, h⟩ := r.own i d o e1 n
    rw [e2] at e3; cases e3
    obtain ⟨u, hu, m⟩ := h.ex
    rw [hu]; exact m
theorem R.root_some (r : R K O fx env σ H) {a : Addr} (h : Oo O env σ a) : H a ≠ none := mut_ne (r.root_mut h)
end

/-! ### what an expression does, of data -/
abbrev EF := Ev → Option (D × Bool × Ev)
/-- the frame and the heap behind a piece of code -/
structure Bh2 (K : PySem.W.Frag) (O : Addr → Prop) (fx : Nat → Option Addr) (env : Ev) (σ : Sl) (H : Hp) (env' : Ev) (σ' : Sl) (H' : Hp) : Prop where
  rel : R K O fx env' σ' H'
  same : Same (Pb O env σ H) (Pb O env' σ' H')
  outer : ∀ a, O a → H' a = H a
abbrev Bh (K : PySem.W.Frag) (O : Addr → Prop) (fx : Nat → Option Addr) (env : Ev) (σ : Sl) (H : Hp) (env' : Ev) (H' : Hp) : Prop := Bh2 K O fx env σ H env' σ H'
/-- .. with a new object that nobody else has -/
structure Fs2 (K : PySem.W.Frag) (O : Addr → Prop) (fx : Nat → Option Addr) (env : Ev) (σ : Sl) (H : Hp) (env' : Ev) (σ' : Sl) (H' : Hp) (a : Addr) (d : D) : Prop where
  new : ¬ O a
  rel : R K (plus O a) fx env' σ' H'
  same : Same (Pb O env σ H) (Pb (plus O a) env' σ' H')
  outer : ∀ a, O a → H' a = H a
  own : OwnAt K (Pb (plus O a) env' σ' H') H' a d
def EPost2 (K : PySem.W.Frag) (O : Addr → Prop) (fx : Nat → Option Addr) (env : Ev) (σ : Sl) (H : Hp) (d : D) (fr : Bool) (env' : Ev) (v : V) (σ' : Sl) (H' : Hp) : Prop :=
  match fr with
  | false => Bh2 K O fx env σ H env' σ' H' ∧ Den K (Pb O env' σ' H') d v
  | true => ∃ a, v = .ref a ∧ Fs2 K O fx env σ H env' σ' H' a d
abbrev EPost (K : PySem.W.Frag) (O : Addr → Prop) (fx : Nat → Option Addr) (env : Ev) (σ : Sl) (H : Hp) (d : D) (fr : Bool) (env' : Ev) (v : V) (H' : Hp) : Prop := EPost2 K O fx env σ H d fr env' v σ H'
def tE (K : PySem.W.Frag) (f : EF) : TE := fun σ H Q => ∃ O fx env d fr env', R K O fx env σ H ∧ f env = some (d, fr, env') ∧ ∀ v H', EPost K O fx env σ H d fr env' v H' → Q v H'
abbrev SE (X : Cx) (f : EF) (e : Expr) : Prop := PE X e (tE X.K f)

section
variable {K : PySem.W.Frag} {O : Addr → Prop} {fx : Nat → Option Addr} {env env' : Ev} {σ : Sl} {H H' : Hp} {a : Addr} {d : D}
theorem plus_oo {b : Addr} : Oo (plus O a) env σ b ↔ Oo O env σ b ∨ b = a := by
  unfold Oo plus
  constructor
  · rintro ((h | h) | h)
    · exact .inl (.inl h)
    · exact .inr h
    · exact .inl (.inr h)
  · rintro ((h | h) | h)
    · exact .inl (.inl h)
    · exact .inr h
    · exact .inl (.inr h)
theorem R.unplus (r : R K (plus O a) fx env σ H) : R K O fx env σ H := by
  have le : Le (Pb (plus O a) env σ H) (Pb O env σ H) := Le.of_same (cut_anti fun b h => plus_oo.mpr (.inl h))
  refine ⟨r.len, fun i d h => ?_, fun i d o h n => ?_, r.apart, fun b h => r.out b (.inl h), r.fix, r.pin⟩
  · obtain ⟨v, e, h⟩ := r.val i d h
    exact ⟨v, e, den_le le h⟩
  · obtain ⟨a, e, n1, h⟩ := r.own i d o h n
    exact ⟨a, e, fun z => n1 (.inl z), h.mono le rfl⟩
theorem Fs2.weak {σ' : Sl} (f : Fs2 K O fx env σ H env' σ' H' a d) : Bh2 K O fx env σ H env' σ' H' ∧ Den K (Pb O env' σ' H') d (.ref a) := by
  have le : Same (Pb (plus O a) env' σ' H') (Pb O env' σ' H') := cut_anti fun b h => plus_oo.mpr (.inl h)
  refine ⟨⟨f.rel.unplus, f.same.trans le, f.outer⟩, f.own.den (Le.of_same le) fun u hu => cut_some.mpr ⟨?_, hu⟩⟩
  rintro (h | ⟨i, d, o, e1, n, e2⟩)
  · exact f.new h
  · obtain ⟨b, e3, n3, _⟩ := f.rel.own i d o e1 n
    rw [e2] at e3; cases e3
    exact n3 (.inr rfl)
theorem EPost2.weak {fr : Bool} {v : V} {σ' : Sl} (h : EPost2 K O fx env σ H d fr env' v σ' H') : Bh2 K O fx env σ H env' σ' H' ∧ Den K (Pb O env' σ' H') d v := by
  cases fr with
  | false => exact h
  | true =>
    obtain ⟨a, rfl, h⟩ := h
    exact h.weak
theorem Bh2.trans {env2 : Ev} {H2 : Hp} {σ' σ2 : Sl} (h : Bh2 K O fx env σ H env' σ' H') (k : Bh2 K O fx env' σ' H' env2 σ2 H2) : Bh2 K O fx env σ H env2 σ2 H2 :=
  ⟨k.rel, h.same.trans k.same, fun a z => (k.outer a z).trans (h.outer a z)⟩
theorem Bh.refl (r : R K O fx env σ H) : Bh K O fx env σ H env H := ⟨r, Same.refl _, fun _ _ => rfl⟩
end

/-! ### operands: a name is looked at, not taken -/
inductive Opd where
  | val (d : D) | slot (i : Nat)
abbrev OF := Ev → Option (Opd × Ev)
def OIs (K : PySem.W.Frag) (O : Addr → Prop) (env : Ev) (σ : Sl) (H : Hp) : Opd → V → Prop
  | .val d, v => Den K (Pb O env σ H) d v
  | .slot i, v => σ[i]? = some (some v)
def tO (K : PySem.W.Frag) (f : OF) : TE := fun σ H Q => ∃ O fx env o env', R K O fx env σ H ∧ f env = some (o, env') ∧ ∀ v H', Bh K O fx env σ H env' H' → OIs K O env' σ H' o v → Q v H'
abbrev SO (X : Cx) (f : OF) (e : Expr) : Prop := PE X e (tO X.K f)
abbrev OLF := Ev → Option (List Opd × Ev)
def OAre (K : PySem.W.Frag) (O : Addr → Prop) (env : Ev) (σ : Sl) (H : Hp) : List Opd → List V → Prop
  | [], vs => vs = []
  | o :: os, vs => ∃ v r, vs = v :: r ∧ OIs K O env σ H o v ∧ OAre K O env σ H os r
def tOL (K : PySem.W.Frag) (f : OLF) : TA := fun σ H Q => ∃ O fx env os env', R K O fx env σ H ∧ f env = some (os, env') ∧ ∀ vs H', Bh K O fx env σ H env' H' → OAre K O env' σ H' os vs → Q vs H'
abbrev SOL (X : Cx) (f : OLF) (es : List Expr) : Prop := PA X es (tOL X.K f)
def deref (env : Ev) : Opd → Option D
  | .val d => some d
  | .slot i => match env[i]? with
    | some (some (d, _)) => some d
    | _ => none
def derefs (env : Ev) : List Opd → Option (List D)
  | [] => some []
  | o :: os => match deref env o with
    | some d => match derefs env os with
      | some ds => some (d :: ds)
      | none => none
    | none => none
/-- an operand at its use -/
def Pk (K : PySem.W.Frag) (O : Addr → Prop) (H : Hp) (d : D) (v : V) : Prop := Den K (cut H O) d v ∨ ∃ a, v = .ref a ∧ OwnAt K (cut H O) H a d
def PkL (K : PySem.W.Frag) (O : Addr → Prop) (H : Hp) : List D → List V → Prop
  | [], vs => vs = []
  | d :: ds, vs => ∃ v r, vs = v :: r ∧ Pk K O H d v ∧ PkL K O H ds r
/-- a value made: new objects alone -/
structure NPost (K : PySem.W.Frag) (O : Addr → Prop) (H : Hp) (d : D) (fr : Bool) (v : V) (H' : Hp) : Prop where
  same : Same H H'
  res : match fr with
    | false => Den K (cut H' O) d v
    | true => ∃ a, v = .ref a ∧ H a = none ∧ OwnAt K (cut H' (plus O a)) H' a d

section
variable {K : PySem.W.Frag} {O : Addr → Prop} {fx : Nat → Option Addr} {env env' : Ev} {σ : Sl} {H H' : Hp} {a : Addr} {d : D} {o : Opd} {v : V}
theorem OIs.le (s : Same (Pb O env σ H) (Pb O env' σ H')) : ∀ {o : Opd} {v : V}, OIs K O env σ H o v → OIs K O env' σ H' o v
  | .val _, _, h => den_le (Le.of_same s) h
  | .slot _, _, h => h
theorem OAre.le (s : Same (Pb O env σ H) (Pb O env' σ H')) : ∀ {os : List Opd} {vs : List V}, OAre K O env σ H os vs → OAre K O env' σ H' os vs
  | [], _, h => h
  | _ :: _, _, ⟨v, r, e, h1, h2⟩ => ⟨v, r, e, OIs.le s h1, OAre.le s h2⟩
theorem deref_slot {i : Nat} (e : deref env (.slot i) = some d) : ∃ w, env[i]? = some (some (d, w)) := by
  simp only [deref] at e
  cases h : env[i]? with
  | none => rw [h] at e; cases e
  | some x =>
    cases x with
    | none => rw [h] at e; cases e
    | some p =>
      rw [h] at e
      obtain ⟨d', w⟩ := p
      cases e
      exact ⟨w, rfl⟩
theorem pk_of (r : R K O fx env σ H) (h : OIs K O env σ H o v) (e : deref env o = some d) : Pk K (Oo O env σ) H d v := by
  cases o with
  | val d' =>
    cases e
    exact .inl h
  | slot i =>
    have h : σ[i]? = some (some v) := h
    obtain ⟨w', e'⟩ := deref_slot e
    by_cases hw : w' = Ow.sh
    · subst hw
      obtain ⟨v', e1, q⟩ := r.val i d e'
      rw [h] at e1; cases e1
      exact .inl q
    · obtain ⟨a, e1, _, q⟩ := r.own i d w' e' hw
      rw [h] at e1; cases e1
      exact .inr ⟨a, rfl, q⟩
theorem pkL_of (r : R K O fx env σ H) : ∀ {os : List Opd} {vs : List V} {ds : List D}, OAre K O env σ H os vs → derefs env os = some ds → PkL K (Oo O env σ) H ds vs
  | [], _, _, h, e => by
    cases e
    exact h
  | o :: os, _, _, h, e => by
    obtain ⟨v, r', rfl, h1, h2⟩ := h
    unfold derefs at e
    split at e
    · rename_i d' e1
      split at e
      · rename_i ds' e2
        cases e
        exact ⟨v, r', rfl, pk_of r h1 e1, pkL_of r h2 e2⟩
      · cases e
    · cases e
/-- a value made, behind an expression -/
theorem NPost.epost {fr : Bool} (h : NPost K (Oo O env σ) H d fr v H') (r : R K O fx env σ H) : EPost K O fx env σ H d fr env v H' := by
  have s : Same (Pb O env σ H) (Pb O env σ H') := cut_same h.same fun _ _ z => z
  have ou : ∀ a, O a → H' a = H a := fun a z => by
    cases q : H a with
    | none => exact absurd q (mut_ne (r.out a z))
    | some u => rw [h.same _ _ q]
  cases fr with
  | false => exact ⟨⟨r.grow h.same, s, ou⟩, h.res⟩
  | true =>
    obtain ⟨a, rfl, hn, q⟩ := h.res
    have hO : ¬ O a := fun z => mut_ne (r.out a z) hn
    have hb : ∀ b, H b ≠ none → b ≠ a := fun b z e => z (by rw [e]; exact hn)
    have e1 : ∀ H2 : Hp, Same H H2 → Same (Pb O env σ H) (Pb (plus O a) env σ H2) := fun H2 s2 => cut_same s2 fun b hb' z => by
      rcases plus_oo.mp z with z | z
      · exact z
      · exact absurd z (hb b hb')
    have e2 : cut H' (plus (Oo O env σ) a) = Pb (plus O a) env σ H' := by
      have : plus (Oo O env σ) a = Oo (plus O a) env σ := funext fun b => propext plus_oo.symm
      rw [this]
    rw [e2] at q
    refine ⟨a, rfl, hO, ⟨r.len, fun i d h' => ?_, fun i d o h' n => ?_, r.apart, fun b z => ?_, r.fix, r.pin⟩, e1 _ h.same, ou, q⟩
    · obtain ⟨v, e, h'⟩ := r.val i d h'
      exact ⟨v, e, den_le (Le.of_same (e1 _ h.same)) h'⟩
    · obtain ⟨b, e, n1, h'⟩ := r.own i d o h' n
      obtain ⟨u, hu, _⟩ := h'.ex
      refine ⟨b, e, fun z => ?_, h'.mono (Le.of_same (e1 _ h.same)) ((h.same _ _ hu).trans hu.symm)⟩
      rcases z with z | z
      · exact n1 z
      · exact hb b (by rw [hu]; simp) z
    · rcases z with z | z
      · rw [ou b z]; exact r.out b z
      · subst z
        obtain ⟨u, hu, m⟩ := q.ex
        rw [hu]; exact m
end

/-- a built-in operation on operands -/
def opF (fl : OLF) (g : List D → Option (D × Bool)) : EF := fun env => match fl env with
  | some (os, e1) => match derefs e1 os with
    | some ds => match g ds with
      | some (d, fr) => some (d, fr, e1)
      | none => none
    | none => none
  | none => none
/-- .. by its values -/
def rD (K : PySem.W.Frag) (g : List D → Option (D × Bool)) : List V → Hp → VK → Prop := fun vs H Q => ∃ O ds d fr, (∀ a, O a → Mut (H a)) ∧ PkL K O H ds vs ∧ g ds = some (d, fr) ∧ ∀ v H', NPost K O H d fr v H' → Q v H'
theorem bh_epost {K : PySem.W.Frag} {O : Addr → Prop} {fx : Nat → Option Addr} {env env1 env2 : Ev} {σ σ1 σ2 : Sl} {H H1 H2 : Hp} {d : D} {fr : Bool} {v : V} (b : Bh2 K O fx env σ H env1 σ1 H1) (h : EPost2 K O fx env1 σ1 H1 d fr env2 v σ2 H2) : EPost2 K O fx env σ H d fr env2 v σ2 H2 := by
  cases fr with
  | false => exact ⟨b.trans h.1, h.2⟩
  | true =>
    obtain ⟨a, e, n, r, s, o, w⟩ := h
    exact ⟨a, e, n, r, b.same.trans s, fun a z => (o a z).trans (b.outer a z), w⟩
theorem op_imp {K : PySem.W.Frag} {fl : OLF} {g : List D → Option (D × Bool)} {σ : Sl} {H : Hp} {Q : VK} (h : tE K (opF fl g) σ H Q) : tOL K fl σ H fun vs H1 => rD K g vs H1 Q := by
  obtain ⟨O, fx, env, d, fr, env', r, e, q⟩ := h
  unfold opF at e
  split at e
  · rename_i os e1 h1
    split at e
    · rename_i ds h2
      split at e
      · rename_i d' fr' h3
        cases e
        refine ⟨O, fx, env, os, env', r, h1, fun vs H1 b a => ⟨Oo O env' σ, ds, d, fr, fun a z => b.rel.root_mut z, pkL_of b.rel a h2, h3, fun v H' n => q v H' (bh_epost b (n.epost b.rel))⟩⟩
      · cases e
    · cases e
  · cases e

/-! ### operands in a row -/
def nilO : OLF := fun env => some ([], env)
def consO (f : OF) (fl : OLF) : OLF := fun env => match f env with
  | some (o, e1) => match fl e1 with
    | some (os, e2) => some (o :: os, e2)
    | none => none
  | none => none
theorem consO_imp {K : PySem.W.Frag} {f : OF} {fl : OLF} {σ : Sl} {H : Hp} {Q : List V → Hp → Prop} (h : tOL K (consO f fl) σ H Q) : tCons (tO K f) (tOL K fl) σ H Q := by
  obtain ⟨O, fx, env, os, env', r, e, q⟩ := h
  unfold consO at e
  split at e
  · rename_i o e1 h1
    split at e
    · rename_i os' e2 h2
      cases e
      refine ⟨O, fx, env, o, e1, r, h1, fun v H1 b1 a1 => ⟨O, fx, e1, os', env', b1.rel, h2, fun vs H2 b2 a2 => q _ _ (b1.trans b2) ⟨v, vs, rfl, OIs.le b2.same a1, a2⟩⟩⟩
    · cases e
  · cases e
section
variable {X : Cx}
theorem _root_.L2.PE.imp {e : Expr} {t t' : TE} (h : PE X e t) (k : ∀ σ H Q, t' σ H Q → t σ H Q) : PE X e t' := ⟨fun pins s σ H Q I w => h.run pins s σ H Q I (k _ _ _ w)⟩
theorem _root_.L2.PT.imp {e : Expr} {t t' : TT} (h : PT X e t) (k : ∀ σ H Q, t' σ H Q → t σ H Q) : PT X e t' := ⟨fun pins s σ H Q I w => h.run pins s σ H Q I (k _ _ _ w)⟩
theorem _root_.L2.PW.imp {e : Expr} {t t' : TT} (h : PW X e t) (k : ∀ σ H Q, t' σ H Q → t σ H Q) : PW X e t' := ⟨fun wh pins s σ H Q I w => h.run wh pins s σ H Q I (k _ _ _ w)⟩
theorem _root_.L2.PA.imp {e : List Expr} {t t' : TA} (h : PA X e t) (k : ∀ σ H Q, t' σ H Q → t σ H Q) : PA X e t' := ⟨fun p pins s σ H Q I w => h.run p pins s σ H Q I (k _ _ _ w)⟩
theorem _root_.L2.PS.imp {e : Stmt} {t t' : TS} (h : PS X e t) (k : ∀ D σ H, t' D σ H → t D σ H) : PS X e t' := ⟨fun pins s σ H D I w => h.run pins s σ H D I (k _ _ _ w)⟩
theorem _root_.L2.PSs.imp {e : List Stmt} {t t' : TS} (h : PSs X e t) (k : ∀ D σ H, t' D σ H → t D σ H) : PSs X e t' := ⟨fun pins s σ H D I w => h.run pins s σ H D I (k _ _ _ w)⟩
theorem sol_nil : SOL X nilO [] := pa_nil.imp fun σ H Q h => by
  obtain ⟨O, fx, env, os, env', r, e, q⟩ := h
  cases e
  exact q _ _ (Bh.refl r) rfl
theorem sol_cons {e : Expr} {es : List Expr} {f : OF} {fl : OLF} (h : SO X f e) (k : SOL X fl es) (hs : starEach (e :: es) X.env = (false, eval e X.env) :: starEach es X.env := by rfl) : SOL X (consO f fl) (e :: es) :=
  (pa_cons h k hs).imp fun _ _ _ w => consO_imp w
/-! ### operands -/
def varO (i : Nat) : OF := fun env => match env[i]? with
  | some (some _) => some (.slot i, env)
  | _ => none
theorem so_var (i : Nat) {x : Str} {pos : Pos} (hN : X.N[i]? = some x := by rfl) (hv : Vis X.env.scope x := by first | exact Or.inl rfl | exact Or.inr (Or.inl rfl) | exact Or.inr (Or.inr rfl)) (hd : (x == ("__debug__" : Str)) = false := by decide)
    (hcd : (x == ("__classdict__" : Str)) = false := by decide) : SO X (varO i) (.Name x pos) := (pe_var hN hv hd hcd).imp fun σ H Q h => by
  obtain ⟨O, fx, env, o, env', r, e, q⟩ := h
  unfold varO at e
  split at e
  · rename_i p h1
    cases e
    obtain ⟨d, w⟩ := p
    have hv : ∃ v, σ[i]? = some (some v) := by
      by_cases hw : w = Ow.sh
      · subst hw
        obtain ⟨v, e, _⟩ := r.val i d h1
        exact ⟨v, e⟩
      · obtain ⟨a, e, _⟩ := r.own i d w h1 hw
        exact ⟨_, e⟩
    obtain ⟨v, ev⟩ := hv
    exact ⟨v, ev, q v H (Bh.refl r) ev⟩
  · cases e
def ofE (f : EF) : OF := fun env => match f env with
  | some (d, _, e1) => some (.val d, e1)
  | none => none
theorem so_of {f : EF} {e : Expr} (h : SE X f e) : SO X (ofE f) e := h.imp fun σ H Q h => by
  obtain ⟨O, fx, env, o, env', r, e, q⟩ := h
  unfold ofE at e
  split at e
  · rename_i d fr e1 h1
    cases e
    exact ⟨O, fx, env, d, fr, env', r, h1, fun v H' p => q v H' p.weak.1 p.weak.2⟩
  · cases e
/-! ### constants -/
def cF (d : D) : EF := fun env => some (d, false, env)
theorem c_imp {K : PySem.W.Frag} {d : D} {v : V} {σ : Sl} {H : Hp} {Q : VK} (hd : ∀ H, Den K H d v) (h : tE K (cF d) σ H Q) : tC v σ H Q := by
  obtain ⟨O, fx, env, d', fr, env', r, e, q⟩ := h
  cases e
  exact q _ _ ⟨Bh.refl r, hd _⟩
theorem se_int {i j pos} : SE X (cF (.int i)) (.Constant (.int i) j pos) := pe_int.imp fun _ _ _ h => c_imp (d := .int i) (fun _ => rfl) h
theorem se_bl {i j pos} : SE X (cF (.bool i)) (.Constant (.bool i) j pos) := pe_bl.imp fun _ _ _ h => c_imp (d := .bool i) (fun _ => rfl) h
theorem se_non {j pos} : SE X (cF .none) (.Constant .none j pos) := pe_non.imp fun _ _ _ h => c_imp (d := .none) (fun _ => rfl) h
theorem se_str {x y : Str} {j pos} (h : x = y := by rfl) : SE X (cF (.str y)) (.Constant (.str x) j pos) := by
  subst h
  exact pe_str.imp fun _ _ _ h => c_imp (d := .str x) (fun _ => rfl) h
end
end PD

/-! PdB: operators, tests, and, or, statements, loops of data. -/
namespace PD
open PySem PySem.Spec PyProof.Rows L2

abbrev rD2 (K : PySem.W.Frag) (g : List D → Option (D × Bool)) : R2 := fun x y H Q => rD K g [x, y] H Q
abbrev rD1 (K : PySem.W.Frag) (g : List D → Option (D × Bool)) : V → Hp → VK → Prop := fun x H Q => rD K g [x] H Q
theorem tO_mono {K : PySem.W.Frag} {f : OF} {σ : Sl} {H : Hp} {Q Q' : VK} (h : tO K f σ H Q) (k : ∀ v H, Q v H → Q' v H) : tO K f σ H Q' := by
  obtain ⟨O, fx, env, o, env', r, e, q⟩ := h
  exact ⟨O, fx, env, o, env', r, e, fun v H' b i => k _ _ (q v H' b i)⟩
theorem tE_mono {K : PySem.W.Frag} {f : EF} {σ : Sl} {H : Hp} {Q Q' : VK} (h : tE K f σ H Q) (k : ∀ v H, Q v H → Q' v H) : tE K f σ H Q' := by
  obtain ⟨O, fx, env, d, fr, env', r, e, q⟩ := h
  exact ⟨O, fx, env, d, fr, env', r, e, fun v H' p => k _ _ (q v H' p)⟩
theorem nilO_imp {K : PySem.W.Frag} {σ : Sl} {H : Hp} {Q : List V → Hp → Prop} (h : tOL K nilO σ H Q) : Q [] H := by
  obtain ⟨O, fx, env, os, env', r, e, q⟩ := h
  cases e
  exact q _ _ (Bh.refl r) rfl
theorem one_imp {K : PySem.W.Frag} {f : OF} {g : List D → Option (D × Bool)} {σ : Sl} {H : Hp} {Q : VK} (h : tE K (opF (consO f nilO) g) σ H Q) : tO K f σ H fun x H1 => rD1 K g x H1 Q :=
  tO_mono (consO_imp (op_imp h)) fun _ _ q => nilO_imp q
theorem two_imp {K : PySem.W.Frag} {f1 f2 : OF} {g : List D → Option (D × Bool)} {σ : Sl} {H : Hp} {Q : VK} (h : tE K (opF (consO f1 (consO f2 nilO)) g) σ H Q) : tOp (rD2 K g) (tO K f1) (tO K f2) σ H Q :=
  tO_mono (consO_imp (op_imp h)) fun _ _ q => tO_mono (consO_imp q) fun _ _ q => nilO_imp q

/-! ### tests -/
abbrev TF := Ev → Option (Bool × Ev)
def tT (K : PySem.W.Frag) (f : TF) : TT := fun σ H Q => ∃ O fx env b env', R K O fx env σ H ∧ f env = some (b, env') ∧ ∀ H', Bh K O fx env σ H env' H' → Q b H'
abbrev ST (X : Cx) (f : TF) (e : Expr) : Prop := PT X e (tT X.K f)
abbrev SW (X : Cx) (f : TF) (e : Expr) : Prop := PW X e (tT X.K f)
/-- a bool's value -/
def tstF (f : EF) : TF := fun env => match f env with
  | some (.bool k, _, e1) => some (k, e1)
  | _ => none
theorem tst_imp {K : PySem.W.Frag} {f : EF} {σ : Sl} {H : Hp} {Q : Bool → Hp → Prop} (h : tT K (tstF f) σ H Q) : tE K f σ H fun x H' => ∃ k, x = .bl k ∧ Q k H' := by
  obtain ⟨O, fx, env, b, env', r, e, q⟩ := h
  unfold tstF at e
  split at e
  · rename_i k fr e1 h1
    cases e
    refine ⟨O, fx, env, _, _, _, r, h1, fun v H' p => ?_⟩
    obtain ⟨p1, p2⟩ := p.weak
    have p2 : v = V.bl b := p2
    exact ⟨b, p2, q _ p1⟩
  · cases e
section
variable {X : Cx} {a b c : Expr} {fa fb fc : OF} {pos : Pos} {g g' : List D → Option (D × Bool)}
theorem se_bin {op : Operator} (ho : OpR X (binaryOp op) (rD2 X.K g)) (ha : SO X fa a) (hb : SO X fb b) : SE X (opF (consO fa (consO fb nilO)) g) (.BinOp a op b pos) := (pe_op ho ha hb).imp fun _ _ _ h => two_imp h
theorem se_un {op : UnaryOp} (ho : UnR X (unaryOp op) (rD1 X.K g)) (ha : SO X fa a) : SE X (opF (consO fa nilO) g) (.UnaryOp op a pos) := (pe_un ho ha).imp fun _ _ _ h => one_imp h
theorem se_cmp {op : CmpOp} (ho : OpR X (compareOp op) (rD2 X.K g)) (ha : SO X fa a) (hb : SO X fb b) (hm : behindInMarks op b = false) : SE X (opF (consO fa (consO fb nilO)) g) (.Compare a [op] [b] pos) := (pe_cmpR ho ha hb hm).imp fun _ _ _ h => two_imp h
theorem st_cmp {op : CmpOp} (ho : OpR X (compareOp op) (rD2 X.K g)) (ha : SO X fa a) (hb : SO X fb b) (hm : behindInMarks op b = false) : ST X (tstF (opF (consO fa (consO fb nilO)) g)) (.Compare a [op] [b] pos) := (pt_cmpR ho ha hb hm).imp fun _ _ _ h => two_imp (tst_imp h)
/-- a value that is a bool, as a test -/
theorem st_val {e : Expr} {f : EF} (h : SE X f e) (he : ∀ whole, isTrue e X.env whole = (do let v ← whole; standAt e.pos; holding [v] (truthy v)) := by intro _; rfl) : ST X (tstF f) e := (pt_val h he).imp fun _ _ _ h => tst_imp h
/-! truth of any value -/
def trueD : D → Option Bool
  | .none => some false
  | .bool b => some b
  | .int i => some (i != 0)
  | .str x => if x.length ≤ sizeLine then some ((x.length : Int) != 0) else none
  | .list xs => some (!xs.isEmpty)
  | .tuple xs => some (!xs.isEmpty)
  | .dict kvs => some (!kvs.isEmpty)
def truF (f : OF) : TF := fun env => match f env with
  | some (o, e1) => match deref e1 o with
    | some d => match trueD d with
      | some k => some (k, e1)
      | none => none
    | none => none
  | none => none
theorem denL_empty {K : PySem.W.Frag} {H : Hp} {ds : List D} {vs : List V} (h : DenL K H ds vs) : (!ds.isEmpty) = !vs.isEmpty := by
  cases ds with
  | nil => cases h; rfl
  | cons d ds => obtain ⟨v, r, rfl, _⟩ := h; rfl
theorem denP_empty {K : PySem.W.Frag} {H : Hp} {ds : List (D × D)} {vs : List (Key × V)} (h : DenP K H ds vs) : (!ds.isEmpty) = !vs.isEmpty := by
  cases ds with
  | nil => cases h; rfl
  | cons d ds => obtain ⟨k, d⟩ := d; obtain ⟨q, v, r, rfl, _⟩ := h; rfl
/-- what is read of an operand that is a list -/
theorem pk_list {K : PySem.W.Frag} {O : Addr → Prop} {H : Hp} {ds : List D} {v : V} (h : Pk K O H (.list ds) v) : ∃ a vs, v = .ref a ∧ SqL K H a vs ∧ DenL K (cut H O) ds vs := by
  rcases h with ⟨a, vs, e, h1, h2⟩ | ⟨a, e, vs, h1, h2⟩
  · exact ⟨a, vs, e, sqL_le cut_le h1, h2⟩
  · exact ⟨a, vs, e, .inl (.inl h1), h2⟩
theorem pk_tuple {K : PySem.W.Frag} {O : Addr → Prop} {H : Hp} {ds : List D} {v : V} (h : Pk K O H (.tuple ds) v) : ∃ a vs, v = .ref a ∧ SqT K H a vs ∧ DenL K (cut H O) ds vs := by
  rcases h with ⟨a, vs, e, h1, h2, _⟩ | ⟨a, e, h⟩
  · exact ⟨a, vs, e, sqT_le cut_le h1, h2⟩
  · exact h.elim
theorem pk_tupleN {K : PySem.W.Frag} {O : Addr → Prop} {H : Hp} {ds : List D} {v : V} (p : pairy ds = true) (h : Pk K O H (.tuple ds) v) : ∃ a vs, v = .ref a ∧ SqT K H a vs ∧ DenL K (cut H O) ds vs ∧ TNone K H a := by
  rcases h with ⟨a, vs, e, h1, h2, h3⟩ | ⟨a, e, h⟩
  · exact ⟨a, vs, e, sqT_le cut_le h1, h2, (h3 p).le cut_le⟩
  · exact h.elim
theorem pk_dict {K : PySem.W.Frag} {O : Addr → Prop} {H : Hp} {ds : List (D × D)} {v : V} (h : Pk K O H (.dict ds) v) : ∃ a kv, v = .ref a ∧ Rd H a (.dK kv) ∧ DenP K (cut H O) ds kv := by
  rcases h with ⟨a, vs, e, h1, h2⟩ | ⟨a, e, vs, h1, h2⟩
  · exact ⟨a, vs, e, (cut_rd.mp h1).2, h2⟩
  · exact ⟨a, vs, e, .inl h1, h2⟩
theorem pk_int {K : PySem.W.Frag} {O : Addr → Prop} {H : Hp} {i : Int} {v : V} (h : Pk K O H (.int i) v) : v = .int i := by
  rcases h with h | ⟨a, e, h⟩
  · exact h
  · exact h.elim
theorem pk_str {K : PySem.W.Frag} {O : Addr → Prop} {H : Hp} {i : Str} {v : V} (h : Pk K O H (.str i) v) : v = .str i := by
  rcases h with h | ⟨a, e, h⟩
  · exact h
  · exact h.elim
theorem pk_bool {K : PySem.W.Frag} {O : Addr → Prop} {H : Hp} {i : Bool} {v : V} (h : Pk K O H (.bool i) v) : v = .bl i := by
  rcases h with h | ⟨a, e, h⟩
  · exact h
  · exact h.elim
theorem pk_none {K : PySem.W.Frag} {O : Addr → Prop} {H : Hp} {v : V} (h : Pk K O H .none v) : v = .non := by
  rcases h with h | ⟨a, e, h⟩
  · exact h
  · exact h.elim
theorem truth_dict {pins : List (Addr × Obj)} {σ : Sl} {H : Hp} {s : Shared} {p : Addr} {kvs : List (Key × V)} {Q : Bool → Hp → Prop} {E : Value → Shared → Prop} (I : Inv X pins σ H s) (h : Rd H p (.dK kvs)) (q : Q (!kvs.isEmpty) H) : wpAny (model X.prog X.w) X.A (truthy (.ref p)) (TP X pins σ Q) E s := by
  obtain ⟨hz, hS, vs, r, m⟩ : kvs.length ≤ sizeLine ∧ (p == sysModules) = false ∧ ∃ vs, KV kvs vs ∧ s.heap.DictOf (mixKind X.prog X.w) p vs := h.ok I.hok
  have hlen : kvs.length = vs.length := Paired.length r
  have hl := line63
  exact wpAny_truthy_dict hS m (by omega) ⟨H, I.tok _, by rw [isEmpty_kv r]; exact q⟩
theorem st_truth {f : OF} (h : SO X f a) (he : ∀ whole, isTrue a X.env whole = (do let v ← whole; standAt a.pos; holding [v] (truthy v)) := by intro _; rfl) : ST X (truF f) a := by
  refine ⟨fun pins s σ H Q I w => ?_⟩
  obtain ⟨O, fx, env, b, env', r, e, q⟩ := w
  unfold truF at e
  split at e
  · rename_i o e1 h1
    split at e
    · rename_i d h2
      split at e
      · rename_i k h3
        cases e
        refine isTrue_plain (thn (h.run pins s σ H (fun v H1 => Bh X.K O fx env σ H env' H1 ∧ OIs X.K O env' σ H1 o v) I ⟨O, fx, env, o, env', r, h1, fun v H' p1 p2 => ⟨p1, p2⟩⟩) fun v s1 ⟨x, H1, I1, r1, b1, o1⟩ => ?_) (he _)
        have pk := pk_of b1.rel o1 h2
        have fin := q H1 b1
        cases d with
        | none =>
          obtain rfl := pk_none pk
          cases h3
          exact tru_ok pins s1 σ H1 .non v Q I1 r1 ⟨false, rfl, fin⟩
        | bool i =>
          obtain rfl := pk_bool pk
          cases h3
          exact tru_ok pins s1 σ H1 _ v Q I1 r1 ⟨_, rfl, fin⟩
        | int i =>
          obtain rfl := pk_int pk
          cases h3
          exact tru_ok pins s1 σ H1 _ v Q I1 r1 ⟨_, rfl, fin⟩
        | str i =>
          obtain rfl := pk_str pk
          simp only [trueD] at h3
          split at h3
          · rename_i hz
            cases h3
            exact tru_ok pins s1 σ H1 _ v Q I1 r1 ⟨_, ⟨hz, rfl⟩, fin⟩
          · cases h3
        | list xs =>
          obtain ⟨p, vs, rfl, hs, hd⟩ := pk_list pk
          cases h3
          exact tru_ok pins s1 σ H1 _ v Q I1 r1 ⟨_, .inl ⟨vs, hs, denL_empty hd⟩, fin⟩
        | tuple xs =>
          obtain ⟨p, vs, rfl, hs, hd⟩ := pk_tuple pk
          cases h3
          exact tru_ok pins s1 σ H1 _ v Q I1 r1 ⟨_, .inr (.inl ⟨vs, hs, denL_empty hd⟩), fin⟩
        | dict xs =>
          obtain ⟨p, vs, rfl, hs, hd⟩ := pk_dict pk
          cases h3
          cases r1
          exact truth_dict I1 hs (by rw [← denP_empty hd]; exact fin)
      · cases e
    · cases e
  · cases e
/-! ### and, or, not of tests -/
def andT (f g : TF) : TF := fun env => match f env with
  | some (true, e1) => g e1
  | some (false, e1) => some (false, e1)
  | none => none
def orT (f g : TF) : TF := fun env => match f env with
  | some (true, e1) => some (true, e1)
  | some (false, e1) => g e1
  | none => none
def notT (f : TF) : TF := fun env => match f env with
  | some (b, e1) => some (!b, e1)
  | none => none
theorem and_imp {K : PySem.W.Frag} {f g : TF} {σ : Sl} {H : Hp} {Q : Bool → Hp → Prop} (h : tT K (andT f g) σ H Q) : tAnd (tT K f) (tT K g) σ H Q := by
  obtain ⟨O, fx, env, b, env', r, e, q⟩ := h
  unfold andT at e
  split at e
  · rename_i e1 h1
    exact ⟨O, fx, env, true, e1, r, h1, fun H1 b1 => iteT ⟨O, fx, e1, b, env', b1.rel, e, fun H2 b2 => q H2 (b1.trans b2)⟩⟩
  · rename_i e1 h1
    cases e
    exact ⟨O, fx, env, false, _, r, h1, fun H1 b1 => iteF (q H1 b1)⟩
  · cases e
theorem or_imp {K : PySem.W.Frag} {f g : TF} {σ : Sl} {H : Hp} {Q : Bool → Hp → Prop} (h : tT K (orT f g) σ H Q) : tOr (tT K f) (tT K g) σ H Q := by
  obtain ⟨O, fx, env, b, env', r, e, q⟩ := h
  unfold orT at e
  split at e
  · rename_i e1 h1
    cases e
    exact ⟨O, fx, env, true, _, r, h1, fun H1 b1 => iteT (q H1 b1)⟩
  · rename_i e1 h1
    exact ⟨O, fx, env, false, e1, r, h1, fun H1 b1 => iteF ⟨O, fx, e1, b, env', b1.rel, e, fun H2 b2 => q H2 (b1.trans b2)⟩⟩
  · cases e
theorem not_imp {K : PySem.W.Frag} {f : TF} {σ : Sl} {H : Hp} {Q : Bool → Hp → Prop} (h : tT K (notT f) σ H Q) : tNot (tT K f) σ H Q := by
  obtain ⟨O, fx, env, b, env', r, e, q⟩ := h
  unfold notT at e
  split at e
  · rename_i b1 e1 h1
    cases e
    exact ⟨O, fx, env, b1, _, r, h1, fun H1 b1 => q H1 b1⟩
  · cases e
variable {rest : List Expr} {tf tg : TF}
theorem sw_and1 (h : ST X tf a) : SW X tf (.BoolOp .And [a] pos) := pw_and1 h
theorem sw_or1 (h : ST X tf a) : SW X tf (.BoolOp .Or [a] pos) := pw_or1 h
theorem sw_and (h : ST X tf a) (k : SW X tg (.BoolOp .And (b :: rest) pos)) : SW X (andT tf tg) (.BoolOp .And (a :: b :: rest) pos) := (pw_and h k).imp fun _ _ _ h => and_imp h
theorem sw_or (h : ST X tf a) (k : SW X tg (.BoolOp .Or (b :: rest) pos)) : SW X (orT tf tg) (.BoolOp .Or (a :: b :: rest) pos) := (pw_or h k).imp fun _ _ _ h => or_imp h
theorem st_w {e : Expr} (h : SW X tf e) : ST X tf e := h.pt
theorem st_not (h : ST X tf a) : ST X (notT tf) (.UnaryOp .Not a pos) := (pt_not h).imp fun _ _ _ h => not_imp h
/-! .. as values -/
def andE (f g : EF) : EF := fun env => match f env with
  | some (.bool true, _, e1) => g e1
  | some (.bool false, _, e1) => some (.bool false, false, e1)
  | _ => none
def orE (f g : EF) : EF := fun env => match f env with
  | some (.bool true, _, e1) => some (.bool true, false, e1)
  | some (.bool false, _, e1) => g e1
  | _ => none
def notE (f : EF) : EF := fun env => match f env with
  | some (.bool b, _, e1) => some (.bool (!b), false, e1)
  | _ => none
theorem andE_imp {K : PySem.W.Frag} {f g : EF} {σ : Sl} {H : Hp} {Q : VK} (h : tE K (andE f g) σ H Q) : tAndV (tE K f) (tE K g) σ H Q := by
  obtain ⟨O, fx, env, d, fr, env', r, e, q⟩ := h
  unfold andE at e
  split at e
  · rename_i fr1 e1 h1
    refine ⟨O, fx, env, _, _, e1, r, h1, fun v H1 p => ?_⟩
    obtain ⟨p1, p2⟩ := p.weak
    exact ⟨true, p2, iteT ⟨O, fx, e1, d, fr, env', p1.rel, e, fun v2 H2 p3 => q v2 H2 (bh_epost p1 p3)⟩⟩
  · rename_i fr1 e1 h1
    cases e
    refine ⟨O, fx, env, _, _, _, r, h1, fun v H1 p => ?_⟩
    obtain ⟨p1, p2⟩ := p.weak
    exact ⟨false, p2, iteF (q _ H1 ⟨p1, rfl⟩)⟩
  · cases e
theorem orE_imp {K : PySem.W.Frag} {f g : EF} {σ : Sl} {H : Hp} {Q : VK} (h : tE K (orE f g) σ H Q) : tOrV (tE K f) (tE K g) σ H Q := by
  obtain ⟨O, fx, env, d, fr, env', r, e, q⟩ := h
  unfold orE at e
  split at e
  · rename_i fr1 e1 h1
    cases e
    refine ⟨O, fx, env, _, _, _, r, h1, fun v H1 p => ?_⟩
    obtain ⟨p1, p2⟩ := p.weak
    exact ⟨true, p2, iteT (q _ H1 ⟨p1, rfl⟩)⟩
  · rename_i fr1 e1 h1
    refine ⟨O, fx, env, _, _, e1, r, h1, fun v H1 p => ?_⟩
    obtain ⟨p1, p2⟩ := p.weak
    exact ⟨false, p2, iteF ⟨O, fx, e1, d, fr, env', p1.rel, e, fun v2 H2 p3 => q v2 H2 (bh_epost p1 p3)⟩⟩
  · cases e
theorem notE_imp {K : PySem.W.Frag} {f : EF} {σ : Sl} {H : Hp} {Q : VK} (h : tE K (notE f) σ H Q) : tNotV (tE K f) σ H Q := by
  obtain ⟨O, fx, env, d, fr, env', r, e, q⟩ := h
  unfold notE at e
  split at e
  · rename_i b fr1 e1 h1
    cases e
    refine ⟨O, fx, env, _, _, _, r, h1, fun v H1 p => ?_⟩
    obtain ⟨p1, p2⟩ := p.weak
    exact ⟨b, p2, q _ H1 ⟨p1, rfl⟩⟩
  · cases e
variable {ef eg : EF}
theorem se_one {op} (h : SE X ef a) : SE X ef (.BoolOp op [a] pos) := pe_one h
theorem se_and (h : SE X ef a) (k : SE X eg (.BoolOp .And (b :: rest) pos)) : SE X (andE ef eg) (.BoolOp .And (a :: b :: rest) pos) := (pe_and h k).imp fun _ _ _ h => andE_imp h
theorem se_or (h : SE X ef a) (k : SE X eg (.BoolOp .Or (b :: rest) pos)) : SE X (orE ef eg) (.BoolOp .Or (a :: b :: rest) pos) := (pe_or h k).imp fun _ _ _ h => orE_imp h
theorem se_not (h : SE X ef a) : SE X (notE ef) (.UnaryOp .Not a pos) := (pe_not h).imp fun _ _ _ h => notE_imp h
/-! a if t else b -/
def iteE (t : TF) (f g : EF) : EF := fun env => match t env with
  | some (true, e1) => f e1
  | some (false, e1) => g e1
  | none => none
theorem se_ite (hc : ST X tf c) (ha : SE X ef a) (hb : SE X eg b) : SE X (iteE tf ef eg) (.IfExp c a b pos) := (pe_ifExp hc ha hb).imp fun σ H Q h => by
  obtain ⟨O, fx, env, d, fr, env', r, e, q⟩ := h
  unfold iteE at e
  split at e
  · rename_i e1 h1
    exact ⟨O, fx, env, true, e1, r, h1, fun H1 b1 => iteT ⟨O, fx, e1, d, fr, env', b1.rel, e, fun v H2 p => q v H2 (bh_epost b1 p)⟩⟩
  · rename_i e1 h1
    exact ⟨O, fx, env, false, e1, r, h1, fun H1 b1 => iteF ⟨O, fx, e1, d, fr, env', b1.rel, e, fun v H2 p => q v H2 (bh_epost b1 p)⟩⟩
  · cases e
/-! ### a name that is taken: from then on others may have it too -/
def varE (i : Nat) : EF := fun env => match env[i]? with
  | some (some (d, .sh)) => some (d, false, env)
  | some (some (d, .ow)) => some (d, false, env.set i (some (d, .sh)))
  | _ => none
end
end PD

/-! PdC: names taken, stored, changed; statements, loops of data. -/
namespace PD
open PySem PySem.Spec PyProof.Rows L2

theorem get_set_self {α : Type} {l : List α} {i : Nat} {x y : α} (h : l[i]? = some y) : (l.set i x)[i]? = some x := by
  obtain ⟨h1, _⟩ := List.getElem?_eq_some_iff.mp h
  exact List.getElem?_set_self h1
theorem get_set_ne {α : Type} {l : List α} {i j : Nat} {x : α} (h : j ≠ i) : (l.set i x)[j]? = l[j]? := List.getElem?_set_ne (Ne.symm h)
theorem get_set_none {α : Type} {l : List α} {i j : Nat} {x y : α} (h : (l.set i x)[j]? = some y) : j ≠ i ∨ (j = i ∧ y = x) := by
  by_cases e : j = i
  · subst e
    right
    refine ⟨rfl, ?_⟩
    by_cases hl : j < l.length
    · rw [List.getElem?_set_self hl] at h; exact (Option.some.inj h).symm
    · rw [List.getElem?_eq_none (by simpa using hl)] at h; cases h
  · exact .inl e
theorem get_of_set {α : Type} {l : List α} {i j : Nat} {x y : α} (h : (l.set i x)[j]? = some y) (n : y ≠ x) : l[j]? = some y ∧ j ≠ i := by
  rcases get_set_none h with e | ⟨e, e2⟩
  · rw [get_set_ne e] at h; exact ⟨h, e⟩
  · exact absurd e2 n

section
variable {K : PySem.W.Frag} {O : Addr → Prop} {fx : Nat → Option Addr} {env env' : Ev} {σ σ' : Sl} {H H' : Hp} {a : Addr} {d c : D} {v : V} {i : Nat} {o : Ow}

theorem R.slot (r : R K O fx env σ H) {x : Option (D × Ow)} (h : env[i]? = some x) : ∃ y, σ[i]? = some y := by
  obtain ⟨h1, _⟩ := List.getElem?_eq_some_iff.mp h
  rw [r.len] at h1
  exact ⟨_, List.getElem?_eq_getElem h1⟩
/-- a slot is forgotten, or stored anew with what all may read -/
theorem R.store (r : R K O fx env σ H) {x : Option (D × Ow)} (h : env[i]? = some x) (hb : ∀ d, x ≠ some (d, .br)) {y : Option V} (hd : Den K (Pb O env σ H) d v) :
    Bh2 K O fx env σ H (env.set i (some (d, .sh))) (σ.set i (some v)) H := by
  obtain ⟨ys, hy⟩ := r.slot h
  have rt : ∀ b, Rt (env.set i (some (d, .sh))) (σ.set i (some v)) b → Rt env σ b := fun b ⟨j, e, p, h1, h2, h3⟩ => by
    obtain ⟨h4, h5⟩ := get_of_set h1 (by intro z; cases z; exact h2 rfl)
    rw [get_set_ne h5] at h3
    exact ⟨j, e, p, h4, h2, h3⟩
  have s : Same (Pb O env σ H) (Pb O (env.set i (some (d, .sh))) (σ.set i (some v)) H) := cut_anti fun b z => z.imp id (rt b)
  refine ⟨⟨by simp [r.len], fun j e h1 => ?_, fun j e p h1 h2 => ?_, fun j k b e e' p p' h1 h2 h3 h4 h5 h6 => ?_, r.out, fun p hp => ?_, fun j e h1 => ?_⟩, s, fun _ _ => rfl⟩
  · rcases get_set_none h1 with ne | ⟨e1, e2⟩
    · rw [get_set_ne ne] at h1 ⊢
      obtain ⟨w, h2, h3⟩ := r.val j e h1
      exact ⟨w, h2, den_le (Le.of_same s) h3⟩
    · cases e2; subst e1
      exact ⟨v, get_set_self hy, den_le (Le.of_same s) hd⟩
  · obtain ⟨h4, h5⟩ := get_of_set h1 (by intro z; cases z; exact h2 rfl)
    rw [get_set_ne h5]
    obtain ⟨b, q1, q2, q3⟩ := r.own j e p h4 h2
    exact ⟨b, q1, q2, q3.mono (Le.of_same s) rfl⟩
  · obtain ⟨g1, n1⟩ := get_of_set h1 (by intro z; cases z; exact h2 rfl)
    obtain ⟨g2, n2⟩ := get_of_set h3 (by intro z; cases z; exact h4 rfl)
    rw [get_set_ne n1] at h5
    rw [get_set_ne n2] at h6
    exact r.apart j k b e e' p p' g1 h2 g2 h4 h5 h6
  · obtain ⟨e, h1, h2⟩ := r.fix p hp
    have ne : p.1 ≠ i := fun z => by rw [z, h] at h1; exact hb e (Option.some.inj h1)
    exact ⟨e, by rw [get_set_ne ne]; exact h1, by rw [get_set_ne ne]; exact h2⟩
  · obtain ⟨g1, n1⟩ := get_of_set h1 (by intro z; cases z)
    exact r.pin j e g1
/-- .. with a new object of its own -/
theorem Fs2.store {env0 : Ev} {σ0 : Sl} {H0 : Hp} (f : Fs2 K O fx env0 σ0 H0 env σ H a d) {x : Option (D × Ow)} (h : env[i]? = some x) (hb : ∀ d, x ≠ some (d, .br)) :
    Bh2 K O fx env0 σ0 H0 (env.set i (some (d, .ow))) (σ.set i (some (.ref a))) H := by
  have r := f.rel
  obtain ⟨ys, hy⟩ := r.slot h
  have rt : ∀ b, Rt (env.set i (some (d, .ow))) (σ.set i (some (V.ref a))) b → Rt env σ b ∨ b = a := fun b ⟨j, e, p, h1, h2, h3⟩ => by
    rcases get_set_none h1 with ne | ⟨e1, e2⟩
    · rw [get_set_ne ne] at h1 h3
      exact .inl ⟨j, e, p, h1, h2, h3⟩
    · subst e1
      rw [get_set_self hy] at h3
      cases h3
      exact .inr rfl
  have oo : ∀ b, Oo O (env.set i (some (d, .ow))) (σ.set i (some (V.ref a))) b → Oo (plus O a) env σ b := fun b z => by
    rcases z with z | z
    · exact .inl (.inl z)
    · rcases rt b z with z | z
      · exact .inr z
      · exact .inl (.inr z)
  have s : Same (Pb (plus O a) env σ H) (Pb O (env.set i (some (d, .ow))) (σ.set i (some (V.ref a))) H) := cut_anti oo
  refine ⟨⟨by simp [r.len], fun j e h1 => ?_, fun j e p h1 h2 => ?_, fun j k b e e' p p' h1 h2 h3 h4 h5 h6 => ?_, fun b z => r.out b (.inl z), fun p hp => ?_, fun j e h1 => ?_⟩, f.same.trans s, f.outer⟩
  · obtain ⟨g1, n1⟩ := get_of_set h1 (by intro z; cases z)
    rw [get_set_ne n1]
    obtain ⟨w, h2, h3⟩ := r.val j e g1
    exact ⟨w, h2, den_le (Le.of_same s) h3⟩
  · rcases get_set_none h1 with ne | ⟨e1, e2⟩
    · rw [get_set_ne ne] at h1 ⊢
      obtain ⟨b, q1, q2, q3⟩ := r.own j e p h1 h2
      exact ⟨b, q1, fun z => q2 (.inl z), q3.mono (Le.of_same s) rfl⟩
    · cases e2; subst e1
      exact ⟨a, get_set_self hy, f.new, f.own.mono (Le.of_same s) rfl⟩
  · have key : ∀ {m : Nat} {e : D} {p : Ow}, (env.set i (some (d, .ow)))[m]? = some (some (e, p)) → p ≠ .sh → (σ.set i (some (V.ref a)))[m]? = some (some (V.ref b)) → (m = i ∧ b = a) ∨ (m ≠ i ∧ b ≠ a ∧ env[m]? = some (some (e, p)) ∧ σ[m]? = some (some (V.ref b))) := fun {m e p} g1 g2 g3 => by
      rcases get_set_none g1 with ne | ⟨e1, e2⟩
      · rw [get_set_ne ne] at g1 g3
        refine .inr ⟨ne, fun z => ?_, g1, g3⟩
        obtain ⟨b', q1, q2, _⟩ := r.own m e p g1 g2
        rw [g3] at q1; cases q1
        exact q2 (.inr z)
      · subst e1
        rw [get_set_self hy] at g3
        cases g3
        exact .inl ⟨rfl, rfl⟩
    rcases key h1 h2 h5 with ⟨e1, e2⟩ | ⟨n1, n2, g1, g2⟩
    · rcases key h3 h4 h6 with ⟨e3, _⟩ | ⟨_, n3, _, _⟩
      · rw [e1, e3]
      · exact absurd e2 n3
    · rcases key h3 h4 h6 with ⟨_, e3⟩ | ⟨_, _, g3, g4⟩
      · exact absurd e3 n2
      · exact r.apart j k b e e' p p' g1 h2 g3 h4 g2 g4
  · obtain ⟨e, h1, h2⟩ := r.fix p hp
    have ne : p.1 ≠ i := fun z => by rw [z, h] at h1; exact hb e (Option.some.inj h1)
    exact ⟨e, by rw [get_set_ne ne]; exact h1, by rw [get_set_ne ne]; exact h2⟩
  · obtain ⟨g1, n1⟩ := get_of_set h1 (by intro z; cases z)
    exact r.pin j e g1
/-- an owned name's object is from now on for all to read -/
theorem R.freeze (r : R K O fx env σ H) (h : env[i]? = some (some (d, .ow))) : ∃ a, σ[i]? = some (some (.ref a)) ∧ Bh2 K O fx env σ H (env.set i (some (d, .sh))) σ H ∧ Den K (Pb O (env.set i (some (d, .sh))) σ H) d (.ref a) := by
  obtain ⟨a, hs, hO, hw⟩ := r.own i d .ow h (by decide)
  have rt : ∀ b, Rt (env.set i (some (d, .sh))) σ b → Rt env σ b ∧ b ≠ a := fun b ⟨j, e, p, h1, h2, h3⟩ => by
    obtain ⟨h4, h5⟩ := get_of_set h1 (by intro z; cases z; exact h2 rfl)
    refine ⟨⟨j, e, p, h4, h2, h3⟩, fun z => h5 ?_⟩
    subst z
    exact r.apart j i b e d p .ow h4 h2 h (by decide) h3 hs
  have s : Same (Pb O env σ H) (Pb O (env.set i (some (d, .sh))) σ H) := cut_anti fun b z => z.imp id fun z => (rt b z).1
  have den : Den K (Pb O (env.set i (some (d, .sh))) σ H) d (.ref a) := hw.den (Le.of_same s) fun u hu => cut_some.mpr ⟨fun z => z.elim hO fun z => (rt a z).2 rfl, hu⟩
  refine ⟨a, hs, ⟨⟨by simp [r.len], fun j e h1 => ?_, fun j e p h1 h2 => ?_, fun j k b e e' p p' h1 h2 h3 h4 h5 h6 => ?_, r.out, fun p hp => ?_, fun j e h1 => ?_⟩, s, fun _ _ => rfl⟩, den⟩
  · rcases get_set_none h1 with ne | ⟨e1, e2⟩
    · rw [get_set_ne ne] at h1
      obtain ⟨w, h2, h3⟩ := r.val j e h1
      exact ⟨w, h2, den_le (Le.of_same s) h3⟩
    · cases e2; subst e1
      exact ⟨_, hs, den⟩
  · obtain ⟨h4, h5⟩ := get_of_set h1 (by intro z; cases z; exact h2 rfl)
    obtain ⟨b, q1, q2, q3⟩ := r.own j e p h4 h2
    exact ⟨b, q1, q2, q3.mono (Le.of_same s) rfl⟩
  · obtain ⟨g1, n1⟩ := get_of_set h1 (by intro z; cases z; exact h2 rfl)
    obtain ⟨g2, n2⟩ := get_of_set h3 (by intro z; cases z; exact h4 rfl)
    exact r.apart j k b e e' p p' g1 h2 g2 h4 h5 h6
  · obtain ⟨e, h1, h2⟩ := r.fix p hp
    have ne : p.1 ≠ i := fun z => by rw [z, h] at h1; cases h1
    exact ⟨e, by rw [get_set_ne ne]; exact h1, h2⟩
  · obtain ⟨g1, n1⟩ := get_of_set h1 (by intro z; cases z)
    exact r.pin j e g1
/-- an owned name's object is handed on, the name forgotten -/
theorem R.move (r : R K O fx env σ H) (h : env[i]? = some (some (d, .ow))) : ∃ a, σ[i]? = some (some (.ref a)) ∧ Fs2 K O fx env σ H (env.set i none) σ H a d := by
  obtain ⟨a, hs, hO, hw⟩ := r.own i d .ow h (by decide)
  have rt : ∀ b, Rt (env.set i none) σ b → Rt env σ b ∧ b ≠ a := fun b ⟨j, e, p, h1, h2, h3⟩ => by
    obtain ⟨h4, h5⟩ := get_of_set h1 (by intro z; cases z)
    refine ⟨⟨j, e, p, h4, h2, h3⟩, fun z => h5 ?_⟩
    subst z
    exact r.apart j i b e d p .ow h4 h2 h (by decide) h3 hs
  have oo : ∀ b, Oo (plus O a) (env.set i none) σ b → Oo O env σ b := fun b z => by
    rcases z with (z | z) | z
    · exact .inl z
    · subst z; exact .inr ⟨i, d, .ow, h, by decide, hs⟩
    · exact .inr (rt b z).1
  have s : Same (Pb O env σ H) (Pb (plus O a) (env.set i none) σ H) := cut_anti oo
  refine ⟨a, hs, hO, ⟨by simp [r.len], fun j e h1 => ?_, fun j e p h1 h2 => ?_, fun j k b e e' p p' h1 h2 h3 h4 h5 h6 => ?_, fun b z => ?_, fun p hp => ?_, fun j e h1 => ?_⟩, s, fun _ _ => rfl, hw.mono (Le.of_same s) rfl⟩
  · obtain ⟨g1, n1⟩ := get_of_set h1 (by intro z; cases z)
    obtain ⟨w, h2, h3⟩ := r.val j e g1
    exact ⟨w, h2, den_le (Le.of_same s) h3⟩
  · obtain ⟨g1, n1⟩ := get_of_set h1 (by intro z; cases z)
    obtain ⟨b, q1, q2, q3⟩ := r.own j e p g1 h2
    refine ⟨b, q1, fun z => ?_, q3.mono (Le.of_same s) rfl⟩
    rcases z with z | z
    · exact q2 z
    · subst z
      exact n1 (r.apart j i b e d p .ow g1 h2 h (by decide) q1 hs)
  · obtain ⟨g1, n1⟩ := get_of_set h1 (by intro z; cases z)
    obtain ⟨g2, n2⟩ := get_of_set h3 (by intro z; cases z)
    exact r.apart j k b e e' p p' g1 h2 g2 h4 h5 h6
  · rcases z with z | z
    · exact r.out b z
    · subst z
      obtain ⟨u, hu, m⟩ := hw.ex
      rw [hu]; exact m
  · obtain ⟨e, h1, h2⟩ := r.fix p hp
    have ne : p.1 ≠ i := fun z => by rw [z, h] at h1; cases h1
    exact ⟨e, by rw [get_set_ne ne]; exact h1, h2⟩
  · obtain ⟨g1, n1⟩ := get_of_set h1 (by intro z; cases z)
    exact r.pin j e g1
/-- an owned object is changed -/
theorem R.mutate (r : R K O fx env σ H) (h : env[i]? = some (some (c, o))) (n : o ≠ .sh) (hs : σ[i]? = some (some (.ref a))) {u : HO} (hw : OwnAt K (Pb O env σ H) (upd H a u) a d) :
    Bh2 K O fx env σ H (env.set i (some (d, o))) σ (upd H a u) := by
  have hOa : Oo O env σ a := .inr ⟨i, c, o, h, n, hs⟩
  have noO : ¬ O a := by
    obtain ⟨b, q1, q2, _⟩ := r.own i c o h n
    rw [hs] at q1
    have e : a = b := by injection q1 with q1; injection q1 with q1; injection q1
    subst e
    exact q2
  have rt : ∀ b, Rt (env.set i (some (d, o))) σ b ↔ Rt env σ b := fun b => by
    constructor
    · rintro ⟨j, e, p, h1, h2, h3⟩
      rcases get_set_none h1 with ne | ⟨e1, e2⟩
      · rw [get_set_ne ne] at h1
        exact ⟨j, e, p, h1, h2, h3⟩
      · subst e1; cases e2
        exact ⟨j, c, _, h, h2, h3⟩
    · rintro ⟨j, e, p, h1, h2, h3⟩
      by_cases e1 : j = i
      · subst e1
        rw [h] at h1; cases h1
        exact ⟨j, d, o, get_set_self h, n, h3⟩
      · exact ⟨j, e, p, by rw [get_set_ne e1]; exact h1, h2, h3⟩
  have oo : Oo O (env.set i (some (d, o))) σ = Oo O env σ := funext fun b => propext (or_congr Iff.rfl (rt b))
  have pe : Pb O (env.set i (some (d, o))) σ (upd H a u) = Pb O env σ H := by
    show cut (upd H a u) (Oo O (env.set i (some (d, o))) σ) = cut H (Oo O env σ)
    rw [oo]
    funext b
    unfold cut
    by_cases z : Oo O env σ b
    · rw [if_pos z, if_pos z]
    · rw [if_neg z, if_neg z, upd_ne (fun e : b = a => z (by rw [e]; exact hOa))]
  refine ⟨⟨by simp [r.len], fun j e h1 => ?_, fun j e p h1 h2 => ?_, fun j k b e e' p p' h1 h2 h3 h4 h5 h6 => ?_, fun b z => ?_, fun p hp => ?_, fun j e h1 => ?_⟩, by rw [pe]; exact Same.refl _, fun b z => upd_ne (fun e : b = a => noO (by rw [← e]; exact z))⟩
  · rw [pe]
    obtain ⟨g1, n1⟩ := get_of_set h1 (by intro z; cases z; exact n rfl)
    exact r.val j e g1
  · rw [pe]
    rcases get_set_none h1 with ne | ⟨e1, e2⟩
    · rw [get_set_ne ne] at h1
      obtain ⟨b, q1, q2, q3⟩ := r.own j e p h1 h2
      refine ⟨b, q1, q2, q3.mono (Le.refl _) (upd_ne fun z => ?_)⟩
      subst z
      exact ne (r.apart j i b e c p o h1 h2 h n q1 hs)
    · subst e1; cases e2
      exact ⟨a, hs, noO, hw⟩
  · have key : ∀ {m : Nat} {e : D} {p : Ow}, (env.set i (some (d, o)))[m]? = some (some (e, p)) → ∃ e', env[m]? = some (some (e', p)) := fun {m e p} g1 => by
      rcases get_set_none g1 with ne | ⟨e1, e2⟩
      · rw [get_set_ne ne] at g1
        exact ⟨e, g1⟩
      · subst e1; cases e2
        exact ⟨c, h⟩
    obtain ⟨e1, g1⟩ := key h1
    obtain ⟨e2, g2⟩ := key h3
    exact r.apart j k b e1 e2 p p' g1 h2 g2 h4 h5 h6
  · by_cases e : b = a
    · subst e; exact absurd z noO
    · rw [upd_ne e]; exact r.out b z
  · obtain ⟨e, h1, h2⟩ := r.fix p hp
    by_cases ne : p.1 = i
    · rw [ne, h] at h1
      cases h1
      exact ⟨d, by rw [ne]; exact get_set_self h, h2⟩
    · exact ⟨e, by rw [get_set_ne ne]; exact h1, h2⟩
  · rcases get_set_none h1 with ne | ⟨e1, e2⟩
    · rw [get_set_ne ne] at h1
      exact r.pin j e h1
    · subst e1; cases e2
      exact r.pin j c h
end

section
variable {X : Cx}
theorem se_var (i : Nat) {x : Str} {pos : Pos} (hN : X.N[i]? = some x := by rfl) (hv : Vis X.env.scope x := by first | exact Or.inl rfl | exact Or.inr (Or.inl rfl) | exact Or.inr (Or.inr rfl)) (hd : (x == ("__debug__" : Str)) = false := by decide)
    (hcd : (x == ("__classdict__" : Str)) = false := by decide) : SE X (varE i) (.Name x pos) := (pe_var hN hv hd hcd).imp fun σ H Q h => by
  obtain ⟨O, fx, env, d, fr, env', r, e, q⟩ := h
  unfold varE at e
  split at e
  · rename_i d1 h1
    cases e
    obtain ⟨v, h2, h3⟩ := r.val i d h1
    exact ⟨v, h2, q v H ⟨Bh.refl r, h3⟩⟩
  · rename_i d1 h1
    cases e
    obtain ⟨a, h2, h3, h4⟩ := r.freeze h1
    exact ⟨_, h2, q _ H ⟨h3, h4⟩⟩
  · cases e
/-- a name that is handed on, at a return -/
def mvE (i : Nat) : EF := fun env => match env[i]? with
  | some (some (d, .sh)) => some (d, false, env)
  | some (some (d, .ow)) => some (d, true, env.set i none)
  | _ => none
theorem se_mv (i : Nat) {x : Str} {pos : Pos} (hN : X.N[i]? = some x := by rfl) (hv : Vis X.env.scope x := by first | exact Or.inl rfl | exact Or.inr (Or.inl rfl) | exact Or.inr (Or.inr rfl)) (hd : (x == ("__debug__" : Str)) = false := by decide)
    (hcd : (x == ("__classdict__" : Str)) = false := by decide) : SE X (mvE i) (.Name x pos) := (pe_var hN hv hd hcd).imp fun σ H Q h => by
  obtain ⟨O, fx, env, d, fr, env', r, e, q⟩ := h
  unfold mvE at e
  split at e
  · rename_i d1 h1
    cases e
    obtain ⟨v, h2, h3⟩ := r.val i d h1
    exact ⟨v, h2, q v H ⟨Bh.refl r, h3⟩⟩
  · rename_i d1 h1
    cases e
    obtain ⟨a, h2, h3⟩ := r.move h1
    exact ⟨_, h2, q _ H ⟨a, rfl, h3⟩⟩
  · cases e
end

/-! ### statements -/
inductive Out where
  | nx | bk | ct
  | rt (d : D) (fr : Bool)
abbrev SF := Ev → Option (Out × Ev)
def OutOk (K : PySem.W.Frag) (O : Addr → Prop) (fx : Nat → Option Addr) (env : Ev) (σ : Sl) (H : Hp) (E : Ends) (env' : Ev) : Out → Prop
  | .nx => ∀ σ' H', Bh2 K O fx env σ H env' σ' H' → E.nx σ' H'
  | .bk => ∀ σ' H', Bh2 K O fx env σ H env' σ' H' → E.bk σ' H'
  | .ct => ∀ σ' H', Bh2 K O fx env σ H env' σ' H' → E.ct σ' H'
  | .rt d fr => ∀ v σ' H', EPost2 K O fx env σ H d fr env' v σ' H' → E.rt v H'
def tS (K : PySem.W.Frag) (F : SF) : TS := fun E σ H => ∃ O fx env out env', R K O fx env σ H ∧ F env = some (out, env') ∧ OutOk K O fx env σ H E env' out
abbrev SS (X : Cx) (F : SF) (st : Stmt) : Prop := PS X st (tS X.K F)
abbrev SSs (X : Cx) (F : SF) (st : List Stmt) : Prop := PSs X st (tS X.K F)
theorem OutOk.trans {K : PySem.W.Frag} {O : Addr → Prop} {fx : Nat → Option Addr} {env e1 env' : Ev} {σ σ1 : Sl} {H H1 : Hp} {E : Ends} {out : Out} (b : Bh2 K O fx env σ H e1 σ1 H1) (h : OutOk K O fx env σ H E env' out) : OutOk K O fx e1 σ1 H1 E env' out := by
  cases out with
  | nx => exact fun σ' H' k => h σ' H' (b.trans k)
  | bk => exact fun σ' H' k => h σ' H' (b.trans k)
  | ct => exact fun σ' H' k => h σ' H' (b.trans k)
  | rt d fr => exact fun v σ' H' k => h v σ' H' (bh_epost b k)
def nxF : SF := fun env => some (.nx, env)
def bkF : SF := fun env => some (.bk, env)
def ctF : SF := fun env => some (.ct, env)
def seqF (F G : SF) : SF := fun env => match F env with
  | some (.nx, e1) => G e1
  | r => r
def exprF (f : EF) : SF := fun env => match f env with
  | some (_, _, e1) => some (.nx, e1)
  | none => none
def retF (f : EF) : SF := fun env => match f env with
  | some (d, fr, e1) => some (.rt d fr, e1)
  | none => none
def retN : SF := fun env => some (.rt .none false, env)
def ifF (t : TF) (F G : SF) : SF := fun env => match t env with
  | some (true, e1) => F e1
  | some (false, e1) => G e1
  | none => none
def noF : SF := fun _ => none
section
variable {X : Cx} {st : Stmt} {rest : List Stmt} {F G : SF} {f : EF} {e : Expr} {pos : Pos}
theorem nx_imp {K : PySem.W.Frag} {E : Ends} {σ : Sl} {H : Hp} (h : tS K nxF E σ H) : tNext E σ H := by
  obtain ⟨O, fx, env, out, env', r, e, q⟩ := h
  cases e
  exact q _ _ (Bh.refl r)
theorem ss_nil : SSs X nxF [] := pss_nil.imp fun _ _ _ h => nx_imp h
theorem ss_pass : SS X nxF (.Pass pos) := ps_pass.imp fun _ _ _ h => nx_imp h
theorem ss_doc {x j pos'} : SS X nxF (.Expr (.Constant (.str x) j pos') pos) := ps_doc.imp fun _ _ _ h => nx_imp h
theorem ss_break : SS X bkF (.Break pos) := ps_break.imp fun E σ H h => by
  obtain ⟨O, fx, env, out, env', r, e, q⟩ := h
  cases e
  exact q _ _ (Bh.refl r)
theorem ss_continue : SS X ctF (.Continue pos) := ps_continue.imp fun E σ H h => by
  obtain ⟨O, fx, env, out, env', r, e, q⟩ := h
  cases e
  exact q _ _ (Bh.refl r)
theorem ss_cons (h : SS X F st) (k : SSs X G rest) : SSs X (seqF F G) (st :: rest) := (pss_cons h k).imp fun E σ H h => by
  obtain ⟨O, fx, env, out, env', r, e, q⟩ := h
  unfold seqF at e
  split at e
  · rename_i e1 h1
    exact ⟨O, fx, env, .nx, e1, r, h1, fun σ1 H1 b => ⟨O, fx, e1, out, env', b.rel, e, q.trans b⟩⟩
  · rename_i hn
    refine ⟨O, fx, env, out, env', r, e, ?_⟩
    cases out with
    | nx => exact absurd e (hn env')
    | bk => exact q
    | ct => exact q
    | rt d fr => exact q
theorem ss_one (h : SS X F st) : SSs X F [st] := pss_one h
theorem ss_expr (h : SE X f e) (hs : swapsWith e none pos.line X.env = pure false := by rfl) : SS X (exprF f) (.Expr e pos) := (ps_expr h hs).imp fun E σ H h => by
  obtain ⟨O, fx, env, out, env', r, e, q⟩ := h
  unfold exprF at e
  split at e
  · rename_i d fr e1 h1
    cases e
    exact ⟨O, fx, env, d, fr, _, r, h1, fun v H' p => q _ _ p.weak.1⟩
  · cases e
theorem ss_ret (h : SE X f e) : SS X (retF f) (.Return (some e) pos) := (ps_ret h).imp fun E σ H h => by
  obtain ⟨O, fx, env, out, env', r, e, q⟩ := h
  unfold retF at e
  split at e
  · rename_i d fr e1 h1
    cases e
    exact ⟨O, fx, env, d, fr, _, r, h1, fun v H' p => q v _ _ p⟩
  · cases e
theorem ss_retN : SS X retN (.Return none pos) := ps_retN.imp fun E σ H h => by
  obtain ⟨O, fx, env, out, env', r, e, q⟩ := h
  cases e
  exact q _ _ _ ⟨Bh.refl r, rfl⟩
theorem ss_if {c : Expr} {as bs : List Stmt} {t : TF} (hc : ST X t c) (ha : SSs X F as) (hb : SSs X G bs) : SS X (ifF t F G) (.If c as bs pos) := (ps_if hc ha hb).imp fun E σ H h => by
  obtain ⟨O, fx, env, out, env', r, e, q⟩ := h
  unfold ifF at e
  split at e
  · rename_i e1 h1
    exact ⟨O, fx, env, true, e1, r, h1, fun H1 b => iteT ⟨O, fx, e1, out, env', b.rel, e, q.trans b⟩⟩
  · rename_i e1 h1
    exact ⟨O, fx, env, false, e1, r, h1, fun H1 b => iteF ⟨O, fx, e1, out, env', b.rel, e, q.trans b⟩⟩
  · cases e
/-- never come to -/
theorem ss_no : SS X noF st := ps_never.imp fun E σ H h => by
  obtain ⟨O, fx, env, out, env', r, e, q⟩ := h
  cases e
/-! ### stores -/
def setv (i : Nat) (d : D) (fr : Bool) (env : Ev) : Option Ev := match env[i]? with
  | some (some (_, .br)) => none
  | some _ => some (env.set i (some (d, if fr then .ow else .sh)))
  | none => none
theorem setv_ok {K : PySem.W.Frag} {O : Addr → Prop} {fx : Nat → Option Addr} {env e1 e2 : Ev} {σ : Sl} {H H1 : Hp} {d : D} {fr : Bool} {v : V} {i : Nat} (p : EPost K O fx env σ H d fr e1 v H1) (h : setv i d fr e1 = some e2) : Bh2 K O fx env σ H e2 (σ.set i (some v)) H1 := by
  unfold setv at h
  split at h
  · cases h
  · rename_i x hne hx
    cases h
    have nb : ∀ d, x ≠ some (d, .br) := fun d z => hne d z
    cases fr with
    | false => exact p.1.trans (p.1.rel.store (y := none) hx nb p.2)
    | true =>
      obtain ⟨a, rfl, f⟩ := p
      exact f.store hx nb
  · cases h
def setF (i : Nat) (f : EF) : SF := fun env => match f env with
  | some (d, fr, e1) => match setv i d fr e1 with
    | some e2 => some (.nx, e2)
    | none => none
  | none => none
theorem set_imp {K : PySem.W.Frag} {i : Nat} {f : EF} {E : Ends} {σ : Sl} {H : Hp} (h : tS K (setF i f) E σ H) : tAsg (tE K f) (gName i) E σ H := by
  obtain ⟨O, fx, env, out, env', r, e, q⟩ := h
  unfold setF at e
  split at e
  · rename_i d fr e1 h1
    split at e
    · rename_i e2 h2
      cases e
      exact ⟨O, fx, env, d, fr, e1, r, h1, fun v H1 p => q _ _ (setv_ok p h2)⟩
    · cases e
  · cases e
theorem ss_set {i : Nat} {x : Str} {pos' : Pos} (hN : X.N.Nodup) (hi : X.N[i]? = some x) (hx : Loc X.env.scope x) (he : SE X f e) (hs : swapsWith e (some (.Name x pos')) pos.line X.env = pure false := by rfl) (hf : X.fn x = true ∨ X.env.scope.names.lookup x = some .local := by first | exact .inl rfl | exact .inr rfl | assumption) :
    SS X (setF i f) (.Assign [.Name x pos'] e pos) := (ps_set hN hi hx he hs hf).imp fun _ _ _ h => set_imp h
/-! targets -/
abbrev GF := D → Ev → Option Ev
/-- all slots but these are as they were -/
def Bar (wr : List Nat) (σ σ' : Sl) : Prop := σ'.length = σ.length ∧ ∀ j : Nat, j ∉ wr → σ'[j]? = σ[j]?
def tG (K : PySem.W.Frag) (g : GF) (wr : List Nat) : TG := fun v σ H Q => ∃ O fx env d env', R K O fx env σ H ∧ Den K (Pb O env σ H) d v ∧ g d env = some env' ∧ ∀ σ' H', Bh2 K O fx env σ H env' σ' H' → Bar wr σ σ' → Q σ' H'
abbrev SG (X : Cx) (g : GF) (wr : List Nat) (t : Expr) : Prop := PG X t (tG X.K g wr)
theorem Bar.trans {wr wr' : List Nat} {a b c : Sl} (h : Bar wr a b) (k : Bar wr' b c) : Bar (wr ++ wr') a c :=
  ⟨k.1.trans h.1, fun j hj => (k.2 j fun z => hj (List.mem_append_right _ z)).trans (h.2 j fun z => hj (List.mem_append_left _ z))⟩
abbrev GFs := List D → Ev → Option Ev
def tGs (K : PySem.W.Frag) (g : GFs) (wr : List Nat) : TGs := fun vs σ H Q => ∃ O fx env ds env', R K O fx env σ H ∧ DenL K (Pb O env σ H) ds vs ∧ g ds env = some env' ∧ ∀ σ' H', Bh2 K O fx env σ H env' σ' H' → Bar wr σ σ' → Q σ' H'
abbrev SGs (X : Cx) (g : GFs) (wr : List Nat) (ts : List Expr) : Prop := PGs X ts (tGs X.K g wr)
theorem _root_.L2.PG.imp {e : Expr} {t t' : TG} (h : PG X e t) (k : ∀ v σ H Q, t' v σ H Q → t v σ H Q) : PG X e t' := ⟨fun pins s σ H v u Q I r w => h.run pins s σ H v u Q I r (k _ _ _ _ w)⟩
theorem _root_.L2.PGs.imp {e : List Expr} {t t' : TGs} (h : PGs X e t) (k : ∀ v σ H Q, t' v σ H Q → t v σ H Q) : PGs X e t' := ⟨fun pins s σ H v u Q I r w => h.run pins s σ H v u Q I r (k _ _ _ _ w)⟩
def nameG (i : Nat) : GF := fun d env => setv i d false env
theorem sg_name {i : Nat} {x : Str} (hN : X.N.Nodup) (hi : X.N[i]? = some x) (hx : Loc X.env.scope x) (hf : X.fn x = true ∨ X.env.scope.names.lookup x = some .local := by first | exact .inl rfl | exact .inr rfl | assumption) : SG X (nameG i) [i] (.Name x pos) :=
  (pg_name hN hi hx hf).imp fun v σ H Q h => by
    obtain ⟨O, fx, env, d, env', r, hd, e, q⟩ := h
    exact q _ _ (setv_ok (fr := false) ⟨Bh.refl r, hd⟩ e) ⟨List.length_set .., fun j hj => get_set_ne (by simpa using hj)⟩
def nilG : GFs := fun ds env => match ds with
  | [] => some env
  | _ => none
def consG (g : GF) (gs : GFs) : GFs := fun ds env => match ds with
  | d :: ds => match g d env with
    | some e1 => gs ds e1
    | none => none
  | [] => none
theorem sgs_nil : SGs X nilG [] [] := pgs_nil.imp fun vs σ H Q h => by
  obtain ⟨O, fx, env, ds, env', r, hd, e, q⟩ := h
  cases ds with
  | nil =>
    cases e
    exact ⟨hd, q _ _ (Bh.refl r) ⟨rfl, fun _ _ => rfl⟩⟩
  | cons => cases e
theorem sgs_cons {t : Expr} {ts : List Expr} {g : GF} {gs : GFs} {wr wr' : List Nat} (h : SG X g wr t) (k : SGs X gs wr' ts) (hs : (assignEach (t :: ts) X.env).map (·.2) = assign t X.env :: (assignEach ts X.env).map (·.2) := by rfl) : SGs X (consG g gs) (wr ++ wr') (t :: ts) :=
  (pgs_cons h k hs).imp fun vs σ H Q h => by
    obtain ⟨O, fx, env, ds, env', r, hd, e, q⟩ := h
    cases ds with
    | nil => cases e
    | cons d ds =>
      obtain ⟨v, w, rfl, h1, h2⟩ := hd
      simp only [consG] at e
      split at e
      · rename_i e1 h3
        exact ⟨v, w, rfl, O, fx, env, d, e1, r, h1, h3, fun σ1 H1 b k1 => ⟨O, fx, e1, ds, env', b.rel, denL_le (Le.of_same b.same) h2, e, fun σ2 H2 b2 k2 => q _ _ (b.trans b2) (k1.trans k2)⟩⟩
      · cases e
/-- a, b, .. = a tuple of n -/
def tupG (n : Nat) (gs : GFs) : GF := fun d env => match d with
  | .tuple ds => if ds.length = n then gs ds env else none
  | _ => none
theorem denL_length {K : PySem.W.Frag} {H : Hp} : ∀ {ds : List D} {vs : List V}, DenL K H ds vs → vs.length = ds.length
  | [], _, h => by cases h; rfl
  | d :: ds, _, h => by
    obtain ⟨v, r, rfl, _, h2⟩ := h
    simp [denL_length h2]
theorem sg_tup {es : List Expr} {k : Nat} {gs : GFs} {wr : List Nat} {n : Nat} (hc : X.calm = true) (h : SGs X gs wr es) (hn : (assignEach es X.env).length = n := by rfl) (hst : (assignEach es X.env).findIdx? (·.1) = none := by rfl) : SG X (tupG n gs) wr (.Tuple es k pos) :=
  (pg_tup hc h hn hst).imp fun v σ H Q h => by
    obtain ⟨O, fx, env, d, env', r, hd, e, q⟩ := h
    unfold tupG at e
    split at e
    · rename_i ds
      split at e
      · rename_i hl
        obtain ⟨a, vs, e1, h1, h2, _⟩ := hd
        exact ⟨a, vs, e1, sqT_le cut_le h1, (denL_length h2).trans hl, O, fx, env, ds, env', r, h2, e, q⟩
      · cases e
    · cases e
def asgF (f : EF) (g : GF) : SF := fun env => match f env with
  | some (d, _, e1) => match g d e1 with
    | some e2 => some (.nx, e2)
    | none => none
  | none => none
theorem asg_imp {K : PySem.W.Frag} {g : GF} {wr : List Nat} {f : EF} {E : Ends} {σ : Sl} {H : Hp} (h : tS K (asgF f g) E σ H) : tAsg (tE K f) (tG K g wr) E σ H := by
  obtain ⟨O, fx, env, out, env', r, e, q⟩ := h
  unfold asgF at e
  split at e
  · rename_i d fr e1 h1
    split at e
    · rename_i e2 h2
      cases e
      exact ⟨O, fx, env, d, fr, e1, r, h1, fun v H1 p => ⟨O, fx, e1, d, _, p.weak.1.rel, p.weak.2, h2, fun σ' H' b _ => q _ _ (p.weak.1.trans b)⟩⟩
    · cases e
  · cases e
theorem ss_asg {tg : Expr} {g : GF} {wr : List Nat} (he : SE X f e) (hg : SG X g wr tg) (hs : swapsWithSole [tg] e pos.line X.env = pure false := by rfl) (hw : swappedStores [tg] e X.env = pure none := by rfl)
    (h1 : (assignEach [tg] X.env).map (·.2) = [assign tg X.env] := by rfl) : SS X (asgF f g) (.Assign [tg] e pos) := (ps_asg he hg hs hw h1).imp fun _ _ _ h => asg_imp h
end

/-! ### loops -/
def forL (g : GF) (B : SF) : List D → SF
  | [], env => some (.nx, env)
  | d :: ds, env => match g d env with
    | none => none
    | some e1 => match B e1 with
      | some (.nx, e2) => forL g B ds e2
      | some (.ct, e2) => forL g B ds e2
      | some (.bk, e2) => some (.nx, e2)
      | some (.rt d fr, e2) => some (.rt d fr, e2)
      | none => none
def whileL (t : TF) (B : SF) : Nat → SF
  | 0, _ => none
  | n + 1, env => match t env with
    | none => none
    | some (false, e1) => some (.nx, e1)
    | some (true, e1) => match B e1 with
      | some (.nx, e2) => whileL t B n e2
      | some (.ct, e2) => whileL t B n e2
      | some (.bk, e2) => some (.nx, e2)
      | some (.rt d fr, e2) => some (.rt d fr, e2)
      | none => none
section
variable {X : Cx} {pos : Pos} {t : TF} {B : SF} {g : GF}
theorem while_imp {K : PySem.W.Frag} {n : Nat} {E : Ends} {σ : Sl} {H : Hp} (h : tS K (whileL t B n) E σ H) : tWhile (tT K t) (tS K B) E σ H := by
  obtain ⟨O, fx, env, out, env', r, e, q⟩ := h
  refine ⟨fun m σ1 H1 => ∃ e1, Bh2 K O fx env σ H e1 σ1 H1 ∧ whileL t B m e1 = some (out, env'), ⟨n, env, Bh.refl r, e⟩, ?_⟩
  rintro m σ1 H1 ⟨e1, b1, h1⟩
  cases m with
  | zero => cases h1
  | succ m =>
    simp only [whileL] at h1
    split at h1
    · cases h1
    · rename_i e2 h2
      cases h1
      exact ⟨O, fx, e1, false, _, b1.rel, h2, fun H2 b2 => iteF (q _ _ (b1.trans b2))⟩
    · rename_i e2 h2
      refine ⟨O, fx, e1, true, e2, b1.rel, h2, fun H2 b2 => iteT ?_⟩
      have b3 := b1.trans b2
      refine ⟨fun σ' H' => ∃ e', Bh2 K O fx env σ H e' σ' H' ∧ whileL t B m e' = some (out, env'), fun σ' H' z => ⟨m, Nat.lt_succ_self m, z⟩, ?_⟩
      split at h1
      · rename_i e3 h3
        exact ⟨O, fx, e2, .nx, e3, b3.rel, h3, fun σ' H' b => ⟨e3, b3.trans b, h1⟩⟩
      · rename_i e3 h3
        exact ⟨O, fx, e2, .ct, e3, b3.rel, h3, fun σ' H' b => ⟨e3, b3.trans b, h1⟩⟩
      · rename_i e3 h3
        cases h1
        exact ⟨O, fx, e2, .bk, _, b3.rel, h3, fun σ' H' b => q _ _ (b3.trans b)⟩
      · rename_i d fr e3 h3
        cases h1
        exact ⟨O, fx, e2, .rt d fr, _, b3.rel, h3, fun v σ' H' b => q v _ _ (bh_epost b3 b)⟩
      · cases h1
theorem ss_while {c : Expr} {body : List Stmt} (n : Nat) (hp : PassesOwn (model X.prog X.w) X.A X.env X.xe) (hc : ST X t c) (hb : SSs X B body) : SS X (whileL t B n) (.While c body [] pos) := (ps_while hp hc hb).imp fun _ _ _ h => while_imp h

theorem denL_get {K : PySem.W.Frag} {H : Hp} : ∀ {ds : List D} {vs : List V} {i : Nat} {x : V}, DenL K H ds vs → vs[i]? = some x → ∃ d, ds[i]? = some d ∧ Den K H d x
  | [], _, i, x, h, e => by cases h; simp at e
  | d :: ds, _, 0, x, h, e => by
    obtain ⟨v, r, rfl, h1, h2⟩ := h
    cases e
    exact ⟨d, rfl, h1⟩
  | d :: ds, _, i + 1, x, h, e => by
    obtain ⟨v, r, rfl, h1, h2⟩ := h
    exact denL_get (ds := ds) (i := i) h2 e
theorem denL_at {K : PySem.W.Frag} {H : Hp} : ∀ {ds : List D} {vs : List V} {i : Nat} {d : D}, DenL K H ds vs → ds[i]? = some d → ∃ x, vs[i]? = some x ∧ Den K H d x
  | [], _, i, x, h, e => by simp at e
  | d :: ds, _, 0, x, h, e => by
    obtain ⟨v, r, rfl, h1, h2⟩ := h
    cases e
    exact ⟨v, rfl, h1⟩
  | d :: ds, _, i + 1, x, h, e => by
    obtain ⟨v, r, rfl, h1, h2⟩ := h
    exact denL_at (ds := ds) (i := i) h2 e
theorem cut_sub {H : Hp} {O : Addr → Prop} : Same (cut H O) H := fun _ _ h => (cut_some.mp h).2
/-! ### what a for walks -/
/-- the iterator gives these items, as long as what all may read stays -/
structure JOk (K : PySem.W.Frag) (B : Hp) (J : It) (ds : List D) : Prop where
  go : ∀ (i : Nat) H, i < ds.length → Same B H → J.go i H
  stop : ∀ (i : Nat) H, ds.length ≤ i → Same B H → J.stop i H
  yld : ∀ (i : Nat) H d x H', Same B H → ds[i]? = some d → J.yld i H x H' → Same H H' ∧ ∀ O : Addr → Prop, (∀ a, O a → H a ≠ none) → Same B (cut H O) → Den K (cut H' O) d x
abbrev IF := Ev → Option (List D × Ev)
def tI (K : PySem.W.Frag) (s : IF) : TI := fun σ H Q => ∃ O fx env ds env', R K O fx env σ H ∧ s env = some (ds, env') ∧ ∀ J H', Bh K O fx env σ H env' H' → JOk K (Pb O env' σ H') J ds → Q J H'
abbrev SI (X : Cx) (s : IF) (tg iter : Expr) : Prop := PI X tg iter (tI X.K s)
theorem _root_.L2.PI.imp {X : Cx} {tg e : Expr} {t t' : TI} (h : PI X tg e t) (k : ∀ σ H Q, t' σ H Q → t σ H Q) : PI X tg e t' := ⟨fun pins s σ H Q I w => h.run pins s σ H Q I (k _ _ _ w)⟩
theorem R.grown {K : PySem.W.Frag} {O : Addr → Prop} {fx : Nat → Option Addr} {env : Ev} {σ : Sl} {H H' : Hp} (r : R K O fx env σ H) (s : Same H H') : Bh K O fx env σ H env H' :=
  ⟨r.grow s, cut_same s fun _ _ z => z, fun a z => by
    cases q : H a with
    | none => exact absurd q (mut_ne (r.out a z))
    | some u => rw [s _ _ q]⟩
def forF (s : IF) (g : GF) (B : SF) : SF := fun env => match s env with
  | some (ds, e1) => forL g B ds e1
  | none => none
theorem for_go {K : PySem.W.Frag} {O : Addr → Prop} {fx : Nat → Option Addr} {env e0 env' : Ev} {σ : Sl} {H H0 : Hp} {ds : List D} {J : It} {wr : List Nat} {E : Ends} {out : Out} (e : forL g B ds e0 = some (out, env')) (b0 : Bh K O fx env σ H e0 H0) (jo : JOk K (Pb O e0 σ H0) J ds) (q : OutOk K O fx env σ H E env' out) : tFor (fun _ _ R => R J H0) (tG K g wr) (tS K B) E σ H := by
  refine ⟨fun i m σ1 H1 => m = ds.length - i ∧ ∃ e1, Bh2 K O fx e0 σ H0 e1 σ1 H1 ∧ forL g B (ds.drop i) e1 = some (out, env'), ⟨_, rfl, e0, Bh.refl b0.rel, e⟩, ?_⟩
  rintro i m σ1 H1 ⟨rfl, e1, b1, h1⟩
  have le1 : Same (Pb O e0 σ H0) (Pb O e1 σ1 H1) := b1.same
  by_cases hi : i < ds.length
  · right
    refine ⟨jo.go i H1 hi (le1.trans cut_sub), fun σ' H' => ∃ e', Bh2 K O fx e0 σ H0 e' σ' H' ∧ forL g B (ds.drop (i + 1)) e' = some (out, env'), fun σ' H' z => ⟨_, by omega, rfl, z⟩, fun x H2 hy => ?_⟩
    obtain ⟨sm, hd⟩ := jo.yld i H1 ds[i] x H2 (le1.trans cut_sub) (List.getElem?_eq_getElem hi) hy
    have b2 := b1.trans (b1.rel.grown sm)
    have hd := hd (Oo O e1 σ1) (fun a z => b1.rel.root_some z) le1
    rw [List.drop_eq_getElem_cons hi] at h1
    simp only [forL] at h1
    split at h1
    · cases h1
    · rename_i e2 h2
      refine ⟨O, fx, e1, ds[i], e2, b2.rel, hd, h2, fun σ2 H3 b3 _ => ?_⟩
      have b4 := b2.trans b3
      split at h1
      · rename_i e3 h3
        exact ⟨O, fx, e2, .nx, e3, b4.rel, h3, fun σ' H' b => ⟨e3, b4.trans b, h1⟩⟩
      · rename_i e3 h3
        exact ⟨O, fx, e2, .ct, e3, b4.rel, h3, fun σ' H' b => ⟨e3, b4.trans b, h1⟩⟩
      · rename_i e3 h3
        cases h1
        exact ⟨O, fx, e2, .bk, _, b4.rel, h3, fun σ' H' b => q _ _ (b0.trans (b4.trans b))⟩
      · rename_i d' fr e3 h3
        cases h1
        exact ⟨O, fx, e2, .rt d' fr, _, b4.rel, h3, fun v' σ' H' b => q v' _ _ (bh_epost (b0.trans b4) b)⟩
      · cases h1
  · left
    refine ⟨jo.stop i H1 (by omega) (le1.trans cut_sub), ?_⟩
    rw [List.drop_eq_nil_of_le (by omega)] at h1
    cases h1
    exact q _ _ (b0.trans b1)
theorem for_imp {K : PySem.W.Frag} {s : IF} {wr : List Nat} {E : Ends} {σ : Sl} {H : Hp} (h : tS K (forF s g B) E σ H) : tFor (tI K s) (tG K g wr) (tS K B) E σ H := by
  obtain ⟨O, fx, env, out, env', r, e, q⟩ := h
  unfold forF at e
  split at e
  · rename_i ds e0 h0
    exact ⟨O, fx, env, ds, e0, r, h0, fun J H0 b0 jo => for_go e b0 jo q⟩
  · cases e
theorem ss_for {iter tg : Expr} {body : List Stmt} {s : IF} {wr : List Nat} (hp : PassesOwn (model X.prog X.w) X.A X.env X.xe) (hc : X.calm = true) (hi : SI X s tg iter) (hg : SG X g wr tg) (hb : SSs X B body)
    (hs : ∀ x, foldedSetIterable iter X.env x = pure x := by intro _; rfl) : SS X (forF s g B) (.For tg iter body [] pos) := (ps_for hp hc hi hg hb hs).imp fun _ _ _ h => for_imp h
/-! ### lists, tuples, texts -/
theorem atD {α : Type} {l : List α} {i : Nat} {x y : α} (h : l[i]? = some x) (k : l[i]? = some y) : x = y := Option.some.inj (h.symm.trans k)
theorem jok_list {K : PySem.W.Frag} {B : Hp} {a : Addr} {vs : List V} {ds : List D} (h : SqL K B a vs) (hd : DenL K B ds vs) : JOk K B (Itl K a) ds := by
  refine ⟨fun i H hi le => ?_, fun i H hi le => ⟨vs, sqL_le (Le.of_same le) h, by rw [denL_length hd]; exact hi⟩, fun i H d x H' le e y => ?_⟩
  · have : i < vs.length := by rw [denL_length hd]; exact hi
    exact ⟨vs, vs[i], sqL_le (Le.of_same le) h, List.getElem?_eq_getElem this⟩
  · obtain ⟨rfl, y⟩ := y
    obtain ⟨x', h1, h2⟩ := denL_at hd e
    obtain rfl := atD (y vs (sqL_le (Le.of_same le) h)) h1
    exact ⟨Same.refl _, fun O _ le2 => den_le (Le.of_same le2) h2⟩
theorem jok_tup {K : PySem.W.Frag} {B : Hp} {a : Addr} {vs : List V} {ds : List D} (h : SqT K B a vs) (hd : DenL K B ds vs) : JOk K B (Itt K a) ds := by
  refine ⟨fun i H hi le => ?_, fun i H hi le => ⟨vs, sqT_le (Le.of_same le) h, by rw [denL_length hd]; exact hi⟩, fun i H d x H' le e y => ?_⟩
  · have : i < vs.length := by rw [denL_length hd]; exact hi
    exact ⟨vs, vs[i], sqT_le (Le.of_same le) h, List.getElem?_eq_getElem this⟩
  · obtain ⟨rfl, y⟩ := y
    obtain ⟨x', h1, h2⟩ := denL_at hd e
    obtain rfl := atD (y vs (sqT_le (Le.of_same le) h)) h1
    exact ⟨Same.refl _, fun O _ le2 => den_le (Le.of_same le2) h2⟩
/-- the signs of a text -/
def signsD (x : Str) : List D := x.cps.toList.map fun c => .str ⟨#[c]⟩
theorem jok_str {K : PySem.W.Frag} {B : Hp} {x : Str} : JOk K B (Its x) (signsD x) := by
  have hl : (signsD x).length = x.cps.size := by simp [signsD]
  refine ⟨fun i H hi le => by rw [hl] at hi; exact hi, fun i H hi le => by rw [hl] at hi; exact hi, fun i H d v H' le e y => ?_⟩
  obtain ⟨rfl, c, hc, rfl⟩ := y
  refine ⟨Same.refl _, fun O _ _ => ?_⟩
  have : d = .str ⟨#[c]⟩ := by
    simp only [signsD, List.getElem?_map, Array.getElem?_toList, hc, Option.map_some, Option.some.injEq] at e
    exact e.symm
  subst this
  rfl
/-- a list, a tuple, a text -/
def seqI (f : EF) : IF := fun env => match f env with
  | some (.list ds, _, e1) => some (ds, e1)
  | some (.tuple ds, _, e1) => some (ds, e1)
  | some (.str x, _, e1) => some (signsD x, e1)
  | _ => none
theorem si_seq {tg e : Expr} {f : EF} (h : SE X f e) : SI X (seqI f) tg e := by
  refine ⟨fun pins s σ H Q I w => ?_⟩
  obtain ⟨O, fx, env, ds, env', r, e1, q⟩ := w
  unfold seqI at e1
  split at e1
  · rename_i ds' fr e2 h1
    cases e1
    refine (pi_list h).run pins s σ H Q I ⟨O, fx, env, _, fr, _, r, h1, fun v H' p => ?_⟩
    obtain ⟨b, a, vs, rfl, h2, h3⟩ := p.weak
    exact ⟨a, rfl, ⟨vs, sqL_le cut_le h2⟩, q _ _ b (jok_list h2 h3)⟩
  · rename_i ds' fr e2 h1
    cases e1
    refine (pi_tup h).run pins s σ H Q I ⟨O, fx, env, _, fr, _, r, h1, fun v H' p => ?_⟩
    obtain ⟨b, a, vs, rfl, h2, h3, _⟩ := p.weak
    exact ⟨a, rfl, ⟨vs, sqT_le cut_le h2⟩, q _ _ b (jok_tup h2 h3)⟩
  · rename_i x fr e2 h1
    cases e1
    refine (pi_str h).run pins s σ H Q I ⟨O, fx, env, _, fr, _, r, h1, fun v H' p => ?_⟩
    obtain ⟨b, h2⟩ := p.weak
    exact ⟨x, h2, q _ _ b jok_str⟩
  · cases e1
end
end PD

/-! PdD: list comprehensions of data. -/
namespace PD
open PySem PySem.Spec PyProof.Rows L2

def wipeE (env : Ev) : List Nat → Ev
  | [] => env
  | v :: vs => (wipeE env vs).set v none
def unw (env e : Ev) : List Nat → Ev
  | [] => e
  | v :: vs => (unw env e vs).set v (env.getD v none)
theorem wipeE_length (env : Ev) : ∀ vs, (wipeE env vs).length = env.length
  | [] => rfl
  | v :: vs => by rw [wipeE, List.length_set, wipeE_length env vs]
theorem unw_length (env e : Ev) : ∀ vs, (unw env e vs).length = e.length
  | [] => rfl
  | v :: vs => by rw [unw, List.length_set, unw_length env e vs]
theorem wipe_out' {σ : Sl} {j : Nat} : ∀ {vs : List Nat}, j ∉ vs → (wipe σ vs)[j]? = σ[j]?
  | [], _ => rfl
  | v :: vs, h => by
    simp only [List.mem_cons, not_or] at h
    rw [wipe, get_set_ne h.1, wipe_out' h.2]
theorem wipeE_out {env : Ev} {j : Nat} : ∀ {vs : List Nat}, j ∉ vs → (wipeE env vs)[j]? = env[j]?
  | [], _ => rfl
  | v :: vs, h => by
    simp only [List.mem_cons, not_or] at h
    rw [wipeE, get_set_ne h.1, wipeE_out h.2]
theorem unw_out {env e : Ev} {j : Nat} : ∀ {vs : List Nat}, j ∉ vs → (unw env e vs)[j]? = e[j]?
  | [], _ => rfl
  | v :: vs, h => by
    simp only [List.mem_cons, not_or] at h
    rw [unw, get_set_ne h.1, unw_out h.2]
theorem wipe_in {σ : Sl} {j : Nat} {x : V} : ∀ {vs : List Nat}, j ∈ vs → (wipe σ vs)[j]? ≠ some (some x)
  | v :: vs, h, z => by
    rw [wipe] at z
    obtain ⟨h1, h2⟩ := get_of_set z (by simp)
    rcases List.mem_cons.mp h with e | h
    · exact h2 e
    · exact wipe_in h h1
theorem wipeE_in {σ : Ev} {j : Nat} {x : D × Ow} : ∀ {vs : List Nat}, j ∈ vs → (wipeE σ vs)[j]? ≠ some (some x)
  | v :: vs, h, z => by
    rw [wipeE] at z
    obtain ⟨h1, h2⟩ := get_of_set z (by simp)
    rcases List.mem_cons.mp h with e | h
    · exact h2 e
    · exact wipeE_in h h1
theorem unw_in {env e : Ev} {j : Nat} {x : D × Ow} : ∀ {vs : List Nat}, j ∈ vs → (unw env e vs)[j]? = some (some x) → env[j]? = some (some x)
  | v :: vs, h, z => by
    rw [unw] at z
    by_cases hj : j = v
    · subst hj
      rcases get_set_none z with e | ⟨_, e⟩
      · exact absurd rfl e
      · rw [List.getD_eq_getElem?_getD] at e
        cases q : env[j]? with
        | none => rw [q] at e; cases e
        | some y => rw [q] at e; rw [e]; rfl
    · rw [get_set_ne hj] at z
      rcases List.mem_cons.mp h with e | h
      · exact absurd e hj
      · exact unw_in h z
/-- two rows of slots that differ in the block's own alone -/
theorem wipe_bar {σ σ' : Sl} {wr vs : List Nat} (h : Bar wr σ σ') (hw : ∀ j ∈ wr, j ∈ vs) : wipe σ' vs = wipe σ vs := by
  apply List.ext_getElem?
  intro j
  by_cases hj : j ∈ vs
  · have key : ∀ τ : Sl, (wipe τ vs)[j]? = if j < τ.length then some none else none := fun τ => by
      by_cases hl : j < τ.length
      · rw [if_pos hl]
        have hl' : j < (wipe τ vs).length := by rw [wipe_length]; exact hl
        rw [List.getElem?_eq_getElem hl']
        cases q : (wipe τ vs)[j] with
        | none => rfl
        | some x => exact absurd (by rw [List.getElem?_eq_getElem hl', q]) (wipe_in (σ := τ) (x := x) hj)
      · rw [if_neg hl, List.getElem?_eq_none (by rw [wipe_length]; omega)]
    rw [key, key, h.1]
  · rw [wipe_out' hj, wipe_out' hj, h.2 j fun z => hj (hw j z)]
theorem wipe_wipe (σ : Sl) (vs : List Nat) : wipe (wipe σ vs) vs = wipe σ vs :=
  wipe_bar (wr := vs) ⟨wipe_length σ vs, fun j hj => wipe_out' hj⟩ fun _ h => h

section
variable {K : PySem.W.Frag} {O : Addr → Prop} {fx : Nat → Option Addr} {env e : Ev} {σ σ' : Sl} {H H' : Hp} {vs : List Nat}
theorem R.wipe (r : R K O fx env σ H) (hf : ∀ p : Nat × Addr, fx p.1 = some p.2 → p.1 ∉ vs) : Bh2 K O fx env σ H (wipeE env vs) (wipe σ vs) H := by
  have key : ∀ {j : Nat} {x : D × Ow}, (wipeE env vs)[j]? = some (some x) → j ∉ vs ∧ env[j]? = some (some x) ∧ (L2.wipe σ vs)[j]? = σ[j]? := fun {j x} h => by
    by_cases hj : j ∈ vs
    · exact absurd h (wipeE_in hj)
    · exact ⟨hj, by rw [wipeE_out hj] at h; exact h, wipe_out' hj⟩
  have rt : ∀ b, Rt (wipeE env vs) (L2.wipe σ vs) b → Rt env σ b := fun b ⟨j, d, o, h1, h2, h3⟩ => by
    obtain ⟨_, k1, k2⟩ := key h1
    exact ⟨j, d, o, k1, h2, by rw [← k2]; exact h3⟩
  have s : Same (Pb O env σ H) (Pb O (wipeE env vs) (L2.wipe σ vs) H) := cut_anti fun b z => z.imp id (rt b)
  refine ⟨⟨by rw [wipeE_length, wipe_length]; exact r.len, fun j d h1 => ?_, fun j d o h1 h2 => ?_, fun j k b d d' o o' h1 h2 h3 h4 h5 h6 => ?_, r.out, fun p hp => ?_, fun j d h1 => ?_⟩, s, fun _ _ => rfl⟩
  · obtain ⟨_, k1, k2⟩ := key h1
    obtain ⟨v, q1, q2⟩ := r.val j d k1
    exact ⟨v, k2.trans q1, den_le (Le.of_same s) q2⟩
  · obtain ⟨_, k1, k2⟩ := key h1
    obtain ⟨b, q1, q2, q3⟩ := r.own j d o k1 h2
    exact ⟨b, k2.trans q1, q2, q3.mono (Le.of_same s) rfl⟩
  · obtain ⟨_, k1, k2⟩ := key h1
    obtain ⟨_, k3, k4⟩ := key h3
    exact r.apart j k b d d' o o' k1 h2 k3 h4 (k2.symm.trans h5) (k4.symm.trans h6)
  · obtain ⟨d, q1, q2⟩ := r.fix p hp
    exact ⟨d, by rw [wipeE_out (hf p hp)]; exact q1, by rw [wipe_out' (hf p hp)]; exact q2⟩
  · exact r.pin j d (key h1).2.1
/-- back from a block -/
theorem R.unwipe (r : R K O fx env σ H) (rb : R K O fx e (L2.wipe σ vs) H') (s : Same (Pb O env σ H) (Pb O e (L2.wipe σ vs) H')) (ou : ∀ a, O a → H' a = H a)
    (hn : ∀ j ∈ vs, ∀ d o, env[j]? = some (some (d, o)) → o = .sh) (he : ∀ j ∈ vs, ∀ x, e[j]? ≠ some (some x)) : Bh K O fx env σ H (unw env e vs) H' := by
  have rt : ∀ b, Rt (unw env e vs) σ b ↔ Rt e (L2.wipe σ vs) b := fun b => by
    constructor
    · rintro ⟨j, d, o, h1, h2, h3⟩
      by_cases hj : j ∈ vs
      · exact absurd (hn j hj d o (unw_in hj h1)) h2
      · rw [unw_out hj] at h1
        exact ⟨j, d, o, h1, h2, by rw [wipe_out' hj]; exact h3⟩
    · rintro ⟨j, d, o, h1, h2, h3⟩
      by_cases hj : j ∈ vs
      · exact absurd h1 (he j hj _)
      · exact ⟨j, d, o, by rw [unw_out hj]; exact h1, h2, by rw [wipe_out' hj] at h3; exact h3⟩
  have oo : Oo O (unw env e vs) σ = Oo O e (L2.wipe σ vs) := funext fun b => propext (or_congr Iff.rfl (rt b))
  have pe : Pb O (unw env e vs) σ H' = Pb O e (L2.wipe σ vs) H' := by
    show cut H' (Oo O (unw env e vs) σ) = _
    rw [oo]
  refine ⟨⟨by rw [unw_length, rb.len, wipe_length], fun j d h1 => ?_, fun j d o h1 h2 => ?_, fun j k b d d' o o' h1 h2 h3 h4 h5 h6 => ?_, rb.out, fun p hp => ?_, fun j d h1 => ?_⟩, by rw [pe]; exact s, ou⟩
  · rw [pe]
    by_cases hj : j ∈ vs
    · obtain ⟨v, q1, q2⟩ := r.val j d (unw_in hj h1)
      exact ⟨v, q1, den_le (Le.of_same s) q2⟩
    · rw [unw_out hj] at h1
      obtain ⟨v, q1, q2⟩ := rb.val j d h1
      rw [wipe_out' hj] at q1
      exact ⟨v, q1, q2⟩
  · rw [pe]
    by_cases hj : j ∈ vs
    · exact absurd (hn j hj d o (unw_in hj h1)) h2
    · rw [unw_out hj] at h1
      obtain ⟨v, q1, q2⟩ := rb.own j d o h1 h2
      rw [wipe_out' hj] at q1
      exact ⟨v, q1, q2⟩
  · have key : ∀ {j : Nat} {d : D} {o : Ow}, (unw env e vs)[j]? = some (some (d, o)) → o ≠ .sh → j ∉ vs ∧ e[j]? = some (some (d, o)) := fun {j d o} h1 h2 => by
      by_cases hj : j ∈ vs
      · exact absurd (hn j hj d o (unw_in hj h1)) h2
      · exact ⟨hj, by rw [unw_out hj] at h1; exact h1⟩
    obtain ⟨n1, k1⟩ := key h1 h2
    obtain ⟨n2, k2⟩ := key h3 h4
    exact rb.apart j k b d d' o o' k1 h2 k2 h4 (by rw [wipe_out' n1]; exact h5) (by rw [wipe_out' n2]; exact h6)
  · obtain ⟨d, q1, q2⟩ := rb.fix p hp
    have hj : p.1 ∉ vs := fun z => he _ z _ q1
    exact ⟨d, by rw [unw_out hj]; exact q1, by rw [wipe_out' hj] at q2; exact q2⟩
  · by_cases hj : j ∈ vs
    · have := hn j hj d .br (unw_in hj h1)
      cases this
    · rw [unw_out hj] at h1
      exact rb.pin j d h1
end

/-! ### the list that is made -/
def noOwn (env : Ev) : List Nat → Bool
  | [] => true
  | v :: vs => (match env[v]? with
    | some (some (_, .sh)) => true
    | some none => true
    | _ => false) && noOwn env vs
theorem noOwn_at {env : Ev} : ∀ {vs : List Nat}, noOwn env vs = true → ∀ j ∈ vs, ∀ d o, env[j]? = some (some (d, o)) → o = .sh
  | v :: vs, h, j, hj, d, o, e => by
    simp only [noOwn, Bool.and_eq_true] at h
    rcases List.mem_cons.mp hj with rfl | hj
    · rw [e] at h
      cases o with
      | sh => rfl
      | ow => exact absurd h.1 (by simp)
      | br => exact absurd h.1 (by simp)
    · exact noOwn_at h.2 j hj d o e
def lcL (vs : List Nat) (g : GF) (t : TF) (f : EF) : List D → Ev → Option (List D × Ev)
  | [], env => some ([], env)
  | d :: ds, env => match g d env with
    | none => none
    | some e1 => match t e1 with
      | none => none
      | some (false, e2) => lcL vs g t f ds (wipeE e2 vs)
      | some (true, e2) => match f e2 with
        | none => none
        | some (y, _, e3) => match lcL vs g t f ds (wipeE e3 vs) with
          | some (ys, e4) => some (y :: ys, e4)
          | none => none
def lcF (vs : List Nat) (s : IF) (g : GF) (t : TF) (f : EF) : EF := fun env => match s env with
  | some (ds, e1) => if ds.length ≤ sizeLine ∧ noOwn e1 vs = true then match lcL vs g t f ds (wipeE e1 vs) with
      | some (ys, e2) => some (.list ys, true, unw e1 e2 vs)
      | none => none
    else none
  | none => none
def yesT : TF := fun env => some (true, env)
theorem denL_append {K : PySem.W.Frag} {H : Hp} : ∀ {ds es : List D} {vs ws : List V}, DenL K H ds vs → DenL K H es ws → DenL K H (ds ++ es) (vs ++ ws)
  | [], _, _, _, h, k => by cases h; exact k
  | d :: ds, _, _, _, h, k => by
    obtain ⟨v, r, rfl, h1, h2⟩ := h
    exact ⟨v, _, rfl, h1, denL_append h2 k⟩

section
variable {K : PySem.W.Frag} {vs wr : List Nat} {s : IF} {g : GF} {t : TF} {f : EF}
/-- an item more in a list of ours -/
theorem push_pb {O : Addr → Prop} {env : Ev} {σ : Sl} {H : Hp} {a : Addr} {u : HO} : Pb (plus O a) env σ (upd H a u) = Pb (plus O a) env σ H := by
  funext b
  show cut _ _ b = cut _ _ b
  unfold cut
  by_cases z : Oo (plus O a) env σ b
  · rw [if_pos z, if_pos z]
  · rw [if_neg z, if_neg z, upd_ne (fun e : b = a => z (.inl (.inr e)))]
theorem push_ok {O : Addr → Prop} {fx : Nat → Option Addr} {env : Ev} {σ : Sl} {H : Hp} {a : Addr} {u : HO} (r : R K (plus O a) fx env σ H) (hm : Mut (some u) := by trivial) : R K (plus O a) fx env σ (upd H a u) := by
  refine ⟨r.len, fun i d h => ?_, fun i d o h n => ?_, r.apart, fun b z => ?_, r.fix, r.pin⟩
  · rw [push_pb]; exact r.val i d h
  · rw [push_pb]
    obtain ⟨b, q1, q2, q3⟩ := r.own i d o h n
    exact ⟨b, q1, q2, q3.mono (Le.refl _) (upd_ne fun z => q2 (.inr z))⟩
  · by_cases e : b = a
    · subst e; rw [upd_same]; exact hm
    · rw [upd_ne e]; exact r.out b z
/-- the block between two turns -/
structure Lw (K : PySem.W.Frag) (O : Addr → Prop) (fx : Nat → Option Addr) (a : Addr) (B : Hp) (H1 : Hp) (σB : Sl) (vs : List Nat) (go : Ev → Option (List D × Ev)) (n : Nat) (ys : List D) (e2 : Ev) (H2 : Hp) : Prop where
  ex : ∃ eB zs acc avs, R K (plus O a) fx eB σB H2 ∧ Same B (Pb (plus O a) eB σB H2) ∧ (∀ b, O b → H2 b = H1 b) ∧ go eB = some (zs, e2) ∧ acc ++ zs = ys ∧ acc.length ≤ n ∧ H2 a = some (.lst avs) ∧ DenL K (Pb (plus O a) eB σB H2) acc avs ∧ ∀ j ∈ vs, ∀ x, eB[j]? ≠ some (some x)
theorem lc_go {O : Addr → Prop} {fx : Nat → Option Addr} {env e1 e2 : Ev} {σ : Sl} {H H1 : Hp} {ds ys : List D} {J : It} {Q : VK} (hw : ∀ j ∈ wr, j ∈ vs) (hl : ds.length ≤ sizeLine) (hno : noOwn e1 vs = true) (h2 : lcL vs g t f ds (wipeE e1 vs) = some (ys, e2)) (b1 : Bh K O fx env σ H e1 H1) (jo : JOk K (Pb O e1 σ H1) J ds)
    (q : ∀ v H', EPost K O fx env σ H (.list ys) true (unw e1 e2 vs) v H' → Q v H') : tLc (fun _ _ R => R J H1) (tG K g wr) (tT K t) (tE K f) vs σ H Q := by
  intro a ha
  have hn := noOwn_at hno
  -- the new list
  have np : NPost K (Oo O e1 σ) H1 (.list []) true (.ref a) (upd H1 a (.lst [])) := ⟨fun b u e => by rw [upd_ne (ne_of_none e ha)]; exact e, a, rfl, ha, [], upd_same, rfl⟩
  obtain ⟨a', ea, fs⟩ := np.epost b1.rel
  cases ea
  have hfx : ∀ p : Nat × Addr, fx p.1 = some p.2 → p.1 ∉ vs := fun p hp hv => by
    obtain ⟨d, q1, _⟩ := b1.rel.fix p hp
    have := hn _ hv _ _ q1
    cases this
  have bw := fs.rel.wipe (vs := vs) hfx
  have s0 : Same (Pb O e1 σ H1) (Pb (plus O a) (wipeE e1 vs) (L2.wipe σ vs) (upd H1 a (.lst []))) := fs.same.trans bw.same
  have fin : ∀ {e3 : Ev} {σ3 : Sl} {H3 : Hp}, R K (plus O a) fx e3 σ3 H3 → L2.wipe σ3 vs = L2.wipe σ vs → Bh2 K (plus O a) fx e3 σ3 H3 (wipeE e3 vs) (L2.wipe σ vs) H3 := fun {e3 σ3 H3} r3 hw3 => by
    rw [← hw3]
    exact r3.wipe hfx
  refine ⟨fun i m H2 => m = ds.length - i ∧ i ≤ ds.length ∧ Lw K O fx a (Pb O e1 σ H1) H1 (L2.wipe σ vs) vs (lcL vs g t f (ds.drop i)) i ys e2 H2,
    ⟨_, rfl, Nat.zero_le _, wipeE e1 vs, ys, [], [], bw.rel, s0, fs.outer, h2, rfl, Nat.le_refl _, upd_same, rfl, fun j hj x => wipeE_in hj⟩, ?_⟩
  rintro i m H2 ⟨rfl, hi, eB, zs, acc, avs, rB, sB, ouB, goB, eq, hacc, hal, hden, hno2⟩
  have leB : Same (Pb O e1 σ H1) (Pb (plus O a) eB (L2.wipe σ vs) H2) := sB
  by_cases hlt : i < ds.length
  · right
    refine ⟨jo.go i H2 hlt (leB.trans cut_sub), Lw K O fx a (Pb O e1 σ H1) H1 (L2.wipe σ vs) vs (lcL vs g t f (ds.drop (i + 1))) (i + 1) ys e2, fun H' z => ⟨_, by omega, rfl, hlt, z⟩, fun x H3 hy => ?_⟩
    obtain ⟨sm, hd⟩ := jo.yld i H2 ds[i] x H3 (leB.trans cut_sub) (List.getElem?_eq_getElem hlt) hy
    have b3 := rB.grown sm
    have hd := hd (Oo (plus O a) eB (L2.wipe σ vs)) (fun a z => rB.root_some z) leB
    rw [List.drop_eq_getElem_cons hlt] at goB
    simp only [lcL] at goB
    split at goB
    · cases goB
    · rename_i e3 h3
      refine ⟨plus O a, fx, eB, ds[i], e3, b3.rel, hd, h3, fun σ4 H4 b4 bar => ?_⟩
      have hw4 : L2.wipe σ4 vs = L2.wipe σ vs := (wipe_bar bar hw).trans (wipe_wipe σ vs)
      refine ⟨hw4, ?_⟩
      have b34 := b3.trans b4
      split at goB
      · cases goB
      · rename_i e5 h5
        refine ⟨plus O a, fx, e3, false, e5, b4.rel, h5, fun H5 b5 => iteF ?_⟩
        have b35 := b34.trans b5
        have b6 := b35.trans (fin b35.rel hw4)
        exact ⟨_, zs, acc, avs, b6.rel, sB.trans b6.same, fun b z => (b6.outer b (.inl z)).trans (ouB b z), goB, eq, Nat.le_succ_of_le hacc, (b6.outer a (.inr rfl)).trans hal, denL_le (Le.of_same b6.same) hden, fun j hj x => wipeE_in hj⟩
      · rename_i e5 h5
        refine ⟨plus O a, fx, e3, true, e5, b4.rel, h5, fun H5 b5 => iteT ?_⟩
        have b35 := b34.trans b5
        split at goB
        · cases goB
        · rename_i y fr6 e6 h6
          refine ⟨plus O a, fx, e5, y, fr6, e6, b35.rel, h6, fun v H6 p6 => ?_⟩
          obtain ⟨b6', hy6⟩ := p6.weak
          have b6 := b35.trans b6'
          have ha6 : H6 a = some (.lst avs) := (b6.outer a (.inr rfl)).trans hal
          split at goB
          · rename_i ys' e7 h7
            cases goB
            have hlen := denL_length hden
            refine ⟨avs, ha6, by omega, ?_⟩
            have r7 : R K (plus O a) fx e6 σ4 (upd H6 a (.lst (avs ++ [v]))) := push_ok b6.rel
            have b7 := fin r7 hw4
            have s7 : Same (Pb (plus O a) eB (L2.wipe σ vs) H2) (Pb (plus O a) (wipeE e6 vs) (L2.wipe σ vs) (upd H6 a (.lst (avs ++ [v])))) := by
              refine Same.trans ?_ b7.same
              rw [push_pb]
              exact b6.same
            have s8 : Same (Pb (plus O a) e6 σ4 H6) (Pb (plus O a) (wipeE e6 vs) (L2.wipe σ vs) (upd H6 a (.lst (avs ++ [v])))) := by
              refine Same.trans ?_ b7.same
              rw [push_pb]
              exact Same.refl _
            refine ⟨_, ys', acc ++ [y], _, b7.rel, sB.trans s7, fun b z => ?_, h7, by rw [List.append_assoc]; exact eq, by simp; exact hacc, upd_same, denL_append (denL_le (Le.of_same s7) hden) ⟨v, [], rfl, den_le (Le.of_same s8) hy6, rfl⟩, fun j hj x => wipeE_in hj⟩
            have nb : b ≠ a := fun e => fs.new (e ▸ z)
            rw [upd_ne nb]
            exact (b6.outer b (.inl z)).trans (ouB b z)
          · cases goB
  · left
    refine ⟨jo.stop i H2 (by omega) (leB.trans cut_sub), ?_⟩
    rw [List.drop_eq_nil_of_le (by omega)] at goB
    cases goB
    rw [List.append_nil] at eq
    subst eq
    -- back in the def's frame
    have rA : R K (plus O a) fx e1 σ (upd H1 a (.lst avs)) := by
      have z := push_ok (u := .lst avs) fs.rel
      rw [upd_upd] at z
      exact z
    have sA : Same (Pb (plus O a) e1 σ (upd H1 a (.lst avs))) (Pb O e1 σ H1) := by
      rw [push_pb]
      exact cut_anti fun b z => plus_oo.mpr (.inl z)
    have bA := rA.unwipe rB (sA.trans sB) (fun b z => by
      by_cases e : b = a
      · subst e; rw [hal, upd_same]
      · rw [upd_ne e]
        rcases z with z | z
        · exact ouB b z
        · exact absurd z e) hn hno2
    have s9 : Same (Pb O e1 σ H1) (Pb (plus O a) (unw e1 e2 vs) σ H2) := by
      have z : Same (Pb O e1 σ H1) (Pb (plus O a) e1 σ (upd H1 a (.lst avs))) := by
        rw [push_pb]
        have z := fs.same
        rw [push_pb] at z
        exact z
      exact z.trans bA.same
    have oo : Pb (plus O a) (unw e1 e2 vs) σ H2 = Pb (plus O a) e2 (L2.wipe σ vs) H2 := by
      have rt : ∀ b, Rt (unw e1 e2 vs) σ b ↔ Rt e2 (L2.wipe σ vs) b := fun b => by
        constructor
        · rintro ⟨j, d, o, h1, h2, h3⟩
          by_cases hj : j ∈ vs
          · exact absurd (hn j hj d o (unw_in hj h1)) h2
          · rw [unw_out hj] at h1
            exact ⟨j, d, o, h1, h2, by rw [wipe_out' hj]; exact h3⟩
        · rintro ⟨j, d, o, h1, h2, h3⟩
          by_cases hj : j ∈ vs
          · exact absurd h1 (hno2 j hj _)
          · exact ⟨j, d, o, by rw [unw_out hj]; exact h1, h2, by rw [wipe_out' hj] at h3; exact h3⟩
      show cut _ _ = cut _ _
      rw [show Oo (plus O a) (unw e1 e2 vs) σ = Oo (plus O a) e2 (L2.wipe σ vs) from funext fun b => propext (or_congr Iff.rfl (rt b))]
    exact q _ _ ⟨a, rfl, fs.new, bA.rel, b1.same.trans s9, fun b z => (ouB b z).trans (b1.outer b z), avs, hal, by rw [oo]; exact hden⟩
theorem lc_imp {σ : Sl} {H : Hp} {Q : VK} (hw : ∀ j ∈ wr, j ∈ vs) (h : tE K (lcF vs s g t f) σ H Q) : tLc (tI K s) (tG K g wr) (tT K t) (tE K f) vs σ H Q := by
  obtain ⟨O, fx, env, d, fr, env', r, e, q⟩ := h
  unfold lcF at e
  split at e
  · rename_i ds e1 h1
    split at e
    · rename_i hc
      split at e
      · rename_i ys e2 h2
        cases e
        exact ⟨O, fx, env, ds, e1, r, h1, fun J H1 b1 jo => lc_go hw hc.1 hc.2 h2 b1 jo q⟩
      · cases e
    · cases e
  · cases e
theorem yes_imp {σ : Sl} {H : Hp} {Q : Bool → Hp → Prop} (h : tT K yesT σ H Q) : tYes σ H Q := by
  obtain ⟨O, fx, env, b, env', r, e, q⟩ := h
  cases e
  exact q _ (Bh.refl r)
end
section
variable {X : Cx}
theorem _root_.L2.PTs.imp {e : List Expr} {t t' : TT} (h : PTs X e t) (k : ∀ σ H Q, t' σ H Q → t σ H Q) : PTs X e t' := ⟨fun pins s σ H Q I w => h.run pins s σ H Q I (k _ _ _ w)⟩
abbrev STs (X : Cx) (t : TF) (es : List Expr) : Prop := PTs X es (tT X.K t)
theorem sts_nil : STs X yesT [] := pts_nil.imp fun _ _ _ h => yes_imp h
theorem sts_one {c : Expr} {t : TF} (h : ST X t c) : STs X t [c] := pts_one h
theorem se_lc {elt tg iter : Expr} {ifs : List Expr} {scope : Scope} {own : List (Str × Nat)} {pos : Pos} {s : IF} {g : GF} {wr : List Nat} {t : TF} {f : EF} (hc : X.calm = true) (hN : X.N.Nodup) (hi : SI X s tg iter) (ok : BlkOk X.N X.env.scope scope own)
    (hw : ∀ j ∈ wr, j ∈ own.map (·.2))
    (hg : ∀ (s : Shared) (H : Hp) (C : Addr) (cl : List (Str × Addr)) (fp : List Addr), SG (X.blk s H scope (compEnvC scope cl C X.env) fp) g wr tg) (ht : ∀ (s : Shared) (H : Hp) (C : Addr) (cl : List (Str × Addr)) (fp : List Addr), STs (X.blk s H scope (compEnvC scope cl C X.env) fp) t ifs)
    (he : ∀ (s : Shared) (H : Hp) (C : Addr) (cl : List (Str × Addr)) (fp : List Addr), SE (X.blk s H scope (compEnvC scope cl C X.env) fp) f elt) (hs : ∀ x, foldedSetIterable iter X.env x = pure x := by intro _; rfl) :
    SE X (lcF (own.map (·.2)) s g t f) (.ListComp elt [⟨tg, iter, ifs, 0⟩] scope pos) := (pe_lc hc hN hi ok hg ht he hs).imp fun _ _ _ h => lc_imp hw h
theorem ss_setLc {i : Nat} {y : Str} {py : Pos} {elt tg iter : Expr} {ifs : List Expr} {scope : Scope} {own : List (Str × Nat)} {pos spos : Pos} {s : IF} {g : GF} {wr : List Nat} {t : TF} {f : EF} (hc : X.calm = true) (hN : X.N.Nodup) (hy : X.N[i]? = some y) (hyl : X.env.scope.names.lookup y = some .local)
    (hsw : swapsWith (.ListComp elt [⟨tg, iter, ifs, 0⟩] scope pos) (some (.Name y py)) spos.line X.env = pure true) (hi : SI X s tg iter) (ok : BlkOk X.N X.env.scope scope own) (hw : ∀ j ∈ wr, j ∈ own.map (·.2))
    (hg : ∀ (s : Shared) (H : Hp) (C : Addr) (cl : List (Str × Addr)) (fp : List Addr), SG (X.blk s H scope (compEnvC scope cl C X.env) fp) g wr tg) (ht : ∀ (s : Shared) (H : Hp) (C : Addr) (cl : List (Str × Addr)) (fp : List Addr), STs (X.blk s H scope (compEnvC scope cl C X.env) fp) t ifs)
    (he : ∀ (s : Shared) (H : Hp) (C : Addr) (cl : List (Str × Addr)) (fp : List Addr), SE (X.blk s H scope (compEnvC scope cl C X.env) fp) f elt) (hs : ∀ x, foldedSetIterable iter X.env x = pure x := by intro _; rfl) :
    SS X (setF i (lcF (own.map (·.2)) s g t f)) (.Assign [.Name y py] (.ListComp elt [⟨tg, iter, ifs, 0⟩] scope pos) spos) := (ps_setLc hc hN hy hyl hsw hi ok hg ht he hs).imp fun E σ H h => by
  have z := set_imp h
  exact lc_imp hw z
end
end PD

/-! PdE: defs and their calls, of data. -/
namespace PD
open PySem PySem.Spec PyProof.Rows L2

/-- the arguments as a frame; b: the first one is changed in place -/
def argE (b : Bool) : List D → Ev
  | [] => []
  | d :: r => some (d, if b then Ow.br else Ow.sh) :: r.map fun d => some (d, Ow.sh)
def upd0 (b : Bool) (ds : List D) (d0 : D) : List D := match b, ds with
  | true, _ :: r => d0 :: r
  | _, ds => ds
/-- what a def is: from the arguments the value, whether nobody else has it, and what the first argument has become -/
abbrev FF := List D → Option (D × Bool × D)
def spF (K : PySem.W.Frag) (b : Bool) (n : Nat) (F : FF) : Sp := fun vs H Q E => vs.length = n ∧ ∃ O fx ds d fr d0, R K O fx (argE b ds) (vs.map some) H ∧ F ds = some (d, fr, d0) ∧
  ∀ v H', EPost2 K O fx (argE b ds) (vs.map some) H d fr (argE b (upd0 b ds d0)) v (vs.map some) H' → Q v H'
def fin0 (b : Bool) (e : Ev) (d : D) (fr : Bool) : Option (D × Bool × D) := match b with
  | true => match e[(0 : Nat)]? with
    | some (some (d0, Ow.br)) => some (d, fr, d0)
    | _ => none
  | false => some (d, fr, .none)
theorem fin0_true {e : Ev} {d : D} {fr : Bool} {x : D × Bool × D} (h : fin0 true e d fr = some x) : ∃ d0, e[0]? = some (some (d0, Ow.br)) ∧ x = (d, fr, d0) := by
  unfold fin0 at h
  cases q : e[0]? with
  | none => rw [q] at h; cases h
  | some y =>
    cases y with
    | none => rw [q] at h; cases h
    | some p =>
      obtain ⟨d0, o⟩ := p
      rw [q] at h
      cases o with
      | br => cases h; exact ⟨d0, rfl, rfl⟩
      | sh => cases h
      | ow => cases h
/-- .. by its body -/
def bodyFF (b : Bool) (n : Nat) (B : SF) : FF := fun ds => match B (argE b ds ++ List.replicate (n - ds.length) none) with
  | some (.rt d fr, e) => fin0 b e d fr
  | some (.nx, e) => fin0 b e .none false
  | _ => none

section
variable {b : Bool} {ds : List D} {d d0 : D} {o : Ow} {i : Nat}
theorem argE_length : (argE b ds).length = ds.length := by
  cases ds <;> simp [argE]
theorem argE_get (h : (argE b ds)[i]? = some (some (d, o))) : ds[i]? = some d ∧ ((o = .sh ∧ (b = false ∨ i ≠ 0)) ∨ (o = .br ∧ b = true ∧ i = 0)) := by
  cases ds with
  | nil => simp [argE] at h
  | cons e r =>
    cases i with
    | zero =>
      simp only [argE, List.getElem?_cons_zero, Option.some.injEq, Prod.mk.injEq] at h
      obtain ⟨rfl, rfl⟩ := h
      cases b
      · exact ⟨rfl, .inl ⟨rfl, .inl rfl⟩⟩
      · exact ⟨rfl, .inr ⟨rfl, rfl, rfl⟩⟩
    | succ i =>
      simp only [argE, List.getElem?_cons_succ, List.getElem?_map, Option.map_eq_some_iff] at h
      obtain ⟨x, h1, h2⟩ := h
      simp only [Option.some.injEq, Prod.mk.injEq] at h2
      obtain ⟨rfl, rfl⟩ := h2
      exact ⟨by simpa using h1, .inl ⟨rfl, .inr (by omega)⟩⟩
theorem argE_at (h : ds[i]? = some d) : (argE b ds)[i]? = some (some (d, if b = true ∧ i = 0 then Ow.br else Ow.sh)) := by
  cases ds with
  | nil => simp at h
  | cons e r =>
    cases i with
    | zero =>
      cases h
      cases b <;> rfl
    | succ i =>
      simp only [List.getElem?_cons_succ] at h
      simp [argE, h]
theorem upd0_length : (upd0 b ds d0).length = ds.length := by
  cases b <;> cases ds <;> rfl
theorem upd0_zero (h : ds ≠ []) : (upd0 true ds d0)[0]? = some d0 := by
  cases ds with
  | nil => exact absurd rfl h
  | cons => rfl
theorem upd0_ne (h : b = false ∨ i ≠ 0) : (upd0 b ds d0)[i]? = ds[i]? := by
  cases b with
  | false => cases ds <;> rfl
  | true =>
    rcases h with h | h
    · cases h
    · cases ds with
      | nil => rfl
      | cons e r =>
        cases i with
        | zero => exact absurd rfl h
        | succ i => rfl
end

section
variable {K : PySem.W.Frag} {O : Addr → Prop} {fx : Nat → Option Addr} {env : Ev} {σ : Sl} {H H' : Hp} {n : Nat}
theorem get_ext {α : Type} {l : List (Option α)} {i n : Nat} {x : α} : (l ++ List.replicate n none)[i]? = some (some x) ↔ l[i]? = some (some x) := by
  rw [List.getElem?_append]
  by_cases h : i < l.length
  · rw [if_pos h]
  · rw [if_neg h, List.getElem?_eq_none (by omega : l.length ≤ i), List.getElem?_replicate]
    split <;> simp
theorem rt_ext {m : Nat} {c : Addr} : Rt (env ++ List.replicate n none) (σ ++ List.replicate m none) c ↔ Rt env σ c := by
  unfold Rt
  simp only [get_ext]
theorem oo_ext {m : Nat} : Oo O (env ++ List.replicate n none) (σ ++ List.replicate m none) = Oo O env σ := funext fun _ => propext (or_congr Iff.rfl rt_ext)
theorem R.ext (r : R K O fx env σ H) : R K O fx (env ++ List.replicate n none) (σ ++ List.replicate n none) H := by
  refine ⟨by simp [r.len], fun i d h => ?_, fun i d o h k => ?_, fun i j a d e o p h1 h2 h3 h4 h5 h6 => ?_, r.out, fun p hp => ?_, fun i d h => r.pin i d (get_ext.mp h)⟩
  · obtain ⟨v, q1, q2⟩ := r.val i d (get_ext.mp h)
    exact ⟨v, get_ext.mpr q1, by rw [Pb, oo_ext]; exact q2⟩
  · obtain ⟨v, q1, q2, q3⟩ := r.own i d o (get_ext.mp h) k
    exact ⟨v, get_ext.mpr q1, q2, by rw [Pb, oo_ext]; exact q3⟩
  · exact r.apart i j a d e o p (get_ext.mp h1) h2 (get_ext.mp h3) h4 (get_ext.mp h5) (get_ext.mp h6)
  · obtain ⟨d, q1, q2⟩ := r.fix p hp
    exact ⟨d, get_ext.mpr q1, get_ext.mpr q2⟩
/-- the arguments at a def's end -/
theorem R.back {b : Bool} {ds : List D} {d0 : D} {vs : List V} {O' : Addr → Prop} {e : Ev} {σ' : Sl} (r : R K O fx (argE b ds) (vs.map some) H) (r' : R K O' fx e σ' H') (s : Same (Pb O (argE b ds) (vs.map some) H) (Pb O' e σ' H'))
    (hb : b = true → e[0]? = some (some (d0, .br))) : R K O' fx (argE b (upd0 b ds d0)) (vs.map some) H' ∧ Same (Pb O' e σ' H') (Pb O' (argE b (upd0 b ds d0)) (vs.map some) H') := by
  have key : ∀ {i : Nat} {d : D} {o : Ow}, (argE b (upd0 b ds d0))[i]? = some (some (d, o)) → (o = .sh ∧ (b = false ∨ i ≠ 0) ∧ (argE b ds)[i]? = some (some (d, .sh))) ∨ (o = .br ∧ b = true ∧ i = 0 ∧ d = d0 ∧ ∃ d1, (argE b ds)[0]? = some (some (d1, .br))) := fun {i d o} h => by
    obtain ⟨h1, h2⟩ := argE_get h
    rcases h2 with ⟨rfl, h2⟩ | ⟨rfl, h2, h3⟩
    · left
      refine ⟨rfl, h2, ?_⟩
      rw [upd0_ne h2] at h1
      rw [argE_at h1, if_neg fun z => by
        rcases h2 with h2 | h2
        · rw [h2] at z; exact Bool.false_ne_true z.1
        · exact h2 z.2]
    · right
      subst h2; subst h3
      have hne : ds ≠ [] := by
        rintro rfl
        simp [upd0] at h1
      rw [upd0_zero hne] at h1
      cases ds with
      | nil => exact absurd rfl hne
      | cons d1 r => exact ⟨rfl, rfl, rfl, (Option.some.inj h1).symm, d1, rfl⟩
  -- the root of the first one
  have rt0 : b = true → ∀ d1, (argE b ds)[0]? = some (some (d1, .br)) → ∃ a, (vs.map some)[0]? = some (some (V.ref a)) ∧ σ'[0]? = some (some (V.ref a)) := fun hb' d1 h => by
    obtain ⟨a, ha⟩ := r.pin 0 d1 h
    obtain ⟨_, _, q1⟩ := r.fix (0, a) ha
    obtain ⟨_, _, q2⟩ := r'.fix (0, a) ha
    exact ⟨a, q1, q2⟩
  have rt : ∀ c, Rt (argE b (upd0 b ds d0)) (vs.map some) c → Rt e σ' c := fun c ⟨i, d, o, h1, h2, h3⟩ => by
    rcases key h1 with ⟨z, _⟩ | ⟨rfl, hb', rfl, rfl, d1, h4⟩
    · exact absurd z h2
    · obtain ⟨a, q1, q2⟩ := rt0 hb' d1 h4
      rw [q1] at h3
      cases h3
      exact ⟨0, _, .br, hb hb', by decide, q2⟩
  have s2 : Same (Pb O' e σ' H') (Pb O' (argE b (upd0 b ds d0)) (vs.map some) H') := cut_anti fun c z => z.imp id (rt c)
  have le := Le.of_same (s.trans s2)
  refine ⟨⟨by rw [argE_length, upd0_length, ← argE_length (b := b)]; exact r.len, fun i d h => ?_, fun i d o h k => ?_, fun i j a d e' o p h1 h2 h3 h4 h5 h6 => ?_, r'.out, fun p hp => ?_, fun i d h => ?_⟩, s2⟩
  · rcases key h with ⟨_, _, h1⟩ | ⟨z, _⟩
    · obtain ⟨v, q1, q2⟩ := r.val i d h1
      exact ⟨v, q1, den_le le q2⟩
    · cases z
  · rcases key h with ⟨z, _⟩ | ⟨rfl, hb', rfl, rfl, d1, h4⟩
    · exact absurd z k
    · obtain ⟨a, q1, q2⟩ := rt0 hb' d1 h4
      obtain ⟨a', q3, q4, q5⟩ := r'.own 0 _ .br (hb hb') (by decide)
      rw [q2] at q3
      cases q3
      exact ⟨a, q1, q4, q5.mono (Le.of_same s2) rfl⟩
  · rcases key h1 with ⟨z, _⟩ | ⟨_, _, rfl, _⟩
    · exact absurd z h2
    · rcases key h3 with ⟨z, _⟩ | ⟨_, _, rfl, _⟩
      · exact absurd z h4
      · rfl
  · obtain ⟨d, q1, q2⟩ := r.fix p hp
    obtain ⟨h1, h2⟩ := argE_get q1
    rcases h2 with ⟨z, _⟩ | ⟨_, hb', h3⟩
    · cases z
    · refine ⟨d0, ?_, q2⟩
      rw [h3] at h1 ⊢
      subst hb'
      have hne : ds ≠ [] := by
        rintro rfl
        simp at h1
      rw [argE_at (upd0_zero hne), if_pos ⟨rfl, rfl⟩]
  · rcases key h with ⟨z, _⟩ | ⟨_, hb', rfl, _, d1, h4⟩
    · cases z
    · subst hb'
      exact r.pin 0 d1 h4
end

section
variable {P : Program} {w : World} {K : PySem.W.Frag} {mg : Str → Option Value} {base : Heap}
theorem fn_body {b : Bool} {N : List Str} {vs : List V} {H : Hp} {Q : VK} {E : XK} {n : Nat} {B : SF} (h : spF K b n (bodyFF b N.length B) vs H Q E) : tS K B { nx := fun _ H' => Q .non H', rt := Q } (L2.start N vs) H := by
  obtain ⟨hn, O, fx, ds, d, fr, d0, r, e, q⟩ := h
  have hl : vs.length = ds.length := by
    have z := r.len
    rw [argE_length, List.length_map] at z
    exact z.symm
  have rx := r.ext (n := N.length - ds.length)
  have fin : ∀ {d' : D} {fr' : Bool} {e' : Ev} {v : V} {σ' : Sl} {H' : Hp}, fin0 b e' d' fr' = some (d, fr, d0) → EPost2 K O fx (argE b ds ++ List.replicate (N.length - ds.length) none) (vs.map some ++ List.replicate (N.length - ds.length) none) H d' fr' e' v σ' H' → Q v H' := fun {d' fr' e' v σ' H'} h p => by
    have hb : b = true → e'[0]? = some (some (d0, .br)) ∧ True := fun hb => by
      subst hb
      obtain ⟨d1, h1, h2⟩ := fin0_true h
      cases h2
      exact ⟨h1, trivial⟩
    have hd : d' = d ∧ fr' = fr := by
      cases b with
      | false => cases h; exact ⟨rfl, rfl⟩
      | true =>
        obtain ⟨d1, h1, h2⟩ := fin0_true h
        cases h2
        exact ⟨rfl, rfl⟩
    obtain ⟨rfl, rfl⟩ := hd
    refine q v H' ?_
    have pe : Pb O (argE b ds ++ List.replicate (N.length - ds.length) none) (vs.map some ++ List.replicate (N.length - ds.length) none) H = Pb O (argE b ds) (vs.map some) H := by rw [Pb, oo_ext]
    cases fr' with
    | false =>
      obtain ⟨bh, dn⟩ := p
      have s1 := bh.same
      rw [pe] at s1
      obtain ⟨r2, s2⟩ := r.back bh.rel s1 fun hb' => (hb hb').1
      exact ⟨⟨r2, s1.trans s2, bh.outer⟩, den_le (Le.of_same s2) dn⟩
    | true =>
      obtain ⟨a, rfl, f⟩ := p
      have s1 := f.same
      rw [pe] at s1
      obtain ⟨r2, s2⟩ := r.back f.rel s1 fun hb' => (hb hb').1
      exact ⟨a, rfl, f.new, r2, s1.trans s2, f.outer, f.own.mono (Le.of_same s2) rfl⟩
  have hs : L2.start N vs = vs.map some ++ List.replicate (N.length - ds.length) none := by unfold L2.start; rw [hl]
  rw [hs]
  unfold bodyFF at e
  split at e
  · rename_i d' fr' e' h1
    exact ⟨O, fx, _, .rt d' fr', e', rx, h1, fun v σ' H' p => fin e p⟩
  · rename_i e' h1
    exact ⟨O, fx, _, .nx, e', rx, h1, fun σ' H' bh => fin (v := .non) e ⟨bh, rfl⟩⟩
  · cases e
/-- THE RULE for a def -/
theorem fn_ok {x qual : Str} {st : Stmt} {f : Addr} {fd : FuncData} {N ps : List Str} {k : Nat} {b : Bool} {B : SF} (F : Fun K x qual st f fd) (S : FnScope N ps (defScope st))
    (hbody : ∀ (cdv : Value) (A : Around) (outer : List Env) (s : Shared) (H : Hp) (E : XK), Room k (A.deeper (envOfC qual (defScope st) s.heap.objs.size f cdv)) →
      SSs (cxOf CX0 P w K mg base N qual (defScope st) f cdv A outer s H E).nox B (defBody st)) : FnOk P w K mg base CX0 (k + 1) f fd ps (spF K b ps.length (bodyFF b N.length B)) :=
  F.ok S (fun vs H Q E h => h.1) fun cdv A outer s H vs Q E hr h => ⟨_, hbody cdv A outer s H E hr, fn_body h⟩
theorem FnOk.weaken {k : Nat} {f : Addr} {fd : FuncData} {ps : List Str} {b : Bool} {n : Nat} {F G : FF} (h : FnOk P w K mg base CX0 k f fd ps (spF K b n F)) (e : ∀ ds r, G ds = some r → F ds = some r) : FnOk P w K mg base CX0 k f fd ps (spF K b n G) :=
  h.imp fun vs H Q E ⟨hn, O, fx, ds, d, fr, d0, r, q, z⟩ => ⟨hn, O, fx, ds, d, fr, d0, r, e _ _ q, z⟩
/-- nothing can be asked -/
theorem fn_none {f : Addr} {fd : FuncData} {ps : List Str} {b : Bool} {k : Nat} : FnOk P w K mg base CX0 k f fd ps (spF K b ps.length fun _ => none) :=
  ⟨fun vs H Q E h => h.1, fun A outer s H args us vs Q E _ _ _ _ h => by
    obtain ⟨_, O, fx, ds, d, fr, d0, r, e, q⟩ := h
    cases e⟩
end

/-! ### calls -/
mutual
/-- nothing in it can be changed -/
def immD : D → Bool
  | .none | .bool _ | .int _ | .str _ => true
  | .tuple ds => immL ds
  | .list _ | .dict _ => false
def immL : List D → Bool
  | [] => true
  | d :: ds => immD d && immL ds
end
def pkS (e : Ev) : List Opd → List Nat
  | [] => []
  | .val _ :: r => pkS e r
  | .slot i :: r => match e[i]? with
    | some (some (_, .sh)) => pkS e r
    | _ => i :: pkS e r
def frzL : List Nat → Ev → Option Ev
  | [], e => some e
  | i :: r, e => match e[i]? with
    | some (some (d, .ow)) => frzL r (e.set i (some (d, .sh)))
    | some (some (_, .sh)) => frzL r e
    | _ => none
/-- a call -/
def callF (F : FF) (dds : List D) (fl : OLF) : EF := fun env => match fl env with
  | some (os, e1) => match derefs e1 os with
    | some ds => match F (ds ++ dds) with
      | some (d, fr, _) => if (pkS e1 os).isEmpty then some (d, fr, e1)
        else if immD d then some (d, false, e1)
        else match frzL (pkS e1 os) e1 with
          | some e2 => if (pkS e2 os).isEmpty then some (d, fr, e2) else none
          | none => none
      | none => none
    | none => none
  | none => none
/-- a call whose first argument is a name, changed in place -/
def callM (F : FF) (fl : OLF) : EF := fun env => match fl env with
  | some (.slot i :: os, e0) => match frzL (pkS e0 os) e0 with
    | some e1 => if (pkS e1 os).isEmpty then match e1[i]?, derefs e1 os with
        | some (some (c, o)), some ds => if o = .sh then none else match F (c :: ds) with
          | some (d, fr, c') => some (d, fr, e1.set i (some (c', o)))
          | none => none
        | _, _ => none
      else none
    | none => none
  | _ => none

section
variable {K : PySem.W.Frag} {O : Addr → Prop} {fx : Nat → Option Addr} {env e1 e2 : Ev} {σ : Sl} {H H' : Hp} {d : D} {v : V}
mutual
theorem imm_den {O' : Addr → Prop} (m : ∀ a, O a → Mut (H a)) : ∀ {d : D} {v : V}, immD d = true → Den K (cut H O') d v → Den K (cut H O) d v
  | .none, _, _, h => h
  | .bool _, _, _, h => h
  | .int _, _, _, h => h
  | .str _, _, _, h => h
  | .list _, _, i, _ => nomatch i
  | .dict _, _, i, _ => nomatch i
  | .tuple ds, _, i, h => by
    obtain ⟨a, vs, e, h1, h2, h3⟩ := h
    refine ⟨a, vs, e, ?_, imm_denL m (by simpa [immD] using i) h2, fun z => ?_⟩
    · rcases h1 with h1 | h1
      · left
        obtain ⟨_, h1⟩ := cut_rd.mp h1
        refine cut_rd.mpr ⟨fun z => ?_, h1⟩
        have q := m a z
        rcases h1 with h1 | ⟨o, h1⟩
        · rw [h1] at q; exact q
        · rw [h1] at q; exact q
      · exact .inr h1
    · rcases h3 z with ⟨o, ws, k1, k2⟩ | k
      · left
        obtain ⟨_, k1⟩ := cut_some.mp k1
        refine ⟨o, ws, cut_some.mpr ⟨fun z => ?_, k1⟩, k2⟩
        have q := m a z
        rw [k1] at q; exact q
      · exact .inr k
theorem imm_denL {O' : Addr → Prop} (m : ∀ a, O a → Mut (H a)) : ∀ {ds : List D} {vs : List V}, immL ds = true → DenL K (cut H O') ds vs → DenL K (cut H O) ds vs
  | [], _, _, h => h
  | d :: ds, _, i, h => by
    simp only [immL, Bool.and_eq_true] at i
    obtain ⟨v, r, e, h1, h2⟩ := h
    exact ⟨v, r, e, imm_den m i.1 h1, imm_denL m i.2 h2⟩
end
/-- all that a callee may read as it stands -/
theorem R.args {ds : List D} {vs : List V} (hd : DenL K (cut H O) ds vs) (ho : ∀ a, O a → Mut (H a)) : R K O (fun _ => none) (argE false ds) (vs.map some) H ∧ Oo O (argE false ds) (vs.map some) = O := by
  have nr : ∀ c, ¬ Rt (argE false ds) (vs.map some) c := fun c ⟨i, d, o, h1, h2, _⟩ => by
    rcases (argE_get h1).2 with ⟨z, _⟩ | ⟨_, z, _⟩
    · exact h2 z
    · cases z
  have oo : Oo O (argE false ds) (vs.map some) = O := funext fun c => propext ⟨fun z => z.elim id fun z => absurd z (nr c), .inl⟩
  have no : ∀ {i : Nat} {d : D} {o : Ow}, (argE false ds)[i]? = some (some (d, o)) → o = .sh := fun h => by
    rcases (argE_get h).2 with ⟨z, _⟩ | ⟨_, z, _⟩
    · exact z
    · cases z
  refine ⟨⟨by rw [argE_length, List.length_map]; exact (denL_length hd).symm, fun i d h => ?_, fun i d o h k => absurd (no h) k, fun i j a d e o p h1 h2 => absurd (no h1) h2, ho, (fun p hp => by cases hp), (fun i d h => by have z := no h; cases z)⟩, oo⟩
  obtain ⟨x, q1, q2⟩ := denL_at hd (argE_get h).1
  refine ⟨x, by rw [List.getElem?_map, q1]; rfl, ?_⟩
  show Den K (cut H (Oo O (argE false ds) (vs.map some))) d x
  rw [oo]
  exact q2
/-- behind a call that reads alone -/
theorem call_back {O' : Addr → Prop} {ds ds' : List D} {vs : List V} {fr : Bool} (oo : Oo O' (argE false ds) (vs.map some) = O') (oo' : ∀ O' : Addr → Prop, Oo O' (argE false ds') (vs.map some) = O') (p : EPost2 K O' (fun _ => none) (argE false ds) (vs.map some) H d fr (argE false ds') v (vs.map some) H') :
    Same H H' ∧ NPost K O' H d fr v H' := by
  have sm : Bh2 K O' (fun _ => none) (argE false ds) (vs.map some) H (argE false ds') (vs.map some) H' → Same H H' := fun b c u e => by
    by_cases z : O' c
    · rw [b.outer c z]; exact e
    · have z1 : (Pb O' (argE false ds) (vs.map some) H) c = some u := cut_some.mpr ⟨by rw [oo]; exact z, e⟩
      exact (cut_some.mp (b.same _ _ z1)).2
  have s := sm p.weak.1
  refine ⟨s, s, ?_⟩
  cases fr with
  | false =>
    have q : Den K (cut H' (Oo O' (argE false ds') (vs.map some))) d v := p.2
    rw [oo'] at q
    exact q
  | true =>
    obtain ⟨a, rfl, f⟩ := p
    have q := f.own
    have e2 : Pb (plus O' a) (argE false ds') (vs.map some) H' = cut H' (plus O' a) := by
      show cut H' (Oo (plus O' a) (argE false ds') (vs.map some)) = _
      rw [oo']
    rw [e2] at q
    refine ⟨a, rfl, ?_, q⟩
    cases ha : H a with
    | none => rfl
    | some u =>
      have z1 : (Pb O' (argE false ds) (vs.map some) H) a = some u := cut_some.mpr ⟨by rw [oo]; exact f.new, ha⟩
      have z2 := f.same _ _ z1
      exact absurd (Or.inl (Or.inr rfl)) (cut_some.mp z2).1
theorem oAre_den (r : R K O fx env σ H) : ∀ {os : List Opd} {vs : List V} {ds : List D}, OAre K O env σ H os vs → derefs env os = some ds → (pkS env os).isEmpty = true → DenL K (Pb O env σ H) ds vs
  | [], _, _, h, e, _ => by cases e; exact h
  | .val d :: os, _, _, h, e, k => by
    obtain ⟨v, r', rfl, h1, h2⟩ := h
    simp only [derefs, deref] at e
    split at e
    · rename_i ds' e2
      cases e
      exact ⟨v, r', rfl, h1, oAre_den r h2 e2 k⟩
    · cases e
  | .slot i :: os, _, _, h, e, k => by
    obtain ⟨v, r', rfl, h1, h2⟩ := h
    simp only [pkS] at k
    split at k
    · rename_i d' h3
      have h4 : deref env (.slot i) = some d' := by simp [deref, h3]
      simp only [derefs, h4] at e
      split at e
      · rename_i ds' e2
        cases e
        obtain ⟨v', q1, q2⟩ := r.val i d' h3
        have h1 : σ[i]? = some (some v) := h1
        rw [h1] at q1
        cases q1
        exact ⟨v, r', rfl, q2, oAre_den r h2 e2 k⟩
      · cases e
    · cases k
theorem derefs_pk {os : List Opd} {vs : List V} {ds : List D} (r : R K O fx env σ H) (h : OAre K O env σ H os vs) (e : derefs env os = some ds) : DenL K (cut H fun c => Oo O env σ c ∧ V.ref c ∉ vs) ds vs := by
  have pk := pkL_of r h e
  have all : ∀ {ds : List D} {ws : List V}, PkL K (Oo O env σ) H ds ws → (∀ x ∈ ws, x ∈ vs) → DenL K (cut H fun c => Oo O env σ c ∧ V.ref c ∉ vs) ds ws := by
    intro ds
    induction ds with
    | nil => intro ws h _; exact h
    | cons d ds ih =>
      intro ws h hm
      obtain ⟨v, t, rfl, h1, h2⟩ := h
      have le : Le (cut H (Oo O env σ)) (cut H fun c => Oo O env σ c ∧ V.ref c ∉ vs) := Le.of_same (cut_anti fun c z => z.1)
      refine ⟨v, t, rfl, ?_, ih h2 fun x hx => hm x (List.mem_cons_of_mem _ hx)⟩
      rcases h1 with h1 | ⟨a, rfl, h1⟩
      · exact den_le le h1
      · exact h1.den le fun u hu => cut_some.mpr ⟨fun z => z.2 (hm _ List.mem_cons_self), hu⟩
  exact all pk fun x hx => hx
theorem derefs_length : ∀ {os : List Opd} {ds : List D}, derefs env os = some ds → ds.length = os.length
  | [], _, e => by cases e; rfl
  | o :: os, _, e => by
    simp only [derefs] at e
    split at e
    · split at e
      · rename_i ds' e2
        cases e
        simp [derefs_length e2]
      · cases e
    · cases e
theorem frzL_ok (r : R K O fx env σ H) : ∀ {is : List Nat} {e2 : Ev}, frzL is env = some e2 → Bh K O fx env σ H e2 H ∧ ∀ o, deref e2 o = deref env o := by
  intro is
  induction is generalizing env with
  | nil =>
    intro e2 h
    cases h
    exact ⟨Bh.refl r, fun _ => rfl⟩
  | cons i is ih =>
    intro e2 h
    simp only [frzL] at h
    split at h
    · rename_i d' h1
      obtain ⟨a, q1, q2, q3⟩ := r.freeze h1
      obtain ⟨q4, q5⟩ := ih q2.rel h
      refine ⟨q2.trans q4, fun o => (q5 o).trans ?_⟩
      cases o with
      | val _ => rfl
      | slot j =>
        simp only [deref]
        by_cases hj : j = i
        · subst hj
          rw [get_set_self h1, h1]
        · rw [get_set_ne hj]
    · exact ih r h
    · cases h
theorem derefs_congr (h : ∀ o, deref e2 o = deref env o) : ∀ os, derefs e2 os = derefs env os
  | [] => rfl
  | o :: os => by simp only [derefs, h, derefs_congr h os]
/-- constants as further arguments -/
def Consts (K : PySem.W.Frag) (dds : List D) (dvs : List V) : Prop := ∀ H, DenL K H dds dvs
theorem call_imp {F : FF} {fl : OLF} {dds : List D} {dvs : List V} {n : Nat} {Q : VK} {E : XK} (hc : Consts K dds dvs) (hn : ∀ os, (∃ e e', fl e = some (os, e')) → os.length + dvs.length = n) (h : tE K (callF F dds fl) σ H Q) : tCall (spF K false n F) dvs E (tOL K fl) σ H Q := by
  obtain ⟨O, fx, env, d, fr, env', r, e, q⟩ := h
  unfold callF at e
  split at e
  · rename_i os e1 h1
    split at e
    · rename_i ds h2
      split at e
      · rename_i d' fr' c' h3
        refine ⟨O, fx, env, os, e1, r, h1, fun vs H1 b1 a1 => ?_⟩
        have hl : (vs ++ dvs).length = n := by
          rw [List.length_append, ← hn os ⟨_, _, h1⟩, ← derefs_length h2, denL_length (derefs_pk b1.rel a1 h2)]
        have oof : ∀ (xs : List D) (O' : Addr → Prop), Oo O' (argE false xs) ((vs ++ dvs).map some) = O' := fun xs O' => funext fun c => propext ⟨fun z => z.elim id (fun ⟨i, d, o, g1, g2, _⟩ => by
          rcases (argE_get g1).2 with ⟨z, _⟩ | ⟨_, z, _⟩
          · exact absurd z g2
          · cases z), .inl⟩
        -- where what is handed over may all be read as it stands
        have direct : ∀ {e2 : Ev}, Bh K O fx env σ H e2 H1 → OAre K O e2 σ H1 os vs → derefs e2 os = some ds → (pkS e2 os).isEmpty = true → (∀ v H', EPost K O fx env σ H d' fr' e2 v H' → Q v H') → spF K false n F (vs ++ dvs) H1 Q E := fun {e2} b2 a2 g2 g3 q2 => by
          have hd : DenL K (Pb O e2 σ H1) (ds ++ dds) (vs ++ dvs) := denL_append (oAre_den b2.rel a2 g2 g3) (hc _)
          obtain ⟨ra, oo⟩ := R.args hd fun a z => b2.rel.root_mut z
          refine ⟨hl, Oo O e2 σ, fun _ => none, ds ++ dds, d', fr', c', ra, h3, fun v H' p => ?_⟩
          obtain ⟨s, np⟩ := call_back oo (oof _) p
          exact q2 v H' (bh_epost b2 (np.epost b2.rel))
        split at e
        · rename_i h4
          cases e
          exact direct b1 a1 h2 h4 q
        · split at e
          · rename_i h5
            cases e
            have mt : ∀ a, (fun c => Oo O env' σ c ∧ V.ref c ∉ vs) a → Mut (H1 a) := fun a z => b1.rel.root_mut z.1
            have hd : DenL K (cut H1 fun c => Oo O env' σ c ∧ V.ref c ∉ vs) (ds ++ dds) (vs ++ dvs) := denL_append (derefs_pk b1.rel a1 h2) (hc _)
            obtain ⟨ra, oo⟩ := R.args hd mt
            refine ⟨hl, _, fun _ => none, ds ++ dds, d, fr', c', ra, h3, fun v H' p => ?_⟩
            obtain ⟨s, np⟩ := call_back oo (oof _) p
            have dn : Den K (cut H' fun c => Oo O env' σ c ∧ V.ref c ∉ vs) d v := by
              cases fr' with
              | false => exact np.res
              | true =>
                obtain ⟨a, _, _, w⟩ := np.res
                cases d <;> first | exact w.elim | (simp [immD] at h5)
            have np2 : NPost K (Oo O env' σ) H1 d false v H' := ⟨s, imm_den (fun a z => by
              have m := b1.rel.root_mut z
              cases e : H1 a with
              | none => rw [e] at m; exact m.elim
              | some u => rw [s _ _ e]; rw [e] at m; exact m) h5 dn⟩
            exact q v H' (bh_epost b1 (np2.epost b1.rel))
          · split at e
            · rename_i e2 h6
              split at e
              · rename_i h7
                cases e
                obtain ⟨g1, g2⟩ := frzL_ok b1.rel h6
                exact direct (b1.trans g1) (OAre.le g1.same a1) ((derefs_congr g2 os).trans h2) h7 q
              · cases e
            · cases e
      · cases e
    · cases e
  · cases e
end
end PD

/-! PdF: calls that change their first argument in place; the rules for calls. -/
namespace PD
open PySem PySem.Spec PyProof.Rows L2
section
variable {K : PySem.W.Frag} {O : Addr → Prop} {fx : Nat → Option Addr} {env e1 e2 : Ev} {σ : Sl} {H H' : Hp} {d : D} {v : V}
theorem frzL_own {i : Nat} {c : D} {o : Ow} (hne : o ≠ Ow.sh) : ∀ {is : List Nat} {env e2 : Ev}, frzL is env = some e2 → e2[i]? = some (some (c, o)) → env[i]? = some (some (c, o))
  | [], env, e2, h, k => by cases h; exact k
  | j :: is, env, e2, h, k => by
    simp only [frzL] at h
    split at h
    · rename_i d h1
      have := frzL_own hne h k
      exact (get_of_set this (by intro z; cases z; exact hne rfl)).1
    · exact frzL_own hne h k
    · cases h
theorem callM_imp {F : FF} {fl : OLF} {n : Nat} {Q : VK} {E : XK} (hn : ∀ os, (∃ e e', fl e = some (os, e')) → os.length = n) (h : tE K (callM F fl) σ H Q) : tCall (spF K true n F) [] E (tOL K fl) σ H Q := by
  obtain ⟨O, fx, env, d, fr, env', r, e, q⟩ := h
  unfold callM at e
  split at e
  · rename_i i os e0 h1
    split at e
    · rename_i e1 h2
      split at e
      · rename_i h3
        split at e
        · rename_i c o ds h4 h5
          split at e
          · cases e
          · rename_i hne
            split at e
            · rename_i d' fr' c' h6
              cases e
              refine ⟨O, fx, env, _, e0, r, h1, fun vs H1 b0 a0 => ?_⟩
              obtain ⟨g1, g2⟩ := frzL_ok b0.rel h2
              have b1 := b0.trans g1
              have r1 := b1.rel
              obtain ⟨v0, vs', rfl, av, as⟩ := OAre.le g1.same a0
              obtain ⟨p, hs, hO, hw⟩ := r1.own i c o h4 hne
              have av : σ[i]? = some (some v0) := av
              rw [hs] at av
              cases av
              have hd := oAre_den r1 as h5 h3
              have hlen : (V.ref p :: vs').length = n := by
                rw [← hn _ ⟨_, _, h1⟩, List.length_cons, List.length_cons, denL_length hd, derefs_length h5]
              have hp : Oo O e1 σ p := .inr ⟨i, c, o, h4, hne, hs⟩
              -- the callee's frame
              have rtc : ∀ (x : D) (xs : List D) a, Rt (argE true (x :: xs)) ((V.ref p :: vs').map some) a ↔ a = p := fun x xs a => by
                constructor
                · rintro ⟨j, d, o', k1, k2, k3⟩
                  rcases (argE_get k1).2 with ⟨z, _⟩ | ⟨_, _, rfl⟩
                  · exact absurd z k2
                  · cases k3; rfl
                · rintro rfl
                  exact ⟨0, x, .br, rfl, by decide, rfl⟩
              have oo : ∀ (O2 : Addr → Prop) (x : D) (xs : List D), Oo O2 (argE true (x :: xs)) ((V.ref p :: vs').map some) = fun a => O2 a ∨ a = p := fun O2 x xs => funext fun a => propext (or_congr Iff.rfl (rtc x xs a))
              have oeq : (fun a => (Oo O e1 σ a ∧ a ≠ p) ∨ a = p) = Oo O e1 σ := funext fun a => propext ⟨fun z => z.elim (fun z => z.1) fun z => by rw [z]; exact hp, fun z => by
                by_cases e : a = p
                · exact .inr e
                · exact .inl ⟨z, e⟩⟩
              have pb : ∀ (x : D) (xs : List D) (H2 : Hp), Pb (fun a => Oo O e1 σ a ∧ a ≠ p) (argE true (x :: xs)) ((V.ref p :: vs').map some) H2 = cut H2 (Oo O e1 σ) := fun x xs H2 => by
                show cut H2 (Oo _ _ _) = _
                rw [oo, oeq]
              have ra : R K (fun a => Oo O e1 σ a ∧ a ≠ p) (fun j => if j = 0 then some p else none) (argE true (c :: ds)) ((V.ref p :: vs').map some) H1 := by
                refine ⟨by rw [argE_length, List.length_map, List.length_cons, List.length_cons, denL_length hd], fun j d k => ?_, fun j d o' k1 k2 => ?_, fun j k b d' e' o' p' k1 k2 k3 k4 k5 k6 => ?_, fun a z => r1.root_mut z.1, fun x hx => ?_, fun j d k => ?_⟩
                · rw [pb]
                  obtain ⟨k1, k2⟩ := argE_get k
                  rcases k2 with ⟨_, z | z⟩ | ⟨z, _⟩
                  · cases z
                  · cases j with
                    | zero => exact absurd rfl z
                    | succ j =>
                      obtain ⟨x, q1, q2⟩ := denL_at hd (by simpa using k1)
                      exact ⟨x, by simp [q1], q2⟩
                  · cases z
                · rw [pb]
                  rcases (argE_get k1).2 with ⟨z, _⟩ | ⟨_, _, rfl⟩
                  · exact absurd z k2
                  · have z := (argE_get k1).1
                    cases z
                    exact ⟨p, rfl, fun z => z.2 rfl, hw⟩
                · rcases (argE_get k1).2 with ⟨z, _⟩ | ⟨_, _, rfl⟩
                  · exact absurd z k2
                  · rcases (argE_get k3).2 with ⟨z, _⟩ | ⟨_, _, rfl⟩
                    · exact absurd z k4
                    · rfl
                · obtain ⟨x1, x2⟩ := x
                  by_cases z : x1 = 0
                  · subst z
                    have hx : some p = some x2 := hx
                    cases hx
                    exact ⟨c, rfl, rfl⟩
                  · have hx : (if x1 = 0 then some p else none) = some x2 := hx
                    rw [if_neg z] at hx
                    cases hx
                · rcases (argE_get k).2 with ⟨z, _⟩ | ⟨_, _, rfl⟩
                  · cases z
                  · exact ⟨p, rfl⟩
              show spF K true n F ((V.ref p :: vs') ++ []) H1 Q E
              rw [List.append_nil]
              refine ⟨hlen, _, _, c :: ds, d, fr, c', ra, h6, fun v H' pp => ?_⟩
              have pp : EPost2 K (fun a => Oo O e1 σ a ∧ a ≠ p) (fun j => if j = 0 then some p else none) (argE true (c :: ds)) ((V.ref p :: vs').map some) H1 d fr (argE true (c' :: ds)) v ((V.ref p :: vs').map some) H' := pp
              have bh := pp.weak.1
              have hsame : ∀ a u, ¬ Oo O e1 σ a → H1 a = some u → H' a = some u := fun a u z k => by
                have z1 : Pb (fun a => Oo O e1 σ a ∧ a ≠ p) (argE true (c :: ds)) ((V.ref p :: vs').map some) H1 a = some u := by
                  rw [pb]
                  exact cut_some.mpr ⟨z, k⟩
                exact (cut_some.mp (bh.same _ _ z1)).2
              obtain ⟨p', q1, q2, ow'⟩ := bh.rel.own 0 c' .br rfl (by decide)
              cases q1
              rw [pb] at ow'
              obtain ⟨u, hu, mu⟩ := ow'.ex
              -- the heap but for the first argument
              generalize hH2 : (fun a => if a = p then H1 a else H' a : Hp) = H2
              have e2p : H2 p = H1 p := by rw [← hH2]; exact if_pos rfl
              have e2n : ∀ a, a ≠ p → H2 a = H' a := fun a z => by rw [← hH2]; exact if_neg z
              have sm : Same H1 H2 := fun a x k => by
                by_cases z : a = p
                · rw [z, e2p]; rw [z] at k; exact k
                · rw [e2n a z]
                  by_cases y : Oo O e1 σ a
                  · rw [bh.outer a ⟨y, z⟩]; exact k
                  · exact hsame a x y k
              have e3 : upd H2 p u = H' := by
                funext a
                by_cases z : a = p
                · rw [z, upd_same, hu]
                · rw [upd_ne z, e2n a z]
              have cute : ∀ O2 : Addr → Prop, O2 p → cut H2 O2 = cut H' O2 := fun O2 hO2 => by
                funext a
                unfold cut
                by_cases z : O2 a
                · rw [if_pos z, if_pos z]
                · rw [if_neg z, if_neg z]
                  exact e2n a fun y => z (y ▸ hO2)
              have b2 := b1.trans (r1.grown sm)
              cases fr with
              | false =>
                have bm : Bh2 K O fx e1 σ H2 (e1.set i (some (c', o))) σ (upd H2 p u) := b2.rel.mutate h4 hne hs (by
                  show OwnAt K (cut H2 (Oo O e1 σ)) (upd H2 p u) p c'
                  rw [e3, cute _ hp]
                  exact ow')
                rw [e3] at bm
                refine q v H' ⟨b2.trans bm, den_le (Le.of_same bm.same) ?_⟩
                have z := pp.2
                rw [pb] at z
                show Den K (cut H2 (Oo O e1 σ)) d v
                rw [cute _ hp]
                exact z
              | true =>
                obtain ⟨a, rfl, f⟩ := pp
                have hap : a ≠ p := fun z => by
                  obtain ⟨p', q1, q2, _⟩ := f.rel.own 0 c' .br rfl (by decide)
                  cases q1
                  exact q2 (.inr z.symm)
                have pb2 : Pb (plus (fun a => Oo O e1 σ a ∧ a ≠ p) a) (argE true (c' :: ds)) ((V.ref p :: vs').map some) H' = cut H' (plus (Oo O e1 σ) a) := by
                  show cut H' (Oo _ _ _) = _
                  rw [oo]
                  have : (fun b => plus (fun a => Oo O e1 σ a ∧ a ≠ p) a b ∨ b = p) = plus (Oo O e1 σ) a := funext fun b => propext (by
                    unfold plus
                    constructor
                    · rintro ((z | z) | z)
                      · exact .inl z.1
                      · exact .inr z
                      · exact .inl (z ▸ hp)
                    · rintro (z | z)
                      · by_cases y : b = p
                        · exact .inr y
                        · exact .inl (.inl ⟨z, y⟩)
                      · exact .inl (.inr z))
                  rw [this]
                have hno : ¬ Oo O e1 σ a := fun z => f.new ⟨z, hap⟩
                have h1a : H1 a = none := by
                  cases k : H1 a with
                  | none => rfl
                  | some x =>
                    have z1 : Pb (fun a => Oo O e1 σ a ∧ a ≠ p) (argE true (c :: ds)) ((V.ref p :: vs').map some) H1 a = some x := by
                      rw [pb]
                      exact cut_some.mpr ⟨hno, k⟩
                    have z2 := f.same _ _ z1
                    rw [pb2] at z2
                    exact absurd (Or.inr rfl) (cut_some.mp z2).1
                have own2 := f.own
                rw [pb2] at own2
                have np : NPost K (Oo O e1 σ) H1 d true (.ref a) H2 := ⟨sm, a, rfl, h1a, by
                  rw [cute _ (.inl hp)]
                  exact own2.mono (Le.refl _) (e2n a hap)⟩
                obtain ⟨a', ea, f2⟩ := np.epost r1
                cases ea
                have po : Pb (plus O a) e1 σ H2 = cut H' (plus (Oo O e1 σ) a) := by
                  show cut H2 (Oo (plus O a) e1 σ) = _
                  rw [show Oo (plus O a) e1 σ = plus (Oo O e1 σ) a from funext fun b => propext plus_oo]
                  exact cute _ (.inl hp)
                obtain ⟨p', q1, q2, ow2⟩ := f.rel.own 0 c' .br rfl (by decide)
                cases q1
                rw [pb2] at ow2
                have bm : Bh2 K (plus O a) fx e1 σ H2 (e1.set i (some (c', o))) σ (upd H2 p u) := f2.rel.mutate h4 hne hs (by
                  rw [e3, po]
                  exact ow2)
                rw [e3] at bm
                refine q _ H' ⟨a, rfl, f2.new, bm.rel, b1.same.trans (f2.same.trans bm.same), fun b z => (bm.outer b (.inl z)).trans ((f2.outer b z).trans (b1.outer b z)), ?_⟩
                have own3 : OwnAt K (Pb (plus O a) e1 σ H2) H' a d := by rw [po]; exact own2
                exact own3.mono (Le.of_same bm.same) rfl
            · cases e
        · cases e
      · cases e
    · cases e
  · cases e
end

/-- the number of operands -/
def Len (fl : OLF) (n : Nat) : Prop := ∀ os, (∃ e e', fl e = some (os, e')) → os.length = n
theorem len_nil : Len nilO 0 := fun os ⟨e, e', h⟩ => by cases h; rfl
theorem len_cons {f : OF} {fl : OLF} {n : Nat} (h : Len fl n) : Len (consO f fl) (n + 1) := fun os ⟨e, e', k⟩ => by
  unfold consO at k
  split at k
  · split at k
    · rename_i os' e2 h2
      cases k
      simp [h _ ⟨_, _, h2⟩]
    · cases k
  · cases k
theorem binds_consts {K : PySem.W.Frag} : Consts K [] [] := fun _ => rfl

/-- what is known of a def of the program, for its calls -/
structure Kn (X : Cx) (x : Str) (b : Bool) (n : Nat) (dds : List D) (F : FF) : Prop where
  ex : ∃ (k : Nat) (f : Addr) (fd : FuncData) (ps : List Str) (ds : List Value) (dvs : List V), FnOk X.prog X.w X.K X.mg X.base CX0 k f fd ps (spF X.K b n F) ∧ Room k X.A ∧ X.mg x = some (.ref f) ∧ PySem.W.keepIn X.K (.ref f) = true ∧ Binds X.K fd ps ds ∧ Vals dvs ds ∧ Consts X.K dds dvs ∧ dvs.length = dds.length
section
variable {X : Cx} {x : Str} {p pos : Pos} {e : Expr} {es : List Expr} {fl : OLF} {F : FF} {n m : Nat} {dds : List D}
theorem se_call (Kx : Kn X x false n dds F) (hg : Gl X x) (ha : SOL X fl (e :: es)) (hl : Len fl m) (hm : m + dds.length = n) (hdb : (x == ("__debug__" : Str)) = false := by decide)
    (he : starEach (e :: es) X.env = (false, eval e X.env) :: starEach es X.env := by rfl) (hpl : (backTo pos (starEach es X.env)).any (·.1) = false := by rfl) : SE X (callF F dds fl) (.Call (.Name x p) (e :: es) [] pos) := by
  obtain ⟨k, f, fd, ps, ds, dvs, F', hr, hmg, hk, hb, hd, hc, hcl⟩ := Kx.ex
  exact (pe_call F' hr hg hmg hk hb hd pass0 ha hdb he hpl).imp fun _ _ _ h => call_imp hc (fun os z => by rw [hl os z, hcl]; exact hm) h
theorem se_call0 (Kx : Kn X x false n dds F) (hg : Gl X x) (hm : dds.length = n) (hdb : (x == ("__debug__" : Str)) = false := by decide) : SE X (callF F dds nilO) (.Call (.Name x p) [] [] pos) := by
  obtain ⟨k, f, fd, ps, ds, dvs, F', hr, hmg, hk, hb, hd, hc, hcl⟩ := Kx.ex
  exact (pe_call0 F' hr hg hmg hk hb hd pass0 hdb).imp fun σ H Q h => by
    have z := call_imp (E := E0) (dvs := dvs) (n := n) hc (fun os z => by rw [len_nil os z, hcl, hm]; simp) h
    exact nilO_imp (K := X.K) (Q := fun vs H1 => spF X.K false n F (vs ++ dvs) H1 Q E0) z
theorem se_callM (Kx : Kn X x true n [] F) (hg : Gl X x) (ha : SOL X fl (e :: es)) (hl : Len fl n) (hdb : (x == ("__debug__" : Str)) = false := by decide)
    (he : starEach (e :: es) X.env = (false, eval e X.env) :: starEach es X.env := by rfl) (hpl : (backTo pos (starEach es X.env)).any (·.1) = false := by rfl) : SE X (callM F fl) (.Call (.Name x p) (e :: es) [] pos) := by
  obtain ⟨k, f, fd, ps, ds, dvs, F', hr, hmg, hk, hb, hd, hc, hcl⟩ := Kx.ex
  have : dvs = [] := List.length_eq_zero_iff.mp hcl
  subst this
  exact (pe_call F' hr hg hmg hk hb hd pass0 ha hdb he hpl).imp fun _ _ _ h => callM_imp hl h
end
end PD

/-! PdG: operators on data. -/
namespace PD
open PySem PySem.Spec PyProof.Rows L2

/-! ### data as the library reads it -/
section
variable {X : Cx} {pins : List (Addr × Obj)} {σ : Sl} {H : Hp} {s : Shared}
mutual
theorem den_reads (I : Inv X pins σ H s) : ∀ {d : D} {v : V} {u : Value}, d.plain = true → Den X.K H d v → RelV v u → ∃ as, Reads s.heap u d as
  | .none, _, _, _, h, r => by cases h; cases r; exact ⟨_, .none⟩
  | .bool b, _, _, _, h, r => by cases h; cases r; exact ⟨_, .bool b⟩
  | .int i, _, _, _, h, r => by cases h; obtain ⟨t, rfl⟩ := r; exact ⟨_, .int i t⟩
  | .str i, _, _, _, h, r => by cases h; obtain ⟨t, rfl⟩ := r; exact ⟨_, .str i t⟩
  | .dict _, _, _, p, _, _ => by simp [PyData.plain] at p
  | .list ds, _, _, p, h, r => by
    obtain ⟨a, vs, rfl, h1, h2⟩ := h
    cases r
    obtain ⟨its, rv, ⟨o, n, e1, e2, _, e3⟩, _⟩ := I.list h1
    obtain ⟨as, ra⟩ := denL_reads I (by simpa [PyData.plain] using p) h2 rv
    exact ⟨_, .list e1 e2 e3 ra⟩
  | .tuple ds, _, _, p, h, r => by
    obtain ⟨a, vs, rfl, h1, h2, _⟩ := h
    cases r
    obtain ⟨its, rv, ⟨o, e1, e2, n, e3⟩, _⟩ := I.tuple h1
    obtain ⟨as, ra⟩ := denL_reads I (by simpa [PyData.plain] using p) h2 rv
    exact ⟨_, .tuple e1 e2 e3 ra⟩
theorem denL_reads (I : Inv X pins σ H s) : ∀ {ds : List D} {vs : List V} {us : List Value}, PyData.plainAll ds = true → DenL X.K H ds vs → Vals vs us → ∃ as, ReadsAll s.heap us ds as
  | [], _, _, _, h, r => by cases h; cases r; exact ⟨_, .nil⟩
  | d :: ds, _, _, p, h, r => by
    obtain ⟨v, t, rfl, h1, h2⟩ := h
    simp only [PyData.plainAll, Bool.and_eq_true] at p
    cases r with
    | cons r1 r2 =>
      obtain ⟨as, ra⟩ := den_reads I p.1 h1 r1
      obtain ⟨bs, rb⟩ := denL_reads I p.2 h2 r2
      exact ⟨_, .cons ra rb⟩
end
theorem pk_den {K : PySem.W.Frag} {O : Addr → Prop} {d : D} {v : V} (h : Pk K O H d v) : Den K H d v := by
  rcases h with h | ⟨a, rfl, h⟩
  · exact den_le cut_le h
  · exact h.den cut_le fun u hu => hu
theorem pk_reads (I : Inv X pins σ H s) {O : Addr → Prop} {d : D} {v : V} {u : Value} (p : d.plain = true) (h : Pk X.K O H d v) (r : RelV v u) : ∃ as, Reads s.heap u d as := den_reads I p (pk_den h) r
end

/-! ### operations of two -/
abbrev G1 := D → Option (D × Bool)
abbrev G2 := D → D → Option (D × Bool)
def g1 (f : G1) : List D → Option (D × Bool)
  | [a] => f a
  | _ => none
def g2 (f : G2) : List D → Option (D × Bool)
  | [a, b] => f a b
  | _ => none
section
variable {K : PySem.W.Frag} {H : Hp} {x y : V} {Q : VK}
theorem rD1_elim {f : G1} (h : rD K (g1 f) [x] H Q) : ∃ O a d fr, (∀ a, O a → Mut (H a)) ∧ Pk K O H a x ∧ f a = some (d, fr) ∧ ∀ v H', NPost K O H d fr v H' → Q v H' := by
  obtain ⟨O, ds, d, fr, m, pk, e, q⟩ := h
  match ds, e, pk with
  | [a], e, pk =>
    obtain ⟨v, r, e1, p1, p2⟩ := pk
    cases e1
    exact ⟨O, a, d, fr, m, p1, e, q⟩
theorem rD2_elim {f : G2} (h : rD2 K (g2 f) x y H Q) : ∃ O a b d fr, (∀ a, O a → Mut (H a)) ∧ Pk K O H a x ∧ Pk K O H b y ∧ f a b = some (d, fr) ∧ ∀ v H', NPost K O H d fr v H' → Q v H' := by
  obtain ⟨O, ds, d, fr, m, pk, e, q⟩ := h
  match ds, e, pk with
  | [a, b], e, pk =>
    obtain ⟨v, r, e1, p1, p2⟩ := pk
    obtain ⟨v', r', e2, p3, p4⟩ := p2
    cases e1; cases e2; cases p4
    exact ⟨O, a, b, d, fr, m, p1, p3, e, q⟩
variable {O : Addr → Prop}
theorem np_val {d : D} {v : V} (h : ∀ H, Den K H d v) : NPost K O H d false v H := ⟨Same.refl _, h _⟩
theorem np_den {d : D} {v : V} (h : Den K (cut H O) d v) : NPost K O H d false v H := ⟨Same.refl _, h⟩
theorem same_new' {p : Addr} {u : HO} (h : H p = none) : Same H (upd H p u) := fun b x e => by rw [upd_ne (ne_of_none e h)]; exact e
theorem np_list {p : Addr} {ds : List D} {vs : List V} (h : H p = none) (hd : DenL K (cut H O) ds vs) : NPost K O H (.list ds) true (.ref p) (upd H p (.lst vs)) :=
  ⟨same_new' h, p, rfl, h, vs, upd_same, denL_le (Le.of_same (cut_same (same_new' h) fun a na z => z.elim id fun e => absurd (e ▸ h) na)) hd⟩
theorem np_tup {ds : List D} {vs : List V} {Q : VK} (m : ∀ a, O a → Mut (H a)) (hd : DenL K (cut H O) ds vs) (q : ∀ v H', NPost K O H (.tuple ds) false v H' → Q v H') : NewT H vs Q := fun p o h ho =>
  have hp : cut (upd H p (.frz o (.tup vs))) O p = some (.frz o (.tup vs)) := cut_some.mpr ⟨fun z => mut_ne (m p z) h, upd_same⟩
  q _ _ ⟨same_new' h, p, vs, rfl, .inl (.inr ⟨o, hp⟩), denL_le (Le.of_same (cut_same (same_new' h) fun _ _ z => z)) hd, fun _ => .inl ⟨o, vs, hp, ho⟩⟩
end

section
variable {X : Cx}
/-! #### == and != -/
def eqD (a b : D) : Option (D × Bool) := if a.plain && b.plain && decide (a.depth ≤ 60) then some (.bool (PyData.eqv a b), false) else none
def neD (a b : D) : Option (D × Bool) := if a.plain && b.plain && decide (a.depth ≤ 60) then some (.bool (!PyData.eqv a b), false) else none
theorem or_eq (hu : X.A.units + 64 < cLine) : OpR X (compareOp .Eq) (rD2 X.K (g2 eqD)) := by
  intro pins s σ H x y v u Q I rx ry h
  obtain ⟨O, a, b, d, fr, m, p1, p2, e, q⟩ := rD2_elim h
  unfold eqD at e
  split at e
  · rename_i c
    cases e
    simp only [Bool.and_eq_true, decide_eq_true_eq] at c
    obtain ⟨as, ra⟩ := pk_reads I c.1.1 p1 rx
    obtain ⟨bs, rb⟩ := pk_reads I c.1.2 p2 ry
    refine SeqAt.eq_plain ra rb c.1.1 c.1.2 ?_ ⟨.bl _, H, I, rfl, q _ _ (np_val fun _ => rfl)⟩
    have := Nat.min_le_left a.depth b.depth
    omega
  · cases e
theorem or_ne (hu : X.A.units + 64 < cLine) : OpR X (compareOp .NotEq) (rD2 X.K (g2 neD)) := by
  intro pins s σ H x y v u Q I rx ry h
  obtain ⟨O, a, b, d, fr, m, p1, p2, e, q⟩ := rD2_elim h
  unfold neD at e
  split at e
  · rename_i c
    cases e
    simp only [Bool.and_eq_true, decide_eq_true_eq] at c
    obtain ⟨as, ra⟩ := pk_reads I c.1.1 p1 rx
    obtain ⟨bs, rb⟩ := pk_reads I c.1.2 p2 ry
    refine SeqAt.ne_plain ra rb c.1.1 c.1.2 ?_ ⟨.bl _, H, I, rfl, q _ _ (np_val fun _ => rfl)⟩
    have := Nat.min_le_left a.depth b.depth
    omega
  · cases e
/-! #### order of ints -/
def ltD : G2
  | .int a, .int b => some (.bool (decide (a < b)), false)
  | _, _ => none
def leD : G2
  | .int a, .int b => some (.bool (decide (a ≤ b)), false)
  | _, _ => none
def gtD : G2
  | .int a, .int b => some (.bool (decide (b < a)), false)
  | _, _ => none
def geD : G2
  | .int a, .int b => some (.bool (decide (b ≤ a)), false)
  | _, _ => none
/-- an operation of two ints -/
theorem or_int {op : Value → Value → Sem Value} {C : Int → Int → Prop} {f : Int → Int → V} {G : Int → Int → D} {g : G2} (ho : OpR X op (rI C f)) (hg : ∀ a b r, g a b = some r → ∃ i j, a = .int i ∧ b = .int j ∧ C i j ∧ r = (G i j, false)) (hd : ∀ K H i j, Den K H (G i j) (f i j)) : OpR X op (rD2 X.K (g2 g)) := by
  intro pins s σ H x y v u Q I rx ry h
  obtain ⟨O, a, b, d, fr, m, p1, p2, e, q⟩ := rD2_elim h
  obtain ⟨i, j, rfl, rfl, hC, er⟩ := hg _ _ _ e
  cases er
  obtain rfl := pk_int p1
  obtain rfl := pk_int p2
  exact ho pins s σ H _ _ v u Q I rx ry ⟨i, j, rfl, rfl, hC, q _ _ (np_val fun _ => hd _ _ _ _)⟩
theorem or_int0 {op : Value → Value → Sem Value} {f : Int → Int → V} {G : Int → Int → D} {g : G2} (ho : OpR X op (rI0 f)) (hg : ∀ a b r, g a b = some r → ∃ i j, a = .int i ∧ b = .int j ∧ r = (G i j, false)) (hd : ∀ K H i j, Den K H (G i j) (f i j)) : OpR X op (rD2 X.K (g2 g)) := by
  intro pins s σ H x y v u Q I rx ry h
  obtain ⟨O, a, b, d, fr, m, p1, p2, e, q⟩ := rD2_elim h
  obtain ⟨i, j, rfl, rfl, er⟩ := hg _ _ _ e
  cases er
  obtain rfl := pk_int p1
  obtain rfl := pk_int p2
  exact ho pins s σ H _ _ v u Q I rx ry ⟨i, j, rfl, rfl, q _ _ (np_val fun _ => hd _ _ _ _)⟩
theorem int2_elim {G : Int → Int → D} {a b : D} {r : D × Bool} (h : (match a, b with | .int i, .int j => some (G i j, false) | _, _ => none : Option (D × Bool)) = some r) : ∃ i j, a = .int i ∧ b = .int j ∧ r = (G i j, false) := by
  split at h
  · cases h; exact ⟨_, _, rfl, rfl, rfl⟩
  · cases h
theorem or_lt : OpR X (compareOp .Lt) (rD2 X.K (g2 ltD)) := or_int0 op_lt (G := fun i j => .bool (decide (i < j))) (fun a b r h => int2_elim h) fun _ _ _ _ => rfl
theorem or_le : OpR X (compareOp .LtE) (rD2 X.K (g2 leD)) := or_int0 op_le (G := fun i j => .bool (decide (i ≤ j))) (fun a b r h => int2_elim h) fun _ _ _ _ => rfl
theorem or_gt : OpR X (compareOp .Gt) (rD2 X.K (g2 gtD)) := or_int0 op_gt (G := fun i j => .bool (decide (j < i))) (fun a b r h => int2_elim h) fun _ _ _ _ => rfl
theorem or_ge : OpR X (compareOp .GtE) (rD2 X.K (g2 geD)) := or_int0 op_ge (G := fun i j => .bool (decide (j ≤ i))) (fun a b r h => int2_elim h) fun _ _ _ _ => rfl
/-! #### arithmetic -/
def subD : G2
  | .int a, .int b => some (.int (a - b), false)
  | _, _ => none
def mulD : G2
  | .int a, .int b => if (-18446744073709551616 < a ∧ a < 18446744073709551616) ∨ (-18446744073709551616 < b ∧ b < 18446744073709551616) then some (.int (a * b), false) else none
  | _, _ => none
def modD : G2
  | .int a, .int b => if 0 < b then some (.int (a % b), false) else none
  | _, _ => none
def fdivD : G2
  | .int a, .int b => if 0 < b ∧ b < 1073741824 then some (.int (a / b), false) else none
  | _, _ => none
def powD : G2
  | .int a, .int b => if 0 ≤ b ∧ b ≤ 1000000 ∧ a.natAbs < 18446744073709551616 then some (.int (a ^ b.toNat), false) else none
  | _, _ => none
theorem int2_elimC {C : Int → Int → Prop} [∀ i j, Decidable (C i j)] {G : Int → Int → D} {a b : D} {r : D × Bool} (h : (match a, b with | .int i, .int j => if C i j then some (G i j, false) else none | _, _ => none : Option (D × Bool)) = some r) : ∃ i j, a = .int i ∧ b = .int j ∧ C i j ∧ r = (G i j, false) := by
  split at h
  · split at h
    · rename_i c
      cases h; exact ⟨_, _, rfl, rfl, c, rfl⟩
    · cases h
  · cases h
theorem or_sub : OpR X (binaryOp .Sub) (rD2 X.K (g2 subD)) := or_int0 op_sub (G := fun i j => .int (i - j)) (fun a b r h => int2_elim h) fun _ _ _ _ => rfl
theorem or_mul : OpR X (binaryOp .Mult) (rD2 X.K (g2 mulD)) := or_int op_mul (G := fun i j => .int (i * j)) (fun a b r h => by
  obtain ⟨i, j, e1, e2, c, e3⟩ := int2_elimC (C := fun a b => (-18446744073709551616 < a ∧ a < 18446744073709551616) ∨ (-18446744073709551616 < b ∧ b < 18446744073709551616)) h
  exact ⟨i, j, e1, e2, by unfold CMul; exact c, e3⟩) fun _ _ _ _ => rfl
theorem or_mod : OpR X (binaryOp .Mod) (rD2 X.K (g2 modD)) := or_int op_mod (G := fun i j => .int (i % j)) (fun a b r h => int2_elimC (C := fun _ b => 0 < b) h) fun _ _ _ _ => rfl
theorem or_fdiv : OpR X (binaryOp .FloorDiv) (rD2 X.K (g2 fdivD)) := or_int op_fdiv (G := fun i j => .int (i / j)) (fun a b r h => int2_elimC (C := fun _ b => 0 < b ∧ b < 1073741824) h) fun _ _ _ _ => rfl
theorem or_pow : OpR X (binaryOp .Pow) (rD2 X.K (g2 powD)) := or_int op_pow (G := fun i j => .int (i ^ j.toNat)) (fun a b r h => by
  obtain ⟨i, j, e1, e2, c, e3⟩ := int2_elimC (C := fun a b => 0 ≤ b ∧ b ≤ 1000000 ∧ a.natAbs < 18446744073709551616) h
  exact ⟨i, j, e1, e2, c, e3⟩) fun _ _ _ _ => rfl
def negD : G1
  | .int a => some (.int (-a), false)
  | _ => none
theorem ur_neg : UnR X (unaryOp .USub) (rD1 X.K (g1 negD)) := by
  intro pins s σ H x v Q I rx h
  obtain ⟨O, a, d, fr, m, p1, e, q⟩ := rD1_elim h
  unfold negD at e
  split at e
  · cases e
    obtain rfl := pk_int p1
    exact un_neg pins s σ H _ v Q I rx ⟨_, rfl, q _ _ (np_val fun _ => rfl)⟩
  · cases e
/-! #### + -/
def addD : G2
  | .int a, .int b => some (.int (a + b), false)
  | .str a, .str b => if a.length + b.length ≤ sizeLine then some (.str (a ++ b), false) else none
  | .list a, .list b => if a.length + b.length ≤ sizeLine then some (.list (a ++ b), true) else none
  | .tuple a, .tuple b => if a.length + b.length ≤ sizeLine then some (.tuple (a ++ b), false) else none
  | _, _ => none
theorem op_catL : OpR X (binaryOp .Add) (fun x y H Q => ∃ l b xs zs, x = .ref l ∧ y = .ref b ∧ SqL X.K H l xs ∧ SqL X.K H b zs ∧ xs.length + zs.length ≤ sizeLine ∧ ∀ p, H p = none → Q (.ref p) (upd H p (.lst (xs ++ zs)))) := by
  intro pins s σ H x y v u Q I rx ry h
  obtain ⟨l, b, xs, zs, rfl, rfl, hH, hB, hz, q⟩ := h
  cases rx
  cases ry
  obtain ⟨its, r, ⟨o, n, ho, hc, hdd, hd⟩, _⟩ := I.list hH
  obtain ⟨its2, r2, ⟨o2, n2, ho2, hc2, hdd2, hd2⟩, _⟩ := I.list hB
  obtain ⟨cls, dd, data, sl⟩ := o
  obtain ⟨cls2, dd2, data2, sl2⟩ := o2
  simp only at hc hd hc2 hd2
  subst hc hd hc2 hd2
  have e : its.toArray ++ its2.toArray = (its ++ its2).toArray := by simp
  have hz' : its.toArray.size + its2.toArray.size ≤ sizeLine := by rw [List.size_toArray, List.size_toArray, ← r.length, ← r2.length]; exact hz
  refine concat_meets ⟨_, ho, rfl⟩ ⟨_, ho2, rfl⟩ noFill_list_add seq_list_add PySem.F.slot_list_add PySem.F.entry_list_add (PySem.F.args_list_add_2 _ _) (list_addW l b its.toArray its2.toArray n n2 dd dd2 sl sl2 hz') ⟨ho, ho2, ?_⟩
  rw [e]
  refine ⟨.ref s.heap.objs.size, _, I.laid (t' := s.toks) (o := .lst (xs ++ zs)) (fun b ob q => Heap.get?_push_of_some _ q) (Nat.le_refl _) ?_, rfl, q _ (I.hok.fresh (Nat.le_refl _))⟩
  exact ⟨by rw [List.length_append]; exact hz, its ++ its2, 0, r.append r2, Heap.get?_push_size _ rfl⟩
theorem or_add : OpR X (binaryOp .Add) (rD2 X.K (g2 addD)) := by
  intro pins s σ H x y v u Q I rx ry h
  obtain ⟨O, a, b, d, fr, m, p1, p2, e, q⟩ := rD2_elim h
  unfold addD at e
  split at e
  · cases e
    obtain rfl := pk_int p1
    obtain rfl := pk_int p2
    exact op_add pins s σ H _ _ v u Q I rx ry ⟨_, _, rfl, rfl, q _ _ (np_val fun _ => rfl)⟩
  · split at e
    · rename_i hz
      cases e
      obtain rfl := pk_str p1
      obtain rfl := pk_str p2
      exact op_add_str pins s σ H _ _ v u Q I rx ry ⟨_, _, rfl, rfl, hz, q _ _ (np_val fun _ => rfl)⟩
    · cases e
  · split at e
    · rename_i hz
      cases e
      obtain ⟨a, vs, rfl, h1, h2⟩ := pk_list p1
      obtain ⟨b, ws, rfl, h3, h4⟩ := pk_list p2
      exact op_catL pins s σ H _ _ v u Q I rx ry ⟨a, b, vs, ws, rfl, rfl, h1, h3, by rw [denL_length h2, denL_length h4]; exact hz, fun p hp => q _ _ (np_list hp (denL_append h2 h4))⟩
    · cases e
  · rename_i as bs
    split at e
    · rename_i hz
      cases e
      obtain ⟨a, vs, rfl, h1, h2⟩ := pk_tuple p1
      obtain ⟨b, ws, rfl, h3, h4⟩ := pk_tuple p2
      have d1 : ∀ {d : D} {w : V}, d = d → Den X.K (cut H O) d w → NPost X.K O H d false w H := fun _ h => np_den h
      have k1 : Den X.K (cut H O) (.tuple _) (.ref a) := p1.elim id fun ⟨_, _, z⟩ => z.elim
      have k2 : Den X.K (cut H O) (.tuple _) (.ref b) := p2.elim id fun ⟨_, _, z⟩ => z.elim
      refine op_catF pins s σ H _ _ v u Q I rx ry ⟨a, b, vs, ws, rfl, rfl, h1, h3, by rw [denL_length h2, denL_length h4]; exact hz, fun z => ?_, fun _ z => ?_, fun _ _ => np_tup m (denL_append h2 h4) q⟩
      · subst z
        have := denL_length h2
        obtain rfl : as = [] := List.length_eq_zero_iff.mp this.symm
        exact q _ _ (np_den k2)
      · subst z
        have := denL_length h4
        obtain rfl : bs = [] := List.length_eq_zero_iff.mp this.symm
        rw [List.append_nil] at q
        exact q _ _ (np_den k1)
    · cases e
  · cases e
/-! #### is, is not: None, truth values -/
def isD : G2
  | .bool a, .bool b => some (.bool (decide (a = b)), false)
  | .none, .none => some (.bool true, false)
  | .none, .bool _ => none
  | .bool _, .none => some (.bool false, false)
  | .int _, .none => some (.bool false, false)
  | .str _, .none => some (.bool false, false)
  | .list _, .none => some (.bool false, false)
  | .tuple _, .none => some (.bool false, false)
  | .dict _, .none => some (.bool false, false)
  | _, _ => none
def isntD : G2 := fun a b => match isD a b with
  | some (.bool k, _) => some (.bool (!k), false)
  | _ => none
theorem pk_ref {K : PySem.W.Frag} {O : Addr → Prop} {H : Hp} {d : D} {v : V} (h : Pk K O H d v) (hd : (∃ l, d = .list l) ∨ (∃ l, d = .tuple l) ∨ ∃ l, d = .dict l) : ∃ a, v = .ref a := by
  rcases hd with ⟨l, rfl⟩ | ⟨l, rfl⟩ | ⟨l, rfl⟩
  · obtain ⟨a, _, e, _⟩ := pk_list h; exact ⟨a, e⟩
  · obtain ⟨a, _, e, _⟩ := pk_tuple h; exact ⟨a, e⟩
  · obtain ⟨a, _, e, _⟩ := pk_dict h; exact ⟨a, e⟩
theorem is_cases {K : PySem.W.Frag} {O : Addr → Prop} {H : Hp} {a b : D} {x y : V} {r : D × Bool} (p1 : Pk K O H a x) (p2 : Pk K O H b y) (h : isD a b = some r) :
    (∃ i j : Bool, x = .bl i ∧ y = .bl j ∧ r = (.bool (decide (i = j)), false)) ∨ (y = .non ∧ r = (.bool (decide (x = .non)), false)) := by
  cases a with
  | bool i =>
    obtain rfl := pk_bool p1
    cases b with
    | bool j =>
      obtain rfl := pk_bool p2
      cases h
      exact .inl ⟨i, j, rfl, rfl, rfl⟩
    | none =>
      obtain rfl := pk_none p2
      cases h
      exact .inr ⟨rfl, rfl⟩
    | _ => cases h
  | none =>
    obtain rfl := pk_none p1
    cases b with
    | none =>
      obtain rfl := pk_none p2
      cases h
      exact .inr ⟨rfl, rfl⟩
    | _ => cases h
  | int i =>
    obtain rfl := pk_int p1
    cases b with
    | none =>
      obtain rfl := pk_none p2
      cases h
      exact .inr ⟨rfl, rfl⟩
    | _ => cases h
  | str i =>
    obtain rfl := pk_str p1
    cases b with
    | none =>
      obtain rfl := pk_none p2
      cases h
      exact .inr ⟨rfl, rfl⟩
    | _ => cases h
  | list i =>
    obtain ⟨a, rfl⟩ := pk_ref p1 (.inl ⟨_, rfl⟩)
    cases b with
    | none =>
      obtain rfl := pk_none p2
      cases h
      exact .inr ⟨rfl, rfl⟩
    | _ => cases h
  | tuple i =>
    obtain ⟨a, rfl⟩ := pk_ref p1 (.inr (.inl ⟨_, rfl⟩))
    cases b with
    | none =>
      obtain rfl := pk_none p2
      cases h
      exact .inr ⟨rfl, rfl⟩
    | _ => cases h
  | dict i =>
    obtain ⟨a, rfl⟩ := pk_ref p1 (.inr (.inr ⟨_, rfl⟩))
    cases b with
    | none =>
      obtain rfl := pk_none p2
      cases h
      exact .inr ⟨rfl, rfl⟩
    | _ => cases h
theorem or_is : OpR X (compareOp .Is) (rD2 X.K (g2 isD)) := by
  intro pins s σ H x y v u Q I rx ry h
  obtain ⟨O, a, b, d, fr, m, p1, p2, e, q⟩ := rD2_elim h
  rcases is_cases p1 p2 e with ⟨i, j, rfl, rfl, er⟩ | ⟨rfl, er⟩
  · cases er
    exact op_isBl pins s σ H _ _ v u Q I rx ry ⟨i, j, rfl, rfl, q _ _ (np_val fun _ => rfl)⟩
  · cases er
    exact op_isN pins s σ H _ _ v u Q I rx ry ⟨rfl, q _ _ (np_val fun _ => rfl)⟩
theorem or_isnt : OpR X (compareOp .IsNot) (rD2 X.K (g2 isntD)) := by
  intro pins s σ H x y v u Q I rx ry h
  obtain ⟨O, a, b, d, fr, m, p1, p2, e, q⟩ := rD2_elim h
  unfold isntD at e
  split at e
  · rename_i k fr' e1
    cases e
    rcases is_cases p1 p2 e1 with ⟨i, j, rfl, rfl, er⟩ | ⟨rfl, er⟩
    · cases er
      exact op_notBl pins s σ H _ _ v u Q I rx ry ⟨i, j, rfl, rfl, q _ _ (np_val fun _ => rfl)⟩
    · cases er
      exact op_notN pins s σ H _ _ v u Q I rx ry ⟨rfl, q _ _ (np_val fun _ => rfl)⟩
  · cases e
end
end PD

/-! PdH: subscripts, slices, displays, in, built-in calls that read. -/
namespace PD
open PySem PySem.Spec PyProof.Rows L2

theorem pe_pick {X : Cx} {e : Expr} {t' : TE} (h : ∀ σ H Q, t' σ H Q → ∃ t, PE X e t ∧ t σ H Q) : PE X e t' := ⟨fun pins s σ H Q I w => by
  obtain ⟨t, p, q⟩ := h σ H Q w
  exact p.run pins s σ H Q I q⟩

/-! ### dicts as pairs -/
def keyEq : D → D → Bool
  | .int i, .int j => decide (i = j)
  | .str x, .str y => decide (x = y)
  | _, _ => false
def lookD : List (D × D) → D → Option D
  | [], _ => none
  | (a, v) :: r, k => if keyEq a k then some v else lookD r k
def keyD : D → Option Key
  | .int i => some (.inl i)
  | .str x => some (.inr x)
  | _ => none
theorem keyD_kD {d : D} {q : Key} (h : keyD d = some q) : d = kD q := by
  cases d <;> cases h <;> rfl
theorem keyEq_kD (a b : Key) : keyEq (kD a) (kD b) = decide (a = b) := by
  cases a with
  | inl i =>
    cases b with
    | inl j =>
      show decide (i = j) = _
      exact decide_eq_decide.mpr ⟨fun h => by rw [h], fun h => Sum.inl.inj h⟩
    | inr y => exact (decide_eq_false fun h => nomatch h).symm
  | inr x =>
    cases b with
    | inl j => exact (decide_eq_false fun h => nomatch h).symm
    | inr y =>
      show decide (x = y) = _
      exact decide_eq_decide.mpr ⟨fun h => by rw [h], fun h => Sum.inr.inj h⟩
theorem denP_look {K : PySem.W.Frag} {H : Hp} (q : Key) : ∀ {kvs : List (D × D)} {kv : List (Key × V)}, DenP K H kvs kv → match lookD kvs (kD q) with
    | some d => ∃ v, valV kv q = some v ∧ Den K H d v
    | none => valV kv q = none
  | [], _, h => by cases h; rfl
  | (a, d) :: r, _, h => by
    obtain ⟨k, v, t, rfl, rfl, h1, h2⟩ := h
    have ih := denP_look q h2
    simp only [lookD, keyEq_kD]
    by_cases e : k = q
    · rw [decide_eq_true e, if_pos rfl]
      exact ⟨v, valV_pos (p := (k, v)) e, h1⟩
    · rw [decide_eq_false e, if_neg Bool.false_ne_true]
      rw [valV_neg (p := (k, v)) e]
      exact ih
theorem kD_den {K : PySem.W.Frag} {H : Hp} {q : Key} {v : V} {O : Addr → Prop} (h : Pk K O H (kD q) v) : v = kV q := by
  cases q with
  | inl i => exact pk_int h
  | inr x => exact pk_str h

/-! ### a[b] -/
def ixD : G2
  | .list xs, .int i => match atI xs i with
    | some d => some (d, false)
    | none => none
  | .tuple xs, .int i => match atI xs i with
    | some d => some (d, false)
    | none => none
  | .str x, .int i => if x.length ≤ sizeLine then match atI x.cps.toList i with
      | some c => some (.str ⟨#[c]⟩, false)
      | none => none
    else none
  | .dict kvs, k => match keyD k with
    | some _ => match lookD kvs k with
      | some d => some (d, false)
      | none => none
    | none => none
  | _, _ => none
theorem atI_den {K : PySem.W.Frag} {H : Hp} {ds : List D} {vs : List V} {i : Int} {d : D} (h : DenL K H ds vs) (e : atI ds i = some d) : ∃ v, atI vs i = some v ∧ Den K H d v := by
  unfold atI at e ⊢
  rw [denL_length h]
  cases q : ixN ds.length i with
  | none => rw [q] at e; cases e
  | some j =>
    rw [q] at e
    exact denL_at h e
theorem has_look {K : PySem.W.Frag} {H : Hp} (q : Key) {kvs : List (D × D)} {kv : List (Key × V)} (h : DenP K H kvs kv) : (valV kv q).isSome = (lookD kvs (kD q)).isSome := by
  have z := denP_look q h
  split at z
  · rename_i d' e1
    obtain ⟨w, e2, _⟩ := z
    rw [e2, e1]; rfl
  · rename_i e1
    rw [z, e1]; rfl
section
variable {X : Cx} {a b : Expr} {fa fb : OF} {pos : Pos}
theorem or_ix (hu : X.A.units + 1 < cLine) : IxR X (rD2 X.K (g2 ixD)) := by
  intro value slice pins s σ H x y v u Q I rx ry h hs
  obtain ⟨O, a, b, d, fr, m, p1, p2, e, q⟩ := rD2_elim h
  unfold ixD at e
  split at e
  · split at e
    · rename_i e1
      cases e
      obtain ⟨p, vs, rfl, h1, h2⟩ := pk_list p1
      obtain rfl := pk_int p2
      obtain ⟨w, e2, h3⟩ := atI_den h2 e1
      exact ix_list value slice pins s σ H _ _ v u Q I rx ry ⟨p, vs, _, w, rfl, rfl, h1, e2, q _ _ (np_den h3)⟩ hs
    · cases e
  · split at e
    · rename_i e1
      cases e
      obtain ⟨p, vs, rfl, h1, h2⟩ := pk_tuple p1
      obtain rfl := pk_int p2
      obtain ⟨w, e2, h3⟩ := atI_den h2 e1
      exact ix_tup value slice pins s σ H _ _ v u Q I rx ry ⟨p, vs, _, w, rfl, rfl, h1, e2, q _ _ (np_den h3)⟩ hs
    · cases e
  · split at e
    · rename_i hz
      split at e
      · rename_i e1
        cases e
        obtain rfl := pk_str p1
        obtain rfl := pk_int p2
        exact ix_str value slice pins s σ H _ _ v u Q I rx ry ⟨_, _, _, rfl, rfl, hz, e1, q _ _ (np_val fun _ => rfl)⟩ hs
      · cases e
    · cases e
  · split at e
    · rename_i k e0
      split at e
      · rename_i e1
        cases e
        obtain rfl := keyD_kD e0
        obtain ⟨p, kv, rfl, h1, h2⟩ := pk_dict p1
        obtain rfl := kD_den p2
        have z := denP_look k h2
        rw [e1] at z
        obtain ⟨w, e2, h3⟩ := z
        cases rx
        have g : DGet H p (kV k) (some w) := .inl ⟨kv, k, h1, rfl, e2.symm⟩
        exact tail_any (dict_typeIs I g) PySem.F.slot_dict_getitem.lookup (d_getItem hu I g ry fun w' s3 I3 rw' => ⟨w, H, I3, rw', q _ _ (np_den h3)⟩) hs
      · cases e
    · cases e
  · cases e
theorem se_ix (hu : X.A.units + 64 < cLine) (ha : SO X fa a) (hb : SO X fb b) (hs : PlainIx b) : SE X (opF (consO fa (consO fb nilO)) (g2 ixD)) (.Subscript a b pos) := (pe_ix (or_ix (by omega)) ha hb hs).imp fun _ _ _ h => two_imp h

/-! ### a[lo:hi] -/
theorem tOL_mono {K : PySem.W.Frag} {f : OLF} {σ : Sl} {H : Hp} {Q Q' : List V → Hp → Prop} (h : tOL K f σ H Q) (k : ∀ v H, Q v H → Q' v H) : tOL K f σ H Q' := by
  obtain ⟨O, fx, env, o, env', r, e, q⟩ := h
  exact ⟨O, fx, env, o, env', r, e, fun v H' b i => k _ _ (q v H' b i)⟩
def partF : Option EF → Ev → Option (Option Int × Ev)
  | none, env => some (none, env)
  | some f, env => match f env with
    | some (.int i, _, e1) => some (some i, e1)
    | _ => none
def slF (f : OF) (lo hi : Option EF) (g : D → Option Int → Option Int → Option (D × Bool)) : EF := fun env => match f env with
  | some (o, e1) => match partF lo e1 with
    | some (l, e2) => match partF hi e2 with
      | some (u, e3) => match deref e3 o with
        | some d => match g d l u with
          | some (r, fr) => some (r, fr, e3)
          | none => none
        | none => none
      | none => none
    | none => none
  | none => none
def cutD {α : Type} (xs : List α) (lo hi : Option Int) : List α := (xs.drop (HT.sIx xs.length 0 lo)).take (HT.sIx xs.length xs.length hi - HT.sIx xs.length 0 lo)
def sliceD : D → Option Int → Option Int → Option (D × Bool)
  | .list xs, lo, hi => some (.list (cutD xs lo hi), true)
  | .tuple xs, lo, hi => some (.tuple (cutD xs lo hi), false)
  | _, _, _ => none
theorem denL_drop {K : PySem.W.Frag} {H : Hp} : ∀ (n : Nat) {ds : List D} {vs : List V}, DenL K H ds vs → DenL K H (ds.drop n) (vs.drop n)
  | 0, _, _, h => h
  | _ + 1, [], _, h => by cases h; rfl
  | n + 1, _ :: _, _, h => by
    obtain ⟨v, r, rfl, _, h2⟩ := h
    exact denL_drop n h2
theorem denL_take {K : PySem.W.Frag} {H : Hp} : ∀ (n : Nat) {ds : List D} {vs : List V}, DenL K H ds vs → DenL K H (ds.take n) (vs.take n)
  | 0, _, _, _ => rfl
  | _ + 1, [], _, h => by cases h; rfl
  | n + 1, _ :: _, _, h => by
    obtain ⟨v, r, rfl, h1, h2⟩ := h
    exact ⟨v, _, rfl, h1, denL_take n h2⟩
theorem denL_cut {K : PySem.W.Frag} {H : Hp} {ds : List D} {vs : List V} (h : DenL K H ds vs) (lo hi : Option Int) : DenL K H (cutD ds lo hi) (cutV vs lo hi) := by
  unfold cutD cutV
  rw [denL_length h]
  exact denL_take _ (denL_drop _ h)
theorem cut_whole {ds : List D} {n : Nat} {lo hi : Option Int} (hl : n = ds.length) (hw : HT.sIx n 0 lo = 0 ∧ HT.sIx n n hi = n) : cutD ds lo hi = ds := by
  subst hl
  unfold cutD
  rw [hw.1, hw.2]
  simp
abbrev rSlD (K : PySem.W.Frag) (g : D → Option Int → Option Int → Option (D × Bool)) : V → Option Int → Option Int → Hp → VK → Prop := fun x lo hi H Q => ∃ O a d fr, (∀ a, O a → Mut (H a)) ∧ Pk K O H a x ∧ g a lo hi = some (d, fr) ∧ ∀ v H', NPost K O H d fr v H' → Q v H'
theorem sl_ok : SlR X (rSlD X.K sliceD) := by
  intro pins s σ H x v vl vu lo hi sl Q I rx hs pl pu h
  obtain ⟨O, a, d, fr, m, p1, e, q⟩ := h
  unfold sliceD at e
  split at e
  · cases e
    obtain ⟨p, vs, rfl, h1, h2⟩ := pk_list p1
    exact sl_list pins s σ H _ v vl vu lo hi sl Q I rx hs pl pu ⟨p, vs, rfl, h1, fun r hr => q _ _ (np_list hr (denL_cut h2 lo hi))⟩
  · cases e
    have k1 : Den X.K (cut H O) _ x := p1.elim id fun ⟨_, _, z⟩ => z.elim
    obtain ⟨p, vs, rfl, h1, h2⟩ := pk_tuple p1
    refine sl_tupF pins s σ H _ v vl vu _ _ sl Q I rx hs pl pu ⟨p, vs, rfl, h1, fun hw => ?_, fun hw => np_tup m (denL_cut h2 _ _) q⟩
    rw [cut_whole (denL_length h2) hw] at q
    exact q _ _ (np_den k1)
  · cases e
def tPO (K : PySem.W.Frag) (f : Option EF) : TO := fun σ H Q => ∃ O fx env l env', R K O fx env σ H ∧ partF f env = some (l, env') ∧ ∀ H', Bh K O fx env σ H env' H' → Q l H'
abbrev SPO (X : Cx) (f : Option EF) (e : Option Expr) : Prop := PO X e (tPO X.K f)
theorem _root_.L2.PO.imp {X : Cx} {e : Option Expr} {t t' : TO} (h : PO X e t) (k : ∀ σ H Q, t' σ H Q → t σ H Q) : PO X e t' := ⟨fun pins s σ H Q I w => h.run pins s σ H Q I (k _ _ _ w)⟩
theorem spo_none : SPO X none none := po_none.imp fun σ H Q h => by
  obtain ⟨O, fx, env, o, env', r, e, q⟩ := h
  cases e
  exact q _ (Bh.refl r)
theorem spo_some {e : Expr} {f : EF} (h : SE X f e) : SPO X (some f) (some e) := (po_some h).imp fun σ H Q h => by
  obtain ⟨O, fx, env, o, env', r, e, q⟩ := h
  simp only [partF] at e
  split at e
  · rename_i i fr e1 h1
    cases e
    exact ⟨O, fx, env, _, fr, _, r, h1, fun v H' p => ⟨i, p.weak.2, q H' p.weak.1⟩⟩
  · cases e
theorem sl_imp {K : PySem.W.Frag} {f : OF} {lo hi : Option EF} {g : D → Option Int → Option Int → Option (D × Bool)} {σ : Sl} {H : Hp} {Q : VK} (h : tE K (slF f lo hi g) σ H Q) : tSl (rSlD K g) (tO K f) (tPO K lo) (tPO K hi) σ H Q := by
  obtain ⟨O, fx, env, d, fr, env', r, e, q⟩ := h
  unfold slF at e
  split at e
  · rename_i o e1 h1
    split at e
    · rename_i l e2 h2
      split at e
      · rename_i u e3 h3
        split at e
        · rename_i c h4
          split at e
          · rename_i d' fr' h7
            cases e
            exact ⟨O, fx, env, o, e1, r, h1, fun x H1 b1 o1 => ⟨O, fx, e1, l, e2, b1.rel, h2, fun H2 b2 => ⟨O, fx, e2, u, env', b2.rel, h3, fun H3 b3 => by
              have b := b1.trans (b2.trans b3)
              exact ⟨Oo O env' σ, c, d, fr, fun a z => b.rel.root_mut z, pk_of b.rel (OIs.le (b2.trans b3).same o1) h4, h7, fun v H' n => q v H' (bh_epost b (n.epost b.rel))⟩⟩⟩⟩
          · cases e
        · cases e
      · cases e
    · cases e
  · cases e
theorem se_sl {e : Expr} {f : OF} {lo hi : Option EF} {le he : Option Expr} {p2 pos : Pos} (h : SO X f e) (hl : SPO X lo le) (hh : SPO X hi he) : SE X (slF f lo hi sliceD) (.Subscript e (.Slice le he none p2) pos) := (pe_slice sl_ok h hl hh).imp fun _ _ _ h => sl_imp h
end

/-! ### values that are taken into a new one -/
def opFA (fl : OLF) (g : List D → Option (D × Bool)) : EF := fun env => match fl env with
  | some (os, e1) => if (pkS e1 os).isEmpty then match derefs e1 os with
      | some ds => match g ds with
        | some (d, fr) => some (d, fr, e1)
        | none => none
      | none => none
    else none
  | none => none
def rA (K : PySem.W.Frag) (g : List D → Option (D × Bool)) : List V → Hp → VK → Prop := fun vs H Q => ∃ O ds d fr, (∀ a, O a → Mut (H a)) ∧ DenL K (cut H O) ds vs ∧ g ds = some (d, fr) ∧ ∀ v H', NPost K O H d fr v H' → Q v H'
theorem opA_imp {K : PySem.W.Frag} {fl : OLF} {g : List D → Option (D × Bool)} {σ : Sl} {H : Hp} {Q : VK} (h : tE K (opFA fl g) σ H Q) : tOL K fl σ H fun vs H1 => rA K g vs H1 Q := by
  obtain ⟨O, fx, env, d, fr, env', r, e, q⟩ := h
  unfold opFA at e
  split at e
  · rename_i os e1 h1
    split at e
    · rename_i hp
      split at e
      · rename_i ds h2
        split at e
        · rename_i d' fr' h3
          cases e
          exact ⟨O, fx, env, os, env', r, h1, fun vs H1 b a => ⟨Oo O env' σ, ds, d, fr, fun a z => b.rel.root_mut z, oAre_den b.rel a h2 hp, h3, fun v H' n => q v H' (bh_epost b (n.epost b.rel))⟩⟩
        · cases e
      · cases e
    · cases e
  · cases e
def tupD (ds : List D) : Option (D × Bool) := if ds.length ≤ sizeLine then some (.tuple ds, false) else none
def lstD (ds : List D) : Option (D × Bool) := if ds.length ≤ sizeLine then some (.list ds, true) else none
section
variable {X : Cx} {es : List Expr} {fl : OLF} {pos : Pos}
theorem se_tup {k : Nat} (h : SOL X fl es) : SE X (opFA fl tupD) (.Tuple es k pos) := (pe_tupF h).imp fun σ H Q h => by
  refine tOL_mono (opA_imp h) fun vs H1 w => ?_
  obtain ⟨O, ds, d, fr, m, hd, e, q⟩ := w
  unfold tupD at e
  split at e
  · rename_i hl
    cases e
    exact ⟨by rw [denL_length hd]; exact hl, np_tup m hd q⟩
  · cases e
theorem se_lst (h : SOL X fl es) : SE X (opFA fl lstD) (.List es pos) := (pe_lst h).imp fun σ H Q h => by
  refine tOL_mono (opA_imp h) fun vs H1 w => ?_
  obtain ⟨O, ds, d, fr, m, hd, e, q⟩ := w
  unfold lstD at e
  split at e
  · rename_i hl
    cases e
    exact ⟨by rw [denL_length hd]; exact hl, fun p hp => q _ _ (np_list hp hd)⟩
  · cases e
end

/-! ### in -/
def inD : G2
  | x, .list ys => if x.plain && PyData.plainAll ys && decide (x.depth ≤ 60) then some (.bool (ys.any fun y => PyData.eqv y x), false) else none
  | x, .tuple ys => if x.plain && PyData.plainAll ys && decide (x.depth ≤ 60) then some (.bool (ys.any fun y => PyData.eqv y x), false) else none
  | k, .dict kvs => match keyD k with
    | some _ => some (.bool (lookD kvs k).isSome, false)
    | none => none
  | _, _ => none
def ninD : G2 := fun x y => match inD x y with
  | some (.bool b, _) => some (.bool (!b), false)
  | _ => none
section
variable {X : Cx}
theorem sqL_reads {pins : List (Addr × Obj)} {σ : Sl} {H : Hp} {s : Shared} {a : Addr} {vs : List V} {ds : List D} {O : Addr → Prop} (I : Inv X pins σ H s) (h : SqL X.K H a vs) (hd : DenL X.K (cut H O) ds vs) (p : PyData.plainAll ds = true) : ∃ as, Reads s.heap (.ref a) (.list ds) as :=
  den_reads I (d := .list ds) (v := .ref a) (by simpa [PyData.plain] using p) ⟨a, vs, rfl, h, denL_le cut_le hd⟩ rfl
theorem sqT_reads {pins : List (Addr × Obj)} {σ : Sl} {H : Hp} {s : Shared} {a : Addr} {vs : List V} {ds : List D} {O : Addr → Prop} (I : Inv X pins σ H s) (h : SqT X.K H a vs) (hd : DenL X.K (cut H O) ds vs) (p : PyData.plainAll ds = true) : ∃ as, Reads s.heap (.ref a) (.tuple ds) as :=
  by
    obtain ⟨its, rv, ⟨o, e1, e2, n, e3⟩, _⟩ := I.tuple h
    obtain ⟨as, ra⟩ := denL_reads I p (denL_le cut_le hd) rv
    exact ⟨_, .tuple e1 e2 e3 ra⟩
theorem in_core {pins : List (Addr × Obj)} {σ : Sl} {H : Hp} {s : Shared} {O : Addr → Prop} {a b dd : D} {fr : Bool} {x y : V} {v u : Value} (hu : X.A.units + 64 < cLine) (I : Inv X pins σ H s) (rx : RelV x v) (ry : RelV y u) (p1 : Pk X.K O H a x) (p2 : Pk X.K O H b y) (e : inD a b = some (dd, fr)) :
    ∃ k, dd = .bool k ∧ fr = false ∧ (∀ Q : VK, Q (.bl k) H → wpAny (model X.prog X.w) X.A (compareOp .In v u) (EP X pins σ Q) X.xe s) ∧ ∀ Q : VK, Q (.bl (!k)) H → wpAny (model X.prog X.w) X.A (compareOp .NotIn v u) (EP X pins σ Q) X.xe s := by
  unfold inD at e
  split at e
  · rename_i ys
    split at e
    · rename_i c
      cases e
      simp only [Bool.and_eq_true, decide_eq_true_eq] at c
      obtain ⟨as, ra⟩ := pk_reads I c.1.1 p1 rx
      obtain ⟨p, vs, rfl, h1, h2⟩ := pk_list p2
      cases ry
      obtain ⟨bs, rb⟩ := sqL_reads I h1 h2 c.1.2
      have := Nat.min_le_right (PyData.depthAll ys) a.depth
      exact ⟨_, rfl, rfl, fun Q q => SeqAt.in_list_data rb ra c.1.2 c.1.1 (by omega) ⟨.bl _, H, I, rfl, q⟩, fun Q q => SeqAt.notIn_list_data rb ra c.1.2 c.1.1 (by omega) ⟨.bl _, H, I, rfl, q⟩⟩
    · cases e
  · rename_i ys
    split at e
    · rename_i c
      cases e
      simp only [Bool.and_eq_true, decide_eq_true_eq] at c
      obtain ⟨as, ra⟩ := pk_reads I c.1.1 p1 rx
      obtain ⟨p, vs, rfl, h1, h2⟩ := pk_tuple p2
      cases ry
      obtain ⟨bs, rb⟩ := sqT_reads I h1 h2 c.1.2
      have := Nat.min_le_right (PyData.depthAll ys) a.depth
      exact ⟨_, rfl, rfl, fun Q q => SeqAt.in_tuple_data rb ra c.1.2 c.1.1 (by omega) ⟨.bl _, H, I, rfl, q⟩, fun Q q => SeqAt.notIn_tuple_data rb ra c.1.2 c.1.1 (by omega) ⟨.bl _, H, I, rfl, q⟩⟩
    · cases e
  · split at e
    · rename_i k e0
      cases e
      obtain rfl := keyD_kD e0
      obtain ⟨p, kv, rfl, h1, h2⟩ := pk_dict p2
      obtain rfl := kD_den p1
      cases ry
      have g : DGet H p (kV k) (valV kv k) := .inl ⟨kv, k, h1, rfl, rfl⟩
      refine ⟨_, rfl, rfl, fun Q q => d_in (by omega) I g rx fun s' I' => ⟨.bl _, H, I', rfl, ?_⟩, fun Q q => d_notIn (by omega) I g rx fun s' I' => ⟨.bl _, H, I', rfl, ?_⟩⟩
      · rw [has_look k h2]; exact q
      · rw [has_look k h2]; exact q
    · cases e
  · cases e
theorem or_in (hu : X.A.units + 64 < cLine) : OpR X (compareOp .In) (rD2 X.K (g2 inD)) := by
  intro pins s σ H x y v u Q I rx ry h
  obtain ⟨O, a, b, d, fr, m, p1, p2, e, q⟩ := rD2_elim h
  obtain ⟨k, rfl, rfl, h1, _⟩ := in_core hu I rx ry p1 p2 e
  exact h1 Q (q _ _ (np_val fun _ => rfl))
theorem or_nin (hu : X.A.units + 64 < cLine) : OpR X (compareOp .NotIn) (rD2 X.K (g2 ninD)) := by
  intro pins s σ H x y v u Q I rx ry h
  obtain ⟨O, a, b, d, fr, m, p1, p2, e, q⟩ := rD2_elim h
  unfold ninD at e
  cases hh : inD a b with
  | none => rw [hh] at e; cases e
  | some r =>
    obtain ⟨dd, fr'⟩ := r
    obtain ⟨k, rfl, rfl, _, h2⟩ := in_core hu I rx ry p1 p2 hh
    rw [hh] at e
    cases e
    exact h2 Q (q _ _ (np_val fun _ => rfl))
/-! ### built-in calls -/
theorem se_callB {x : Str} {p pos : Pos} {e : Expr} {es : List Expr} {fl : OLF} {id : String} {g : List D → Option (D × Bool)} (hc : CallR X (.builtin id) (rD X.K g)) (hg : Gl X x) (hm : X.mg x = none) (hv : bootBuiltins x = some (.builtin id)) (ha : SOL X fl (e :: es)) (hn : x ≠ "__name__" := by decide) (hdb : (x == ("__debug__" : Str)) = false := by decide)
    (he : starEach (e :: es) X.env = (false, eval e X.env) :: starEach es X.env := by rfl) (hpl : (backTo pos (starEach es X.env)).any (·.1) = false := by rfl) : SE X (opF fl g) (.Call (.Name x p) (e :: es) [] pos) := (pe_callB hc hg hm hv ha hn hdb he hpl).imp fun _ _ _ h => op_imp h
theorem se_callTy {x : Str} {p pos : Pos} {e : Expr} {es : List Expr} {fl : OLF} {T : String} {g : List D → Option (D × Bool)} (hc : CallR X (.type T) (rD X.K g)) (hg : Gl X x) (hm : X.mg x = none) (hv : bootBuiltins x = some (.type T)) (ha : SOL X fl (e :: es)) (hn : x ≠ "__name__" := by decide) (hdb : (x == ("__debug__" : Str)) = false := by decide)
    (he : starEach (e :: es) X.env = (false, eval e X.env) :: starEach es X.env := by rfl) (hpl : (backTo pos (starEach es X.env)).any (·.1) = false := by rfl) : SE X (opF fl g) (.Call (.Name x p) (e :: es) [] pos) := (pe_callTy hc hg hm hv ha hn hdb he hpl).imp fun _ _ _ h => op_imp h
theorem rD_one {K : PySem.W.Frag} {f : G1} {vs : List V} {H : Hp} {Q : VK} (h : rD K (g1 f) vs H Q) : ∃ x, vs = [x] ∧ rD K (g1 f) [x] H Q := by
  obtain ⟨O, ds, d, fr, m, pk, e, q⟩ := h
  match ds, e, pk with
  | [a], e, pk =>
    obtain ⟨v, r, e1, p1, p2⟩ := pk
    cases p2
    exact ⟨v, e1, O, [a], d, fr, m, ⟨v, [], rfl, p1, rfl⟩, e, q⟩
def lenD : G1
  | .list xs => some (.int xs.length, false)
  | .tuple xs => some (.int xs.length, false)
  | .dict xs => some (.int xs.length, false)
  | .str x => if x.length ≤ sizeLine then some (.int x.length, false) else none
  | _ => none
theorem denP_length {K : PySem.W.Frag} {H : Hp} : ∀ {ds : List (D × D)} {vs : List (Key × V)}, DenP K H ds vs → vs.length = ds.length
  | [], _, h => by cases h; rfl
  | (_, _) :: ds, _, h => by
    obtain ⟨q, v, r, rfl, _, _, h2⟩ := h
    simp [denP_length h2]
theorem cr_len : CallR X (.builtin "len") (rD X.K (g1 lenD)) := by
  intro pins s σ H xs us Q I r h
  obtain ⟨x, rfl, h⟩ := rD_one h
  obtain ⟨O, a, d, fr, m, p1, e, q⟩ := rD1_elim h
  unfold lenD at e
  split at e
  · cases e
    obtain ⟨p, vs, rfl, h1, h2⟩ := pk_list p1
    exact call_len_seq pins s σ H _ us Q I r ⟨p, vs, rfl, .inl h1, by rw [denL_length h2]; exact q _ _ (np_val fun _ => rfl)⟩
  · cases e
    obtain ⟨p, vs, rfl, h1, h2⟩ := pk_tuple p1
    exact call_len_seq pins s σ H _ us Q I r ⟨p, vs, rfl, .inr h1, by rw [denL_length h2]; exact q _ _ (np_val fun _ => rfl)⟩
  · cases e
    obtain ⟨p, vs, rfl, h1, h2⟩ := pk_dict p1
    obtain ⟨u, rfl, rx⟩ := vals1 r
    cases rx
    exact d_len I h1 fun t s' I' => ⟨.int vs.length, H, I', ⟨t, rfl⟩, by rw [denP_length h2]; exact q _ _ (np_val fun _ => rfl)⟩
  · split at e
    · rename_i hz
      cases e
      obtain rfl := pk_str p1
      exact call_len_str pins s σ H _ us Q I r ⟨_, rfl, hz, q _ _ (np_val fun _ => rfl)⟩
    · cases e
  · cases e
/-- list(x) -/
def listD : G1
  | .list xs => some (.list xs, true)
  | .tuple xs => some (.list xs, true)
  | _ => none
theorem cr_list : CallR X (.type "list") (rD X.K (g1 listD)) := by
  intro pins s σ H xs us Q I r h
  obtain ⟨x, rfl, h⟩ := rD_one h
  obtain ⟨O, a, d, fr, m, p1, e, q⟩ := rD1_elim h
  unfold listD at e
  split at e
  · cases e
    obtain ⟨p, vs, rfl, h1, h2⟩ := pk_list p1
    exact call_list_of pins s σ H _ us Q I r ⟨p, vs, rfl, .inl h1, fun l hl => q _ _ (np_list hl h2)⟩
  · cases e
    obtain ⟨p, vs, rfl, h1, h2⟩ := pk_tuple p1
    exact call_list_of pins s σ H _ us Q I r ⟨p, vs, rfl, .inr h1, fun l hl => q _ _ (np_list hl h2)⟩
  · cases e
/-- tuple(x) -/
def tupleD : G1
  | .list xs => some (.tuple xs, false)
  | .tuple xs => some (.tuple xs, false)
  | _ => none
theorem cr_tuple : CallR X (.type "tuple") (rD X.K (g1 tupleD)) := by
  intro pins s σ H xs us Q I r h
  obtain ⟨x, rfl, h⟩ := rD_one h
  obtain ⟨O, a, d, fr, m, p1, e, q⟩ := rD1_elim h
  unfold tupleD at e
  split at e
  · cases e
    obtain ⟨p, vs, rfl, h1, h2⟩ := pk_list p1
    exact call_tupleF pins s σ H _ us Q I r ⟨p, vs, rfl, .inl ⟨h1, np_tup m h2 q⟩⟩
  · cases e
    have k1 : Den X.K (cut H O) _ x := p1.elim id fun ⟨_, _, z⟩ => z.elim
    obtain ⟨p, vs, rfl, h1, h2⟩ := pk_tuple p1
    exact call_tupleF pins s σ H _ us Q I r ⟨p, vs, rfl, .inr ⟨h1, q _ _ (np_den k1)⟩⟩
  · cases e
/-- int(x), of a number -/
def intD : G1
  | .int i => some (.int i, false)
  | .bool b => some (.int (if b then 1 else 0), false)
  | _ => none
theorem cr_int : CallR X (.type "int") (rD X.K (g1 intD)) := by
  intro pins s σ H xs us Q I r h
  obtain ⟨x, rfl, h⟩ := rD_one h
  obtain ⟨O, a, d, fr, m, p1, e, q⟩ := rD1_elim h
  unfold intD at e
  split at e
  · cases e
    obtain rfl := pk_int p1
    exact call_int1 pins s σ H _ us Q I r (.inl ⟨_, rfl, q _ _ (np_val fun _ => rfl)⟩)
  · cases e
    obtain rfl := pk_bool p1
    exact call_int1 pins s σ H _ us Q I r (.inr ⟨_, rfl, q _ _ (np_val fun _ => rfl)⟩)
  · cases e
/-- str(i), of a small number -/
def strD : G1
  | .int i => if i.natAbs.log2 < 1920 then some (.str (toString i), false) else none
  | _ => none
theorem cr_str : CallR X (.type "str") (rD X.K (g1 strD)) := by
  intro pins s σ H xs us Q I r h
  obtain ⟨x, rfl, h⟩ := rD_one h
  obtain ⟨O, a, d, fr, m, p1, e, q⟩ := rD1_elim h
  unfold strD at e
  split at e
  · split at e
    · rename_i hz
      cases e
      obtain rfl := pk_int p1
      exact call_str_int pins s σ H _ us Q I r ⟨_, rfl, hz, q _ _ (np_val fun _ => rfl)⟩
    · cases e
  · cases e
end
end PD

/-! PdI: changes in place: append, pop, extend, update, d[k] = v, x op= e. -/
namespace PD
open PySem PySem.Spec PyProof.Rows L2

/-- what a change is: the object, the arguments; the answer, the object behind it -/
abbrev MF := D → List D → Option (D × D)
def tyD : D → String
  | .list _ => "list"
  | .dict _ => "dict"
  | _ => ""
def noSlot (i : Nat) : List Opd → Bool
  | [] => true
  | .val _ :: r => noSlot i r
  | .slot j :: r => decide (j ≠ i) && noSlot i r
/-- x.m(..) of a name that owns its object; A: the arguments are taken into it -/
def mutF (T : String) (i : Nat) (fl : OLF) (m : MF) (A : Bool) : EF := fun env => match env[i]? with
  | some (some (c0, o0)) => if o0 = .sh ∨ tyD c0 ≠ T then none else match fl env with
    | some (os, e1) => if (A = true ∧ (pkS e1 os).isEmpty = false) ∨ (A = false ∧ noSlot i os = false) then none else match e1[i]?, derefs e1 os with
      | some (some (c, o)), some ds => if o = .sh then none else match m c ds with
        | some (r, c') => some (r, false, e1.set i (some (c', o)))
        | none => none
      | _, _ => none
    | none => none
  | _ => none
/-- an operand that is not the object at a -/
def PkLN (K : PySem.W.Frag) (O : Addr → Prop) (H : Hp) (a : Addr) : List D → List V → Prop
  | [], vs => vs = []
  | d :: ds, vs => ∃ v r, vs = v :: r ∧ (Den K (cut H O) d v ∨ ∃ b, v = .ref b ∧ b ≠ a ∧ OwnAt K (cut H O) H b d) ∧ PkLN K O H a ds r
theorem pkLN_of {K : PySem.W.Frag} {O : Addr → Prop} {fx : Nat → Option Addr} {env : Ev} {σ : Sl} {H : Hp} {i : Nat} {c : D} {o : Ow} {a : Addr} (r : R K O fx env σ H) (hi : env[i]? = some (some (c, o))) (hne : o ≠ .sh) (hs : σ[i]? = some (some (.ref a))) : ∀ {os : List Opd} {vs : List V} {ds : List D}, noSlot i os = true → OAre K O env σ H os vs → derefs env os = some ds → PkLN K (Oo O env σ) H a ds vs
  | [], _, _, _, h, e => by
    cases e
    exact h
  | o' :: os, _, _, hn, h, e => by
    obtain ⟨v, r', rfl, h1, h2⟩ := h
    unfold derefs at e
    split at e
    · rename_i d' e1
      split at e
      · rename_i ds' e2
        cases e
        cases o' with
        | val d2 =>
          cases e1
          exact ⟨v, r', rfl, .inl h1, pkLN_of (os := os) r hi hne hs hn h2 e2⟩
        | slot j =>
          simp only [noSlot, Bool.and_eq_true, decide_eq_true_eq] at hn
          have h1 : σ[j]? = some (some v) := h1
          obtain ⟨w', e'⟩ := deref_slot e1
          refine ⟨v, r', rfl, ?_, pkLN_of (os := os) r hi hne hs hn.2 h2 e2⟩
          by_cases hw : w' = Ow.sh
          · subst hw
            obtain ⟨v', e1, q⟩ := r.val j d' e'
            rw [h1] at e1; cases e1
            exact .inl q
          · obtain ⟨b, e1, _, q⟩ := r.own j d' w' e' hw
            rw [h1] at e1; cases e1
            refine .inr ⟨b, rfl, fun z => hn.1 ?_, q⟩
            subst z
            exact r.apart j i _ d' c w' o e' hw hi hne h1 hs
      · cases e
    · cases e
/-- .. by values -/
def rM (K : PySem.W.Frag) (m : MF) (A : Bool) : V → List V → Hp → VK → Prop := fun x vs H Q => ∃ O a c ds r c', x = .ref a ∧ (∀ b, O b → Mut (H b)) ∧ O a ∧ OwnAt K (cut H O) H a c ∧ (if A = true then DenL K (cut H O) ds vs else PkLN K O H a ds vs) ∧ m c ds = some (r, c') ∧
  ∀ v u, OwnAt K (cut H O) (upd H a u) a c' → Den K (cut H O) r v → Q v (upd H a u)
theorem mut_imp {K : PySem.W.Frag} {T : String} {i : Nat} {fl : OLF} {m : MF} {A : Bool} {σ : Sl} {H : Hp} {Q : VK} (hT : T = "list" ∨ T = "dict") (h : tE K (mutF T i fl m A) σ H Q) : tO K (varO i) σ H fun x H1 => tyV K T x H1 ∧ tOL K fl σ H1 fun xs H2 => rM K m A x xs H2 Q := by
  obtain ⟨O, fx, env, d, fr, env', r, e, q⟩ := h
  unfold mutF at e
  split at e
  · rename_i c0 o0 h0
    split at e
    · cases e
    · rename_i hc
      simp only [not_or, Decidable.not_not] at hc
      obtain ⟨hn0, hty⟩ := hc
      refine ⟨O, fx, env, .slot i, env, r, by simp [varO, h0], fun x H1 b1 hx => ?_⟩
      have hx : σ[i]? = some (some x) := hx
      obtain ⟨a, hs, hO, hw⟩ := b1.rel.own i c0 o0 h0 hn0
      rw [hx] at hs
      cases hs
      refine ⟨?_, ?_⟩
      · show (T = "list" ∧ _) ∨ _
        cases c0 with
        | list l =>
          obtain ⟨vs, hv, _⟩ := hw
          exact .inl ⟨hty.symm, vs, .inl (.inl hv)⟩
        | dict l =>
          obtain ⟨vs, hv, _⟩ := hw
          exact .inr (.inr (.inl ⟨hty.symm, .inl ⟨vs, hv⟩⟩))
        | _ => exact hw.elim
      · split at e
        · rename_i os e1 h1
          split at e
          · cases e
          · rename_i hA
            split at e
            · rename_i c o ds h2 h3
              split at e
              · cases e
              · rename_i hno
                split at e
                · rename_i r' c' h4
                  cases e
                  refine ⟨O, fx, env, os, e1, b1.rel, h1, fun vs H2 b2 a2 => ?_⟩
                  obtain ⟨a', hs2, hO2, hw2⟩ := b2.rel.own i c o h2 hno
                  rw [hx] at hs2
                  cases hs2
                  refine ⟨Oo O e1 σ, a, c, ds, d, c', rfl, fun b z => b2.rel.root_mut z, .inr ⟨i, c, o, h2, hno, hx⟩, hw2, ?_, h4, fun v u hu hv => ?_⟩
                  · split
                    · rename_i hA'
                      refine oAre_den b2.rel a2 h3 ?_
                      cases hp : (pkS e1 os).isEmpty with
                      | true => rfl
                      | false => exact absurd (.inl ⟨hA', hp⟩) hA
                    · rename_i hA'
                      refine pkLN_of b2.rel h2 hno hx ?_ a2 h3
                      cases hp : noSlot i os with
                      | true => rfl
                      | false => exact absurd (.inr ⟨by simpa using hA', hp⟩) hA
                  · have bm := b2.rel.mutate h2 hno hx hu
                    exact q v _ ⟨b1.trans (b2.trans bm), den_le (Le.of_same bm.same) hv⟩
                · cases e
            · cases e
        · cases e
  · cases e
section
variable {X : Cx}
theorem se_mut {T id : String} {name x : Str} {i : Nat} {fl : OLF} {m : MF} {A : Bool} {e : Expr} {es : List Expr} {xpos apos cpos : Pos} (hT : T = "list" ∨ T = "dict") (pa : PlainAttrs T) (slot : Slot T name id) (hty : typeOf (.builtin id) = pure (.type "method_descriptor")) (hm : MtR X id (rM X.K m A)) (ho : SO X (varO i) (.Name x xpos)) (ha : SOL X fl (e :: es))
    (hbase : attributeBase (.Name x xpos) name X.env (eval (.Name x xpos) X.env) = eval (.Name x xpos) X.env := by rfl)
    (hfew : ((backTo cpos (starEach (e :: es) X.env)).all (fun x => !x.1) && (backToKw cpos (keywordEach [] X.env)).all (fun x => x.1.isSome)
      && decide ((e :: es).length + ([] : List Keyword).length + (if ([] : List Keyword).isEmpty then 0 else 1) < 30)) = true := by rfl)
    (hline : (apos.endLine == cpos.line) = true := by rfl) (hs : starEach (e :: es) X.env = (false, eval e X.env) :: starEach es X.env := by rfl) (hplain : (backTo cpos (starEach es X.env)).any (·.1) = false := by rfl) :
    SE X (mutF T i fl m A) (.Call (.Attribute (.Name x xpos) name apos) (e :: es) [] cpos) := (pe_bm pa slot hty hm ho ha hbase hfew hline hs hplain).imp fun _ _ _ h => mut_imp hT h
theorem se_mut0 {T id : String} {name x : Str} {i : Nat} {m : MF} {A : Bool} {xpos apos cpos : Pos} (hT : T = "list" ∨ T = "dict") (pa : PlainAttrs T) (slot : Slot T name id) (hty : typeOf (.builtin id) = pure (.type "method_descriptor")) (hm : MtR X id (rM X.K m A)) (ho : SO X (varO i) (.Name x xpos))
    (hbase : attributeBase (.Name x xpos) name X.env (eval (.Name x xpos) X.env) = eval (.Name x xpos) X.env := by rfl) (hline : (apos.endLine == cpos.line) = true := by rfl) :
    SE X (mutF T i nilO m A) (.Call (.Attribute (.Name x xpos) name apos) [] [] cpos) := (pe_bm0 pa slot hty hm ho hbase hline).imp fun σ H Q h => tO_mono (mut_imp hT h) fun x H1 w => ⟨w.1, nilO_imp w.2⟩

/-! ### lists -/
def appendM : MF
  | .list xs, [y] => if xs.length < sizeLine then some (.none, .list (xs ++ [y])) else none
  | _, _ => none
theorem own_list {K : PySem.W.Frag} {B H : Hp} {a : Addr} {xs : List D} (h : OwnAt K B H a (.list xs)) : ∃ vs, H a = some (.lst vs) ∧ DenL K B xs vs := h
theorem mr_append : MtR X "list.append" (rM X.K appendM true) := by
  intro pins s σ H x xs v us Q I rx rs h
  obtain ⟨O, a, c, ds, r, c', rfl, m, hOa, hw, hd, e, q⟩ := h
  unfold appendM at e
  split at e
  · rename_i zs y
    split at e
    · rename_i hl
      cases e
      obtain ⟨vs, hv, hdv⟩ := own_list hw
      have hd : DenL X.K (cut H O) [y] xs := hd
      obtain ⟨w, r, rfl, h1, h2⟩ := hd
      cases h2
      exact mt_append pins s σ H _ _ v us Q I rx rs ⟨a, vs, w, rfl, rfl, hv, by rw [denL_length hdv]; exact hl, q _ _ ⟨_, upd_same, denL_append hdv ⟨w, [], rfl, h1, rfl⟩⟩ rfl⟩
    · cases e
  · cases e
def popM : MF
  | .list xs, [] => match xs[xs.length - 1]? with
    | some y => some (y, .list xs.dropLast)
    | none => none
  | .list xs, [.int i] => match ixN xs.length i with
    | some k => match xs[k]? with
      | some y => some (y, .list (xs.eraseIdx k))
      | none => none
    | none => none
  | _, _ => none
theorem denL_dropLast {K : PySem.W.Frag} {H : Hp} {ds : List D} {vs : List V} (h : DenL K H ds vs) : DenL K H ds.dropLast vs.dropLast := by
  rw [List.dropLast_eq_take, List.dropLast_eq_take, denL_length h]
  exact denL_take _ h
theorem denL_erase {K : PySem.W.Frag} {H : Hp} : ∀ (n : Nat) {ds : List D} {vs : List V}, DenL K H ds vs → DenL K H (ds.eraseIdx n) (vs.eraseIdx n)
  | _, [], _, h => by cases h; rfl
  | 0, _ :: _, _, h => by
    obtain ⟨v, r, rfl, _, h2⟩ := h
    exact h2
  | n + 1, _ :: _, _, h => by
    obtain ⟨v, r, rfl, h1, h2⟩ := h
    exact ⟨v, _, rfl, h1, denL_erase n h2⟩
theorem mr_pop : MtR X "list.pop" (rM X.K popM true) := by
  intro pins s σ H x xs v us Q I rx rs h
  obtain ⟨O, a, c, ds, r, c', rfl, m, hOa, hw, hd, e, q⟩ := h
  have hd : DenL X.K (cut H O) ds xs := hd
  unfold popM at e
  split at e
  · split at e
    · rename_i y h1
      cases e
      obtain ⟨vs, hv, hdv⟩ := own_list hw
      cases hd
      obtain ⟨w, h2, h3⟩ := denL_at hdv h1
      refine mt_pop pins s σ H _ _ v us Q I rx rs ⟨a, vs, w, rfl, rfl, hv, by rw [denL_length hdv]; exact h2, q _ _ ⟨_, upd_same, denL_dropLast hdv⟩ h3⟩
    · cases e
  · split at e
    · rename_i k h0
      split at e
      · rename_i y h1
        cases e
        obtain ⟨vs, hv, hdv⟩ := own_list hw
        obtain ⟨w, r, rfl, h2, h3⟩ := hd
        cases h3
        cases h2
        obtain ⟨w, h4, h5⟩ := denL_at hdv h1
        obtain ⟨g1, g2, g3, g4⟩ := ixN_seq h0
        have hz : vs.length ≤ sizeLine := (I.hok a _ hv).1
        rw [denL_length hdv] at hz
        have hl := line63
        exact mt_popAt pins s σ H _ _ v us Q I rx rs ⟨a, vs, _, k, w, rfl, rfl, hv, by omega, by omega, by rw [denL_length hdv]; exact g1, h4, q _ _ ⟨_, upd_same, denL_erase k hdv⟩ h5⟩
      · cases e
    · cases e
  · cases e
end
end PD

/-! PdJ: items put, x op= e, dicts: get, update, displays, dict(pairs). -/
namespace PD
open PySem PySem.Spec PyProof.Rows L2

/-! ### a dict with a pair more -/
def putP (kvs : List (D × D)) (k v : D) : List (D × D) := if (lookD kvs k).isSome then kvs.map (fun p => if keyEq p.1 k then (p.1, v) else p) else kvs ++ [(k, v)]
theorem denP_map {K : PySem.W.Frag} {H : Hp} {q : Key} {d : D} {v : V} (hd : Den K H d v) : ∀ {kvs : List (D × D)} {kv : List (Key × V)}, DenP K H kvs kv → DenP K H (kvs.map fun p => if keyEq p.1 (kD q) then (p.1, d) else p) (kv.map fun p => if p.1 = q then (p.1, v) else p)
  | [], _, h => by cases h; rfl
  | (a, e) :: r, _, h => by
    obtain ⟨k, w, t, rfl, rfl, h1, h2⟩ := h
    have ih := denP_map (q := q) hd h2
    simp only [List.map_cons, keyEq_kD]
    by_cases c : k = q
    · rw [decide_eq_true c, if_pos rfl, if_pos c]
      exact ⟨k, v, _, rfl, rfl, hd, ih⟩
    · rw [decide_eq_false c, if_neg Bool.false_ne_true, if_neg c]
      exact ⟨k, w, _, rfl, rfl, h1, ih⟩
theorem denP_app {K : PySem.W.Frag} {H : Hp} {q : Key} {d : D} {v : V} (hd : Den K H d v) : ∀ {kvs : List (D × D)} {kv : List (Key × V)}, DenP K H kvs kv → DenP K H (kvs ++ [(kD q, d)]) (kv ++ [(q, v)])
  | [], _, h => by cases h; exact ⟨q, v, [], rfl, rfl, hd, rfl⟩
  | (a, e) :: r, _, h => by
    obtain ⟨k, w, t, rfl, rfl, h1, h2⟩ := h
    exact ⟨k, w, _, rfl, rfl, h1, denP_app hd h2⟩
theorem denP_put {K : PySem.W.Frag} {H : Hp} {q : Key} {d : D} {v : V} {kvs : List (D × D)} {kv : List (Key × V)} (h : DenP K H kvs kv) (hd : Den K H d v) : DenP K H (putP kvs (kD q) d) (putK kv q v) := by
  unfold putP putK
  rw [← has_look q h, valV_any]
  split
  · exact denP_map hd h
  · exact denP_app hd h
def mergeP (kvs more : List (D × D)) : List (D × D) := more.foldl (fun acc p => putP acc p.1 p.2) kvs
theorem denP_merge {K : PySem.W.Frag} {H : Hp} : ∀ {more kvs : List (D × D)} {mv kv : List (Key × V)}, DenP K H kvs kv → DenP K H more mv → DenP K H (mergeP kvs more) (mergeK kv mv)
  | [], _, _, _, h, k => by cases k; exact h
  | (a, e) :: r, kvs, _, kv, h, k => by
    obtain ⟨q, w, t, rfl, rfl, h1, h2⟩ := k
    have z : DenP K H (putP kvs (kD q) e) (putK kv q w) := denP_put h h1
    exact denP_merge (more := r) (kvs := putP kvs (kD q) e) (kv := putK kv q w) z h2

/-! ### o[k] = v -/
def putD : D → D → D → Option D
  | .list xs, .int i, d => match ixN xs.length i with
    | some j => some (.list (xs.set j d))
    | none => none
  | .dict kvs, k, d => match keyD k with
    | some _ => if kvs.length < sizeLine then some (.dict (putP kvs k d)) else none
    | none => none
  | _, _, _ => none
theorem denL_set {K : PySem.W.Frag} {H : Hp} {d : D} {v : V} (hd : Den K H d v) : ∀ (n : Nat) {ds : List D} {vs : List V}, DenL K H ds vs → DenL K H (ds.set n d) (vs.set n v)
  | _, [], _, h => by cases h; rfl
  | 0, _ :: _, _, h => by
    obtain ⟨w, r, rfl, _, h2⟩ := h
    exact ⟨v, r, rfl, hd, h2⟩
  | n + 1, _ :: _, _, h => by
    obtain ⟨w, r, rfl, h1, h2⟩ := h
    exact ⟨w, _, rfl, h1, denL_set hd n h2⟩
def rSt (K : PySem.W.Frag) : TSet := fun x y v H Q => ∃ O a c k d c', x = .ref a ∧ OwnAt K (cut H O) H a c ∧ Pk K O H k y ∧ Den K (cut H O) d v ∧ putD c k d = some c' ∧ ∀ u, OwnAt K (cut H O) (upd H a u) a c' → Q (upd H a u)
theorem own_dict {K : PySem.W.Frag} {B H : Hp} {a : Addr} {xs : List (D × D)} (h : OwnAt K B H a (.dict xs)) : ∃ vs, H a = some (.dK vs) ∧ DenP K B xs vs := h
section
variable {X : Cx} {e : Expr} {pos : Pos}
theorem st_ok (hu : X.A.units + 64 < cLine) : PSet X (rSt X.K) := by
  intro pins s σ H o i v ov iv u Q I ro ri rv h
  obtain ⟨O, a, c, k, d, c', rfl, hw, hk, hd, e, q⟩ := h
  unfold putD at e
  split at e
  · split at e
    · rename_i h1
      cases e
      obtain ⟨vs, hv, hdv⟩ := own_list hw
      obtain rfl := pk_int hk
      exact set_list pins s σ H _ _ v ov iv u Q I ro ri rv ⟨a, vs, _, _, rfl, rfl, hv, by rw [denL_length hdv]; exact h1, q _ ⟨_, upd_same, denL_set hd _ hdv⟩⟩
    · cases e
  · split at e
    · rename_i h1
      split at e
      · rename_i hl
        cases e
        obtain ⟨vs, hv, hdv⟩ := own_dict hw
        obtain rfl := keyD_kD h1
        obtain rfl := kD_den hk
        cases ro
        exact d_setItem (by omega) I (.k hv (by rw [denP_length hdv]; exact hl)) ri rv fun s' I' => ⟨_, I', q _ ⟨_, upd_same, denP_put hdv hd⟩⟩
      · cases e
    · cases e
  · cases e
def subG (i : Nat) (fk : OF) : GF := fun d env => match env[i]? with
  | some (some (_, o0)) => if o0 = .sh then none else match fk env with
    | some (o, e1) => match e1[i]?, deref e1 o with
      | some (some (c, o')), some k => if o' = .sh then none else match putD c k d with
        | some c' => some (e1.set i (some (c', o')))
        | none => none
      | _, _ => none
    | none => none
  | _ => none
theorem sg_sub {i : Nat} {x : Str} {xpos : Pos} {k : Expr} {fk : OF} (hu : X.A.units + 64 < cLine) (ho : SO X (varO i) (.Name x xpos)) (hk : SO X fk k)
    (ha : ∀ v, assign (.Subscript (.Name x xpos) k pos) X.env v = (do
      let ov ← holding [v] (eval (.Name x xpos) X.env)
      let iv ← holding [v, ov] (eval k X.env)
      standAt pos
      holding [v, ov, iv] (setItem ov iv v)
      release [v, ov, iv] []) := by intro _; rfl) : SG X (subG i fk) [] (.Subscript (.Name x xpos) k pos) := (pg_sub ho hk (st_ok hu) ha).imp fun v σ H Q h => by
  obtain ⟨O, fx, env, d, env', r, hd, e, q⟩ := h
  unfold subG at e
  split at e
  · rename_i c0 o0 h0
    split at e
    · cases e
    · split at e
      · rename_i o e1 h1
        split at e
        · rename_i c o' k h2 h3
          split at e
          · cases e
          · rename_i hne
            split at e
            · rename_i c' h4
              cases e
              refine ⟨O, fx, env, .slot i, env, r, by simp [varO, h0], fun y H1 b1 hy => ⟨O, fx, env, o, e1, b1.rel, h1, fun z H2 b2 hz => ?_⟩⟩
              have hy : σ[i]? = some (some y) := hy
              obtain ⟨a, hs, hO, hw⟩ := b2.rel.own i c o' h2 hne
              rw [hy] at hs
              cases hs
              exact ⟨Oo O e1 σ, a, c, k, d, c', rfl, hw, pk_of b2.rel hz h3, den_le (Le.of_same (b1.same.trans b2.same)) hd, h4, fun u hu => q σ _ (b1.trans (b2.trans (b2.rel.mutate h2 hne hy hu))) ⟨rfl, fun _ _ => rfl⟩⟩
            · cases e
        · cases e
      · cases e
  · cases e

/-! ### o[k] op= e, x op= e -/
def gixD : G2
  | .list xs, .int i => match atI xs i with
    | some d => some (d, false)
    | none => none
  | .dict kvs, k => match keyD k with
    | some _ => match lookD kvs k with
      | some d => some (d, false)
      | none => none
    | none => none
  | _, _ => none
theorem get_list {pins : List (Addr × Obj)} {σ : Sl} {H : Hp} {s : Shared} {p : Addr} {vs : List V} {i : Int} {w : V} {ov iv : Value} {Q : VK} (I : Inv X pins σ H s) (ro : RelV (.ref p) ov) (ri : RelV (.int i) iv) (h1 : SqL X.K H p vs) (e2 : atI vs i = some w) (q : Q w H) : wpAny (model X.prog X.w) X.A (getItem ov iv) (EP X pins σ Q) X.xe s := by
  cases ro
  obtain ⟨t, rfl⟩ := ri
  obtain ⟨its, r, pl, hz⟩ := I.list h1
  obtain ⟨j, g1, g2, g3, g4, g5⟩ := atI_get e2
  obtain ⟨w', ew, rw'⟩ := r.get g2
  have hl := r.length
  have hn := line63
  have fin : EP X pins σ Q w' s := ⟨w, H, I, rw', q⟩
  by_cases h0 : 0 ≤ i
  · refine wpAny_getItem_list pl.isList h0 (by omega) ?_ fin
    rw [seqIndex_of h0 g5] at g1
    rw [Option.some.inj g1]
    simpa using ew
  · refine wpAny_getItem_list_neg pl.isList (by omega) (by simpa [← hl] using g4) (by omega) ?_ fin
    rw [seqIndex_neg (by omega) g4] at g1
    rw [List.size_toArray, ← hl, Option.some.inj g1]
    simpa using ew
theorem pget_ok (hu : X.A.units + 64 < cLine) : PGet X (rD2 X.K (g2 gixD)) := by
  intro pins s σ H o i ov iv Q I ro ri h
  obtain ⟨O, a, b, d, fr, m, p1, p2, e, q⟩ := rD2_elim h
  unfold gixD at e
  split at e
  · split at e
    · rename_i e1
      cases e
      obtain ⟨p, vs, rfl, h1, h2⟩ := pk_list p1
      obtain rfl := pk_int p2
      obtain ⟨w, e2, h3⟩ := atI_den h2 e1
      exact get_list I ro ri h1 e2 (q _ _ (np_den h3))
    · cases e
  · split at e
    · rename_i k e0
      split at e
      · rename_i e1
        cases e
        obtain rfl := keyD_kD e0
        obtain ⟨p, kv, rfl, h1, h2⟩ := pk_dict p1
        obtain rfl := kD_den p2
        have z := denP_look k h2
        rw [e1] at z
        obtain ⟨w, e2, h3⟩ := z
        cases ro
        have g : DGet H p (kV k) (some w) := .inl ⟨kv, k, h1, rfl, e2.symm⟩
        exact d_getItem (by omega) I g ri fun w' s3 I3 rw' => ⟨w, H, I3, rw', q _ _ (np_den h3)⟩
      · cases e
    · cases e
  · cases e
/-- ints -/
def iaddD : G2
  | .int a, .int b => some (.int (a + b), false)
  | _, _ => none
theorem pip_add : PIp X .Add (rD2 X.K (g2 iaddD)) := by
  intro pins s σ H x y v u Q I r1 r2 h
  obtain ⟨O, a, b, d, fr, m, p1, p2, e, q⟩ := rD2_elim h
  unfold iaddD at e
  split at e
  · cases e
    obtain rfl := pk_int p1
    obtain rfl := pk_int p2
    exact ip_add pins s σ H _ _ v u Q I r1 r2 ⟨_, _, rfl, rfl, q _ _ (np_val fun _ => rfl)⟩
  · cases e
theorem pip_sub : PIp X .Sub (rD2 X.K (g2 subD)) := by
  intro pins s σ H x y v u Q I r1 r2 h
  obtain ⟨O, a, b, d, fr, m, p1, p2, e, q⟩ := rD2_elim h
  unfold subD at e
  split at e
  · cases e
    obtain rfl := pk_int p1
    obtain rfl := pk_int p2
    exact ip_sub pins s σ H _ _ v u Q I r1 r2 ⟨_, _, rfl, rfl, q _ _ (np_val fun _ => rfl)⟩
  · cases e
/-- x op= e of a number -/
def intOnly (g : G2) : Prop := ∀ a b d fr, g a b = some (d, fr) → ∃ i, d = .int i ∧ fr = false
theorem io_add : intOnly iaddD := fun a b d fr h => by
  unfold iaddD at h
  split at h <;> cases h
  exact ⟨_, rfl, rfl⟩
theorem io_sub : intOnly subD := fun a b d fr h => by
  unfold subD at h
  split at h <;> cases h
  exact ⟨_, rfl, rfl⟩
def augF (i : Nat) (f : OF) (g : G2) : SF := fun env => match env[i]? with
  | some (some (c, .sh)) => match f env with
    | some (o, e1) => match deref e1 o with
      | some y => match g c y with
        | some (z, _) => match setv i z false e1 with
          | some e2 => some (.nx, e2)
          | none => none
        | none => none
      | none => none
    | none => none
  | _ => none
theorem aug_imp {K : PySem.W.Frag} {i : Nat} {f : OF} {g : G2} {E : Ends} {σ : Sl} {H : Hp} (hg : intOnly g) (h : tS K (augF i f g) E σ H) : tAug i (tO K f) (rD2 K (g2 g)) E σ H := by
  obtain ⟨O, fx, env, out, env', r, e, q⟩ := h
  unfold augF at e
  split at e
  · rename_i c h0
    split at e
    · rename_i o e1 h1
      split at e
      · rename_i y h2
        split at e
        · rename_i z fr h3
          split at e
          · rename_i e2 h4
            cases e
            obtain ⟨x, hx, hd⟩ := r.val i c h0
            refine ⟨x, hx, O, fx, env, o, e1, r, h1, fun v H1 b1 hv => ?_⟩
            obtain ⟨j, rfl, rfl⟩ := hg _ _ _ _ h3
            exact ⟨Oo O e1 σ, [c, y], .int j, false, fun a z => b1.rel.root_mut z, ⟨x, [v], rfl, .inl (den_le (Le.of_same b1.same) hd), v, [], rfl, pk_of b1.rel hv h2, rfl⟩, h3, fun w H2 n => q _ _ (setv_ok (fr := false) (bh_epost b1 (n.epost b1.rel)) h4)⟩
          · cases e
        · cases e
      · cases e
    · cases e
  · cases e
theorem ss_aug {op : Operator} {i : Nat} {x : Str} {f : OF} {g : G2} {pos' : Pos} (hN : X.N.Nodup) (hi : X.N[i]? = some x) (hx : Loc X.env.scope x) (he : SO X f e) (hp : PIp X op (rD2 X.K (g2 g))) (hg : intOnly g) (hf : X.fn x = true ∨ X.env.scope.names.lookup x = some .local := by first | exact .inl rfl | exact .inr rfl | assumption) :
    SS X (augF i f g) (.AugAssign (.Name x pos') op e pos) := (ps_aug hN hi hx he hp hf).imp fun _ _ _ h => aug_imp hg h
def augS (i : Nat) (fk : OF) (f : OF) (g : G2) : SF := fun env => match env[i]? with
  | some (some (_, o0)) => if o0 = .sh then none else match fk env with
    | some (ok, e1) => match e1[i]?, deref e1 ok with
      | some (some (c1, _)), some k1 => match gixD c1 k1 with
        | some (x, _) => match f e1 with
          | some (o, e2) => match deref e2 o, e2[i]?, deref e2 ok with
            | some y, some (some (c2, o2)), some k2 => if o2 = .sh then none else match g x y with
              | some (z, _) => match putD c2 k2 z with
                | some c3 => some (.nx, e2.set i (some (c3, o2)))
                | none => none
              | none => none
            | _, _, _ => none
          | none => none
        | none => none
      | _, _ => none
    | none => none
  | _ => none
theorem augS_imp {K : PySem.W.Frag} {i : Nat} {fk f : OF} {g : G2} {E : Ends} {σ : Sl} {H : Hp} (hg : intOnly g) (h : tS K (augS i fk f g) E σ H) : tAugS (tO K (varO i)) (tO K fk) (tO K f) (rD2 K (g2 gixD)) (rD2 K (g2 g)) (rSt K) E σ H := by
  obtain ⟨O, fx, env, out, env', r, e, q⟩ := h
  unfold augS at e
  split at e
  · rename_i c0 o0 h0
    split at e
    · cases e
    · split at e
      · rename_i ok e1 h1
        split at e
        · rename_i c1 o1 k1 h2 h3
          split at e
          · rename_i x fr0 h4
            split at e
            · rename_i o e2 h5
              split at e
              · rename_i y c2 o2 k2 h6 h7 h8
                split at e
                · cases e
                · rename_i hne
                  split at e
                  · rename_i z fr1 h9
                    split at e
                    · rename_i c3 h10
                      cases e
                      refine ⟨O, fx, env, .slot i, env, r, by simp [varO, h0], fun vo H1 b1 ho => ⟨O, fx, env, ok, e1, b1.rel, h1, fun vk H2 b2 hk => ?_⟩⟩
                      have ho : σ[i]? = some (some vo) := ho
                      refine ⟨Oo O e1 σ, [c1, k1], x, fr0, fun a z => b2.rel.root_mut z, ⟨vo, [vk], rfl, pk_of (o := .slot i) b2.rel ho (by simp [deref, h2]), vk, [], rfl, pk_of b2.rel hk h3, rfl⟩, h4, fun vx H3 n3 => ?_⟩
                      have hfr : fr0 = false := by
                        unfold gixD at h4
                        split at h4
                        · split at h4 <;> cases h4; rfl
                        · split at h4
                          · split at h4 <;> cases h4; rfl
                          · cases h4
                        · cases h4
                      subst hfr
                      have p3 := n3.epost b2.rel
                      obtain ⟨b3, dx⟩ := p3
                      refine ⟨O, fx, e1, o, e2, b3.rel, h5, fun vy H4 b4 hy => ?_⟩
                      obtain ⟨j, rfl, rfl⟩ := hg _ _ _ _ h9
                      refine ⟨Oo O e2 σ, [x, y], .int j, false, fun a z => b4.rel.root_mut z, ⟨vx, [vy], rfl, .inl (den_le (Le.of_same b4.same) dx), vy, [], rfl, pk_of b4.rel hy h6, rfl⟩, h9, fun vz H5 n5 => ?_⟩
                      obtain ⟨b5, dz⟩ := n5.epost b4.rel
                      obtain ⟨a, hs, hO, hw⟩ := b5.rel.own i c2 o2 h7 hne
                      rw [ho] at hs
                      cases hs
                      have b25 := b3.trans (b4.trans b5)
                      exact ⟨Oo O e2 σ, a, c2, k2, .int j, c3, rfl, hw, pk_of b5.rel (OIs.le b25.same hk) h8, dz, h10, fun u hu => q σ _ (b1.trans (b2.trans (b25.trans (b5.rel.mutate h7 hne ho hu))))⟩
                    · cases e
                  · cases e
              · cases e
            · cases e
          · cases e
        · cases e
      · cases e
  · cases e
theorem ss_augS {op : Operator} {i : Nat} {x : Str} {xpos tpos : Pos} {k : Expr} {fk f : OF} {g : G2} (hu : X.A.units + 64 < cLine) (ho : SO X (varO i) (.Name x xpos)) (hk : SO X fk k) (he : SO X f e) (hp : PIp X op (rD2 X.K (g2 g))) (hg : intOnly g)
    (ha : ∀ ov iv new, augStore k ov iv new = (do holding [new, ov, iv] (setItem ov iv new); release [new, ov, iv] []; pure .next) := by intros; rfl) : SS X (augS i fk f g) (.AugAssign (.Subscript (.Name x xpos) k tpos) op e pos) := (ps_augS ho hk (pget_ok hu) he hp (st_ok hu) ha).imp fun _ _ _ h => augS_imp hg h
end
end PD

/-! PdK: dicts: get, update, displays, dict(pairs), empty or not; range; isinstance. -/
namespace PD
open PySem PySem.Spec PyProof.Rows L2

/-! ### d.get(k, z) -/
def getE (fo fk : OF) (fz : EF) : EF := fun env => match fo env with
  | some (o, e1) => match deref e1 o with
    | some (.dict _) => match fk e1 with
      | some (ok, e2) => match fz e2 with
        | some (z, _, e3) => match deref e3 o, deref e3 ok with
          | some (.dict kvs), some k => match keyD k with
            | some _ => some ((lookD kvs k).getD z, false, e3)
            | none => none
          | _, _ => none
        | none => none
      | none => none
    | _ => none
  | none => none
theorem get_den {K : PySem.W.Frag} {B : Hp} (q : Key) {kvs : List (D × D)} {kv : List (Key × V)} {z : D} {w : V} (h : DenP K B kvs kv) (hz : Den K B z w) : Den K B ((lookD kvs (kD q)).getD z) ((valV kv q).getD w) := by
  have y := denP_look q h
  split at y
  · rename_i d e1
    obtain ⟨v, e2, h2⟩ := y
    rw [e1, e2]
    exact h2
  · rename_i e1
    rw [e1, y]
    exact hz
theorem getE_imp {K : PySem.W.Frag} {fo fk : OF} {fz : EF} {σ : Sl} {H : Hp} {Q : VK} (h : tE K (getE fo fk fz) σ H Q) : tDGet2 (tO K fo) (tO K fk) (tE K fz) σ H Q := by
  obtain ⟨O, fx, env, d, fr, env', r, e, q⟩ := h
  unfold getE at e
  split at e
  · rename_i o e1 h1
    split at e
    · rename_i kv0 h2
      split at e
      · rename_i ok e2 h3
        split at e
        · rename_i z frz e3 h4
          split at e
          · rename_i kvs k h5 h6
            split at e
            · rename_i key h7
              cases e
              refine ⟨O, fx, env, o, e1, r, h1, fun x H1 b1 o1 => ?_⟩
              obtain ⟨a, m0, rfl, rd0, _⟩ := pk_dict (pk_of b1.rel o1 h2)
              refine ⟨a, rfl, .inl ⟨_, rd0⟩, O, fx, e1, ok, e2, b1.rel, h3, fun y H2 b2 o2 => ⟨O, fx, e2, z, frz, env', b2.rel, h4, fun w H3 p3 => ?_⟩⟩
              obtain ⟨b3, dz⟩ := p3.weak
              obtain ⟨a', m, ea, rd, hd⟩ := pk_dict (pk_of b3.rel (OIs.le (b2.same.trans b3.same) o1) h5)
              cases ea
              obtain rfl := keyD_kD h7
              obtain rfl := kD_den (pk_of b3.rel (OIs.le b3.same o2) h6)
              exact ⟨valV m key, .inl ⟨m, key, rd, rfl, rfl⟩, q _ _ ⟨b1.trans (b2.trans b3), get_den key hd dz⟩⟩
            · cases e
          · cases e
        · cases e
      · cases e
    · cases e
  · cases e
section
variable {X : Cx} {pos apos cpos : Pos}
theorem se_get {o e f : Expr} {fo fk : OF} {fz : EF} (hu : X.A.units + 64 < cLine) (ho : SO X fo o) (he : SO X fk e) (hf : SE X fz f) (m : M2 X o "get" apos e f cpos := by exact ⟨by rfl, by rfl, by rfl, by rfl⟩) : SE X (getE fo fk fz) (.Call (.Attribute o "get" apos) [e, f] [] cpos) :=
  (pe_dget2 (by omega) ho he hf m).imp fun _ _ _ h => getE_imp h

/-! ### d.update(e) -/
def updateM : MF
  | .dict kvs, [.dict more] => if kvs.length + more.length ≤ sizeLine then some (.none, .dict (mergeP kvs more)) else none
  | _, _ => none
theorem mr_update : MtR X "dict.update" (rM X.K updateM false) := by
  intro pins s σ H x xs v us Q I rx rs h
  obtain ⟨O, a, c, ds, r, c', rfl, m, hOa, hw, hd, e, q⟩ := h
  unfold updateM at e
  split at e
  · rename_i kvs more
    split at e
    · rename_i hl
      cases e
      obtain ⟨vs, hv, hdv⟩ := own_dict hw
      have hd : PkLN X.K O H a [.dict more] xs := hd
      obtain ⟨w, r, rfl, h1, h2⟩ := hd
      cases h2
      obtain ⟨b, ws, rfl, hab, h3, h4⟩ : ∃ b ws, w = .ref b ∧ a ≠ b ∧ Rd H b (.dK ws) ∧ DenP X.K (cut H O) more ws := by
        rcases h1 with ⟨b, ws, e1, g1, g2⟩ | ⟨b, e1, nb, ws, g1, g2⟩
        · exact ⟨b, ws, e1, fun z => (cut_rd.mp g1).1 (z ▸ hOa), (cut_rd.mp g1).2, g2⟩
        · exact ⟨b, ws, e1, fun z => nb z.symm, .inl g1, g2⟩
      obtain ⟨u, rfl, ru⟩ := vals1 rs
      cases rx
      cases ru
      obtain ⟨z1, s1, as, ra, da⟩ := dk_of I.hok hv
      obtain ⟨z2, s2, bs, rb, db⟩ := dk_rd I.hok h3
      have hz : (mergeK vs ws).length ≤ sizeLine := by
        have := length_mergeK ws vs
        rw [denP_length hdv, denP_length h4] at this
        omega
      refine call_meetsIn PySem.F.slot_dict_update da.typeIs PySem.F.entry_dict_update (PySem.F.args_dict_update_2 _ _) (meets_dict_update (mixKind X.prog X.w) a b hab s2) ⟨as, bs, da, db, by rw [← KV.length ra, ← KV.length rb, denP_length hdv, denP_length h4]; exact hl, fun h' d1 d2 sb => ?_⟩
      have he : ∃ y, h'.get? a = some y := by
        obtain ⟨y, _, _, hy, _⟩ := d1
        exact ⟨y, hy⟩
      exact ⟨.non, _, d_write (t' := s.toks) I (by rw [hv]; trivial) sb he (dk_new hz s1 (KV.merge rb ra) d1), rfl, q _ _ ⟨_, upd_same, denP_merge hdv h4⟩ rfl⟩
    · cases e
  · cases e

/-! ### {..} -/
def newDF : EF := fun env => some (.dict [], true, env)
theorem np_dict {K : PySem.W.Frag} {O : Addr → Prop} {H : Hp} {p : Addr} {ds : List (D × D)} {vs : List (Key × V)} (h : H p = none) (hd : DenP K (cut H O) ds vs) : NPost K O H (.dict ds) true (.ref p) (upd H p (.dK vs)) :=
  ⟨same_new' h, p, rfl, h, vs, upd_same, denP_le (Le.of_same (cut_same (same_new' h) fun a na z => z.elim id fun e => absurd (e ▸ h) na)) hd⟩
theorem se_new : SE X newDF (.Dict [] [] pos) := pe_dnewK.imp fun σ H Q h => by
  obtain ⟨O, fx, env, d, fr, env', r, e, q⟩ := h
  cases e
  exact fun p hp => q _ _ ((np_dict (ds := []) (vs := []) hp rfl).epost r)
def dispL : List (EF × EF) → Ev → Option (List (D × D) × Ev)
  | [], env => some ([], env)
  | (fk, fv) :: r, env => match fk env with
    | some (k, _, e1) => match keyD k with
      | some _ => match fv e1 with
        | some (v, _, e2) => match dispL r e2 with
          | some (ps, e3) => some ((k, v) :: ps, e3)
          | none => none
        | none => none
      | none => none
    | none => none
def dispF (l : List (EF × EF)) : EF := fun env => if l.length ≤ 15 then match dispL l env with
    | some (ps, e1) => some (.dict (mergeP [] ps), true, e1)
    | none => none
  else none
structure SPs (X : Cx) (pos : Pos) (keys : List (Option Expr)) (values : List Expr) (l : List (EF × EF)) : Prop where
  ps : PPs X pos keys values (l.map fun p => (tE X.K p.1, tE X.K p.2))
theorem sps_nil : SPs X pos [] [] [] := ⟨pps_nil⟩
theorem sps_cons {k v : Expr} {ks : List (Option Expr)} {vs : List Expr} {fk fv : EF} {l : List (EF × EF)} (hk : SE X fk k) (hv : SE X fv v) (hr : SPs X pos ks vs l) : SPs X pos (some k :: ks) (v :: vs) ((fk, fv) :: l) := ⟨pps_cons hk hv hr.ps⟩
theorem disp_walk {K : PySem.W.Frag} {O : Addr → Prop} {fx : Nat → Option Addr} {σ : Sl} : ∀ {l : List (EF × EF)} {env e1 : Ev} {H : Hp} {ps : List (D × D)} {Q : List (V × V) → Hp → Prop}, R K O fx env σ H → dispL l env = some (ps, e1) →
    (∀ (kvs : List (Key × V)) H', Bh K O fx env σ H e1 H' → DenP K (Pb O e1 σ H') ps kvs → kvs.length = l.length → Q (kvs.map fun kv => (kV kv.1, kv.2)) H') → tPairs (l.map fun p => (tE K p.1, tE K p.2)) σ H Q
  | [], env, e1, H, ps, Q, r, e, q => by
    cases e
    exact q [] H (Bh.refl r) rfl rfl
  | (fk, fv) :: l, env, e1, H, ps, Q, r, e, q => by
    simp only [dispL] at e
    split at e
    · rename_i k fr1 e2 h1
      split at e
      · rename_i key h2
        split at e
        · rename_i v fr2 e3 h3
          split at e
          · rename_i ps' e4 h4
            cases e
            refine ⟨O, fx, env, k, fr1, e2, r, h1, fun x H1 p1 => ?_⟩
            obtain ⟨b1, d1⟩ := p1.weak
            obtain rfl := keyD_kD h2
            refine ⟨O, fx, e2, v, fr2, e3, b1.rel, h3, fun y H2 p2 => ?_⟩
            obtain ⟨b2, d2⟩ := p2.weak
            refine disp_walk b2.rel h4 fun kvs H3 b3 d3 hl => ?_
            have hx : x = kV key := by
              cases key with
              | inl i => exact d1
              | inr i => exact d1
            subst hx
            exact q ((key, y) :: kvs) H3 (b1.trans (b2.trans b3)) ⟨key, y, kvs, rfl, rfl, den_le (Le.of_same b3.same) d2, d3⟩ (by simp [hl])
          · cases e
        · cases e
      · cases e
    · cases e
theorem disp_imp {K : PySem.W.Frag} {l : List (EF × EF)} {σ : Sl} {H : Hp} {Q : VK} (h : tE K (dispF l) σ H Q) : tDisp (l.map fun p => (tE K p.1, tE K p.2)) σ H Q := by
  obtain ⟨O, fx, env, d, fr, env', r, e, q⟩ := h
  unfold dispF at e
  split at e
  · rename_i hl
    split at e
    · rename_i ps e1 h1
      cases e
      intro p hp
      obtain ⟨a, ea, f⟩ := (np_dict (K := K) (O := Oo O env σ) (ds := []) (vs := []) hp rfl).epost r
      cases ea
      refine disp_walk f.rel h1 fun kvs H2 b hd hk => ?_
      have hp2 : H2 p = some (.dK []) := (b.outer p (.inr rfl)).trans upd_same
      refine ⟨hp2, kvs, rfl, by omega, q _ _ ⟨p, rfl, f.new, push_ok b.rel, ?_, fun c z => ?_, ?_⟩⟩
      · rw [push_pb]
        exact f.same.trans b.same
      · have nc : c ≠ p := fun z' => f.new (z' ▸ z)
        rw [upd_ne nc]
        exact (b.outer c (.inl z)).trans (f.outer c z)
      · refine ⟨_, upd_same, ?_⟩
        rw [push_pb]
        exact denP_merge (kvs := []) (kv := []) rfl hd
    · cases e
  · cases e
theorem se_disp {keys : List (Option Expr)} {values : List Expr} {l : List (EF × EF)} (h : SPs X pos keys values l) (hall : keys.all (·.isSome) = true := by rfl) (hl : keys.length = values.length := by rfl) (h0 : keys ≠ [] := by exact fun h => nomatch h)
    (h15 : keys.length ≤ 15 := by decide) : SE X (dispF l) (.Dict keys values pos) := (pe_disp h.ps hall hl h0 h15).imp fun _ _ _ h => disp_imp h

/-! ### dict(pairs) -/
def pairsD : List D → Option (List (D × D))
  | [] => some []
  | .tuple [k, v] :: r => match keyD k with
    | some _ => match pairsD r with
      | some ps => some ((k, v) :: ps)
      | none => none
    | none => none
  | _ => none
def dictD : G1
  | .list xs => match pairsD xs with
    | some ps => some (.dict (mergeP [] ps), true)
    | none => none
  | _ => none
theorem pairs_den {K : PySem.W.Frag} {H : Hp} {O : Addr → Prop} : ∀ {xs : List D} {vs : List V} {ps : List (D × D)}, pairsD xs = some ps → DenL K (cut H O) xs vs → ∃ (as : List Addr) (kvs : List (Key × V)), vs = as.map V.ref ∧ Paired (fun p kv => SqT K H p [kV kv.1, kv.2]) as kvs ∧ DenP K (cut H O) ps kvs
  | [], _, _, e, h => by
    cases e; cases h
    exact ⟨[], [], rfl, .nil, rfl⟩
  | x :: r, _, _, e, h => by
    unfold pairsD at e
    split at e
    · rename_i heq; cases heq
    · rename_i k v r' heq
      cases heq
      split at e
      · rename_i key h1
        split at e
        · rename_i ps' h2
          cases e
          obtain ⟨w, t, rfl, h3, h4⟩ := h
          obtain ⟨as, kvs, rfl, h5, h6⟩ := pairs_den h2 h4
          obtain ⟨a, us, rfl, h7, h8, _⟩ := h3
          obtain ⟨u1, t1, rfl, g1, g2⟩ := h8
          obtain ⟨u2, t2, rfl, g3, g4⟩ := g2
          cases g4
          obtain rfl := keyD_kD h1
          have hu1 : u1 = kV key := by
            cases key with
            | inl i => exact g1
            | inr i => exact g1
          subst hu1
          exact ⟨a :: as, (key, u2) :: kvs, rfl, .cons (sqT_le cut_le h7) h5, key, u2, kvs, rfl, rfl, g3, h6⟩
        · cases e
      · cases e
    · cases e
theorem cr_dict (hc : X.calm = true) : CallR X (.type "dict") (rD X.K (g1 dictD)) := by
  intro pins s σ H xs us Q I r h
  obtain ⟨x, rfl, h⟩ := rD_one h
  obtain ⟨O, a, d, fr, m, p1, e, q⟩ := rD1_elim h
  unfold dictD at e
  split at e
  · split at e
    · rename_i ps h1
      cases e
      obtain ⟨p, vs, rfl, h2, h3⟩ := pk_list p1
      obtain ⟨as, kvs, rfl, h4, h5⟩ := pairs_den h1 h3
      exact call_dictP hc pins s σ H _ us Q I r ⟨p, as, kvs, rfl, h2, h4, fun l hl => q _ _ (np_dict hl (denP_merge (kvs := []) (kv := []) rfl h5))⟩
    · cases e
  · cases e

/-! ### d == {}, d != {} -/
def neDict : G2
  | .dict ks, .dict ls => if ks.isEmpty || ls.isEmpty then some (.bool (!(ks.length == ls.length)), false) else none
  | _, _ => none
def eqDict : G2
  | .dict ks, .dict ls => if ks.isEmpty || ls.isEmpty then some (.bool (ks.length == ls.length), false) else none
  | _, _ => none
theorem dict_core {pins : List (Addr × Obj)} {σ : Sl} {H : Hp} {s : Shared} {O : Addr → Prop} {ks ls : List (D × D)} {x y : V} {v u : Value} (hu : X.A.units + 64 < cLine) (I : Inv X pins σ H s) (rx : RelV x v) (ry : RelV y u) (p1 : Pk X.K O H (.dict ks) x) (p2 : Pk X.K O H (.dict ls) y) (c : (ks.isEmpty || ls.isEmpty) = true) :
    (∀ Q : VK, Q (.bl (ks.length == ls.length)) H → wpAny (model X.prog X.w) X.A (compareOp .Eq v u) (EP X pins σ Q) X.xe s) ∧ ∀ Q : VK, Q (.bl (!(ks.length == ls.length))) H → wpAny (model X.prog X.w) X.A (compareOp .NotEq v u) (EP X pins σ Q) X.xe s := by
  obtain ⟨a, va, rfl, h1, h2⟩ := pk_dict p1
  obtain ⟨b, vb, rfl, h3, h4⟩ := pk_dict p2
  cases rx
  cases ry
  obtain ⟨z1, s1, as, ra, da⟩ := dk_rd I.hok h1
  obtain ⟨z2, s2, bs, rb, db⟩ := dk_rd I.hok h3
  have l1 : as.length = ks.length := by rw [← KV.length ra, denP_length h2]
  have l2 : bs.length = ls.length := by rw [← KV.length rb, denP_length h4]
  have emp : as.length = bs.length → as = [] := fun e => by
    rw [l1, l2] at e
    simp only [Bool.or_eq_true, List.isEmpty_iff] at c
    refine List.length_eq_zero_iff.mp ?_
    rw [l1]
    rcases c with c | c
    · rw [c]; rfl
    · rw [e, c]; rfl
  refine ⟨fun Q q => PySem.W.keq_eq (knd := mixKind X.prog X.w) (r := true) s1 s2 da db (by omega) (fun e => by rw [emp e]; exact .nil) ⟨.bl _, H, I, rfl, ?_⟩, fun Q q => PySem.W.keq_ne (knd := mixKind X.prog X.w) (r := true) s1 s2 da db (by omega) (fun e => by rw [emp e]; exact .nil) ⟨.bl _, H, I, rfl, ?_⟩⟩
  · rw [Bool.and_true, l1, l2]; exact q
  · rw [Bool.and_true, l1, l2]; exact q
theorem or_neDict (hu : X.A.units + 64 < cLine) : OpR X (compareOp .NotEq) (rD2 X.K (g2 neDict)) := by
  intro pins s σ H x y v u Q I rx ry h
  obtain ⟨O, a, b, d, fr, m, p1, p2, e, q⟩ := rD2_elim h
  unfold neDict at e
  split at e
  · split at e
    · rename_i c
      cases e
      exact (dict_core hu I rx ry p1 p2 c).2 Q (q _ _ (np_val fun _ => rfl))
    · cases e
  · cases e
theorem or_eqDict (hu : X.A.units + 64 < cLine) : OpR X (compareOp .Eq) (rD2 X.K (g2 eqDict)) := by
  intro pins s σ H x y v u Q I rx ry h
  obtain ⟨O, a, b, d, fr, m, p1, p2, e, q⟩ := rD2_elim h
  unfold eqDict at e
  split at e
  · split at e
    · rename_i c
      cases e
      exact (dict_core hu I rx ry p1 p2 c).1 Q (q _ _ (np_val fun _ => rfl))
    · cases e
  · cases e

/-! ### range -/
def rngL (lo : Int) (n : Nat) : List D := (List.range n).map fun (i : Nat) => .int (lo + (i : Int))
theorem jok_rng {K : PySem.W.Frag} {B : Hp} {lo : Int} {n : Nat} : JOk K B (Itr lo n) (rngL lo n) := by
  have hl : (rngL lo n).length = n := by simp [rngL]
  refine ⟨fun i H hi _ => by rw [hl] at hi; exact hi, fun i H hi _ => by rw [hl] at hi; exact hi, fun i H d x H' _ e y => ?_⟩
  obtain ⟨rfl, rfl⟩ := y
  refine ⟨Same.refl _, fun O _ _ => ?_⟩
  simp only [rngL, List.getElem?_map, Option.map_eq_some_iff] at e
  obtain ⟨j, h1, rfl⟩ := e
  obtain ⟨_, h2⟩ := List.getElem?_eq_some_iff.mp h1
  rw [List.getElem_range] at h2
  rw [← h2]
  rfl
def rngI (fl : OLF) : IF := fun env => match fl env with
  | some (os, e1) => match derefs e1 os with
    | some [.int j] => if -(2 ^ 62) ≤ j ∧ j < 2 ^ 62 then some (rngL 0 j.toNat, e1) else none
    | some [.int i, .int j] => if -(2 ^ 62) ≤ i ∧ i < 2 ^ 62 ∧ -(2 ^ 62) ≤ j ∧ j < 2 ^ 62 then some (rngL i (j - i).toNat, e1) else none
    | _ => none
  | none => none
theorem rng_one {K : PySem.W.Frag} {f : OF} {σ : Sl} {H : Hp} {Q : It → Hp → Prop} (h : tI K (rngI (consO f nilO)) σ H Q) : iRng1 (tOL K (consO f nilO)) σ H Q := by
  obtain ⟨O, fx, env, ds, env', r, e, q⟩ := h
  unfold rngI at e
  split at e
  · rename_i os e1 h1
    split at e
    · rename_i j h2
      split at e
      · rename_i c
        cases e
        refine ⟨O, fx, env, os, _, r, h1, fun vs H1 b a => ?_⟩
        obtain ⟨v, t, rfl, p1, p2⟩ := pkL_of b.rel a h2
        cases p2
        obtain rfl := pk_int p1
        exact ⟨j, rfl, c.1, c.2, q _ _ b jok_rng⟩
      · cases e
    · rename_i i j h2
      exfalso
      unfold consO nilO at h1
      split at h1
      · cases h1
        have := derefs_length h2
        simp at this
      · cases h1
    · cases e
  · cases e
theorem rng_two {K : PySem.W.Frag} {f f2 : OF} {σ : Sl} {H : Hp} {Q : It → Hp → Prop} (h : tI K (rngI (consO f (consO f2 nilO))) σ H Q) : iRng2 (tOL K (consO f (consO f2 nilO))) σ H Q := by
  obtain ⟨O, fx, env, ds, env', r, e, q⟩ := h
  unfold rngI at e
  split at e
  · rename_i os e1 h1
    split at e
    · rename_i j h2
      exfalso
      have hl := derefs_length h2
      have := len_cons (f := f) (len_cons (f := f2) len_nil) os ⟨_, _, h1⟩
      rw [this] at hl
      simp at hl
    · rename_i i j h2
      split at e
      · rename_i c
        cases e
        refine ⟨O, fx, env, os, _, r, h1, fun vs H1 b a => ?_⟩
        obtain ⟨v, t, rfl, p1, p2⟩ := pkL_of b.rel a h2
        obtain ⟨v', t', rfl, p3, p4⟩ := p2
        cases p4
        obtain rfl := pk_int p1
        obtain rfl := pk_int p3
        exact ⟨i, j, rfl, c, q _ _ b jok_rng⟩
      · cases e
    · cases e
  · cases e
theorem si_rng1 {tg a : Expr} {f : OF} {p pos : Pos} (hg : Gl X "range") (hm : X.mg "range" = none) (ha : SOL X (consO f nilO) [a]) (hs : starEach [a] X.env = [(false, eval a X.env)] := by rfl) : SI X (rngI (consO f nilO)) tg (.Call (.Name "range" p) [a] [] pos) := (pi_range1 hg hm ha hs).imp fun _ _ _ h => rng_one h
theorem si_rng2 {tg a b : Expr} {f f2 : OF} {p pos : Pos} (hg : Gl X "range") (hm : X.mg "range" = none) (ha : SOL X (consO f (consO f2 nilO)) [a, b]) (hs : starEach [a, b] X.env = [(false, eval a X.env), (false, eval b X.env)] := by rfl) (hs2 : starEach [b] X.env = [(false, eval b X.env)] := by rfl) : SI X (rngI (consO f (consO f2 nilO))) tg (.Call (.Name "range" p) [a, b] [] pos) := (pi_range2 hg hm ha hs hs2).imp fun _ _ _ h => rng_two h
end
end PD

/-! PdL: sorted texts, x[::-1], isinstance, written constants, a, b = x, y. -/
namespace PD
open PySem PySem.Spec PyProof.Rows L2

/-! ### texts in order -/
def insS (x : Str) : List Str → List Str
  | [] => [x]
  | y :: r => if ltCps y.cps.toList x.cps.toList then y :: insS x r else x :: y :: r
def sortS : List Str → List Str
  | [] => []
  | x :: r => insS x (sortS r)
abbrev leS (a b : Str) : Prop := ltCps b.cps.toList a.cps.toList = false
theorem leS_iff {a b : Str} : leS a b ↔ a.cps.toList ≤ b.cps.toList := by
  unfold leS
  rw [ltCps_eq]
  simp
theorem leS_trans {a b c : Str} (h : leS a b) (k : leS b c) : leS a c := leS_iff.mpr (List.le_trans (leS_iff.mp h) (leS_iff.mp k))
theorem leS_anti {a b : Str} (h : leS a b) (k : leS b a) : a = b := by
  have e : a.cps.toList = b.cps.toList := List.le_antisymm (leS_iff.mp h) (leS_iff.mp k)
  obtain ⟨⟨l⟩⟩ := a
  obtain ⟨⟨m⟩⟩ := b
  have e : l = m := e
  rw [e]
theorem leS_total (a b : Str) : leS a b ∨ leS b a := by
  rw [leS_iff, leS_iff]
  exact List.le_total _ _
theorem insS_perm (x : Str) : ∀ l : List Str, (insS x l).Perm (x :: l)
  | [] => .refl _
  | y :: r => by
    unfold insS
    split
    · exact ((insS_perm x r).cons y).trans (.swap x y r)
    · exact .refl _
theorem sortS_perm : ∀ l : List Str, (sortS l).Perm l
  | [] => .refl _
  | x :: r => (insS_perm x _).trans ((sortS_perm r).cons x)
theorem insS_sorted (x : Str) : ∀ l : List Str, l.Pairwise leS → (insS x l).Pairwise leS
  | [], _ => List.pairwise_singleton ..
  | y :: r, h => by
    obtain ⟨h1, h2⟩ := List.pairwise_cons.mp h
    unfold insS
    split
    · rename_i c
      refine List.pairwise_cons.mpr ⟨fun z hz => ?_, insS_sorted x r h2⟩
      rcases List.mem_cons.mp ((insS_perm x r).mem_iff.mp hz) with rfl | hz
      · rcases leS_total y z with k | k
        · exact k
        · unfold leS at k
          rw [c] at k
          cases k
      · exact h1 z hz
    · rename_i c
      have k : leS x y := by simpa using c
      refine List.pairwise_cons.mpr ⟨fun z hz => ?_, h⟩
      rcases List.mem_cons.mp hz with rfl | hz
      · exact k
      · exact leS_trans k (h1 z hz)
theorem sortS_sorted : ∀ l : List Str, (sortS l).Pairwise leS
  | [] => List.Pairwise.nil
  | x :: r => insS_sorted x _ (sortS_sorted r)
theorem sorted_uniq : ∀ {l m : List Str}, l.Pairwise leS → m.Pairwise leS → l.Perm m → l = m
  | [], m, _, _, p => (List.nil_perm.mp p).symm
  | x :: r, m, h, k, p => by
    cases m with
    | nil => exact absurd p.length_eq (by simp)
    | cons y t =>
      obtain ⟨h1, h2⟩ := List.pairwise_cons.mp h
      obtain ⟨k1, k2⟩ := List.pairwise_cons.mp k
      have refl : ∀ z : Str, leS z z := fun z => (leS_total z z).elim id id
      have hx : leS y x := by
        rcases List.mem_cons.mp (p.mem_iff.mp List.mem_cons_self) with e | e
        · rw [e]; exact refl y
        · exact k1 x e
      have hy : leS x y := by
        rcases List.mem_cons.mp (p.mem_iff.mpr List.mem_cons_self) with e | e
        · rw [e]; exact refl x
        · exact h1 y e
      have e := leS_anti hy hx
      subst e
      rw [sorted_uniq h2 k2 (List.Perm.cons_inv p)]
theorem rising_pair : ∀ (l : List Str) (p : Str), risingS p l = true → (p :: l).Pairwise leS
  | [], p, _ => List.pairwise_singleton ..
  | x :: r, p, h => by
    simp only [risingS, Bool.and_eq_true, Bool.not_eq_true'] at h
    have ih := rising_pair r x h.2
    refine List.pairwise_cons.mpr ⟨fun z hz => ?_, ih⟩
    rcases List.mem_cons.mp hz with rfl | hz
    · exact h.1
    · exact leS_trans h.1 ((List.pairwise_cons.mp ih).1 z hz)
theorem sortedS_pair : ∀ {l : List Str}, sortedS l = true → l.Pairwise leS
  | [], _ => List.Pairwise.nil
  | x :: r, h => rising_pair r x h
theorem sortS_eq {l m : List Str} (p : m.Perm l) (s : sortedS m = true) : m = sortS l := sorted_uniq (sortedS_pair s) (sortS_sorted l) (p.trans (sortS_perm l).symm)
/-- all of them texts -/
def strsD : List D → Option (List Str)
  | [] => some []
  | .str x :: r => match strsD r with
    | some xs => some (x :: xs)
    | none => none
  | _ :: _ => none
theorem strsD_eq : ∀ {ds : List D} {xs : List Str}, strsD ds = some xs → ds = xs.map PyData.str
  | [], xs, h => by cases h; rfl
  | d :: r, xs, h => by
    unfold strsD at h
    split at h
    · rename_i heq; cases heq
    · rename_i x r' heq
      cases heq
      split at h
      · rename_i ys h1
        cases h
        rw [strsD_eq h1]; rfl
      · cases h
    · cases h
theorem denL_strs {K : PySem.W.Frag} {H : Hp} : ∀ {xs : List Str} {vs : List V}, DenL K H (xs.map PyData.str) vs → vs = xs.map V.str
  | [], _, h => by cases h; rfl
  | x :: r, _, h => by
    obtain ⟨v, t, rfl, h1, h2⟩ := h
    cases h1
    rw [denL_strs h2]; rfl
theorem strs_denL {K : PySem.W.Frag} {H : Hp} : ∀ {xs : List Str}, DenL K H (xs.map PyData.str) (xs.map V.str)
  | [] => rfl
  | x :: r => ⟨_, _, rfl, rfl, strs_denL⟩
def sortD : G1
  | .list ds => match strsD ds with
    | some xs => if xs.length < 64 then some (.list ((sortS xs).map .str), true) else none
    | none => none
  | _ => none
section
variable {X : Cx}
theorem cr_sort : CallR X (.builtin "sorted") (rD X.K (g1 sortD)) := by
  intro pins s σ H xs us Q I r h
  obtain ⟨x, rfl, h⟩ := rD_one h
  obtain ⟨O, a, d, fr, m, p1, e, q⟩ := rD1_elim h
  unfold sortD at e
  split at e
  · split at e
    · rename_i ys h1
      split at e
      · rename_i hl
        cases e
        obtain ⟨p, vs, rfl, h2, h3⟩ := pk_list p1
        rw [strsD_eq h1] at h3
        obtain rfl := denL_strs h3
        exact cr_sortedS pins s σ H _ us Q I r ⟨p, ys, rfl, h2, hl, fun zs l hp hs hn => by
          rw [sortS_eq hp hs]
          exact q _ _ (np_list hn strs_denL)⟩
      · cases e
    · cases e
  · cases e

/-! ### written constants -/
/-- the name stands for this datum -/
structure Kg (X : Cx) (x : Str) (d : D) : Prop where
  ex : ∃ v u, X.mg x = some u ∧ RelV v u ∧ ∀ H, Den X.K H d v
theorem se_glob {x : Str} {d : D} {pos : Pos} (hk : Kg X x d) (hg : Gl X x) (hd : (x == ("__debug__" : Str)) = false := by decide) : SE X (cF d) (.Name x pos) := by
  obtain ⟨v, u, hm, r, h⟩ := hk.ex
  exact (pe_glob hg hm r hd).imp fun _ _ _ z => c_imp h z

/-! ### x[::-1] -/
def revD : G1
  | .list xs => some (.list xs.reverse, true)
  | .tuple xs => some (.tuple xs.reverse, false)
  | _ => none
theorem denL_reverse {K : PySem.W.Frag} {H : Hp} : ∀ {ds : List D} {vs : List V}, DenL K H ds vs → DenL K H ds.reverse vs.reverse
  | [], _, h => by cases h; rfl
  | d :: r, _, h => by
    obtain ⟨v, t, rfl, h1, h2⟩ := h
    rw [List.reverse_cons, List.reverse_cons]
    exact denL_append (denL_reverse h2) ⟨v, [], rfl, h1, rfl⟩
theorem filterMap_cong {α β : Type} {f g : α → Option β} : ∀ {l : List α}, (∀ a ∈ l, f a = g a) → l.filterMap f = l.filterMap g
  | [], _ => rfl
  | a :: r, h => by
    rw [List.filterMap_cons, List.filterMap_cons, h a List.mem_cons_self, filterMap_cong fun b hb => h b (List.mem_cons_of_mem _ hb)]
theorem back_pick (xs : Array Value) (n : Nat) (hn : n = xs.size) : ((List.range n).filterMap fun (k : Nat) => xs[(((n : Int) - 1) + (k : Int) * -1).toNat]?) = xs.toList.reverse := by
  have e : (List.range n).filterMap (fun (k : Nat) => xs[(((n : Int) - 1) + (k : Int) * -1).toNat]?) = ((List.range n).map fun k => n - 1 - k).filterMap fun j => xs[j]? := by
    rw [List.filterMap_map]
    refine filterMap_cong fun k hk => ?_
    have := List.mem_range.mp hk
    show _ = xs[n - 1 - k]?
    congr 1
    omega
  rw [e, PySem.W.krv_range, List.filterMap_reverse, hn, PySem.W.krv_all]
theorem getItem_tuple_back {P : Program} {w : World} {A : Around} {E : Value → Shared → Prop} {s : Shared} {t sl : Addr} {items : Array Value} {u : Tok} {Q : Value → Shared → Prop} (ht : IsTup s.heap t items) (hs : s.heap.IsSliceOf sl .none .none (.int (-1) u)) (hz : items.size ≤ sizeLine)
    (h : Q (.ref s.heap.objs.size) { s with heap := s.heap.push { cls := .type "tuple", data := .seq items.toList.reverse.toArray } }) : wpAny (model P w) A (getItem (.ref t) (.ref sl)) Q E s := by
  obtain ⟨os, hos, hcs, hds⟩ := id hs
  have hTs : s.TypeIs (.ref sl) "slice" := ⟨os, hos, hcs⟩
  have hok : sizeOk (.seq items.toList.reverse.toArray) := by
    show items.toList.reverse.toArray.size ≤ sizeLine
    simpa using hz
  unfold getItem
  try with_reducible refine wpAny_holding ?_
  first | refine wpAny_bind (wpAny_pure ?_) | skip
  refine wpAny_bind (wpAny_sequenceKey ht.typeIs (by decide) ?_)
  refine wpAny_bind (wpAny_callSpecial?_slot (name := Str.ofString "__getitem__") ht.typeIs PyProof.Rows.slot_tuple_getitem (wpAny_call_entry PyProof.Rows.slot_tuple_getitem ht.typeIs entry_tuple_getitem ?_ (args_tuple_getitem _ _)))
  show wpAny _ _ (Builtin.Tuple.tupleItemsOf (.ref t) >>= _) _ _ s
  refine wpAny_bind (tupleItemsOf_ ht (wpAny_bind (wpAny_typeOf hTs ?_)))
  rw [if_pos (by decide)]
  have app : ∀ {Q' : Int × Int × Nat → Shared → Prop}, Q' ((items.size : Int) - 1, -1, items.size) s → wpAny (model P w) A.in1 (Builtin.Slice.sliceApplied (.ref sl) (pure (items.size : Int))) Q' E s := fun {Q'} q => by
    unfold Builtin.Slice.sliceApplied Builtin.Slice.sliceFields
    refine wpAny_bind (wpAny_bind (wpAny_field hos hds (x := .none) rfl (wpAny_bind (wpAny_field hos hds (x := .none) rfl (wpAny_bind (wpAny_field hos hds (x := .int (-1) u) rfl (wpAny_pure ?_)))))))
    refine wpAny_bind (HT.slicePart_ (.int (-1) u) ?_)
    show wpAny _ _ (if ((-1 : Int) == 0) = true then _ else _) _ _ s
    rw [if_neg (by decide)]
    refine wpAny_bind (HT.slicePart_ .none (wpAny_bind (HT.slicePart_ .none (wpAny_bind (wpAny_pure ?_)))))
    refine wpAny_pure ?_
    have e : Builtin.Slice.slicePlaces ((items.size : Int) - 1) (-1) (-1) = items.size := by
      unfold Builtin.Slice.slicePlaces
      have h1 : ¬ ((-1 : Int) > 0) := by decide
      have h2 : (- -1 : Int) = 1 := by decide
      simp only [h1, if_false, h2, Int.ediv_one]
      split <;> omega
    show Q' ((items.size : Int) - 1, -1, Builtin.Slice.slicePlaces ((items.size : Int) - 1) (-1) (-1)) s
    rw [e]
    exact q
  refine wpAny_bind (app ?_)
  have hno : ¬ ((((items.size : Int) - 1) == 0 && (-1 : Int) == 1 && items.size == items.size) = true) := by simp
  show wpAny _ _ (if (((items.size : Int) - 1) == 0 && (-1 : Int) == 1 && items.size == items.size) = true then _ else _) _ _ s
  rw [if_neg hno, back_pick items items.size rfl]
  first
    | exact wpAny_bind (m := Builtin.Tuple.tupleExact _) (wpAny_newObj_type (wpAny_pure ⟨_, rfl, wpAny_pure h⟩) hok)
    | exact wpAny_bind (m := Builtin.Tuple.tupleExact _) (wpAny_newObj_type (wpAny_bind (wpAny_pure (wpAny_pure ⟨_, rfl, wpAny_pure h⟩))) hok)
    | exact wpAny_bind (wpAny_bind (m := Builtin.Tuple.tupleExact _) (wpAny_newObj_type (wpAny_pure (wpAny_pure ⟨_, rfl, wpAny_pure h⟩)) hok))
    | exact wpAny_bind (wpAny_bind (m := Builtin.Tuple.tupleExact _) (wpAny_newObj_type (wpAny_pure ⟨_, rfl, wpAny_pure h⟩) hok))
def tRevD (K : PySem.W.Frag) (te : TE) : TE := fun σ H Q => te σ H fun x H1 => rD1 K (g1 revD) x H1 Q
theorem pe_rev {e : Expr} {te : TE} {k : Nat} {p1 p2 p3 pos : Pos} (he : PE X e te) : PE X (.Subscript e (.Slice none none (some (.UnaryOp .USub (.Constant (.int 1) k p1) p2)) p3) pos) (tRevD X.K te) := by
  refine ⟨fun pins s σ H Q I h => Subscript_ (thn (he.run pins s σ H _ I h) fun v s1 ⟨x, H1, I1, r1, q1⟩ => ?_)⟩
  have hst : PO X (some (.UnaryOp .USub (.Constant (.int 1) k p1) p2)) (tPart (tUn (rU fun i => .int (-i)) (tC (.int 1)))) := po_some (pe_un un_neg pe_int)
  refine wpAny_Slice (thn (po_none.run pins s1 σ H1 (fun o H2 => o = none ∧ H2 = H1) I1 ⟨rfl, rfl⟩) fun vl s2 ⟨l, H2, I2, pl, el, e2⟩ => ?_)
  subst el e2
  refine thn (po_none.run pins s2 σ H2 (fun o H3 => o = none ∧ H3 = H2) I2 ⟨rfl, rfl⟩) fun vu s3 ⟨u, H3, I3, pu, eu, e3⟩ => ?_
  subst eu e3
  refine thn (hst.run pins s3 σ H3 (fun o H4 => o = some (-1) ∧ H4 = H3) I3 ⟨1, rfl, -1, rfl, rfl, rfl⟩) fun vs s4 ⟨o, H4, I4, ps, eo, e4⟩ => ?_
  subst eo e4
  have I5 : Inv X pins σ H4 { s4 with heap := s4.heap.push { cls := .type "slice", data := .fields #[vl, vu, vs] } } := I4.kept (t' := s4.toks) fun b ob q => Heap.get?_push_of_some _ q
  show wpAny (model X.prog X.w) X.A (subscriptTail e (.Slice none none (some (.UnaryOp .USub (.Constant (.int 1) k p1) p2)) p3) v (.ref s4.heap.objs.size)) (EP X pins σ Q) X.xe { s4 with heap := s4.heap.push { cls := .type "slice", data := .fields #[vl, vu, vs] } }
  obtain ⟨O, a, d, fr, m, p1, e, q⟩ := rD1_elim q1
  unfold revD at e
  split at e
  · cases e
    obtain ⟨p, xs, rfl, h1, h2⟩ := pk_list p1
    cases r1
    obtain ⟨its, r, ht, hz⟩ := I5.list h1
    have hlen := r.length
    refine tail_any (ops := [.ref p, .ref s4.heap.objs.size]) ht.isList.typeIs (PySem.slot_list_getitem.lookup) ?_ (by with_unfolding_all rfl)
    refine wpAny_getItem_list_slice ht.isList (Heap.IsSliceOf.new _ vl vu vs) pl pu ps (by decide) ?_ (by rw [List.size_toArray]; omega)
    rw [PySem.W.krv_pick]
    exact ⟨.ref _, _, I5.laid (t' := s4.toks) (o := .lst xs.reverse) (fun b ob q => Heap.get?_push_of_some _ q) (Nat.le_refl _) ⟨by rw [List.length_reverse]; exact hz, _, 0, r.reverse, Heap.get?_push_size _ rfl⟩, rfl, q _ _ (np_list (I5.hok.fresh (Nat.le_refl _)) (denL_reverse h2))⟩
  · cases e
    obtain ⟨p, xs, rfl, h1, h2⟩ := pk_tuple p1
    cases r1
    obtain ⟨its, r, ht, hz⟩ := I5.tuple h1
    have hlen := r.length
    refine tail_any (ops := [.ref p, .ref s4.heap.objs.size]) ht.typeIs (PyProof.Rows.slot_tuple_getitem.lookup) ?_ (by with_unfolding_all rfl)
    cases pl
    cases pu
    cases ps with
    | int _ t =>
      refine getItem_tuple_back ht (Heap.IsSliceOf.new _ .none .none (.int (-1) t)) (by rw [List.size_toArray]; omega) ?_
      exact newT_ok (s := s4) I5 r.reverse (by rw [List.length_reverse]; exact hz) (np_tup m (denL_reverse h2) q)
  · cases e
theorem se_rev {e : Expr} {f : OF} {k : Nat} {p1 p2 p3 pos : Pos} (he : SO X f e) : SE X (opF (consO f nilO) (g1 revD)) (.Subscript e (.Slice none none (some (.UnaryOp .USub (.Constant (.int 1) k p1) p2)) p3) pos) := (pe_rev he).imp fun _ _ _ h => one_imp h
end
end PD

/-! PdM: isinstance, a, b = x, y, walks over a dict that is locked. -/
namespace PD
open PySem PySem.Spec PyProof.Rows L2

/-! ### isinstance(x, T) -/
inductive Tn where
  | non | bool | int | str | list | tuple | dict
  deriving DecidableEq
def Tn.nm : Tn → String
  | .non => "NoneType" | .bool => "bool" | .int => "int" | .str => "str" | .list => "list" | .tuple => "tuple" | .dict => "dict"
def tnD : D → Tn
  | .none => .non | .bool _ => .bool | .int _ => .int | .str _ => .str | .list _ => .list | .tuple _ => .tuple | .dict _ => .dict
def isTn : Tn → Tn → Bool
  | .non, .non => true | .bool, .bool => true | .bool, .int => true | .int, .int => true | .str, .str => true | .list, .list => true | .tuple, .tuple => true | .dict, .dict => true
  | _, _ => false
theorem kit_tn (a b : Tn) : kitB a.nm b.nm = some (isTn a b) := by
  cases a <;> cases b <;> decide +kernel
theorem ty_pk {K : PySem.W.Frag} {O : Addr → Prop} {H : Hp} {d : D} {v : V} (h : Pk K O H d v) : TyX K H v (.type (tnD d).nm) := by
  cases d with
  | none => obtain rfl := pk_none h; exact .base .non
  | bool b => obtain rfl := pk_bool h; exact .base (.bl b)
  | int b => obtain rfl := pk_int h; exact .base (.int b)
  | str b => obtain rfl := pk_str h; exact .base (.str b)
  | list l =>
    obtain ⟨a, vs, rfl, h1, _⟩ := pk_list h
    rcases h1 with (h1 | ⟨o, h1⟩) | ⟨o, its, n, h1, h2, _⟩
    · exact .base (.lst h1)
    · exact .base (.frz h1)
    · exact .kList h1 h2
  | tuple l =>
    obtain ⟨a, vs, rfl, h1, _⟩ := pk_tuple h
    rcases h1 with (h1 | ⟨o, h1⟩) | ⟨o, its, n, h1, h2, _⟩
    · exact .base (.tup h1)
    · exact .fTuple h1
    · exact .kTuple h1 h2
  | dict l =>
    obtain ⟨a, vs, rfl, h1, _⟩ := pk_dict h
    rcases h1 with h1 | ⟨o, h1⟩
    · exact .base (.dK h1)
    · exact .fDict h1
def isiD (T : Tn) : G1 := fun d => some (.bool (isTn (tnD d) T), false)
section
variable {X : Cx}
theorem se_isi (T : Tn) {e : Expr} {f : OF} {x : Str} {p p2 pos : Pos} (ha : SO X f e) (hg : Gl X "isinstance") (hm : X.mg "isinstance" = none) (hg2 : Gl X x) (hm2 : X.mg x = none) (hb : bootBuiltins x = some (.type T.nm)) (hv : bootBuiltins "isinstance" = some (.builtin "isinstance") := by kernel_rfl) (hn : x ≠ "__name__" := by decide) (hd : (x == ("__debug__" : Str)) = false := by decide)
    (he : starEach [e, .Name x p2] X.env = (false, eval e X.env) :: starEach [.Name x p2] X.env := by rfl) (he2 : starEach [.Name x p2] X.env = (false, eval (.Name x p2) X.env) :: starEach [] X.env := by rfl) (hpl : (backTo pos (starEach [.Name x p2] X.env)).any (·.1) = false := by rfl) : SE X (opF (consO f nilO) (g1 (isiD T))) (.Call (.Name "isinstance" p) [e, .Name x p2] [] pos) :=
  (pe_callB call_isi hg hm hv (pa_cons ha (pa_cons (pe_bltn (v := .ty T.nm) hg2 hm2 hb rfl hn hd) pa_nil he2) he) (by decide) (by decide) he hpl).imp fun σ H Q h => by
    refine tO_mono (one_imp h) fun x H1 w => ?_
    obtain ⟨O, a, d, fr, m, p1, e, q⟩ := rD1_elim w
    cases e
    exact ⟨x, .ty T.nm, _, _, isTn (tnD a) T, rfl, .ty _, ty_pk p1, kit_ty (kit_tn _ _), q _ _ (np_val fun _ => rfl)⟩

/-! ### a, b = x, y -/
def parF (i j : Nat) (fl : OLF) : SF := fun env => match fl env with
  | some (os, e1) => if (pkS e1 os).isEmpty then match derefs e1 os with
      | some [d1, d2] => match setv i d1 false e1 with
        | some e2 => match setv j d2 false e2 with
          | some e3 => some (.nx, e3)
          | none => none
        | none => none
      | _ => none
    else none
  | none => none
theorem par_imp {K : PySem.W.Frag} {i j : Nat} {fl : OLF} {E : Ends} {σ : Sl} {H : Hp} (h : tS K (parF i j fl) E σ H) : tPar i j (tOL K fl) E σ H := by
  obtain ⟨O, fx, env, out, env', r, e, q⟩ := h
  unfold parF at e
  split at e
  · rename_i os e1 h1
    split at e
    · rename_i hp
      split at e
      · rename_i d1 d2 h2
        split at e
        · rename_i e2 h3
          split at e
          · rename_i e3 h4
            cases e
            refine ⟨O, fx, env, os, e1, r, h1, fun vs H1 b a => ?_⟩
            obtain ⟨v, t, rfl, p1, p2⟩ := oAre_den b.rel a h2 hp
            obtain ⟨w, t', rfl, p3, p4⟩ := p2
            cases p4
            have b2 := setv_ok (fr := false) (⟨Bh.refl b.rel, p1⟩ : EPost K O fx e1 σ H1 d1 false e1 v H1) h3
            have b3 := setv_ok (fr := false) (⟨Bh.refl b2.rel, den_le (Le.of_same b2.same) p3⟩ : EPost K O fx e2 _ H1 d2 false e2 w H1) h4
            exact ⟨v, w, rfl, q _ _ (b.trans (b2.trans b3))⟩
          · cases e
        · cases e
      · cases e
    · cases e
  · cases e
theorem ss_par {i j : Nat} {x y : Str} {a b : Expr} {fl : OLF} {px py pt pos : Pos} {kt k2 pt2} (hc : X.calm = true) (hN : X.N.Nodup) (hi : X.N[i]? = some x) (hj : X.N[j]? = some y) (hij : i ≠ j)
    (hx : X.env.scope.names.lookup x = some .local) (hy : X.env.scope.names.lookup y = some .local) (ha : SOL X fl [a, b])
    (hw : swappedStores [.Tuple [.Name x px, .Name y py] kt pt] (.Tuple [a, b] k2 pt2) X.env = pure (some [x, y]))
    (hs : swapsWithSole [.Tuple [.Name x px, .Name y py] kt pt] (.Tuple [a, b] k2 pt2) pos.line X.env = pure false := by rfl) : SS X (parF i j fl) (.Assign [.Tuple [.Name x px, .Name y py] kt pt] (.Tuple [a, b] k2 pt2) pos) := (ps_par hc hN hi hj hij hx hy ha hw hs).imp fun _ _ _ h => par_imp h
end

/-! ### reading from behind a lock -/
/-- all but the locks themselves may still be read -/
def Le0 (H H' : Hp) : Prop := (∀ a u, (∀ o x, u ≠ .frz o x) → Rd H a u → Rd H' a u) ∧ ∀ a o vs, H a = some (.frz o (.tup vs)) → H' a = some (.frz o (.tup vs))
section
variable {K : PySem.W.Frag} {H H' : Hp}
theorem sqT_le0 {a : Addr} {xs : List V} (e : Le0 H H') (h : SqT K H a xs) : SqT K H' a xs := h.imp (e.1 _ _ fun _ _ z => nomatch z) id
theorem TNone.le0 {a : Addr} (h : Le0 H H') : TNone K H a → TNone K H' a
  | .inl ⟨o, vs, e, d⟩ => .inl ⟨o, vs, h.2 _ _ _ e, d⟩
  | .inr z => .inr z
theorem sqL_le0 {a : Addr} {xs : List V} (e : Le0 H H') (h : SqL K H a xs) : SqL K H' a xs := h.imp (e.1 _ _ fun _ _ z => nomatch z) id
mutual
theorem den_le0 (e : Le0 H H') : ∀ {d : D} {v : V}, Den K H d v → Den K H' d v
  | .none, _, h => h
  | .bool _, _, h => h
  | .int _, _, h => h
  | .str _, _, h => h
  | .tuple _, _, ⟨a, vs, e1, h1, h2, h3⟩ => ⟨a, vs, e1, sqT_le0 e h1, denL_le0 e h2, fun z => (h3 z).le0 e⟩
  | .list _, _, ⟨a, vs, e1, h1, h2⟩ => ⟨a, vs, e1, sqL_le0 e h1, denL_le0 e h2⟩
  | .dict _, _, ⟨a, vs, e1, h1, h2⟩ => ⟨a, vs, e1, e.1 _ _ (fun _ _ z => nomatch z) h1, denP_le0 e h2⟩
theorem denL_le0 (e : Le0 H H') : ∀ {ds : List D} {vs : List V}, DenL K H ds vs → DenL K H' ds vs
  | [], _, h => h
  | _ :: _, _, ⟨v, r, e1, h1, h2⟩ => ⟨v, r, e1, den_le0 e h1, denL_le0 e h2⟩
theorem denP_le0 (e : Le0 H H') : ∀ {ds : List (D × D)} {vs : List (Key × V)}, DenP K H ds vs → DenP K H' ds vs
  | [], _, h => h
  | (_, _) :: _, _, ⟨q, v, t, e1, e2, h1, h2⟩ => ⟨q, v, t, e1, e2, den_le0 e h1, denP_le0 e h2⟩
end
theorem OwnAt.mono0 {B B' : Hp} {a : Addr} (e : Le0 B B') (k : H' a = H a) : ∀ {d : D}, OwnAt K B H a d → OwnAt K B' H' a d
  | .list _, ⟨vs, h1, h2⟩ => ⟨vs, k.trans h1, denL_le0 e h2⟩
  | .dict _, ⟨vs, h1, h2⟩ => ⟨vs, k.trans h1, denP_le0 e h2⟩
variable {O O' : Addr → Prop} {fx : Nat → Option Addr} {env env' : Ev} {σ σ' : Sl} {d : Addr} {u : HO} {od : Obj}
/-- the same frame over another heap that shows the same -/
theorem R.over (r : R K O fx env σ H) (le : Le0 (Pb O env σ H) (Pb O env σ H')) (k : ∀ a, Oo O env σ a → H' a = H a) : R K O fx env σ H' := by
  refine ⟨r.len, fun i d h => ?_, fun i d o h n => ?_, r.apart, fun a h => by rw [k a (.inl h)]; exact r.out a h, r.fix, r.pin⟩
  · obtain ⟨v, e, h⟩ := r.val i d h
    exact ⟨v, e, den_le0 le h⟩
  · obtain ⟨a, e, n1, h'⟩ := r.own i d o h n
    exact ⟨a, e, n1, h'.mono0 le (k a (.inr ⟨i, d, o, h, n, e⟩))⟩
theorem le_lock (hd : H d = some u) (hm : Mut (some u)) : Le0 (Pb O env σ H) (Pb O env σ (upd H d (.frz od u))) := ⟨fun a w nw h => by
  obtain ⟨n, h⟩ := cut_rd.mp h
  refine cut_rd.mpr ⟨n, ?_⟩
  by_cases e : a = d
  · subst e
    rcases h with h | ⟨o, h⟩
    · rw [hd] at h
      cases h
      exact .inr ⟨od, upd_same⟩
    · rw [hd] at h
      cases h
      exact hm.elim
  · rcases h with h | ⟨o, h⟩
    · exact .inl (by rw [upd_ne e]; exact h)
    · exact .inr ⟨o, by rw [upd_ne e]; exact h⟩, fun a o vs h => by
  obtain ⟨n, h⟩ := cut_some.mp h
  refine cut_some.mpr ⟨n, ?_⟩
  by_cases e : a = d
  · subst e
    rw [hd] at h
    cases h
    exact hm.elim
  · rw [upd_ne e]; exact h⟩
theorem le_unlock (hd : H d = some (.frz od u)) (hm : Mut (some u)) : Le0 (Pb O env σ H) (Pb O env σ (upd H d u)) := ⟨fun a w nw h => by
  obtain ⟨n, h⟩ := cut_rd.mp h
  refine cut_rd.mpr ⟨n, ?_⟩
  by_cases e : a = d
  · subst e
    rcases h with h | ⟨o, h⟩
    · rw [hd] at h
      cases h
      exact absurd rfl (nw _ _)
    · rw [hd] at h
      cases h
      exact .inl upd_same
  · rcases h with h | ⟨o, h⟩
    · exact .inl (by rw [upd_ne e]; exact h)
    · exact .inr ⟨o, by rw [upd_ne e]; exact h⟩, fun a o vs h => by
  obtain ⟨n, h⟩ := cut_some.mp h
  refine cut_some.mpr ⟨n, ?_⟩
  by_cases e : a = d
  · subst e
    rw [hd] at h
    cases h
    exact hm.elim
  · rw [upd_ne e]; exact h⟩
theorem R.lock (r : R K O fx env σ H) (hd : H d = some u) (hm : Mut (some u)) (nd : ¬ Oo O env σ d) : R K O fx env σ (upd H d (.frz od u)) :=
  r.over (le_lock hd hm) fun a z => upd_ne fun e => nd (e ▸ z)
/-- the lock is taken off behind the code -/
theorem unlock_bh {O2 : Addr → Prop} (hm : Mut (some u)) (hd : H d = some u) (nd : ¬ Oo O env σ d) (r : R K O2 fx env' σ' H') (s : Same (Pb O env σ (upd H d (.frz od u))) (Pb O2 env' σ' H')) (ou : ∀ a, O a → H' a = upd H d (.frz od u) a) :
    H' d = some (.frz od u) ∧ R K O2 fx env' σ' (upd H' d u) ∧ Same (Pb O env σ H) (Pb O2 env' σ' (upd H' d u)) ∧ (∀ a, O a → upd H' d u a = H a) ∧ Le0 (Pb O2 env' σ' H') (Pb O2 env' σ' (upd H' d u)) ∧ ¬ Oo O2 env' σ' d := by
  have h1 : Pb O2 env' σ' H' d = some (.frz od u) := s _ _ (cut_some.mpr ⟨nd, upd_same⟩)
  obtain ⟨nd2, h2⟩ := cut_some.mp h1
  have le := le_unlock (O := O2) (env := env') (σ := σ') h2 hm
  refine ⟨h2, r.over le fun a z => upd_ne fun e => nd2 (e ▸ z), fun a w h => ?_, fun a z => ?_, le, nd2⟩
  · obtain ⟨n, h⟩ := cut_some.mp h
    by_cases e : a = d
    · subst e
      rw [hd] at h
      cases h
      exact cut_some.mpr ⟨nd2, upd_same⟩
    · obtain ⟨n3, h3⟩ := cut_some.mp (s a w (cut_some.mpr ⟨n, by rw [upd_ne e]; exact h⟩))
      exact cut_some.mpr ⟨n3, by rw [upd_ne e]; exact h3⟩
  · have e : a ≠ d := fun e => nd (e ▸ .inl z)
    rw [upd_ne e, ou a z, upd_ne e]
theorem unlock_ep {x : D} {fr : Bool} {v : V} (hm : Mut (some u)) (hd : H d = some u) (nd : ¬ Oo O env σ d) (p : EPost2 K O fx env σ (upd H d (.frz od u)) x fr env' v σ' H') : H' d = some (.frz od u) ∧ EPost2 K O fx env σ H x fr env' v σ' (upd H' d u) := by
  cases fr with
  | false =>
    obtain ⟨b, dn⟩ := p
    obtain ⟨k1, k2, k3, k4, k5, _⟩ := unlock_bh hm hd nd b.rel b.same b.outer
    exact ⟨k1, ⟨k2, k3, k4⟩, den_le0 k5 dn⟩
  | true =>
    obtain ⟨a, rfl, f⟩ := p
    obtain ⟨k1, k2, k3, k4, k5, k6⟩ := unlock_bh hm hd nd f.rel f.same f.outer
    exact ⟨k1, a, rfl, f.new, k2, k3, k4, f.own.mono0 k5 (upd_ne fun e => k6 (.inl (.inr e.symm)))⟩
/-- what runs to these ends over the locked heap, runs to those over the other -/
def lockEnds (d : Addr) (od : Obj) (u : HO) (E : Ends) : Ends := ⟨fun σ' H' => H' d = some (.frz od u) ∧ E.nx σ' (upd H' d u), fun v H' => H' d = some (.frz od u) ∧ E.rt v (upd H' d u), fun σ' H' => H' d = some (.frz od u) ∧ E.bk σ' (upd H' d u), fun σ' H' => H' d = some (.frz od u) ∧ E.ct σ' (upd H' d u)⟩
theorem unlock_out {E : Ends} {out : Out} (hm : Mut (some u)) (hd : H d = some u) (nd : ¬ Oo O env σ d) (q : OutOk K O fx env σ H E env' out) : OutOk K O fx env σ (upd H d (.frz od u)) (lockEnds d od u E) env' out := by
  cases out with
  | nx =>
    intro σ' H' b
    obtain ⟨k1, k2, k3, k4, _, _⟩ := unlock_bh hm hd nd b.rel b.same b.outer
    exact ⟨k1, q σ' _ ⟨k2, k3, k4⟩⟩
  | bk =>
    intro σ' H' b
    obtain ⟨k1, k2, k3, k4, _, _⟩ := unlock_bh hm hd nd b.rel b.same b.outer
    exact ⟨k1, q σ' _ ⟨k2, k3, k4⟩⟩
  | ct =>
    intro σ' H' b
    obtain ⟨k1, k2, k3, k4, _, _⟩ := unlock_bh hm hd nd b.rel b.same b.outer
    exact ⟨k1, q σ' _ ⟨k2, k3, k4⟩⟩
  | rt x fr =>
    intro v σ' H' p
    obtain ⟨k1, k2⟩ := unlock_ep hm hd nd p
    exact ⟨k1, q v σ' _ k2⟩
end

/-! ### for k in d -/
/-- the keys; a name that owns its dict shares it from then on -/
def dictAt (i : Nat) (env : Ev) : Option (List (D × D) × Ev) := match env[i]? with
  | some (some (.dict kvs, .sh)) => some (kvs, env)
  | some (some (.dict kvs, .ow)) => some (kvs, env.set i (some (.dict kvs, .sh)))
  | _ => none
/-- a walk over what stands locked at slot i -/
def tIK (i : Nat) (J : Addr → Obj → List (Key × V) → It) : TI := fun σ H R => ∃ d o kv, σ[i]? = some (some (.ref d)) ∧ H d = some (.frz o (.dK kv)) ∧ R (J d o kv) H
/-- what such a walk gives -/
def JD (K : PySem.W.Frag) (J : Addr → Obj → List (Key × V) → It) (f : List (D × D) → List D) : Prop := ∀ (B : Hp) (d : Addr) (o : Obj) (kv : List (Key × V)) (kvs : List (D × D)), B d = some (.frz o (.dK kv)) → DenP K B kvs kv → JOk K B (J d o kv) (f kvs)
def forDF (i : Nat) (f : List (D × D) → List D) (g : GF) (B : SF) : SF := fun env => match dictAt i env with
  | some (kvs, e1) => forL g B (f kvs) e1
  | none => none
def lcDF (vs : List Nat) (i : Nat) (f : List (D × D) → List D) (g : GF) (t : TF) (e : EF) : EF := fun env => match dictAt i env with
  | some (kvs, e1) => if kvs.length ≤ sizeLine ∧ (f kvs).length ≤ sizeLine ∧ noOwn e1 vs = true then match lcL vs g t e (f kvs) (wipeE e1 vs) with
      | some (ys, e2) => some (.list ys, true, unw e1 e2 vs)
      | none => none
    else none
  | none => none
section
variable {K : PySem.W.Frag} {O : Addr → Prop} {fx : Nat → Option Addr} {env e1 : Ev} {σ : Sl} {H : Hp} {i : Nat} {kvs : List (D × D)}
theorem dictAt_ok (r : R K O fx env σ H) (h : dictAt i env = some (kvs, e1)) : ∃ d kv, Bh K O fx env σ H e1 H ∧ σ[i]? = some (some (.ref d)) ∧ ¬ Oo O e1 σ d ∧ Rd H d (.dK kv) ∧ DenP K (Pb O e1 σ H) kvs kv := by
  have fin : ∀ {v : V}, Den K (Pb O e1 σ H) (.dict kvs) v → ∃ d kv, v = .ref d ∧ ¬ Oo O e1 σ d ∧ Rd H d (.dK kv) ∧ DenP K (Pb O e1 σ H) kvs kv := fun {v} z => by
    obtain ⟨d, kv, rfl, h1, h2⟩ := z
    obtain ⟨n, h3⟩ := cut_rd.mp h1
    exact ⟨d, kv, rfl, n, h3, h2⟩
  unfold dictAt at h
  split at h
  · rename_i kvs' h1
    cases h
    obtain ⟨v, h2, h3⟩ := r.val i _ h1
    obtain ⟨d, kv, rfl, k1, k2, k3⟩ := fin h3
    exact ⟨d, kv, Bh.refl r, h2, k1, k2, k3⟩
  · rename_i kvs' h1
    cases h
    obtain ⟨a, h2, h3, h4⟩ := r.freeze h1
    obtain ⟨d, kv, ed, k1, k2, k3⟩ := fin h4
    cases ed
    exact ⟨a, kv, h3, h2, k1, k2, k3⟩
  · cases h
/-- the state while it is locked -/
theorem locked {f : List (D × D) → List D} {J : Addr → Obj → List (Key × V) → It} {d : Addr} {kv : List (Key × V)} {od : Obj} (hJ : JD K J f) (r : R K O fx e1 σ H) (nd : ¬ Oo O e1 σ d) (hd : H d = some (.dK kv)) (hp : DenP K (Pb O e1 σ H) kvs kv) :
    R K O fx e1 σ (upd H d (.frz od (.dK kv))) ∧ JOk K (Pb O e1 σ (upd H d (.frz od (.dK kv)))) (J d od kv) (f kvs) :=
  ⟨r.lock hd trivial nd, hJ _ _ _ _ _ (cut_some.mpr ⟨nd, upd_same⟩) (denP_le0 (le_lock hd trivial) hp)⟩
theorem forD_imp {f : List (D × D) → List D} {J : Addr → Obj → List (Key × V) → It} {g : GF} {wr : List Nat} {B : SF} {E : Ends} (hJ : JD K J f) (h : tS K (forDF i f g B) E σ H) :
    tFor (tIK i J) (tG K g wr) (tS K B) E σ H ∨ tLock (tFor (tIK i J) (tG K g wr) (tS K B)) E σ H := by
  obtain ⟨O, fx, env, out, env', r, e, q⟩ := h
  unfold forDF at e
  split at e
  · rename_i kvs e1 h1
    obtain ⟨d, kv, b, hs, nd, hr, hp⟩ := dictAt_ok r h1
    have q1 := q.trans b
    rcases hr with hr | ⟨o, hr⟩
    · right
      refine ⟨d, .dK kv, hr, trivial, fun od => ?_⟩
      obtain ⟨r2, jo⟩ := locked (od := od) hJ b.rel nd hr hp
      exact ⟨d, od, kv, hs, upd_same, for_go (E := lockEnds d od (.dK kv) E) e (Bh.refl r2) jo (unlock_out trivial hr nd q1)⟩
    · left
      exact ⟨d, o, kv, hs, hr, for_go e (Bh.refl b.rel) (hJ _ _ _ _ _ (cut_some.mpr ⟨nd, hr⟩) hp) q1⟩
  · cases e
theorem lcD_imp {vs wr : List Nat} {f : List (D × D) → List D} {J : Addr → Obj → List (Key × V) → It} {g : GF} {t : TF} {ef : EF} {Q : VK} (hJ : JD K J f) (hw : ∀ j ∈ wr, j ∈ vs) (h : tE K (lcDF vs i f g t ef) σ H Q) :
    tLc (tIK i J) (tG K g wr) (tT K t) (tE K ef) vs σ H Q ∨ tLockE (tLc (tIK i J) (tG K g wr) (tT K t) (tE K ef) vs) σ H Q := by
  obtain ⟨O, fx, env, x, fr, env', r, e, q⟩ := h
  unfold lcDF at e
  split at e
  · rename_i kvs e1 h1
    split at e
    · rename_i hc
      split at e
      · rename_i ys e2 h2
        cases e
        obtain ⟨d, kv, b, hs, nd, hr, hp⟩ := dictAt_ok r h1
        rcases hr with hr | ⟨o, hr⟩
        · right
          refine ⟨d, .dK kv, hr, trivial, fun od => ?_⟩
          obtain ⟨r2, jo⟩ := locked (od := od) hJ b.rel nd hr hp
          have z := lc_go (Q := fun v H' => H' d = some (.frz od (.dK kv)) ∧ Q v (upd H' d (.dK kv))) hw hc.2.1 hc.2.2 h2 (Bh.refl r2) jo fun v H' p => by
            obtain ⟨k1, k2⟩ := unlock_ep (u := .dK kv) True.intro hr nd p
            exact ⟨k1, q v _ (bh_epost b k2)⟩
          exact ⟨d, od, kv, hs, upd_same, z⟩
        · left
          have z := lc_go (Q := Q) hw hc.2.1 hc.2.2 h2 (Bh.refl b.rel) (hJ _ _ _ _ _ (cut_some.mpr ⟨nd, hr⟩) hp) fun v H' p => q v _ (bh_epost b p)
          exact ⟨d, o, kv, hs, hr, z⟩
      · cases e
    · cases e
  · cases e
end
section
variable {X : Cx} {pos : Pos}
theorem ps_or {st : Stmt} {t t' t'' : TS} (h : PS X st t) (k : PS X st t') (z : ∀ D σ H, t'' D σ H → t D σ H ∨ t' D σ H) : PS X st t'' := ⟨fun pins s σ H D I w => (z _ _ _ w).elim (h.run pins s σ H D I) (k.run pins s σ H D I)⟩
theorem pe_or' {e : Expr} {t t' t'' : TE} (h : PE X e t) (k : PE X e t') (z : ∀ σ H Q, t'' σ H Q → t σ H Q ∨ t' σ H Q) : PE X e t'' := ⟨fun pins s σ H D I w => (z _ _ _ w).elim (h.run pins s σ H D I) (k.run pins s σ H D I)⟩
/-- the walk over such a name's keys -/
structure SIK (X : Cx) (i : Nat) (J : Addr → Obj → List (Key × V) → It) (tg iter : Expr) : Prop where
  pi : PI X tg iter (tIK i J)
theorem ss_forD {f : List (D × D) → List D} {J : Addr → Obj → List (Key × V) → It} {iter tg : Expr} {body : List Stmt} {i : Nat} {g : GF} {B : SF} {wr : List Nat} (hJ : JD X.K J f) (hp : PassesOwn (model X.prog X.w) X.A X.env X.xe) (hc : X.calm = true) (hi : SIK X i J tg iter) (hg : SG X g wr tg) (hb : SSs X B body)
    (hs : ∀ x, foldedSetIterable iter X.env x = pure x := by intro _; rfl) : SS X (forDF i f g B) (.For tg iter body [] pos) :=
  ps_or (ps_for hp hc hi.pi hg hb hs) (ps_lock (ps_for hp hc hi.pi hg hb hs)) fun _ _ _ h => forD_imp hJ h
theorem se_lcD {f : List (D × D) → List D} {J : Addr → Obj → List (Key × V) → It} {elt tg iter : Expr} {ifs : List Expr} {scope : Scope} {own : List (Str × Nat)} {i : Nat} {g : GF} {wr : List Nat} {t : TF} {ef : EF} (hJ : JD X.K J f) (hc : X.calm = true) (hN : X.N.Nodup) (hi : SIK X i J tg iter) (ok : BlkOk X.N X.env.scope scope own)
    (hw : ∀ j ∈ wr, j ∈ own.map (·.2))
    (hg : ∀ (s : Shared) (H : Hp) (C : Addr) (cl : List (Str × Addr)) (fp : List Addr), SG (X.blk s H scope (compEnvC scope cl C X.env) fp) g wr tg) (ht : ∀ (s : Shared) (H : Hp) (C : Addr) (cl : List (Str × Addr)) (fp : List Addr), STs (X.blk s H scope (compEnvC scope cl C X.env) fp) t ifs)
    (he : ∀ (s : Shared) (H : Hp) (C : Addr) (cl : List (Str × Addr)) (fp : List Addr), SE (X.blk s H scope (compEnvC scope cl C X.env) fp) ef elt) (hs : ∀ x, foldedSetIterable iter X.env x = pure x := by intro _; rfl) :
    SE X (lcDF (own.map (·.2)) i f g t ef) (.ListComp elt [⟨tg, iter, ifs, 0⟩] scope pos) :=
  pe_or' (pe_lc hc hN hi.pi ok hg ht he hs) (pe_lock (pe_lc hc hN hi.pi ok hg ht he hs)) fun _ _ _ h => lcD_imp hJ hw h
def keysOf (kvs : List (D × D)) : List D := kvs.map (·.1)
theorem denP_get {K : PySem.W.Frag} {H : Hp} : ∀ {kvs : List (D × D)} {kv : List (Key × V)} {i : Nat} {p : Key × V}, DenP K H kvs kv → kv[i]? = some p → ∃ d, kvs[i]? = some (kD p.1, d) ∧ Den K H d p.2
  | [], _, i, p, h, e => by cases h; simp at e
  | (a, d) :: r, _, 0, p, h, e => by
    obtain ⟨q, v, t, rfl, rfl, h1, h2⟩ := h
    cases e
    exact ⟨d, rfl, h1⟩
  | (a, d) :: r, _, i + 1, p, h, e => by
    obtain ⟨q, v, t, rfl, rfl, h1, h2⟩ := h
    exact denP_get (kvs := r) (i := i) h2 e
theorem jd_keys {K : PySem.W.Frag} : JD K Itk keysOf := by
  intro B d o kv kvs hB hp
  have hl : (keysOf kvs).length = kv.length := by simp [keysOf, denP_length hp]
  refine ⟨fun i H hi s => ⟨s _ _ hB, by rw [← hl]; exact hi⟩, fun i H hi s => ⟨s _ _ hB, by rw [← hl]; exact hi⟩, fun i H x v H' s e y => ?_⟩
  obtain ⟨rfl, k, w, h1, rfl⟩ := y
  refine ⟨Same.refl _, fun O _ _ => ?_⟩
  obtain ⟨d', h2, _⟩ := denP_get hp h1
  simp only [keysOf, List.getElem?_map, h2, Option.map_some, Option.some.injEq] at e
  subst e
  cases k <;> rfl
theorem sik_keys (i : Nat) {tg : Expr} {x : Str} {pos : Pos} (hN : X.N[i]? = some x := by rfl) (hv : Vis X.env.scope x := by first | exact Or.inl rfl | exact Or.inr (Or.inl rfl) | exact Or.inr (Or.inr rfl)) (hd : (x == ("__debug__" : Str)) = false := by decide)
    (hcd : (x == ("__classdict__" : Str)) = false := by decide) : SIK X i Itk tg (.Name x pos) := ⟨(pi_keys (pe_var hN hv hd hcd)).imp fun σ H Q h => by
  obtain ⟨d, o, kv, h1, h2, h3⟩ := h
  exact ⟨.ref d, h1, d, o, rfl, .inl ⟨kv, h2, h3⟩⟩⟩
end
end PD

/-! PdN: sorted(set(xs)) of texts: the set is made, gathered and put in order. -/
namespace PD
open PySem PySem.Spec PyProof.Rows L2

theorem paired_perm {α β : Type} {r : α → β → Prop} {xs' xs : List α} (p : xs'.Perm xs) : ∀ {ys : List β}, Paired r xs ys → ∃ ys', ys'.Perm ys ∧ Paired r xs' ys' := by
  induction p with
  | nil => exact fun h => ⟨_, .refl _, h⟩
  | cons x _ ih =>
    intro ys h
    cases h with
    | cons h1 h2 =>
      obtain ⟨ys', k1, k2⟩ := ih h2
      exact ⟨_, k1.cons _, .cons h1 k2⟩
  | swap x y l =>
    intro ys h
    cases h with
    | cons h1 h2 =>
      cases h2 with
      | cons h3 h4 => exact ⟨_, .swap _ _ _, .cons h3 (.cons h1 h4)⟩
  | trans _ _ ih1 ih2 =>
    intro ys h
    obtain ⟨ys2, k1, k2⟩ := ih2 h
    obtain ⟨ys1, k3, k4⟩ := ih1 k2
    exact ⟨ys1, k3.trans k1, k4⟩
theorem paired_in {α β : Type} {r : α → β → Prop} : ∀ {xs : List α} {ys : List β}, Paired r xs ys → ∀ x ∈ xs, ∃ y ∈ ys, r x y
  | _, _, .nil, _, hx => nomatch hx
  | _, _, .cons h1 h2, x, hx => by
    rcases List.mem_cons.mp hx with rfl | hx
    · exact ⟨_, List.mem_cons_self, h1⟩
    · obtain ⟨y, k1, k2⟩ := paired_in h2 x hx
      exact ⟨y, List.mem_cons_of_mem _ k1, k2⟩
theorem paired_in2 {α β : Type} {r : α → β → Prop} : ∀ {xs : List α} {ys : List β}, Paired r xs ys → ∀ y ∈ ys, ∃ x ∈ xs, r x y
  | _, _, .nil, _, hx => nomatch hx
  | _, _, .cons h1 h2, x, hx => by
    rcases List.mem_cons.mp hx with rfl | hx
    · exact ⟨_, List.mem_cons_self, h1⟩
    · obtain ⟨y, k1, k2⟩ := paired_in2 h2 x hx
      exact ⟨y, List.mem_cons_of_mem _ k1, k2⟩

section
variable {P : Program} {w : World} {κ : Type} [DecidableEq κ] {knd : KeyKind P w κ}
/-- an entry of the set and the key it carries -/
def GoodG (knd : KeyKind P w κ) (e : Int × Value) (k : κ) : Prop := knd.is k e.2 = true ∧ e.1 = knd.hash k ∧ e.2.scannable = true
/-- the set at a has just these keys, each once, and can be walked -/
def SetG (knd : KeyKind P w κ) (h : Heap) (a : Addr) (ls : List κ) : Prop :=
  ∃ o es ep t, h.get? a = some o ∧ o.ExactSet ∧ o.data = .set es ep t ∧ Paired (GoodG knd) es.toList ls ∧ ls.Nodup ∧ es.size < scanBound ∧ t.fits es.size = true ∧ Ris t.place.toList ∧ (w.params.followText "set-order" = true ∨ t.led = true)
theorem SetG.at {h h' : Heap} {a : Addr} {ls : List κ} (R : SetG knd h a ls) (k : ∀ o, h.get? a = some o → h'.get? a = some o) : SetG knd h' a ls := by
  obtain ⟨o, es, ep, t, ho, r⟩ := R
  exact ⟨o, es, ep, t, k o ho, r⟩
theorem good_el {es : List (Int × Value)} {ls : List κ} (p : Paired (GoodG knd) es ls) : ElemsOf knd es := fun e he => by
  obtain ⟨k, _, h1, h2, h3⟩ := paired_in p e he
  exact ⟨⟨k, h1, h2⟩, h3⟩
theorem good_key {es : List (Int × Value)} {ls : List κ} (p : Paired (GoodG knd) es ls) (k : κ) : k ∈ ls ↔ ∃ e ∈ es, knd.is k e.2 = true := by
  constructor
  · intro h
    obtain ⟨e, he, h1, _⟩ := paired_in2 p k h
    exact ⟨e, he, h1⟩
  · rintro ⟨e, he, h1⟩
    obtain ⟨k', hk, h2, _⟩ := paired_in p e he
    rw [knd.inj _ _ _ h1 h2]
    exact hk
variable {A : Around} {E : Value → Shared → Prop} {s : Shared} {a : Addr} {ls : List κ}
/-- what add leaves -/
def Grown (knd : KeyKind P w κ) (h' : Heap) (a : Addr) (ls : List κ) (k : κ) : Prop := (k ∈ ls ∧ SetG knd h' a ls) ∨ (k ∉ ls ∧ ∃ ls', ls'.Perm (k :: ls) ∧ SetG knd h' a ls')
theorem grow_tail {g : Bool → Sem Unit} (hg : ∀ (b : Bool) (s₁ : Shared) (Q' : Unit → Shared → Prop), Q' () s₁ → wpAny (model P w) A (g b) Q' E s₁) {o : Obj} {es es1 : Array (Int × Value)} {ep : Nat} {t t2 : SetTable} {l1 : List κ} {dummy : Bool} {R : Option Bool → Shared → Prop}
    (ho : s.heap.get? a = some o) (hex : o.ExactSet) (hd : o.data = .set es ep t) (pr : Paired (GoodG knd) es1.toList l1) (nd : l1.Nodup) (hb : es1.size < scanBound) (hf : t2.fits es1.size = true) (hr : Ris t2.place.toList) (hl : w.params.followText "set-order" = true ∨ t2.led = true)
    (hR : ∀ h' l2, Heap.SameBut a s.heap h' → l2.Perm l1 → SetG knd h' a l2 → R (some true) { s with heap := h' }) :
    wpAny (model P w) A (storeSet a es1 t2 >>= fun _ => if (!dummy && t2.tooFull) = true then g (relayAll t2 es1 (SetTable.grown es1.size)).2.2 >>= fun _ => storeSet a (relayAll t2 es1 (SetTable.grown es1.size)).1 (relayAll t2 es1 (SetTable.grown es1.size)).2.1 >>= fun _ => pure (some true) else pure (some true)) R E s := by
  have first := store_at (es' := es1) (t' := t2) ho hd
  have other := Heap.SameBut.update s.heap a (Obj.putSet es1 t2)
  refine wpAny_bind (wpAny_storeSet_of ho hd ?_ (fits_of_scanBound hb))
  by_cases full : (!dummy && t2.tooFull) = true
  · rw [if_pos full]
    have q1 := relayAll_perm t2 es1 (SetTable.grown es1.size)
    have q2 := relayAll_fits t2 es1 (SetTable.grown es1.size)
    have q3 := relayAll_ris t2 es1 (SetTable.grown es1.size)
    have q4 := relayAll_led t2 es1 (SetTable.grown es1.size)
    obtain ⟨l2, p2, pr2⟩ := paired_perm q1 pr
    have n2 : (relayAll t2 es1 (SetTable.grown es1.size)).1.size < scanBound := by
      have := q1.length_eq
      simp only [Array.length_toList] at this
      rw [this]; exact hb
    exact wpAny_bind (hg _ _ _ (wpAny_bind (wpAny_storeSet_of first rfl (wpAny_pure (hR _ l2 (other.trans (Heap.SameBut.update _ a _)) p2
      ⟨_, _, _, _, store_at first rfl, hex, rfl, pr2, p2.nodup_iff.mpr nd, n2, q2, q3, hl.imp id fun z => q4.trans z⟩)) (fits_of_scanBound n2))))
  · rw [if_neg full]
    exact wpAny_pure (hR _ l1 other (.refl _) ⟨_, _, _, _, first, hex, rfl, pr, nd, hb, hf, hr, hl⟩)
theorem setG_add {k : κ} {v : Value} {Q : Bool → Shared → Prop} (R : SetG knd s.heap a ls) (hk : knd.is k v = true) (hsc : v.scannable = true) (room : ls.length + 1 < scanBound)
    (hQ : ∀ b h', Heap.SameBut a s.heap h' → Grown knd h' a ls k → Q b { s with heap := h' }) : wpAny (model P w) A (setAddHashed a v (knd.hash k)) Q E s := by
  obtain ⟨o, es, ep, t, ho, hex, hd, pr, nd, hb, hf, hr, hl⟩ := R
  have hlen : es.size = ls.length := by rw [← Array.length_toList]; exact Paired.length pr
  unfold setAddHashed setAddHashedIn
  refine wpAny_holding (wpAny_bind (wpAny_setState_of ho hd hf ?_))
  dsimp only
  rw [byScan_of hsc hb (good_el pr)]
  simp only [↓reduceIte]
  unfold setAddByScan
  refine wpAny_bind (wpAny_bind (wpAny_rule (wpAny_bind (wpAny_setScan_of hk ho hd hf (good_el pr) ?_))))
  cases hfi : List.findIdx? (fun e => knd.is k e.2) es.toList with
  | some j =>
    dsimp only
    obtain ⟨hj, pj, _⟩ := List.findIdx?_eq_some_iff_getElem.mp hfi
    exact wpAny_pure (wpAny_pure (hQ _ s.heap (Heap.SameBut.refl a s.heap) (.inl ⟨(good_key pr k).mpr ⟨_, List.getElem_mem hj, pj⟩, o, es, ep, t, ho, hex, hd, pr, nd, hb, hf, hr, hl⟩)))
  | none =>
    dsimp only
    have hno : k ∉ ls := fun z => by
      obtain ⟨e, he, q⟩ := (good_key pr k).mp z
      have c := List.findIdx?_eq_none_iff.mp hfi e he
      rw [q] at c
      cases c
    have p0 := layNew_perm t es (knd.hash k) v
    have f0 := layNew_fits t es (knd.hash k) v
    have r0 := layNew_ris t es (knd.hash k) v hr
    have l0 := layNew_led t es (knd.hash k) v
    generalize layNew t es (knd.hash k) v = Z at p0 f0 r0 l0 ⊢
    obtain ⟨es1, t1, dummy, gave⟩ := Z
    dsimp only at p0 f0 r0 l0 ⊢
    rw [Array.toList_push] at p0
    obtain ⟨l1, p1, pr1⟩ := paired_perm (p0.trans (List.perm_append_singleton _ _)) (.cons ⟨hk, rfl, hsc⟩ pr)
    have n1 : l1.Nodup := p1.nodup_iff.mpr (List.nodup_cons.mpr ⟨hno, nd⟩)
    have b1 : es1.size < scanBound := by
      have := Paired.length pr1
      rw [p1.length_eq, Array.length_toList, List.length_cons] at this
      rw [this]; exact room
    have led1 : w.params.followText "set-order" = true ∨ t1.led = true := hl.imp id fun z => l0.trans z
    have hgw : ∀ (b : Bool) (s₁ : Shared) (Q' : Unit → Shared → Prop), Q' () s₁ → wpAny (model P w) A (match b with | true => rule "set.scan.the-table-gave-way" | false => pure ()) Q' E s₁ :=
      fun b s₁ Q' q => by cases b <;> first | exact wpAny_pure q | exact wpAny_rule q
    have fin : ∀ h' l2, Heap.SameBut a s.heap h' → l2.Perm l1 → SetG knd h' a l2 → Q true { s with heap := h' } := fun h' l2 sb p2 g => hQ _ h' sb (.inr ⟨hno, l2, p2.trans p1, g⟩)
    refine wpAny_bind (hgw _ _ _ ?_)
    split
    · refine wpAny_bind ?_
      rw [hashByValue_scannable 8 hsc]
      refine wpAny_pure (grow_tail (fun b s₁ Q' q => by cases b <;> first | exact wpAny_pure q | exact wpAny_rule q) ho hex hd pr1 n1 b1 ?_ ?_ ?_ fun h' l2 sb p2 g => by dsimp only; exact wpAny_pure (fin h' l2 sb p2 g))
      · first | (split <;> first | exact f0 | exact SetTable.fits_plain_off f0) | exact f0
      · first | (split <;> exact r0) | exact r0
      · first | (split <;> exact led1) | exact led1
    · refine wpAny_bind (wpAny_pure ?_)
      simp only [↓reduceIte]
      exact grow_tail (fun b s₁ Q' q => by cases b <;> first | exact wpAny_pure q | exact wpAny_rule q) ho hex hd pr1 n1 b1 f0 r0 led1 fun h' l2 sb p2 g => by dsimp only; exact wpAny_pure (fin h' l2 sb p2 g)
end
end PD

/-! PdO: set(xs) of keys, sorted(set(xs)) of texts. -/
namespace PD
open PySem PySem.Spec PyProof.Rows L2

section
variable {P : Program} {w : World} {κ : Type} [DecidableEq κ] {knd : KeyKind P w κ} {A : Around} {E : Value → Shared → Prop} {s : Shared}
theorem paired_at {α β : Type} {r : α → β → Prop} : ∀ {xs : List α} {ys : List β} {i : Nat} {x : α}, Paired r xs ys → xs[i]? = some x → ∃ y, ys[i]? = some y ∧ r x y
  | _, _, _, _, .nil, h => by simp at h
  | _, _, 0, _, .cons h1 _, h => by cases h; exact ⟨_, rfl, h1⟩
  | _, _, i + 1, _, .cons _ h2, h => paired_at (i := i) h2 h
/-- the keys met among the first i -/
structure Met (knd : KeyKind P w κ) (h : Heap) (a : Addr) (ks : List κ) (i : Nat) : Prop where
  ex : ∃ ls, SetG knd h a ls ∧ (∀ k, k ∈ ls ↔ k ∈ ks.take i) ∧ ls.length ≤ i
theorem Met.more {h' : Heap} {a : Addr} {ks ls : List κ} {i : Nat} {k : κ} (hk : ks[i]? = some k) (hm : ∀ k, k ∈ ls ↔ k ∈ ks.take i) (hl : ls.length ≤ i) (g : Grown knd h' a ls k) : Met knd h' a ks (i + 1) := by
  have e : ks.take (i + 1) = ks.take i ++ [k] := by rw [List.take_add_one, hk]; rfl
  rcases g with ⟨c, g⟩ | ⟨c, l2, p, g⟩
  · refine ⟨ls, g, fun z => ?_, by omega⟩
    rw [e, List.mem_append, List.mem_singleton, hm z]
    exact ⟨.inl, fun y => y.elim id fun y => by rw [y]; exact (hm k).mp c⟩
  · refine ⟨l2, g, fun z => ?_, by rw [p.length_eq, List.length_cons]; omega⟩
    rw [e, List.mem_append, List.mem_singleton, p.mem_iff, List.mem_cons, hm z]
    exact Or.comm
theorem loop_keys {R : Result → Shared → Prop} {I : Addr} {fp wr : List Addr} {G : Array GenState → Array GenState → Prop} {n : Nat} {Pv : Nat → Value → Prop} {St : Nat → Shared → Prop} (W : WalksS P w A.in1 I fp wr G n Pv St) (S : Addr) (hSf : S ∉ fp) (ks : List κ) (hn : ks.length = n) (hb : n + 1 < scanBound)
    (hval : ∀ i v, Pv i v → ∃ k, ks[i]? = some k ∧ knd.is k v = true ∧ v.scannable = true) : ∀ (k i : Nat) (s : Shared), n - i = k → i ≤ n → St i s → Met knd s.heap S ks i →
      (∀ s', Moved (S :: wr) G s s' → Met knd s'.heap S ks n → R (.ok (.ret .none)) s') → codeAny (model P w) A (.builtin "set.update.loop" ⟨[.ref S, .ref I], []⟩) R s := by
  have hw : S ∉ wr := fun h => hSf (W.sub _ h)
  have sub : ∀ b ∈ wr, b ∈ S :: wr := fun b hb => List.mem_cons_of_mem _ hb
  intro k
  induction k with
  | zero =>
    intro i s hk hi hst hm hR
    have e : i = n := by omega
    subst e
    refine codeAny_builtin PyProof.Rows.F.entry_set_update_loop ?_
    rw [Around.under_plainId PyProof.Rows.F.plain_set_update_loop _]
    show wpAny _ A.in1 (pyNext (.ref I) >>= _) _ _ s
    refine wpAny_bind (W.done s _ _ hst fun s' mv => ?_)
    obtain ⟨ls, h1, h2⟩ := hm.ex
    show wpAny _ A.in1 (ret Value.none) _ _ s'
    exact wpAny_pure (hR s' (mv.mono sub) ⟨ls, h1.at fun o e => mv.heap S o hw e, h2⟩)
  | succ k ih =>
    intro i s hk hi hst hm hR
    have hlt : i < n := by omega
    refine codeAny_builtin PyProof.Rows.F.entry_set_update_loop ?_
    rw [Around.under_plainId PyProof.Rows.F.plain_set_update_loop _]
    show wpAny _ A.in1 (pyNext (.ref I) >>= _) _ _ s
    refine wpAny_bind (W.item i s _ _ hlt hst fun v s' hP hst' mv => ?_)
    obtain ⟨key, hk1, hk2, hk3⟩ := hval i v hP
    obtain ⟨ls, h1, h2, h3⟩ := hm.ex
    have g1 : SetG knd s'.heap S ls := h1.at fun o e => mv.heap S o hw e
    show wpAny _ A.in1 (holding [v] (setAdd S v) >>= _) _ _ s'
    refine wpAny_bind (wpAny_holding ?_)
    unfold setAdd
    refine wpAny_holding (wpAny_bind (knd.pyHash hk2 ?_))
    refine setG_add (s := { s' with toks := s'.toks + 1 }) g1 hk2 hk3 (by omega) fun b h' sb gr => ?_
    refine wpAny_pure ⟨plainId_quiet PyProof.Rows.F.plain_set_update_loop _, ih (i + 1) _ (by omega) hlt (W.frame _ s' _ _ hst' (Nat.le_succ _) fun b hb o e => ?_) (Met.more hk1 h2 h3 gr) fun s'' mv' met => ?_⟩
    · rw [sb.2 b fun z : b = S => hSf (by rw [← z]; exact hb)]; exact e
    · refine hR s'' (Moved.trans W.gtrans ((mv.mono sub).then_heap (Nat.le_succ _) fun b o hb e => ?_) mv') met
      rw [sb.2 b fun z : b = S => hb (by rw [z]; exact List.mem_cons_self)]; exact e

theorem fresh_met {h : Heap} {a : Addr} {ks : List κ} (ho : h.get? a = some { cls := .type "set", dict := none, data := .set #[] 0 (.fresh 0 0 (!w.params.followText "set-order")) }) : Met knd h a ks 0 :=
  ⟨[], ⟨_, #[], 0, _, ho, ⟨rfl, rfl, rfl⟩, rfl, .nil, List.nodup_nil, by decide, rfl, List.Pairwise.nil, by
    show _ ∨ (!w.params.followText "set-order") = true
    cases w.params.followText "set-order"
    · exact .inr rfl
    · exact .inl rfl⟩, fun k => by simp, Nat.le_refl _⟩
set_option maxHeartbeats 3200000 in
/-- set(xs), xs a list of keys -/
theorem set_of_keys {l : Addr} {items : Array Value} {ks : List κ} {Q : Value → Shared → Prop} (hh : A.handled = none) (hl : s.heap.IsList l items) (hi : Paired (fun v k => knd.is k v = true ∧ v.scannable = true) items.toList ks) (hb : ks.length + 1 < scanBound)
    (h : ∀ (h' : Heap) (tk : Nat) ls, SetG knd h' s.heap.objs.size ls → (∀ k, k ∈ ls ↔ k ∈ ks) → (∀ b o, b < s.heap.objs.size → s.heap.get? b = some o → h'.get? b = some o) → Q (.ref s.heap.objs.size) { s with heap := h', toks := tk }) :
    wpAny (model P w) A (call (.type "set") [.ref l]) Q E s := by
  obtain ⟨c, tl, hmro⟩ := PySem.F.called_set.mro
  have hmade := PySem.F.called_set.made
  have hsub := PySem.F.called_set.sub
  have hsz : ks.length = items.size := by rw [← Paired.length hi, Array.length_toList]
  refine wpAny_call (codeAny_of_tree ?_)
  show wpAny _ _ (callAny (.type "set") _) _ _ _
  refine wpAny_pure ⟨Code.quiet_builtin _ (by decide +kernel), codeAny_builtin PySem.F.entry_type_call ?_⟩
  rw [Around.under_plain (weight_type_call_type "set" [.ref l] []) rfl]
  have h1 := PySem.F.called_set.notType
  have h2 := PySem.F.called_set.canCreate
  have hct := PySem.F.typeCall_set_1 (.ref l)
  repeat (any_goals (first | assumption | wp_step))
  refine codeAny_mono (code_set_led1 (.ref l) (E := E) (Q₁ := fun obj s₁ => obj = .ref s.heap.objs.size ∧ s₁ = { s with heap := s.heap.push { cls := .type "set", dict := none, data := .set #[] 0 (.fresh 0 0 (!w.params.followText "set-order")) } }) ⟨rfl, rfl⟩) fun r s₁ hr => ?_
  cases r with
  | error e => exact hr
  | ok fl =>
    cases fl with
    | ret obj =>
      obtain ⟨rfl, rfl⟩ := hr
      have hS : (s.heap.push { cls := .type "set", dict := none, data := .set #[] 0 (.fresh 0 0 (!w.params.followText "set-order")) }).get? s.heap.objs.size = some { cls := .type "set", dict := none, data := .set #[] 0 (.fresh 0 0 (!w.params.followText "set-order")) } := Heap.get?_push_size _ rfl
      have hT : Shared.TypeIs { s with heap := s.heap.push { cls := .type "set", dict := none, data := .set #[] 0 (.fresh 0 0 (!w.params.followText "set-order")) } } (.ref s.heap.objs.size) "set" := ⟨_, hS, rfl⟩
      have hli := PySem.F.called_set.init.lookup
      have hbi := PySem.F.called_set.init.bind (.ref s.heap.objs.size)
      repeat (any_goals (first | assumption | wp_step))
      refine codeAny_mono (codeAny_call_builtin (R := wants (fun r s₂ => r = .none ∧ ∃ h' tk, s₂ = { s with heap := h', toks := tk } ∧ Met knd h' s.heap.objs.size ks items.size ∧ (∀ b o, b < s.heap.objs.size → s.heap.get? b = some o → h'.get? b = some o)) E) PySem.F.called_set.init.plain PySem.F.entry_set_init (check_set_init_1 hT ?_)) fun r₂ s₂ hr₂ => ?_
      · obtain ⟨ol, hol, hcl, nl, hdl⟩ := hl
        obtain ⟨ocls, odict, odata, oslots⟩ := ol
        simp only at hcl hdl
        subst hcl; subst hdl
        have hol' : (s.heap.push { cls := .type "set", dict := none, data := .set #[] 0 (.fresh 0 0 (!w.params.followText "set-order")) }).get? l = some { cls := .type "list", dict := odict, data := .seq items nl, slots := oslots } := Heap.get?_push_of_some _ hol
        have hsls := PySem.F.sub_list_set
        have hslf := PySem.F.sub_list_frozenset
        have hne : (Value.type "list" == Value.type "dict") = false := by decide
        have hl1 : (s.heap.push { cls := .type "set", dict := none, data := .set #[] 0 (.fresh 0 0 (!w.params.followText "set-order")) }).IsList l items := ⟨_, hol', rfl, nl, rfl⟩
        unfold Builtin.«set.__init__» noKeywords Builtin.Frozenset.updateFrom
        generalize hPI : pyIter = PI
        wp_walk
        subst hPI
        refine wpAny_pyIter_list hl1 ?_
        refine wpAny_bind (wpAny_runValue ?_)
        have hlS : l < s.heap.objs.size := Heap.lt_size hol
        have hps : (s.heap.push { cls := .type "set", dict := none, data := .set #[] 0 (.fresh 0 0 (!w.params.followText "set-order")) }).objs.size = s.heap.objs.size + 1 := Heap.size_push ..
        have neI : l ≠ (s.heap.push { cls := .type "set", dict := none, data := .set #[] 0 (.fresh 0 0 (!w.params.followText "set-order")) }).objs.size := by
          rw [hps]
          exact Nat.ne_of_lt (Nat.lt_succ_of_lt hlS)
        have notin : s.heap.objs.size ∉ [(s.heap.push { cls := .type "set", dict := none, data := .set #[] 0 (.fresh 0 0 (!w.params.followText "set-order")) }).objs.size, l] := by
          rw [hps, List.mem_cons, List.mem_singleton, not_or]
          exact ⟨Nat.ne_of_lt (Nat.lt_succ_self _), Nat.ne_of_gt hlS⟩
        have hh3 : A.in1.in1.in1.handled = none := by simp [hh]
        refine loop_keys (knd := knd) ((Walks.list hh3 _ l neI items).toS) s.heap.objs.size notin ks hsz (by omega) (fun i v hv => ?_) (items.size - 0) 0 _ (by omega) (Nat.zero_le _)
          ⟨⟨_, Heap.get?_push_size _ rfl, rfl, rfl⟩, hl1.push _⟩ (fresh_met (Heap.get?_push_of_some _ hS)) fun s' mv met => ?_
        · have hv' : items.toList[i]? = some v := by rw [Array.getElem?_toList]; exact hv
          obtain ⟨k, k1, k2⟩ := paired_at hi hv'
          exact ⟨k, k1, k2⟩
        · obtain ⟨h', g', d', tk', os'⟩ := s'
          have eg : g' = s.gens := mv.gens
          have ed : d' = s.drawn := mv.drawn
          have eo : os' = s.os := mv.os
          subst eg; subst ed; subst eo
          refine wpAny_pure ?_
          show wpAny _ _ (ret Value.none) _ _ _
          refine wpAny_pure ⟨rfl, h', tk', rfl, met, fun b o hb e => mv.heap b o ?_ (Heap.get?_push_of_some _ (Heap.get?_push_of_some _ e))⟩
          rw [List.mem_cons, List.mem_singleton, not_or, hps]
          exact ⟨Nat.ne_of_lt hb, Nat.ne_of_lt (Nat.lt_succ_of_lt hb)⟩
      · cases r₂ with
        | error e => exact hr₂
        | ok fl₂ =>
          cases fl₂ with
          | ret r =>
            obtain ⟨rfl, h', tk, rfl, met, hk'⟩ := hr₂
            obtain ⟨ls, g1, g2, g3⟩ := met.ex
            repeat (any_goals (first | assumption | wp_step))
            exact h _ _ ls g1 (fun k => by rw [g2 k, ← hsz, List.take_length]) hk'
          | _ => exact hr₂.elim
    | _ => exact hr.elim
end
end PD

/-! PdP: sorted(set(xs)) of texts. -/
namespace PD
open PySem PySem.Spec PyProof.Rows L2

theorem strsAre_pair {P : Program} {w : World} : ∀ {vs : List Value} {ls : List Str}, Paired (fun v k => (strKind P w).is k v = true) vs ls → StrsAre vs ls
  | _, _, .nil => .nil
  | _, _, .cons h1 h2 => by
    obtain ⟨t, rfl⟩ := Value.isStrOf_shape h1
    exact .cons _ t (strsAre_pair h2)
theorem paired_map {α β γ : Type} {f : α → γ} {r : α → β → Prop} {q : γ → β → Prop} (h : ∀ a b, r a b → q (f a) b) : ∀ {xs : List α} {ys : List β}, Paired r xs ys → Paired q (xs.map f) ys
  | _, _, .nil => .nil
  | _, _, .cons h1 h2 => .cons (h _ _ h1) (paired_map h h2)
theorem strs_pair {P : Program} {w : World} : ∀ {xs : List Str} {us : List Value}, Vals (xs.map V.str) us → Paired (fun v k => (strKind P w).is k v = true ∧ v.scannable = true) us xs
  | [], _, .nil => .nil
  | x :: r, _, .cons h1 h2 => by
    obtain ⟨t, rfl⟩ := h1
    exact .cons ⟨strKind_is _ _ _ _, rfl⟩ (strs_pair h2)
theorem nodup_le {α : Type} [DecidableEq α] : ∀ {ls xs : List α}, ls.Nodup → (∀ z ∈ ls, z ∈ xs) → ls.length ≤ xs.length
  | [], _, _, _ => Nat.zero_le _
  | x :: r, xs, nd, h => by
    obtain ⟨n1, n2⟩ := List.nodup_cons.mp nd
    have hx := h x List.mem_cons_self
    have ih := nodup_le (ls := r) (xs := xs.erase x) n2 fun z hz => (List.mem_erase_of_ne fun (e : z = x) => n1 (by rw [← e]; exact hz)).mpr (h z (List.mem_cons_of_mem _ hz))
    rw [List.length_erase_of_mem hx] at ih
    have : 0 < xs.length := List.length_pos_of_mem hx
    rw [List.length_cons]
    omega
section
variable {X : Cx}
theorem sorted_set_strs {pins : List (Addr × Obj)} {σ : Sl} {H : Hp} {s : Shared} {a : Addr} {ls : List Str} {Q : VK} (hc : X.calm = true) (I : Inv X pins σ H s) (R : SetG (strKind X.prog X.w) s.heap a ls) (h64 : ls.length < 64)
    (q : ∀ (ys : List Str) (p : Addr), ys.Perm ls → sortedS ys = true → H p = none → Q (.ref p) (upd H p (.lst (ys.map V.str)))) : wpAny (model X.prog X.w) X.A (call (.builtin "sorted") [.ref a]) (EP X pins σ Q) X.xe s := by
  obtain ⟨o, es, ep, t, ho, hex, hd, pr, nd, hb, hf, hr, hl⟩ := R
  refine Calls.call_function_entry PyProof.Rows.kind_sorted PyProof.Rows.plain_sorted PyProof.Rows.entry_sorted (PyProof.Rows.args_sorted1 _) ?_
  unfold Builtin.«sorted»
  refine wpAny_bind (m := checkCount "sorted" 1 1 _) (wpAny_pure ?_)
  refine wpAny_bind (collect_set (A := X.A.in1) (I.ok.hd hc) ⟨o, ho, hex.1, hd⟩ hf hb hr hl fun s1 vs k1 hz g1 o1 pm => ?_)
  obtain ⟨l1, p1, pr1⟩ := paired_perm pm (paired_map (q := fun v k => (strKind X.prog X.w).is k v = true) (fun _ _ z => z.1) pr)
  have hS : StrsAre vs l1 := strsAre_pair pr1
  have hvl : vs.length = ls.length := by rw [Paired.length pr1, p1.length_eq]
  refine wpAny_bind (wpAny_newList ?_ (by rw [hvl, sizeLine_eq]; omega))
  have hoL : (s1.heap.push (seqObj "list" vs.toArray 0)).get? s1.heap.objs.size = some (seqObj "list" vs.toArray 0) := Heap.get?_push_size _ rfl
  refine wpAny_bind (wpAny_holding (wpAny_call_entry PyProof.Rows.slot_list_sort ⟨_, hoL, rfl⟩ PyProof.Rows.entry_list_sort
    (list_sort_treeK strKind_oneLt (s := { s1 with heap := s1.heap.push (seqObj "list" vs.toArray 0) }) hoL hS.keysOf (fun v₁ v₂ rest e => keyKind_strs (by rw [← e]; exact hS)) (by rw [hvl]; exact h64) fun st' hp hs => ⟨_, rfl, ?_⟩) (PyProof.Rows.args_list_sort _)))
  obtain ⟨ys, g2, g3, g4⟩ := sorted_out_str hS hp hs
  obtain ⟨e', he'⟩ := PyProof.Rows.sortedHeap_at (vs := vs) (out := (arrOf st').map (·.2)) hoL
  have pys : ys.Perm ls := g3.trans p1
  have hlen : (ys.map V.str).length ≤ sizeLine := by
    rw [List.length_map, pys.length_eq]
    exact Nat.le_trans (Nat.le_of_lt h64) (by decide)
  have hn : H s1.heap.objs.size = none := I.hok.fresh hz
  refine wpAny_pure ⟨_, rfl, ?_⟩
  generalize hh2 : PyProof.Rows.sortedHeap (s1.heap.push (seqObj "list" vs.toArray 0)) s1.heap.objs.size vs ((arrOf st').map (·.2)) = h2 at he'
  have keep : ∀ b u, s.heap.get? b = some u → h2.get? b = some u := fun b u e => by
    have y := k1 b u e
    have hlt := Heap.lt_size y
    rw [← hh2, PyProof.Rows.sortedHeap_old (Nat.ne_of_lt hlt) (by rw [size_push']; exact Nat.lt_succ_of_lt hlt)]
    exact Heap.get?_push_of_some _ y
  have J : Inv X pins σ (upd H s1.heap.objs.size (.lst (ys.map V.str))) { s with heap := h2, gens := s1.gens, drawn := s1.drawn, toks := s1.toks } :=
    I.call (ch := []) (Un.laid keep hz hn) (I.hok.laid keep hz ⟨hlen, ((arrOf st').map (·.2)).toList, e', vals_of_strs g2, by rw [Array.toArray_toList]; exact he'⟩) (by rw [g1]; exact I.bare) (fun _ z => nomatch z)
  have es : ({ s1 with heap := h2 } : Shared) = { s with heap := h2, gens := s1.gens, drawn := s1.drawn, toks := s1.toks } := by
    cases s1
    cases s
    cases o1
    rfl
  refine ⟨.ref s1.heap.objs.size, upd H s1.heap.objs.size (.lst (ys.map V.str)), ?_, rfl, q ys _ pys g4 hn⟩
  show Inv X pins σ _ ({ s1 with heap := h2 } : Shared)
  rw [es]
  exact J
/-- sorted(set(xs)), xs a list of texts -/
def tSS (K : PySem.W.Frag) (ta : TE) : TE := fun σ H Q => ta σ H fun x H1 => ∃ l, ∃ xs : List Str, x = .ref l ∧ SqL K H1 l (xs.map V.str) ∧ xs.length < 64 ∧
  ∀ (ys : List Str) (p : Addr), ys.Pairwise leS → ys.Nodup → (∀ z, z ∈ ys ↔ z ∈ xs) → H1 p = none → Q (.ref p) (upd H1 p (.lst (ys.map V.str)))
theorem pe_sortedSet {a : Expr} {ta : TE} {p p2 q pos : Pos} (hc : X.calm = true) (hg : Gl X "sorted") (hm : X.mg "sorted" = none) (hg2 : Gl X "set") (hm2 : X.mg "set" = none) (ha : PE X a ta) (hv : bootBuiltins "sorted" = some (.builtin "sorted") := by kernel_rfl)
    (na : starEach [a] X.env = (false, eval a X.env) :: starEach [] X.env := by rfl) : PE X (.Call (.Name "sorted" p) [.Call (.Name "set" p2) [a] [] q] [] pos) (tSS X.K ta) := by
  refine ⟨fun pins s σ H Q I h => ?_⟩
  refine Call_ (ld_blt I hg hm hv ?_)
  refine PyProof.Rows.callWith_builtin1 (PyProof.Rows.args_cons ?_ rfl) rfl rfl
  refine Call_ (ld_blt I hg2 hm2 boot_set ?_)
  refine PyProof.Rows.callWith_type1 (PyProof.Rows.args_cons (thn (ha.run pins s σ H _ I h) fun v s1 ⟨x, H1, I1, r1, q1⟩ => PyProof.Rows.args_nil ?_) na) na rfl
  obtain ⟨l, xs, rfl, hq, h64, q1⟩ := q1
  cases r1
  obtain ⟨its, r, pl, hz⟩ := I1.list hq
  refine set_of_keys (knd := strKind X.prog X.w) (ks := xs) (I1.ok.hd hc) pl.isList (by simpa using strs_pair r) (by unfold scanBound; omega) fun h' tk ls g mem hk => ?_
  have I2 : Inv X pins σ H1 { s1 with heap := h', toks := tk } := I1.kept fun b o e => hk b o (Heap.lt_size e) e
  have nd : ls.Nodup := by
    obtain ⟨_, _, _, _, _, _, _, _, nd, _⟩ := g
    exact nd
  have hle : ls.length ≤ xs.length := by
    exact nodup_le nd fun z hz => (mem z).mp hz
  refine PyProof.Rows.args_nil ?_
  exact sorted_set_strs hc I2 g (by omega) fun ys p hp hs hn => q1 ys p (sortedS_pair hs) (hp.nodup_iff.mpr nd) (fun z => by rw [hp.mem_iff, mem z]) hn
/-! ### of data -/
def insU (x : Str) : List Str → List Str
  | [] => [x]
  | y :: r => if ltCps y.cps.toList x.cps.toList then y :: insU x r else if ltCps x.cps.toList y.cps.toList then x :: y :: r else y :: r
def sortU : List Str → List Str
  | [] => []
  | x :: r => insU x (sortU r)
theorem insU_mem (x z : Str) : ∀ l : List Str, z ∈ insU x l ↔ z = x ∨ z ∈ l
  | [] => by simp [insU]
  | y :: r => by
    unfold insU
    split
    · rw [List.mem_cons, insU_mem x z r, List.mem_cons]
      exact ⟨fun h => h.elim (fun h => .inr (.inl h)) fun h => h.elim .inl fun h => .inr (.inr h), fun h => h.elim (fun h => .inr (.inl h)) fun h => h.elim .inl fun h => .inr (.inr h)⟩
    · rename_i c1
      split
      · exact List.mem_cons
      · rename_i c2
        have e : x = y := leS_anti (by simpa using c1) (by simpa using c2)
        subst e
        rw [List.mem_cons]
        exact ⟨.inr, fun h => h.elim .inl id⟩
theorem sortU_mem (z : Str) : ∀ l : List Str, z ∈ sortU l ↔ z ∈ l
  | [] => Iff.rfl
  | x :: r => by
    show z ∈ insU x (sortU r) ↔ _
    rw [insU_mem, sortU_mem z r, List.mem_cons]
/-- in order, none twice -/
abbrev ltS (a b : Str) : Prop := ltCps a.cps.toList b.cps.toList = true
theorem ltS_leS {a b : Str} (h : ltS a b) : leS a b := by
  unfold leS
  unfold ltS at h
  rw [ltCps_eq, decide_eq_true_eq] at h
  rw [ltCps_eq]
  exact decide_eq_false fun k => absurd (List.lt_trans h k) (List.lt_irrefl _)
theorem ltS_trans {a b c : Str} (h : ltS a b) (k : ltS b c) : ltS a c := by
  unfold ltS at *
  rw [ltCps_eq, decide_eq_true_eq] at *
  exact List.lt_trans h k
theorem ltS_ne {a b : Str} (h : ltS a b) : a ≠ b := by
  rintro rfl
  unfold ltS at h
  rw [ltCps_eq, decide_eq_true_eq] at h
  exact List.lt_irrefl _ h
theorem insU_sorted (x : Str) : ∀ l : List Str, l.Pairwise ltS → (insU x l).Pairwise ltS
  | [], _ => List.pairwise_singleton ..
  | y :: r, h => by
    obtain ⟨h1, h2⟩ := List.pairwise_cons.mp h
    unfold insU
    split
    · rename_i c
      refine List.pairwise_cons.mpr ⟨fun z hz => ?_, insU_sorted x r h2⟩
      rcases (insU_mem x z r).mp hz with rfl | hz
      · exact c
      · exact h1 z hz
    · split
      · rename_i c
        refine List.pairwise_cons.mpr ⟨fun z hz => ?_, h⟩
        rcases List.mem_cons.mp hz with rfl | hz
        · exact c
        · exact ltS_trans c (h1 z hz)
      · exact h
theorem sortU_sorted : ∀ l : List Str, (sortU l).Pairwise ltS
  | [] => List.Pairwise.nil
  | x :: r => insU_sorted x _ (sortU_sorted r)
theorem sortU_eq {l m : List Str} (s : m.Pairwise leS) (n : m.Nodup) (h : ∀ z, z ∈ m ↔ z ∈ l) : m = sortU l :=
  sorted_uniq s ((sortU_sorted l).imp ltS_leS) ((List.perm_ext_iff_of_nodup n ((sortU_sorted l).imp ltS_ne)).mpr fun z => by rw [h z, sortU_mem])
def sortUD : G1
  | .list ds => match strsD ds with
    | some xs => if xs.length < 64 then some (.list ((sortU xs).map .str), true) else none
    | none => none
  | _ => none
theorem se_sortedSet {a : Expr} {f : OF} {p p2 q pos : Pos} (hc : X.calm = true) (hg : Gl X "sorted") (hm : X.mg "sorted" = none) (hg2 : Gl X "set") (hm2 : X.mg "set" = none) (ha : SO X f a) (hv : bootBuiltins "sorted" = some (.builtin "sorted") := by kernel_rfl)
    (na : starEach [a] X.env = (false, eval a X.env) :: starEach [] X.env := by rfl) : SE X (opF (consO f nilO) (g1 sortUD)) (.Call (.Name "sorted" p) [.Call (.Name "set" p2) [a] [] q] [] pos) := (pe_sortedSet hc hg hm hg2 hm2 ha hv na).imp fun σ H Q h => by
  refine tO_mono (one_imp h) fun x H1 w => ?_
  obtain ⟨O, a, d, fr, m, p1, e, q⟩ := rD1_elim w
  unfold sortUD at e
  split at e
  · split at e
    · rename_i ys h1
      split at e
      · rename_i hl
        cases e
        obtain ⟨p, vs, rfl, h2, h3⟩ := pk_list p1
        rw [strsD_eq h1] at h3
        obtain rfl := denL_strs h3
        exact ⟨p, ys, rfl, h2, hl, fun zs l hs hn hm hf => by
          rw [sortU_eq hs hn hm]
          exact q _ _ (np_list hf strs_denL)⟩
      · cases e
    · cases e
  · cases e
end
end PD

/-! PdQ: what is known of the text's defs and constants; the law's own call. -/
namespace PD
open PySem PySem.Spec PyProof.Rows L2

structure Fn (P : Program) (w : World) (K : PySem.W.Frag) (mg : Str → Option Value) (base : Heap) (k : Nat) (x : Str) (b : Bool) (n : Nat) (F : FF) : Prop where
  ex : ∃ f fd ps, FnOk P w K mg base CX0 k f fd ps (spF K b n F) ∧ mg x = some (.ref f) ∧ PySem.W.keepIn K (.ref f) = true ∧ Binds K fd ps []
theorem Fn.kn {X : Cx} {k : Nat} {x : Str} {b : Bool} {n : Nat} {F : FF} (h : Fn X.prog X.w X.K X.mg X.base k x b n F) (r : Room k X.A) : Kn X x b n [] F := by
  obtain ⟨f, fd, ps, h1, h2, h3, h4⟩ := h.ex
  exact ⟨k, f, fd, ps, [], [], h1, r, h2, h3, h4, .nil, binds_consts, rfl⟩
structure KgM (K : PySem.W.Frag) (mg : Str → Option Value) (x : Str) (d : D) : Prop where
  ex : ∃ v u, mg x = some u ∧ RelV v u ∧ ∀ H, Den K H d v
/-- one argument, a list of ints that all may read -/
theorem law_end {K : PySem.W.Frag} {H : Hp} {a : Addr} {ns : List Int} {F : FF} {E : XK} {Q : VK} {d : D} {fr : Bool} {d0 : D} (hs : SqL K H a (ns.map V.int)) (e : F [.list (ns.map .int)] = some (d, fr, d0)) (q : ∀ v H' B, Den K B d v → Q v H') : spF K false 1 F [.ref a] H Q E := by
  have no : ∀ c, ¬ Oo (fun _ => False) (argE false [PyData.list (ns.map .int)]) [some (V.ref a)] c := fun c z => by
    rcases z with z | ⟨i, d, o, h1, h2, _⟩
    · exact z
    · rcases (argE_get h1).2 with ⟨z, _⟩ | ⟨_, z, _⟩
      · exact h2 z
      · cases z
  have cutE : Same H (Pb (fun _ => False) (argE false [PyData.list (ns.map .int)]) [some (V.ref a)] H) := fun b u h => cut_some.mpr ⟨no b, h⟩
  have dInts : ∀ (B : Hp) (l : List Int), DenL K B (l.map PyData.int) (l.map V.int) := fun B l => by
    induction l with
    | nil => rfl
    | cons x r ih => exact ⟨_, _, rfl, rfl, ih⟩
  refine ⟨rfl, fun _ => False, fun _ => none, [.list (ns.map .int)], d, fr, d0, ⟨rfl, fun i d h => ?_, fun i d o h n => ?_, fun i j b d e o p h1 h2 _ _ _ _ => ?_, fun _ z => z.elim, fun p hp => (nomatch hp), fun i d h => ?_⟩, e, fun v H' p => ?_⟩
  · obtain ⟨h1, _⟩ := argE_get h
    match i, h1 with
    | 0, h1 =>
      cases h1
      exact ⟨_, rfl, a, _, rfl, sqL_le (Le.of_same cutE) hs, dInts _ _⟩
    | i + 1, h1 => simp at h1
  · rcases (argE_get h).2 with ⟨z, _⟩ | ⟨_, z, _⟩
    · exact absurd z n
    · cases z
  · rcases (argE_get h1).2 with ⟨z, _⟩ | ⟨_, z, _⟩
    · exact absurd z h2
    · cases z
  · rcases (argE_get h).2 with ⟨z, _⟩ | ⟨_, z, _⟩
    · cases z
    · cases z
  · exact q v H' _ p.weak.2
end PD

/-! PdS: loops of data, reckoned: comprehensions and for loops by what a turn does. -/
namespace PD
open PySem PySem.Spec

/-- a turn of a comprehension -/
def turnF (vs : List Nat) (g : GF) (t : TF) (f : EF) (d : D) (env : Ev) : Option (Option D × Ev) := match g d env with
  | none => none
  | some e1 => match t e1 with
    | none => none
    | some (false, e2) => some (none, wipeE e2 vs)
    | some (true, e2) => match f e2 with
      | none => none
      | some (y, _, e3) => some (some y, wipeE e3 vs)
/-- a comprehension whose turns leave the frame as it was -/
theorem lcL_eq {vs : List Nat} {g : GF} {t : TF} {f : EF} {env : Ev} (φ : D → Option D) : ∀ (ds : List D), (∀ d ∈ ds, turnF vs g t f d env = some (φ d, env)) → lcL vs g t f ds env = some (ds.filterMap φ, env)
  | [], _ => rfl
  | d :: ds, h => by
    have ih := lcL_eq φ ds fun d hd => h d (List.mem_cons_of_mem _ hd)
    have h1 := h d List.mem_cons_self
    unfold turnF at h1
    split at h1
    · cases h1
    · rename_i e1 k1
      split at h1
      · cases h1
      · rename_i e2 k2
        simp only [Option.some.injEq, Prod.mk.injEq] at h1
        simp only [lcL, k1, k2, h1.2, ih, List.filterMap_cons, ← h1.1]
      · rename_i e2 k2
        split at h1
        · cases h1
        · rename_i y fr e3 k3
          simp only [Option.some.injEq, Prod.mk.injEq] at h1
          simp only [lcL, k1, k2, k3, h1.2, ih, List.filterMap_cons, ← h1.1]
/-- .. over what is made of other things -/
theorem lcL_map {α : Type} {vs : List Nat} {g : GF} {t : TF} {f : EF} {env : Ev} (c : α → D) (φ : α → Option D) (as : List α) (h : ∀ a ∈ as, turnF vs g t f (c a) env = some (φ a, env)) : lcL vs g t f (as.map c) env = some (as.filterMap φ, env) := by
  induction as with
  | nil => rfl
  | cons a r ih =>
    have ih := ih fun b hb => h b (List.mem_cons_of_mem _ hb)
    have h1 := h a List.mem_cons_self
    unfold turnF at h1
    rw [List.map_cons]
    split at h1
    · cases h1
    · rename_i e1 k1
      split at h1
      · cases h1
      · rename_i e2 k2
        simp only [Option.some.injEq, Prod.mk.injEq] at h1
        simp only [lcL, k1, k2, h1.2, ih, List.filterMap_cons, ← h1.1]
      · rename_i e2 k2
        split at h1
        · cases h1
        · rename_i y fr e3 k3
          simp only [Option.some.injEq, Prod.mk.injEq] at h1
          simp only [lcL, k1, k2, k3, h1.2, ih, List.filterMap_cons, ← h1.1]
theorem filterMap_if {α β : Type} (p : α → Bool) (f : α → β) : ∀ l : List α, (l.filterMap fun a => if p a = true then some (f a) else none) = (l.filter p).map f
  | [] => rfl
  | a :: r => by
    rw [List.filterMap_cons, List.filter_cons, filterMap_if p f r]
    cases p a <;> rfl
theorem filterMap_all {α β : Type} (f : α → β) : ∀ l : List α, (l.filterMap fun a => some (f a)) = l.map f
  | [] => rfl
  | a :: r => by rw [List.filterMap_cons, filterMap_all f r]; rfl
theorem eqv_str (a b : Str) : PyData.eqv (.str a) (.str b) = decide (a = b) := by
  rw [Bool.eq_iff_iff]
  simp [PyData.eqv]
theorem eqv_int (a b : Int) : PyData.eqv (.int a) (.int b) = decide (a = b) := by
  rw [Bool.eq_iff_iff]
  simp [PyData.eqv]
theorem eqv_bool (a b : Bool) : PyData.eqv (.bool a) (.bool b) = decide (a = b) := by
  cases a <;> cases b <;> rfl
/-- a for loop that is not left, by an invariant -/
theorem forL_inv {σ : Type} {g : GF} {B : SF} (P : σ → Ev → Prop) (step : σ → D → σ) : ∀ (ds : List D) (s : σ) (e : Ev), (∀ s e d, d ∈ ds → P s e → ∃ e1 e2, g d e = some e1 ∧ (B e1 = some (.nx, e2) ∨ B e1 = some (.ct, e2)) ∧ P (step s d) e2) → P s e → ∃ e', forL g B ds e = some (.nx, e') ∧ P (ds.foldl step s) e'
  | [], s, e, _, hp => ⟨e, rfl, hp⟩
  | d :: ds, s, e, h, hp => by
    obtain ⟨e1, e2, h1, h2, h3⟩ := h s e d List.mem_cons_self hp
    obtain ⟨e', h4, h5⟩ := forL_inv P step ds (step s d) e2 (fun s e d hd => h s e d (List.mem_cons_of_mem _ hd)) h3
    refine ⟨e', ?_, h5⟩
    rcases h2 with h2 | h2 <;> simp only [forL, h1, h2, h4]
theorem while_stop {t : TF} {B : SF} {n : Nat} {e e1 : Ev} (h : t e = some (false, e1)) : whileL t B (n + 1) e = some (.nx, e1) := by simp only [whileL, h]
theorem while_go {t : TF} {B : SF} {n : Nat} {e e1 e2 : Ev} (h : t e = some (true, e1)) (k : B e1 = some (.nx, e2) ∨ B e1 = some (.ct, e2)) : whileL t B (n + 1) e = whileL t B n e2 := by
  rcases k with k | k <;> simp only [whileL, h, k]
theorem strsD_map (xs : List Str) : strsD (xs.map PyData.str) = some xs := by
  induction xs with
  | nil => rfl
  | cons x r ih => simp only [List.map_cons, strsD, ih]
theorem at0 {α : Type} {x : α} {r : List α} : L2.atI (x :: r) 0 = some x := L2.atI_nat (j := 0) rfl
theorem at1 {α : Type} {x y : α} {r : List α} : L2.atI (x :: y :: r) 1 = some y := L2.atI_nat (j := 1) rfl
theorem at2 {α : Type} {x y z : α} {r : List α} : L2.atI (x :: y :: z :: r) 2 = some z := L2.atI_nat (j := 2) rfl
theorem at3 {α : Type} {x y z w : α} {r : List α} : L2.atI (x :: y :: z :: w :: r) 3 = some w := L2.atI_nat (j := 3) rfl
theorem nilO_eq {e : Ev} : nilO e = some ([], e) := rfl
theorem consO_eq {f : OF} {fl : OLF} {e e1 e2 : Ev} {o : Opd} {os : List Opd} (h : f e = some (o, e1)) (k : fl e1 = some (os, e2)) : consO f fl e = some (o :: os, e2) := by
  simp only [consO, h, k]
theorem ofE_eq {f : EF} {e e1 : Ev} {d : D} {fr : Bool} (h : f e = some (d, fr, e1)) : ofE f e = some (.val d, e1) := by
  simp only [ofE, h]
theorem opF_eq {fl : OLF} {g : List D → Option (D × Bool)} {e e1 : Ev} {os : List Opd} {ds : List D} {d : D} {fr : Bool} (h : fl e = some (os, e1)) (k : derefs e1 os = some ds) (q : g ds = some (d, fr)) : opF fl g e = some (d, fr, e1) := by
  simp only [opF, h, k, q]
theorem opFA_eq {fl : OLF} {g : List D → Option (D × Bool)} {e e1 : Ev} {os : List Opd} {ds : List D} {d : D} {fr : Bool} (h : fl e = some (os, e1)) (p : pkS e1 os = []) (k : derefs e1 os = some ds) (q : g ds = some (d, fr)) : opFA fl g e = some (d, fr, e1) := by
  simp only [opFA, h, p, k, q, List.isEmpty_nil, if_true]
theorem callF_eq {F : FF} {dds : List D} {fl : OLF} {e e1 : Ev} {os : List Opd} {ds : List D} {d d0 : D} {fr : Bool} (h : fl e = some (os, e1)) (k : derefs e1 os = some ds) (q : F (ds ++ dds) = some (d, fr, d0)) (p : pkS e1 os = []) : callF F dds fl e = some (d, fr, e1) := by
  simp only [callF, h, k, q, p, List.isEmpty_nil, if_true]
theorem callM_eq {F : FF} {fl : OLF} {e e1 : Ev} {i : Nat} {os : List Opd} {c c' : D} {o : Ow} {ds : List D} {d : D} {fr : Bool} (h : fl e = some (.slot i :: os, e1)) (p : pkS e1 os = []) (g : e1[i]? = some (some (c, o))) (no : o ≠ .sh) (k : derefs e1 os = some ds) (q : F (c :: ds) = some (d, fr, c')) : callM F fl e = some (d, fr, e1.set i (some (c', o))) := by
  simp only [callM, h, p, frzL, g, k, no, q, List.isEmpty_nil, if_true, if_false]
theorem seqF_eq {F G : SF} {e e1 : Ev} (h : F e = some (.nx, e1)) : seqF F G e = G e1 := by
  simp only [seqF, h]
theorem setF_eq {i : Nat} {f : EF} {e e1 e2 : Ev} {d : D} {fr : Bool} (h : f e = some (d, fr, e1)) (k : setv i d fr e1 = some e2) : setF i f e = some (.nx, e2) := by
  simp only [setF, h, k]
theorem asgF_eq {f : EF} {g : GF} {e e1 e2 : Ev} {d : D} {fr : Bool} (h : f e = some (d, fr, e1)) (k : g d e1 = some e2) : asgF f g e = some (.nx, e2) := by
  simp only [asgF, h, k]
theorem ifF_no {t : TF} {F G : SF} {e e1 : Ev} (h : t e = some (false, e1)) : ifF t F G e = G e1 := by
  simp only [ifF, h]
theorem ifF_yes {t : TF} {F G : SF} {e e1 : Ev} (h : t e = some (true, e1)) : ifF t F G e = F e1 := by
  simp only [ifF, h]
theorem tstF_eq {f : EF} {e e1 : Ev} {b fr : Bool} (h : f e = some (.bool b, fr, e1)) : tstF f e = some (b, e1) := by
  simp only [tstF, h]
theorem seqI_list {f : EF} {e e1 : Ev} {l : List D} {fr : Bool} (h : f e = some (.list l, fr, e1)) : seqI f e = some (l, e1) := by
  simp only [seqI, h]
theorem seqI_tup {f : EF} {e e1 : Ev} {l : List D} {fr : Bool} (h : f e = some (.tuple l, fr, e1)) : seqI f e = some (l, e1) := by
  simp only [seqI, h]
theorem lcF_eq {vs : List Nat} {s : IF} {g : GF} {t : TF} {f : EF} {e e1 e2 : Ev} {ds ys : List D} (h : s e = some (ds, e1)) (hl : ds.length ≤ sizeLine) (no : noOwn e1 vs = true) (k : lcL vs g t f ds (wipeE e1 vs) = some (ys, e2)) : lcF vs s g t f e = some (.list ys, true, unw e1 e2 vs) := by
  simp only [lcF, h, hl, no, k, and_self, if_true]
theorem mutF_eq {T : String} {i : Nat} {fl : OLF} {m : MF} {A : Bool} {e e1 : Ev} {os : List Opd} {c0 c c' r : D} {o0 o : Ow} {ds : List D} (h0 : e[i]? = some (some (c0, o0))) (n0 : o0 ≠ .sh) (ty : tyD c0 = T) (hf : fl e = some (os, e1)) (hA : A = true → pkS e1 os = []) (hB : A = false → noSlot i os = true) (g : e1[i]? = some (some (c, o))) (n : o ≠ .sh) (k : derefs e1 os = some ds) (q : m c ds = some (r, c')) :
    mutF T i fl m A e = some (r, false, e1.set i (some (c', o))) := by
  have c1 : ¬ (o0 = .sh ∨ tyD c0 ≠ T) := fun z => z.elim n0 fun z => z ty
  have c2 : ¬ ((A = true ∧ (pkS e1 os).isEmpty = false) ∨ (A = false ∧ noSlot i os = false)) := fun z => by
    rcases z with ⟨z1, z2⟩ | ⟨z1, z2⟩
    · rw [hA z1] at z2; cases z2
    · rw [hB z1] at z2; cases z2
  simp only [mutF, h0, if_neg c1, hf, if_neg c2, g, k, if_neg n, q]
end PD

/-! PdT: x.extend(y) of lists and tuples. -/
namespace PD
open PySem PySem.Spec PyProof.Rows L2

theorem extendL (l : Addr) (items : Array Value) (n : Nat) (b : Addr) (items2 : Array Value) (n2 : Nat) (dd : Option Addr) (sl : Array (Option Value)) (hc0 : ¬(!items.isEmpty && Builtin.List.listTooLong (items.size + items2.size)) = true) (hc1 : items.size ≤ sizeLine) (hs2 : items.size + items2.size ≤ sizeLine + 1) :
    Meets (Builtin.«list.extend» ⟨[.ref l, .ref b], []⟩) (fun _ R s => s.heap.get? l = some { cls := .type "list", dict := none, data := .seq items n, slots := #[] } ∧ s.heap.get? b = some { cls := .type "list", dict := dd, data := .seq items2 n2, slots := sl } ∧ R (.ok (.ret Value.none)) { s with heap := s.heap.update l (Obj.mapSeq fun x => x ++ items2), toks := s.toks }) :=
  .of_wp fun prog w A R s h => by
    obtain ⟨hp, g, d, tk, os⟩ := s
    obtain ⟨ha, hb, h⟩ := h
    have f1 := AutoSeq1.idx_int
    have f2 := AutoSeq1.sub_tuple_tuple
    have f3 := AutoSeq1.sub_list_list
    have f4 := AutoSeq1.sub_tuple_list
    have f5 := AutoSeq1.sub_list_tuple
    have fit : (items ++ items2).size ≤ sizeLine + 1 := by simpa using hs2
    wp_walk using (wpAny_updateSeq ha rfl (hz := hc1) (_hz' := fit)), wpAny_loadPart' ha, wpAny_loadPart' hb
    exact ⟨_, rfl, h⟩
theorem extendT (l : Addr) (items : Array Value) (n : Nat) (b : Addr) (items2 : Array Value) (n2 : Nat) (dd : Option Addr) (sl : Array (Option Value)) (hc0 : ¬(!items.isEmpty && Builtin.List.listTooLong (items.size + items2.size)) = true) (hc1 : items.size ≤ sizeLine) (hs2 : items.size + items2.size ≤ sizeLine + 1) :
    Meets (Builtin.«list.extend» ⟨[.ref l, .ref b], []⟩) (fun _ R s => s.heap.get? l = some { cls := .type "list", dict := none, data := .seq items n, slots := #[] } ∧ s.heap.get? b = some { cls := .type "tuple", dict := dd, data := .seq items2 n2, slots := sl } ∧ R (.ok (.ret Value.none)) { s with heap := s.heap.update l (Obj.mapSeq fun x => x ++ items2), toks := s.toks }) :=
  .of_wp fun prog w A R s h => by
    obtain ⟨hp, g, d, tk, os⟩ := s
    obtain ⟨ha, hb, h⟩ := h
    have f1 := AutoSeq1.idx_int
    have f2 := AutoSeq1.sub_tuple_tuple
    have f3 := AutoSeq1.sub_list_list
    have f4 := AutoSeq1.sub_tuple_list
    have f5 := AutoSeq1.sub_list_tuple
    have fit : (items ++ items2).size ≤ sizeLine + 1 := by simpa using hs2
    wp_walk using (wpAny_updateSeq ha rfl (hz := hc1) (_hz' := fit)), wpAny_loadPart' ha, wpAny_loadPart' hb
    exact ⟨_, rfl, h⟩
def extendM : MF
  | .list xs, [.list ys] => if xs.length + ys.length ≤ sizeLine then some (.none, .list (xs ++ ys)) else none
  | .list xs, [.tuple ys] => if xs.length + ys.length ≤ sizeLine then some (.none, .list (xs ++ ys)) else none
  | _, _ => none
section
variable {X : Cx}
theorem mr_extend : MtR X "list.extend" (rM X.K extendM false) := by
  intro pins s σ H x xs v us Q I rx rs h
  obtain ⟨O, a, c, ds, r, c', rfl, m, hOa, hw, hd, e, q⟩ := h
  have fin : ∀ {zs ys : List D} {vs ws : List V} {its its2 : List Value} {n : Nat}, H a = some (.lst vs) → DenL X.K (cut H O) zs vs → DenL X.K (cut H O) ys ws → zs.length + ys.length ≤ sizeLine → Vals vs its → Vals ws its2 → s.heap.get? a = some (seqObj "list" its.toArray n) → (∀ v u, OwnAt X.K (cut H O) (upd H a u) a (.list (zs ++ ys)) → Den X.K (cut H O) .none v → Q v (upd H a u)) →
      ∃ x H', Inv X pins σ H' { s with heap := s.heap.update a (Obj.mapSeq fun x => x ++ its2.toArray), toks := s.toks } ∧ RelV x .none ∧ Q x H' := fun {zs ys vs ws its its2 n} hv hdv hdw hl r1 r2 e1 q => by
    refine ⟨.non, _, I.lset (its' := its ++ its2) (t' := s.toks) hv e1 (by simp) (r1.append r2) ?_, rfl, q _ _ ⟨_, upd_same, denL_append hdv hdw⟩ rfl⟩
    rw [List.length_append, denL_length hdv, denL_length hdw]
    exact hl
  unfold extendM at e
  split at e
  · rename_i zs ys
    split at e
    · rename_i hl
      cases e
      obtain ⟨vs, hv, hdv⟩ := own_list hw
      have hd : PkLN X.K O H a [.list ys] xs := hd
      obtain ⟨w, r, rfl, h1, h2⟩ := hd
      cases h2
      obtain ⟨b, ws, rfl, h3, h4⟩ : ∃ b ws, w = .ref b ∧ SqL X.K H b ws ∧ DenL X.K (cut H O) ys ws := by
        rcases h1 with ⟨b, ws, e1, g1, g2⟩ | ⟨b, e1, _, ws, g1, g2⟩
        · exact ⟨b, ws, e1, sqL_le cut_le g1, g2⟩
        · exact ⟨b, ws, e1, .inl (.inl g1), g2⟩
      obtain ⟨u, rfl, ru⟩ := vals1 rs
      cases rx
      cases ru
      obtain ⟨z, its, n, r1, _, e1⟩ := I.lstM hv
      obtain ⟨its2, r2, ⟨o2, n2, ho2, hc2, hdd2, hd2⟩, hz2⟩ := I.list h3
      obtain ⟨cls2, dd2, data2, sl2⟩ := o2
      simp only at hc2 hd2
      subst hc2 hd2
      have s1 : its.length = zs.length := by rw [← r1.length, denL_length hdv]
      have s2 : its2.length = ys.length := by rw [← r2.length, denL_length h4]
      have hsz : its.toArray.size + its2.toArray.size ≤ sizeLine := by rw [List.size_toArray, List.size_toArray]; omega
      have hlong : ¬ (!its.toArray.isEmpty && Builtin.List.listTooLong (its.toArray.size + its2.toArray.size)) = true := by
        rw [notLongL hsz, Bool.and_false]
        exact Bool.false_ne_true
      exact call_meets PySem.F.slot_list_extend ⟨_, e1, rfl⟩ PySem.F.entry_list_extend (PySem.F.args_list_extend_2 _ _) (extendL a its.toArray n b its2.toArray n2 dd2 sl2 hlong (by rw [List.size_toArray]; omega) (by omega)) ⟨e1, ho2, fin hv hdv h4 hl r1 r2 e1 q⟩
    · cases e
  · rename_i zs ys
    split at e
    · rename_i hl
      cases e
      obtain ⟨vs, hv, hdv⟩ := own_list hw
      have hd : PkLN X.K O H a [.tuple ys] xs := hd
      obtain ⟨w, r, rfl, h1, h2⟩ := hd
      cases h2
      obtain ⟨b, ws, rfl, h3, h4⟩ : ∃ b ws, w = .ref b ∧ SqT X.K H b ws ∧ DenL X.K (cut H O) ys ws := by
        rcases h1 with ⟨b, ws, e1, g1, g2, _⟩ | ⟨b, e1, _, g⟩
        · exact ⟨b, ws, e1, sqT_le cut_le g1, g2⟩
        · exact g.elim
      obtain ⟨u, rfl, ru⟩ := vals1 rs
      cases rx
      cases ru
      obtain ⟨z, its, n, r1, _, e1⟩ := I.lstM hv
      obtain ⟨its2, r2, ⟨o2, ho2, hc2, n2, hd2⟩, hz2⟩ := I.tuple h3
      obtain ⟨cls2, dd2, data2, sl2⟩ := o2
      simp only at hc2 hd2
      subst hc2 hd2
      have s1 : its.length = zs.length := by rw [← r1.length, denL_length hdv]
      have s2 : its2.length = ys.length := by rw [← r2.length, denL_length h4]
      have hsz : its.toArray.size + its2.toArray.size ≤ sizeLine := by rw [List.size_toArray, List.size_toArray]; omega
      have hlong : ¬ (!its.toArray.isEmpty && Builtin.List.listTooLong (its.toArray.size + its2.toArray.size)) = true := by
        rw [notLongL hsz, Bool.and_false]
        exact Bool.false_ne_true
      exact call_meets PySem.F.slot_list_extend ⟨_, e1, rfl⟩ PySem.F.entry_list_extend (PySem.F.args_list_extend_2 _ _) (extendT a its.toArray n b its2.toArray n2 dd2 sl2 hlong (by rw [List.size_toArray]; omega) (by omega)) ⟨e1, ho2, fin hv hdv h4 hl r1 r2 e1 q⟩
    · cases e
  · cases e
end
end PD

/-! PdU: walks over a dict's values and pairs. -/
namespace PD
open PySem PySem.Spec PyProof.Rows L2

def valsOf (kvs : List (D × D)) : List D := kvs.map (·.2)
def pairsOf (kvs : List (D × D)) : List D := kvs.map fun p => .tuple [p.1, p.2]
theorem jd_vals {K : PySem.W.Frag} : JD K Itd valsOf := by
  intro B d o kv kvs hB hp
  have hl : (valsOf kvs).length = kv.length := by simp [valsOf, denP_length hp]
  refine ⟨fun i H hi s => ⟨s _ _ hB, by rw [← hl]; exact hi⟩, fun i H hi s => ⟨s _ _ hB, by rw [← hl]; exact hi⟩, fun i H x v H' s e y => ?_⟩
  obtain ⟨rfl, k, h1⟩ := y
  refine ⟨Same.refl _, fun O _ s2 => ?_⟩
  obtain ⟨d', h2, h3⟩ := denP_get hp h1
  simp only [valsOf, List.getElem?_map, h2, Option.map_some, Option.some.injEq] at e
  subst e
  exact den_le (Le.of_same s2) h3
theorem jd_items {K : PySem.W.Frag} : JD K Iti pairsOf := by
  intro B d o kv kvs hB hp
  have hl : (pairsOf kvs).length = kv.length := by simp [pairsOf, denP_length hp]
  refine ⟨fun i H hi s => ⟨s _ _ hB, by rw [← hl]; exact hi⟩, fun i H hi s => ⟨s _ _ hB, by rw [← hl]; exact hi⟩, fun i H x v H' s e y => ?_⟩
  obtain ⟨T, k, w, h1, rfl, hT, rfl⟩ := y
  refine ⟨same_new' hT, fun O hO s2 => ?_⟩
  obtain ⟨d', h2, h3⟩ := denP_get hp h1
  simp only [pairsOf, List.getElem?_map, h2, Option.map_some, Option.some.injEq] at e
  subst e
  have hk : ∀ H, Den K H (kD k) (kV k) := fun H => by cases k <;> rfl
  have up : Same (cut H O) (cut (upd H T (.tup [kV k, w])) O) := cut_same (same_new' hT) fun _ _ z => z
  exact ⟨T, _, rfl, .inl (.inl (cut_some.mpr ⟨fun z => hO T z hT, upd_same⟩)), ⟨_, _, rfl, hk _, _, _, rfl, den_le (Le.of_same (s2.trans up)) h3, rfl⟩, fun z => by cases k <;> simp [pairy, kD] at z⟩
section
variable {X : Cx}
theorem sik_vals (i : Nat) {tg : Expr} {x : Str} {pos apos cpos : Pos} (hN : X.N[i]? = some x := by rfl) (hv : Vis X.env.scope x := by first | exact Or.inl rfl | exact Or.inr (Or.inl rfl) | exact Or.inr (Or.inr rfl)) (hd : (x == ("__debug__" : Str)) = false := by decide)
    (hcd : (x == ("__classdict__" : Str)) = false := by decide) (hbase : attributeBase (.Name x pos) "values" X.env (eval (.Name x pos) X.env) = eval (.Name x pos) X.env := by rfl) (hline : (apos.endLine == cpos.line) = true := by rfl) : SIK X i Itd tg (.Call (.Attribute (.Name x pos) "values" apos) [] [] cpos) := ⟨(pi_values (pe_var hN hv hd hcd) hbase hline).imp fun σ H Q h => by
  obtain ⟨d, o, kv, h1, h2, h3⟩ := h
  exact ⟨.ref d, h1, d, o, kv, rfl, h2, h3⟩⟩
theorem sik_items (i : Nat) {elts : List Expr} {kk : Nat} {tpos : Pos} {x : Str} {pos apos cpos : Pos} (hN : X.N[i]? = some x := by rfl) (hv : Vis X.env.scope x := by first | exact Or.inl rfl | exact Or.inr (Or.inl rfl) | exact Or.inr (Or.inr rfl)) (hd : (x == ("__debug__" : Str)) = false := by decide)
    (hcd : (x == ("__classdict__" : Str)) = false := by decide) (hbase : attributeBase (.Name x pos) "items" X.env (eval (.Name x pos) X.env) = eval (.Name x pos) X.env := by rfl) (hline : (apos.endLine == cpos.line) = true := by rfl) : SIK X i Iti (.Tuple elts kk tpos) (.Call (.Attribute (.Name x pos) "items" apos) [] [] cpos) := ⟨(pi_items (pe_var hN hv hd hcd) hbase hline).imp fun σ H Q h => by
  obtain ⟨d, o, kv, h1, h2, h3⟩ := h
  exact ⟨.ref d, h1, d, o, kv, rfl, h2, h3⟩⟩
end
end PD

/-! PdV: dict comprehensions. -/
namespace PD
open PySem PySem.Spec PyProof.Rows L2

def dcL (vs : List Nat) (g : GF) (t : TF) (fk fv : EF) : List D → List (D × D) → Ev → Option (List (D × D) × Ev)
  | [], acc, env => some (acc, env)
  | d :: ds, acc, env => match g d env with
    | none => none
    | some e1 => match t e1 with
      | none => none
      | some (false, e2) => dcL vs g t fk fv ds acc (wipeE e2 vs)
      | some (true, e2) => match fk e2 with
        | none => none
        | some (k, _, e3) => match keyD k with
          | some _ => match fv e3 with
            | none => none
            | some (v, _, e4) => if acc.length < sizeLine then dcL vs g t fk fv ds (putP acc k v) (wipeE e4 vs) else none
          | none => none
def dcF (vs : List Nat) (s : IF) (g : GF) (t : TF) (fk fv : EF) : EF := fun env => match s env with
  | some (ds, e1) => if noOwn e1 vs = true then match dcL vs g t fk fv ds [] (wipeE e1 vs) with
      | some (out, e2) => some (.dict out, true, unw e1 e2 vs)
      | none => none
    else none
  | none => none
section
variable {K : PySem.W.Frag} {vs wr : List Nat} {s : IF} {g : GF} {t : TF} {fk fv : EF}
structure Dw (K : PySem.W.Frag) (O : Addr → Prop) (fx : Nat → Option Addr) (a : Addr) (B : Hp) (H1 : Hp) (σB : Sl) (vs : List Nat) (go : List (D × D) → Ev → Option (List (D × D) × Ev)) (out : List (D × D)) (e2 : Ev) (H2 : Hp) : Prop where
  ex : ∃ eB acc avs, R K (plus O a) fx eB σB H2 ∧ Same B (Pb (plus O a) eB σB H2) ∧ (∀ b, O b → H2 b = H1 b) ∧ go acc eB = some (out, e2) ∧ H2 a = some (.dK avs) ∧ DenP K (Pb (plus O a) eB σB H2) acc avs ∧ ∀ j ∈ vs, ∀ x, eB[j]? ≠ some (some x)
theorem dc_go {O : Addr → Prop} {fx : Nat → Option Addr} {env e1 e2 : Ev} {σ : Sl} {H H1 : Hp} {ds : List D} {out : List (D × D)} {J : It} {Q : VK} (hw : ∀ j ∈ wr, j ∈ vs) (hno : noOwn e1 vs = true) (h2 : dcL vs g t fk fv ds [] (wipeE e1 vs) = some (out, e2)) (b1 : Bh K O fx env σ H e1 H1) (jo : JOk K (Pb O e1 σ H1) J ds)
    (q : ∀ v H', EPost K O fx env σ H (.dict out) true (unw e1 e2 vs) v H' → Q v H') : tDc (fun _ _ R => R J H1) (tG K g wr) (tT K t) (tE K fk) (tE K fv) vs σ H Q := by
  intro a ha
  have hn := noOwn_at hno
  -- the new list
  have np : NPost K (Oo O e1 σ) H1 (.dict []) true (.ref a) (upd H1 a (.dK [])) := ⟨fun b u e => by rw [upd_ne (ne_of_none e ha)]; exact e, a, rfl, ha, [], upd_same, rfl⟩
  obtain ⟨a', ea, fs⟩ := np.epost b1.rel
  cases ea
  have hfx : ∀ p : Nat × Addr, fx p.1 = some p.2 → p.1 ∉ vs := fun p hp hv => by
    obtain ⟨d, q1, _⟩ := b1.rel.fix p hp
    have := hn _ hv _ _ q1
    cases this
  have bw := fs.rel.wipe (vs := vs) hfx
  have s0 : Same (Pb O e1 σ H1) (Pb (plus O a) (wipeE e1 vs) (L2.wipe σ vs) (upd H1 a (.dK []))) := fs.same.trans bw.same
  have fin : ∀ {e3 : Ev} {σ3 : Sl} {H3 : Hp}, R K (plus O a) fx e3 σ3 H3 → L2.wipe σ3 vs = L2.wipe σ vs → Bh2 K (plus O a) fx e3 σ3 H3 (wipeE e3 vs) (L2.wipe σ vs) H3 := fun {e3 σ3 H3} r3 hw3 => by
    rw [← hw3]
    exact r3.wipe hfx
  refine ⟨fun i m H2 => m = ds.length - i ∧ i ≤ ds.length ∧ Dw K O fx a (Pb O e1 σ H1) H1 (L2.wipe σ vs) vs (dcL vs g t fk fv (ds.drop i)) out e2 H2,
    ⟨_, rfl, Nat.zero_le _, wipeE e1 vs, [], [], bw.rel, s0, fs.outer, h2, upd_same, rfl, fun j hj x => wipeE_in hj⟩, ?_⟩
  rintro i m H2 ⟨rfl, hi, eB, acc, avs, rB, sB, ouB, goB, hal, hden, hno2⟩
  have leB : Same (Pb O e1 σ H1) (Pb (plus O a) eB (L2.wipe σ vs) H2) := sB
  by_cases hlt : i < ds.length
  · right
    refine ⟨jo.go i H2 hlt (leB.trans cut_sub), Dw K O fx a (Pb O e1 σ H1) H1 (L2.wipe σ vs) vs (dcL vs g t fk fv (ds.drop (i + 1))) out e2, fun H' z => ⟨_, by omega, rfl, hlt, z⟩, fun x H3 hy => ?_⟩
    obtain ⟨sm, hd⟩ := jo.yld i H2 ds[i] x H3 (leB.trans cut_sub) (List.getElem?_eq_getElem hlt) hy
    have b3 := rB.grown sm
    have hd := hd (Oo (plus O a) eB (L2.wipe σ vs)) (fun a z => rB.root_some z) leB
    rw [List.drop_eq_getElem_cons hlt] at goB
    simp only [dcL] at goB
    split at goB
    · cases goB
    · rename_i e3 h3
      refine ⟨plus O a, fx, eB, ds[i], e3, b3.rel, hd, h3, fun σ4 H4 b4 bar => ?_⟩
      have hw4 : L2.wipe σ4 vs = L2.wipe σ vs := (wipe_bar bar hw).trans (wipe_wipe σ vs)
      refine ⟨hw4, ?_⟩
      have b34 := b3.trans b4
      split at goB
      · cases goB
      · rename_i e5 h5
        refine ⟨plus O a, fx, e3, false, e5, b4.rel, h5, fun H5 b5 => iteF ?_⟩
        have b35 := b34.trans b5
        have b6 := b35.trans (fin b35.rel hw4)
        exact ⟨_, acc, avs, b6.rel, sB.trans b6.same, fun b z => (b6.outer b (.inl z)).trans (ouB b z), goB, (b6.outer a (.inr rfl)).trans hal, denP_le (Le.of_same b6.same) hden, fun j hj x => wipeE_in hj⟩
      · rename_i e5 h5
        refine ⟨plus O a, fx, e3, true, e5, b4.rel, h5, fun H5 b5 => iteT ?_⟩
        have b35 := b34.trans b5
        split at goB
        · cases goB
        · rename_i y fr6 e6 h6
          split at goB
          · rename_i key hkey
            split at goB
            · cases goB
            · rename_i y2 fr7 e7 h7
              split at goB
              · rename_i hz
                refine ⟨plus O a, fx, e5, y, fr6, e6, b35.rel, h6, fun v H6 p6 => ?_⟩
                obtain ⟨b6', hy6⟩ := p6.weak
                have b6 := b35.trans b6'
                refine ⟨plus O a, fx, e6, y2, fr7, e7, b6.rel, h7, fun v2 H7 p7 => ?_⟩
                obtain ⟨b7', hy7⟩ := p7.weak
                have b7 := b6.trans b7'
                have ha7 : H7 a = some (.dK avs) := (b7.outer a (.inr rfl)).trans hal
                obtain rfl := keyD_kD hkey
                have hv : v = kV key := by
                  cases key with
                  | inl i => exact hy6
                  | inr i => exact hy6
                refine ⟨avs, key, hv, ha7, by rw [denP_length hden]; exact hz, ?_⟩
                have r8 : R K (plus O a) fx e7 σ4 (upd H7 a (.dK (putK avs key v2))) := push_ok b7.rel
                have b8 := fin r8 hw4
                have s7 : Same (Pb (plus O a) eB (L2.wipe σ vs) H2) (Pb (plus O a) (wipeE e7 vs) (L2.wipe σ vs) (upd H7 a (.dK (putK avs key v2)))) := by
                  refine Same.trans ?_ b8.same
                  rw [push_pb]
                  exact b7.same
                have s8 : Same (Pb (plus O a) e7 σ4 H7) (Pb (plus O a) (wipeE e7 vs) (L2.wipe σ vs) (upd H7 a (.dK (putK avs key v2)))) := by
                  refine Same.trans ?_ b8.same
                  rw [push_pb]
                  exact Same.refl _
                refine ⟨_, _, _, b8.rel, sB.trans s7, fun b z => ?_, goB, upd_same, denP_put (denP_le (Le.of_same s7) hden) (den_le (Le.of_same s8) hy7), fun j hj x => wipeE_in hj⟩
                have nb : b ≠ a := fun e => fs.new (e ▸ z)
                rw [upd_ne nb]
                exact (b7.outer b (.inl z)).trans (ouB b z)
              · cases goB
          · cases goB
  · left
    refine ⟨jo.stop i H2 (by omega) (leB.trans cut_sub), ?_⟩
    rw [List.drop_eq_nil_of_le (by omega)] at goB
    cases goB
    -- back in the def's frame
    have rA : R K (plus O a) fx e1 σ (upd H1 a (.dK avs)) := by
      have z := push_ok (u := .dK avs) fs.rel
      rw [upd_upd] at z
      exact z
    have sA : Same (Pb (plus O a) e1 σ (upd H1 a (.dK avs))) (Pb O e1 σ H1) := by
      rw [push_pb]
      exact cut_anti fun b z => plus_oo.mpr (.inl z)
    have bA := rA.unwipe rB (sA.trans sB) (fun b z => by
      by_cases e : b = a
      · subst e; rw [hal, upd_same]
      · rw [upd_ne e]
        rcases z with z | z
        · exact ouB b z
        · exact absurd z e) hn hno2
    have s9 : Same (Pb O e1 σ H1) (Pb (plus O a) (unw e1 e2 vs) σ H2) := by
      have z : Same (Pb O e1 σ H1) (Pb (plus O a) e1 σ (upd H1 a (.dK avs))) := by
        rw [push_pb]
        have z := fs.same
        rw [push_pb] at z
        exact z
      exact z.trans bA.same
    have oo : Pb (plus O a) (unw e1 e2 vs) σ H2 = Pb (plus O a) e2 (L2.wipe σ vs) H2 := by
      have rt : ∀ b, Rt (unw e1 e2 vs) σ b ↔ Rt e2 (L2.wipe σ vs) b := fun b => by
        constructor
        · rintro ⟨j, d, o, h1, h2, h3⟩
          by_cases hj : j ∈ vs
          · exact absurd (hn j hj d o (unw_in hj h1)) h2
          · rw [unw_out hj] at h1
            exact ⟨j, d, o, h1, h2, by rw [wipe_out' hj]; exact h3⟩
        · rintro ⟨j, d, o, h1, h2, h3⟩
          by_cases hj : j ∈ vs
          · exact absurd h1 (hno2 j hj _)
          · exact ⟨j, d, o, by rw [unw_out hj]; exact h1, h2, by rw [wipe_out' hj] at h3; exact h3⟩
      show cut _ _ = cut _ _
      rw [show Oo (plus O a) (unw e1 e2 vs) σ = Oo (plus O a) e2 (L2.wipe σ vs) from funext fun b => propext (or_congr Iff.rfl (rt b))]
    exact q _ _ ⟨a, rfl, fs.new, bA.rel, b1.same.trans s9, fun b z => (ouB b z).trans (b1.outer b z), avs, hal, by rw [oo]; exact hden⟩
theorem dc_imp {σ : Sl} {H : Hp} {Q : VK} (hw : ∀ j ∈ wr, j ∈ vs) (h : tE K (dcF vs s g t fk fv) σ H Q) : tDc (tI K s) (tG K g wr) (tT K t) (tE K fk) (tE K fv) vs σ H Q := by
  obtain ⟨O, fx, env, d, fr, env', r, e, q⟩ := h
  unfold dcF at e
  split at e
  · rename_i ds e1 h1
    split at e
    · rename_i hc
      split at e
      · rename_i ys e2 h2
        cases e
        exact ⟨O, fx, env, ds, e1, r, h1, fun J H1 b1 jo => dc_go hw hc h2 b1 jo q⟩
      · cases e
    · cases e
  · cases e
end
section
variable {X : Cx}
theorem se_dc {kx vx tg iter : Expr} {ifs : List Expr} {scope : Scope} {own : List (Str × Nat)} {pos : Pos} {s : IF} {g : GF} {wr : List Nat} {t : TF} {fk fv : EF} (hc : X.calm = true) (hN : X.N.Nodup) (hi : SI X s tg iter) (ok : BlkOk X.N X.env.scope scope own)
    (hw : ∀ j ∈ wr, j ∈ own.map (·.2))
    (hg : ∀ (s : Shared) (H : Hp) (C : Addr) (cl : List (Str × Addr)) (fp : List Addr), SG (X.blk s H scope (compEnvC scope cl C X.env) fp) g wr tg) (ht : ∀ (s : Shared) (H : Hp) (C : Addr) (cl : List (Str × Addr)) (fp : List Addr), STs (X.blk s H scope (compEnvC scope cl C X.env) fp) t ifs)
    (hk : ∀ (s : Shared) (H : Hp) (C : Addr) (cl : List (Str × Addr)) (fp : List Addr), SE (X.blk s H scope (compEnvC scope cl C X.env) fp) fk kx) (hv : ∀ (s : Shared) (H : Hp) (C : Addr) (cl : List (Str × Addr)) (fp : List Addr), SE (X.blk s H scope (compEnvC scope cl C X.env) fp) fv vx) (hs : ∀ x, foldedSetIterable iter X.env x = pure x := by intro _; rfl) :
    SE X (dcF (own.map (·.2)) s g t fk fv) (.DictComp kx vx [⟨tg, iter, ifs, 0⟩] scope pos) := (pe_dc hc hN hi ok hg ht hk hv hs).imp fun _ _ _ h => dc_imp hw h
end
end PD

/-! PdW: d.get(k), with none in its place. -/
namespace PD
open PySem PySem.Spec PyProof.Rows L2
def getE1 (fo fk : OF) : EF := fun env => match fo env with
  | some (o, e1) => match deref e1 o with
    | some (.dict _) => match fk e1 with
      | some (ok, e2) => match deref e2 o, deref e2 ok with
        | some (.dict kvs), some k => match keyD k with
          | some _ => some ((lookD kvs k).getD .none, false, e2)
          | none => none
        | _, _ => none
      | none => none
    | _ => none
  | none => none
theorem getE1_imp {K : PySem.W.Frag} {fo fk : OF} {σ : Sl} {H : Hp} {Q : VK} (h : tE K (getE1 fo fk) σ H Q) : tDGet1 (tO K fo) (tO K fk) σ H Q := by
  obtain ⟨O, fx, env, d, fr, env', r, e, q⟩ := h
  unfold getE1 at e
  split at e
  · rename_i o e1 h1
    split at e
    · rename_i kv0 h2
      split at e
      · rename_i ok e2 h3
        split at e
        · rename_i kvs k h5 h6
          split at e
          · rename_i key h7
            cases e
            refine ⟨O, fx, env, o, e1, r, h1, fun x H1 b1 o1 => ?_⟩
            obtain ⟨a, m0, rfl, rd0, _⟩ := pk_dict (pk_of b1.rel o1 h2)
            refine ⟨a, rfl, .inl ⟨_, rd0⟩, O, fx, e1, ok, _, b1.rel, h3, fun y H2 b2 o2 => ?_⟩
            obtain ⟨a', m, ea, rd, hd⟩ := pk_dict (pk_of b2.rel (OIs.le b2.same o1) h5)
            cases ea
            obtain rfl := keyD_kD h7
            obtain rfl := kD_den (pk_of b2.rel o2 h6)
            exact ⟨valV m key, .inl ⟨m, key, rd, rfl, rfl⟩, q _ _ ⟨b1.trans b2, get_den (z := .none) (w := .non) key hd rfl⟩⟩
          · cases e
        · cases e
      · cases e
    · cases e
  · cases e
section
variable {X : Cx} {pos apos cpos : Pos}
theorem se_get1 {o e : Expr} {fo fk : OF} (hu : X.A.units + 64 < cLine) (ho : SO X fo o) (he : SO X fk e) (m : M1 X o "get" apos e cpos := by exact ⟨by rfl, by rfl, by rfl, by rfl⟩) : SE X (getE1 fo fk) (.Call (.Attribute o "get" apos) [e] [] cpos) :=
  (pe_dget1 (by omega) ho he m).imp fun _ _ _ h => getE1_imp h
end
end PD

/-! PdX: max(i, j), min(i, j) of whole numbers. -/
namespace PD
open PySem PySem.Spec PyProof.Rows L2
def maxD : G2
  | .int i, .int j => some (.int (if j > i then j else i), false)
  | _, _ => none
def minD : G2
  | .int i, .int j => some (.int (if j < i then j else i), false)
  | _, _ => none
theorem rD_two {K : PySem.W.Frag} {f : G2} {vs : List V} {H : Hp} {Q : VK} (h : rD K (g2 f) vs H Q) : ∃ x y, vs = [x, y] ∧ ∃ O a b d fr, (∀ a, O a → Mut (H a)) ∧ Pk K O H a x ∧ Pk K O H b y ∧ f a b = some (d, fr) ∧ ∀ v H', NPost K O H d fr v H' → Q v H' := by
  obtain ⟨O, ds, d, fr, m, pk, e, q⟩ := h
  match ds, e, pk with
  | [a, b], e, pk =>
    obtain ⟨v, r, e1, p1, p2⟩ := pk
    obtain ⟨v', r', e2, p3, p4⟩ := p2
    cases e1; cases e2; cases p4
    exact ⟨v, v', rfl, O, a, b, d, fr, m, p1, p3, e, q⟩
section
variable {X : Cx}
theorem cr_max (hc : X.calm = true) : CallR X (.builtin "max") (rD X.K (g2 maxD)) := by
  intro pins s σ H xs us Q I r h
  obtain ⟨x, y, rfl, O, a, b, d, fr, m, p1, p2, e, q⟩ := rD_two h
  unfold maxD at e
  split at e
  · cases e
    obtain rfl := pk_int p1
    obtain rfl := pk_int p2
    exact call_max2 hc pins s σ H _ us Q I r ⟨_, _, rfl, q _ _ (np_val fun _ => rfl)⟩
  · cases e
theorem cr_min (hc : X.calm = true) : CallR X (.builtin "min") (rD X.K (g2 minD)) := by
  intro pins s σ H xs us Q I r h
  obtain ⟨x, y, rfl, O, a, b, d, fr, m, p1, p2, e, q⟩ := rD_two h
  unfold minD at e
  split at e
  · cases e
    obtain rfl := pk_int p1
    obtain rfl := pk_int p2
    exact call_min2 hc pins s σ H _ us Q I r ⟨_, _, rfl, q _ _ (np_val fun _ => rfl)⟩
  · cases e
end
end PD

/-! PdY: sum of a list of whole numbers, abs. -/
namespace PD
open PySem PySem.Spec PyProof.Rows L2
def intsD : List D → Option (List Int)
  | [] => some []
  | .int i :: r => (intsD r).map (i :: ·)
  | _ :: _ => none
def sumD : G1
  | .list xs => (intsD xs).map fun ns => (.int ns.sum, false)
  | _ => none
def absD : G1
  | .int i => some (.int (if i < 0 then -i else i), false)
  | _ => none
theorem intsD_den {K : PySem.W.Frag} {B : Hp} : ∀ {xs : List D} {ns : List Int} {vs : List V}, intsD xs = some ns → DenL K B xs vs → vs = ns.map V.int
  | [], _, _, e, h => by cases e; cases h; rfl
  | .int i :: r, ns, vs, e, h => by
    obtain ⟨v, ws, rfl, h1, h2⟩ := h
    simp only [intsD, Option.map_eq_some_iff] at e
    obtain ⟨ms, e1, rfl⟩ := e
    have h1 : v = .int i := h1
    rw [h1, intsD_den e1 h2]; rfl
  | .none :: _, _, _, e, _ => nomatch e
  | .bool _ :: _, _, _, e, _ => nomatch e
  | .str _ :: _, _, _, e, _ => nomatch e
  | .list _ :: _, _, _, e, _ => nomatch e
  | .tuple _ :: _, _, _, e, _ => nomatch e
  | .dict _ :: _, _, _, e, _ => nomatch e
section
variable {X : Cx}
theorem cr_sumI (hc : X.calm = true) : CallR X (.builtin "sum") (rD X.K (g1 sumD)) := by
  intro pins s σ H xs us Q I r h
  obtain ⟨x, rfl, h⟩ := rD_one h
  obtain ⟨O, a, d, fr, m, p1, e, q⟩ := rD1_elim h
  unfold sumD at e
  split at e
  · rename_i ys
    simp only [Option.map_eq_some_iff] at e
    obtain ⟨ns, e1, e2⟩ := e
    cases e2
    obtain ⟨p, vs, rfl, h1, h2⟩ := pk_list p1
    obtain rfl := intsD_den e1 h2
    exact cr_sum hc pins s σ H _ us Q I r ⟨p, ns, rfl, h1, q _ _ (np_val fun _ => rfl)⟩
  · cases e
theorem cr_abs : CallR X (.builtin "abs") (rD X.K (g1 absD)) := by
  intro pins s σ H xs us Q I r h
  obtain ⟨x, rfl, h⟩ := rD_one h
  obtain ⟨O, a, d, fr, m, p1, e, q⟩ := rD1_elim h
  unfold absD at e
  split at e
  · cases e
    obtain rfl := pk_int p1
    exact call_abs pins s σ H _ us Q I r ⟨_, rfl, q _ _ (np_val fun _ => rfl)⟩
  · cases e
end
end PD

/-! PdZ: enumerate of a list. -/
namespace PD
open PySem PySem.Spec PyProof.Rows L2
def enumL : Nat → List D → List D
  | _, [] => []
  | i, d :: r => .tuple [.int i, d] :: enumL (i + 1) r
theorem enumL_length : ∀ (ds : List D) (k : Nat), (enumL k ds).length = ds.length
  | [], _ => rfl
  | _ :: r, k => by simp [enumL, enumL_length r (k + 1)]
theorem enumL_get : ∀ (ds : List D) (k i : Nat), (enumL k ds)[i]? = ds[i]?.map fun d => .tuple [.int ((k + i : Nat) : Int), d]
  | [], _, _ => by simp [enumL]
  | d :: r, k, 0 => by simp [enumL]
  | d :: r, k, i + 1 => by
    simp only [enumL, List.getElem?_cons_succ]
    rw [enumL_get r (k + 1) i]
    have : k + 1 + i = k + (i + 1) := by omega
    rw [this]
theorem jok_enum {K : PySem.W.Frag} {B : Hp} {a : Addr} {vs : List V} {ds : List D} (h : SqL K B a vs) (hd : DenL K B ds vs) : JOk K B (Ite K a) (enumL 0 ds) := by
  have hl : (enumL 0 ds).length = vs.length := by rw [enumL_length, denL_length hd]
  refine ⟨fun i H hi le => ?_, fun i H hi le => ⟨vs, sqL_le (Le.of_same le) h, by rw [← hl]; exact hi⟩, fun i H x v H' le e y => ?_⟩
  · have hi : i < vs.length := by rw [← hl]; exact hi
    exact ⟨vs, vs[i], sqL_le (Le.of_same le) h, List.getElem?_eq_getElem hi⟩
  · obtain ⟨T, x', rfl, hT, rfl, h4⟩ := y
    refine ⟨same_new' hT, fun O hO s2 => ?_⟩
    rw [enumL_get, Option.map_eq_some_iff] at e
    obtain ⟨d, e1, rfl⟩ := e
    obtain ⟨w, h1, h2⟩ := denL_at hd e1
    obtain rfl := atD (h4 vs (sqL_le (Le.of_same le) h)) h1
    have up : Same (cut H O) (cut (upd H T (.tup [.int (i : Nat), x'])) O) := cut_same (same_new' hT) fun _ _ z => z
    exact ⟨T, _, rfl, .inl (.inl (cut_some.mpr ⟨fun z => hO T z hT, upd_same⟩)), ⟨_, _, rfl, (show V.int _ = V.int _ by rw [Nat.zero_add]), _, _, rfl, den_le (Le.of_same (s2.trans up)) h2, rfl⟩, fun z => by simp [pairy] at z⟩
def enumI (fl : OLF) : IF := fun env => match fl env with
  | some ([.val (.list ds)], e1) => some (enumL 0 ds, e1)
  | _ => none
theorem enum_one {K : PySem.W.Frag} {fl : OLF} {σ : Sl} {H : Hp} {Q : It → Hp → Prop} (h : tI K (enumI fl) σ H Q) : iEnum K (tOL K fl) σ H Q := by
  obtain ⟨O, fx, env, ds, env', r, e, q⟩ := h
  unfold enumI at e
  split at e
  · rename_i ds' e1 h1
    cases e
    refine ⟨O, fx, env, _, _, r, h1, fun vs H' b hk => ?_⟩
    obtain ⟨v, r', rfl, p1, p2⟩ := hk
    cases p2
    obtain ⟨a, vs, rfl, h3, h4⟩ := p1
    exact ⟨a, vs, rfl, sqL_le cut_le h3, q _ _ b (jok_enum h3 h4)⟩
  · cases e
section
variable {X : Cx}
theorem si_enum {e : Expr} {fl : OLF} {p pos tpos : Pos} {elts : List Expr} {kk : Nat} (hg : Gl X "enumerate") (hm : X.mg "enumerate" = none) (ha : SOL X fl [e]) (hs : starEach [e] X.env = [(false, eval e X.env)] := by rfl) :
    SI X (enumI fl) (.Tuple elts kk tpos) (.Call (.Name "enumerate" p) [e] [] pos) := (pi_enum hg hm ha hs).imp fun _ _ _ h => enum_one h
end
end PD

/-! PdZa: y = {k: v for ..}, y a plain local. -/
namespace PD
open PySem PySem.Spec PyProof.Rows L2
section
variable {X : Cx}
theorem ss_setDc {i : Nat} {y : Str} {py : Pos} {kx vx tg iter : Expr} {ifs : List Expr} {scope : Scope} {own : List (Str × Nat)} {pos spos : Pos} {s : IF} {g : GF} {wr : List Nat} {t : TF} {fk fv : EF} (hc : X.calm = true) (hN : X.N.Nodup) (hy : X.N[i]? = some y) (hyl : X.env.scope.names.lookup y = some .local)
    (hsw : swapsWith (.DictComp kx vx [⟨tg, iter, ifs, 0⟩] scope pos) (some (.Name y py)) spos.line X.env = pure true) (hi : SI X s tg iter) (ok : BlkOk X.N X.env.scope scope own) (hw : ∀ j ∈ wr, j ∈ own.map (·.2))
    (hg : ∀ (s : Shared) (H : Hp) (C : Addr) (cl : List (Str × Addr)) (fp : List Addr), SG (X.blk s H scope (compEnvC scope cl C X.env) fp) g wr tg) (ht : ∀ (s : Shared) (H : Hp) (C : Addr) (cl : List (Str × Addr)) (fp : List Addr), STs (X.blk s H scope (compEnvC scope cl C X.env) fp) t ifs)
    (hk : ∀ (s : Shared) (H : Hp) (C : Addr) (cl : List (Str × Addr)) (fp : List Addr), SE (X.blk s H scope (compEnvC scope cl C X.env) fp) fk kx) (hv : ∀ (s : Shared) (H : Hp) (C : Addr) (cl : List (Str × Addr)) (fp : List Addr), SE (X.blk s H scope (compEnvC scope cl C X.env) fp) fv vx) (hs : ∀ x, foldedSetIterable iter X.env x = pure x := by intro _; rfl) :
    SS X (setF i (dcF (own.map (·.2)) s g t fk fv)) (.Assign [.Name y py] (.DictComp kx vx [⟨tg, iter, ifs, 0⟩] scope pos) spos) := by
  have base : PS X (.Assign [.Name y py] (.DictComp kx vx [⟨tg, iter, ifs, 0⟩] scope pos) spos) (tAsg (tDc (tI X.K s) (tG X.K g wr) (tT X.K t) (tE X.K fk) (tE X.K fv) (own.map (·.2))) (gName i)) := by
    refine ⟨fun pins s σ H D I h => ?_⟩
    rw [exec_Assign_Name_used _ _ _ _ hsw]
    refine wpAny_bind (wpAny_standAt (wpAny_bind ?_))
    show wpAny _ X.A (do let _ ← comprehension (.DictComp kx vx [⟨tg, iter, ifs, 0⟩] scope pos) scope X.env (firstIterPos [⟨tg, iter, ifs, 0⟩] pos) newDict false (eval iter X.env) (some (assign (.Name y py) X.env))) _ _ s
    refine wpAny_bind (thn (dc_core (Q := fun x H1 => gName i x σ H1 D.nx) (Qf := fun _ s' => SP X pins D .next s') hc hN I hi ok hg ht hk hv hs h fun L C s' m H' I' q hn f => ?_) fun _ s' hq => wpAny_pure (wpAny_pure hq))
    show wpAny _ _ (assign (.Name y py) X.env (.ref L)) _ _ _
    refine wpAny_assign_Name (store_ok2 (v := V.ref L) I' hN hy (.inl hyl) rfl (fun s2 I2 ⟨a, sb, ha⟩ => ?_) (.inr hyl))
    obtain ⟨f0, f1, f2, f3, f4, f5⟩ := f
    have haC : C ≠ a := by
      rcases ha with z | z
      · rw [z]; exact f1
      · exact fun e => f4 y a z e.symm
    refine ⟨m, hn.sameBut sb haC, fun h3 sb3 => ?_⟩
    exact ⟨_, H', I2.turned (t' := s2.toks) (fun b o hb e => (sb3.2 b hb).trans e) f0 f1 f3 f4 f5, q⟩
  exact base.imp fun E σ H h => by
    have z := set_imp h
    exact dc_imp hw z
end
end PD

/-! PdZb: sorted(dict), dict(dict), dict(tuple of pairs), min and max of a list, xs.index(y), text += text. -/
namespace PD
open PySem PySem.Spec PyProof.Rows L2

/-! ### x += e, numbers and texts -/
def iaddAD : G2
  | .int a, .int b => some (.int (a + b), false)
  | .str a, .str b => if a.length + b.length ≤ sizeLine then some (.str (a ++ b), false) else none
  | _, _ => none
def flatD : D → Bool
  | .none => true
  | .bool _ => true
  | .int _ => true
  | .str _ => true
  | _ => false
def atomOnly (g : G2) : Prop := ∀ a b d fr, g a b = some (d, fr) → flatD d = true ∧ fr = false
theorem ao_add : atomOnly iaddAD := fun a b d fr h => by
  unfold iaddAD at h
  split at h
  · cases h; exact ⟨rfl, rfl⟩
  · split at h
    · cases h; exact ⟨rfl, rfl⟩
    · cases h
  · cases h
theorem flat_den {K : PySem.W.Frag} {H H' : Hp} {d : D} {v : V} (f : flatD d = true) (h : Den K H d v) : Den K H' d v := by
  cases d with
  | none => exact h
  | bool b => exact h
  | int i => exact h
  | str x => exact h
  | tuple _ => cases f
  | list _ => cases f
  | dict _ => cases f
theorem pip_addA {X : Cx} : PIp X .Add (rD2 X.K (g2 iaddAD)) := by
  intro pins s σ H x y v u Q I r1 r2 h
  obtain ⟨O, a, b, d, fr, m, p1, p2, e, q⟩ := rD2_elim h
  unfold iaddAD at e
  split at e
  · cases e
    obtain rfl := pk_int p1
    obtain rfl := pk_int p2
    exact ip_add pins s σ H _ _ v u Q I r1 r2 ⟨_, _, rfl, rfl, q _ _ (np_val fun _ => rfl)⟩
  · split at e
    · rename_i hl
      cases e
      obtain rfl := pk_str p1
      obtain rfl := pk_str p2
      exact iop_add_str pins s σ H _ _ v u Q I r1 r2 ⟨_, _, rfl, rfl, hl, q _ _ (np_val fun _ => rfl)⟩
    · cases e
  · cases e
theorem aug_impA {K : PySem.W.Frag} {i : Nat} {f : OF} {g : G2} {E : Ends} {σ : Sl} {H : Hp} (hg : atomOnly g) (h : tS K (augF i f g) E σ H) : tAug i (tO K f) (rD2 K (g2 g)) E σ H := by
  obtain ⟨O, fx, env, out, env', r, e, q⟩ := h
  unfold augF at e
  split at e
  · rename_i c h0
    split at e
    · rename_i o e1 h1
      split at e
      · rename_i y h2
        split at e
        · rename_i z fr h3
          split at e
          · rename_i e2 h4
            cases e
            obtain ⟨x, hx, hd⟩ := r.val i c h0
            refine ⟨x, hx, O, fx, env, o, e1, r, h1, fun v H1 b1 hv => ?_⟩
            obtain ⟨hf, rfl⟩ := hg _ _ _ _ h3
            exact ⟨Oo O e1 σ, [c, y], z, false, fun a z => b1.rel.root_mut z, ⟨x, [v], rfl, .inl (den_le (Le.of_same b1.same) hd), v, [], rfl, pk_of b1.rel hv h2, rfl⟩, h3, fun w H2 n => q _ _ (setv_ok (fr := false) (bh_epost b1 (n.epost b1.rel)) h4)⟩
          · cases e
        · cases e
      · cases e
    · cases e
  · cases e
theorem ss_augA {X : Cx} {e : Expr} {pos : Pos} {op : Operator} {i : Nat} {x : Str} {f : OF} {g : G2} {pos' : Pos} (hN : X.N.Nodup) (hi : X.N[i]? = some x) (hx : Loc X.env.scope x) (he : SO X f e) (hp : PIp X op (rD2 X.K (g2 g))) (hg : atomOnly g) (hf : X.fn x = true ∨ X.env.scope.names.lookup x = some .local := by first | exact .inl rfl | exact .inr rfl | assumption) :
    SS X (augF i f g) (.AugAssign (.Name x pos') op e pos) := (ps_aug hN hi hx he hp hf).imp fun _ _ _ h => aug_impA hg h

/-! ### sorted of a dict whose keys are texts -/
def strKeys : List (D × D) → Option (List Str)
  | [] => some []
  | (.str x, _) :: r => match strKeys r with
    | some ys => some (x :: ys)
    | none => none
  | _ :: _ => none
def sortAD : G1
  | .dict kvs => match strKeys kvs with
    | some xs => if xs.length < 64 then some (.list ((sortS xs).map .str), true) else none
    | none => none
  | d => sortD d
theorem strKeys_den {K : PySem.W.Frag} {H : Hp} : ∀ {kvs : List (D × D)} {kv : List (Key × V)} {xs : List Str}, strKeys kvs = some xs → DenP K H kvs kv → kv.map (·.1) = xs.map Sum.inr
  | [], _, _, e, h => by cases e; cases h; rfl
  | (k, d) :: r, _, xs, e, h => by
    obtain ⟨q, v, t, rfl, hk, h1, h2⟩ := h
    unfold strKeys at e
    split at e
    · rename_i heq; cases heq
    · rename_i x d' r' heq
      cases heq
      split at e
      · rename_i ys h3
        cases e
        have := strKeys_den h3 h2
        cases q with
        | inl i => cases hk
        | inr y =>
          have e2 : x = y := by simpa [kD] using hk
          subst e2
          simp [this]
      · cases e
    · cases e
theorem cr_sortA {X : Cx} (hc : X.calm = true) : CallR X (.builtin "sorted") (rD X.K (g1 sortAD)) := by
  intro pins s σ H xs us Q I r h
  by_cases hd : ∃ O kvs d fr x, xs = [x] ∧ Pk X.K O H (.dict kvs) x ∧ sortAD (.dict kvs) = some (d, fr) ∧ ∀ v H', NPost X.K O H d fr v H' → Q v H'
  · obtain ⟨O, kvs, d, fr, x, rfl, p1, e, q⟩ := hd
    simp only [sortAD] at e
    split at e
    · rename_i ys h1
      split at e
      · rename_i hl
        cases e
        obtain ⟨p, kv, rfl, h2, h3⟩ := pk_dict p1
        exact call_sortedD hc pins s σ H _ us Q I r ⟨p, kv, ys, rfl, h2, strKeys_den h1 h3, hl, fun zs l hp hs hn => by
          rw [sortS_eq hp hs]
          exact q _ _ (np_list hn strs_denL)⟩
      · cases e
    · cases e
  · refine cr_sort pins s σ H xs us Q I r ?_
    obtain ⟨O, ds, d, fr, m, pk, e, q⟩ := h
    refine ⟨O, ds, d, fr, m, pk, ?_, q⟩
    match ds, pk, e with
    | [], _, e => exact e
    | [.dict kvs], pk, e =>
      obtain ⟨v, r', e1, p1, p2⟩ := pk
      cases p2
      exact absurd ⟨O, kvs, d, fr, v, e1, p1, e, q⟩ hd
    | [.none], _, e => exact e
    | [.bool _], _, e => exact e
    | [.int _], _, e => exact e
    | [.str _], _, e => exact e
    | [.list _], _, e => exact e
    | [.tuple _], _, e => exact e
    | _ :: _ :: _, _, e => exact e

/-! ### min, max of a list of whole numbers -/
def minI : Int → List Int → Int
  | m, [] => m
  | m, x :: r => minI (if x < m then x else m) r
def maxI : Int → List Int → Int
  | m, [] => m
  | m, x :: r => maxI (if m < x then x else m) r
theorem minI_spec : ∀ (m : Int) (r : List Int), minI m r ∈ m :: r ∧ ∀ y ∈ m :: r, minI m r ≤ y
  | m, [] => ⟨List.mem_singleton.mpr rfl, fun y h => by rw [List.mem_singleton.mp h]; exact Int.le_refl _⟩
  | m, x :: r => by
    obtain ⟨h1, h2⟩ := minI_spec (if x < m then x else m) r
    simp only [minI]
    constructor
    · rcases List.mem_cons.mp h1 with h1 | h1
      · rw [h1]; split <;> simp
      · exact List.mem_cons_of_mem _ (List.mem_cons_of_mem _ h1)
    · intro y hy
      have hm := h2 _ List.mem_cons_self
      rcases List.mem_cons.mp hy with rfl | hy
      · exact Int.le_trans hm (by split <;> omega)
      · rcases List.mem_cons.mp hy with rfl | hy
        · exact Int.le_trans hm (by split <;> omega)
        · exact h2 y (List.mem_cons_of_mem _ hy)
theorem maxI_spec : ∀ (m : Int) (r : List Int), maxI m r ∈ m :: r ∧ ∀ y ∈ m :: r, y ≤ maxI m r
  | m, [] => ⟨List.mem_singleton.mpr rfl, fun y h => by rw [List.mem_singleton.mp h]; exact Int.le_refl _⟩
  | m, x :: r => by
    obtain ⟨h1, h2⟩ := maxI_spec (if m < x then x else m) r
    simp only [maxI]
    constructor
    · rcases List.mem_cons.mp h1 with h1 | h1
      · rw [h1]; split <;> simp
      · exact List.mem_cons_of_mem _ (List.mem_cons_of_mem _ h1)
    · intro y hy
      have hm := h2 _ List.mem_cons_self
      rcases List.mem_cons.mp hy with rfl | hy
      · exact Int.le_trans (by split <;> omega) hm
      · rcases List.mem_cons.mp hy with rfl | hy
        · exact Int.le_trans (by split <;> omega) hm
        · exact h2 y (List.mem_cons_of_mem _ hy)
def minLD : G1
  | .list xs => match intsD xs with
    | some (m :: r) => some (.int (minI m r), false)
    | _ => none
  | _ => none
def maxLD : G1
  | .list xs => match intsD xs with
    | some (m :: r) => some (.int (maxI m r), false)
    | _ => none
  | _ => none
section
variable {X : Cx}
theorem cr_minL (hc : X.calm = true) : CallR X (.builtin "min") (rD X.K (g1 minLD)) := by
  intro pins s σ H xs us Q I r h
  obtain ⟨x, rfl, h⟩ := rD_one h
  obtain ⟨O, a, d, fr, m, p1, e, q⟩ := rD1_elim h
  unfold minLD at e
  split at e
  · split at e
    · rename_i ys z t h0
      cases e
      obtain ⟨p, vs, rfl, h1, h2⟩ := pk_list p1
      obtain rfl := intsD_den h0 h2
      obtain ⟨s1, s2⟩ := minI_spec z t
      refine L2.cr_min hc pins s σ H _ us Q I r ⟨p, _, rfl, h1, by simp, fun k hk hle => ?_⟩
      have e1 : k = minI z t := Int.le_antisymm (hle _ s1) (s2 _ hk)
      rw [e1]
      exact q _ _ (np_val fun _ => rfl)
    · cases e
  · cases e
theorem cr_maxL (hc : X.calm = true) : CallR X (.builtin "max") (rD X.K (g1 maxLD)) := by
  intro pins s σ H xs us Q I r h
  obtain ⟨x, rfl, h⟩ := rD_one h
  obtain ⟨O, a, d, fr, m, p1, e, q⟩ := rD1_elim h
  unfold maxLD at e
  split at e
  · split at e
    · rename_i ys z t h0
      cases e
      obtain ⟨p, vs, rfl, h1, h2⟩ := pk_list p1
      obtain rfl := intsD_den h0 h2
      obtain ⟨s1, s2⟩ := maxI_spec z t
      refine L2.cr_max hc pins s σ H _ us Q I r ⟨p, _, rfl, h1, by simp, fun k hk hle => ?_⟩
      have e1 : k = maxI z t := Int.le_antisymm (s2 _ hk) (hle _ s1)
      rw [e1]
      exact q _ _ (np_val fun _ => rfl)
    · cases e
  · cases e
end

/-! ### xs.index(y), a list of texts -/
def strIx (y : Str) : List Str → Option Nat
  | [] => none
  | x :: r => if x = y then some 0 else (strIx y r).map (· + 1)
def indexD : G2
  | .list xs, .str y => match strsD xs with
    | some ys => match strIx y ys with
      | some j => some (.int j, false)
      | none => none
    | none => none
  | _, _ => none
theorem strIx_spec {y : Str} : ∀ {ys : List Str} {j : Nat}, strIx y ys = some j → ys[j]? = some y ∧ ∀ m z, m < j → ys[m]? = some z → z ≠ y
  | [], _, h => nomatch h
  | x :: r, j, h => by
    unfold strIx at h
    split at h
    · rename_i e
      cases h
      exact ⟨by simp [e], fun m z hm => absurd hm (Nat.not_lt_zero _)⟩
    · rename_i ne
      obtain ⟨k, hk, rfl⟩ := Option.map_eq_some_iff.mp h
      obtain ⟨h1, h2⟩ := strIx_spec hk
      refine ⟨by simpa using h1, fun m z hm hz => ?_⟩
      cases m with
      | zero => simp at hz; rw [← hz]; exact ne
      | succ m => exact h2 m z (by omega) (by simpa using hz)

/-! ### methods that change nothing: x.m(..) of a list or a text -/
def tyP : D → String
  | .list _ => "list"
  | .str _ => "str"
  | _ => ""
def purF (T : String) (fo : OF) (fl : OLF) (g : List D → Option (D × Bool)) : EF := fun env => match fo env with
  | some (o, e1) => match deref e1 o with
    | some d0 => if tyP d0 = T then match fl e1 with
        | some (os, e2) => match derefs e2 (o :: os) with
          | some ds => match g ds with
            | some (d, fr) => some (d, fr, e2)
            | none => none
          | none => none
        | none => none
      else none
    | none => none
  | none => none
def rMP (K : PySem.W.Frag) (g : List D → Option (D × Bool)) : V → List V → Hp → VK → Prop := fun x xs H Q => rD K g (x :: xs) H Q
theorem pur_imp {K : PySem.W.Frag} {T : String} {fo : OF} {fl : OLF} {g : List D → Option (D × Bool)} {σ : Sl} {H : Hp} {Q : VK} (hT : T = "list" ∨ T = "str") (h : tE K (purF T fo fl g) σ H Q) : tO K fo σ H fun x H1 => tyV K T x H1 ∧ tOL K fl σ H1 fun xs H2 => rMP K g x xs H2 Q := by
  obtain ⟨O, fx, env, d, fr, env', r, e, q⟩ := h
  unfold purF at e
  split at e
  · rename_i o e1 h1
    split at e
    · rename_i d0 h2
      split at e
      · rename_i hty
        split at e
        · rename_i os e2 h3
          split at e
          · rename_i ds h4
            split at e
            · rename_i d' fr' h5
              cases e
              refine ⟨O, fx, env, o, e1, r, h1, fun x H1 b1 o1 => ⟨?_, O, fx, e1, os, _, b1.rel, h3, fun vs H2 b2 a2 => ?_⟩⟩
              · have pk := pk_of b1.rel o1 h2
                cases d0 with
                | list l =>
                  obtain ⟨p, vs, rfl, h6, _⟩ := pk_list pk
                  exact .inl ⟨hty.symm, vs, h6⟩
                | str l =>
                  obtain rfl := pk_str pk
                  exact hty.symm
                | none => rcases hT with rfl | rfl <;> exact absurd (show ("" : String) = _ from hty) (by decide)
                | bool _ => rcases hT with rfl | rfl <;> exact absurd (show ("" : String) = _ from hty) (by decide)
                | int _ => rcases hT with rfl | rfl <;> exact absurd (show ("" : String) = _ from hty) (by decide)
                | tuple _ => rcases hT with rfl | rfl <;> exact absurd (show ("" : String) = _ from hty) (by decide)
                | dict _ => rcases hT with rfl | rfl <;> exact absurd (show ("" : String) = _ from hty) (by decide)
              · have b := b1.trans b2
                refine ⟨Oo O env' σ, ds, d, fr, fun a z => b.rel.root_mut z, pkL_of b.rel (os := o :: os) ⟨x, vs, rfl, OIs.le b2.same o1, a2⟩ h4, h5, fun v H' n => q v H' (bh_epost b (n.epost b.rel))⟩
            · cases e
          · cases e
        · cases e
      · cases e
    · cases e
  · cases e
section
variable {X : Cx}
theorem se_pur {T id : String} {name : Str} {o e : Expr} {es : List Expr} {fo : OF} {fl : OLF} {g : List D → Option (D × Bool)} {apos cpos : Pos} (hT : T = "list" ∨ T = "str") (pa : PlainAttrs T) (slot : Slot T name id) (hty : typeOf (.builtin id) = pure (.type "method_descriptor")) (hm : MtR X id (rMP X.K g)) (ho : SO X fo o) (ha : SOL X fl (e :: es))
    (hbase : attributeBase o name X.env (eval o X.env) = eval o X.env := by rfl)
    (hfew : ((backTo cpos (starEach (e :: es) X.env)).all (fun x => !x.1) && (backToKw cpos (keywordEach [] X.env)).all (fun x => x.1.isSome)
      && decide ((e :: es).length + ([] : List Keyword).length + (if ([] : List Keyword).isEmpty then 0 else 1) < 30)) = true := by rfl)
    (hline : (apos.endLine == cpos.line) = true := by rfl) (hs : starEach (e :: es) X.env = (false, eval e X.env) :: starEach es X.env := by rfl) (hplain : (backTo cpos (starEach es X.env)).any (·.1) = false := by rfl) :
    SE X (purF T fo fl g) (.Call (.Attribute o name apos) (e :: es) [] cpos) := (pe_bm pa slot hty hm ho ha hbase hfew hline hs hplain).imp fun _ _ _ h => pur_imp hT h
theorem rMP_two {K : PySem.W.Frag} {f : G2} {x : V} {vs : List V} {H : Hp} {Q : VK} (h : rMP K (g2 f) x vs H Q) : ∃ y, vs = [y] ∧ ∃ O a b d fr, (∀ a, O a → Mut (H a)) ∧ Pk K O H a x ∧ Pk K O H b y ∧ f a b = some (d, fr) ∧ ∀ v H', NPost K O H d fr v H' → Q v H' := by
  obtain ⟨x', y, e, z⟩ := rD_two h
  cases e
  exact ⟨_, rfl, z⟩
theorem mp_index : MtR X "list.index" (rMP X.K (g2 indexD)) := by
  intro pins s σ H x xs v us Q I rx rxs h
  obtain ⟨y, rfl, O, a, b, d, fr, m, p1, p2, e, q⟩ := rMP_two h
  unfold indexD at e
  split at e
  · rename_i l z
    split at e
    · rename_i ys h1
      split at e
      · rename_i j h2
        cases e
        obtain ⟨p, vs, rfl, h3, h4⟩ := pk_list p1
        obtain rfl := pk_str p2
        rw [strsD_eq h1] at h4
        obtain rfl := denL_strs h4
        obtain ⟨k1, k2⟩ := strIx_spec h2
        refine mt_index pins s σ H _ _ v us Q I rx rxs ⟨p, _, .str z, j, .str z, rfl, rfl, h3, rfl, by simp [flatV], by simp [k1], by simp [eqV], fun i w hi hw => ?_, q _ _ (np_val fun _ => rfl)⟩
        rw [List.getElem?_map] at hw
        cases hw2 : ys[i]? with
        | none => rw [hw2] at hw; cases hw
        | some w' =>
          rw [hw2] at hw
          cases hw
          simp only [eqV, beq_eq_false_iff_ne]
          exact k2 i w' hi hw2
      · cases e
    · cases e
  · cases e
end

/-! ### dict of a dict, of a tuple of pairs -/
def dictAD : G1
  | .dict kvs => some (.dict kvs, true)
  | .tuple xs => if pairy xs = true then match pairsD xs with
      | some ps => some (.dict (mergeP [] ps), true)
      | none => none
    else none
  | d => dictD d
theorem pairs_of2 {X : Cx} {pins : List (Addr × Obj)} {σ : L2.St} {H : Hp} {s : Shared} (I : Inv X pins σ H s) : ∀ {ps : List Addr} {kvs : List (Key × V)}, Paired (fun p kv => SqT X.K H p [kV kv.1, kv.2]) ps kvs →
    ∃ (prs : List (Key × Value)) (pvs : List (Value × Value)), KV kvs prs ∧ prs.length = ps.length ∧ pvs.length = ps.length ∧ ∀ (j : Nat) (k v : Value), pvs[j]? = some (k, v) → ∃ (b : Addr) (q : Key), ps[j]? = some b ∧ IsTup s.heap b #[k, v] ∧ prs[j]? = some (q, v) ∧ keyIs q k = true
  | _, _, .nil => ⟨[], [], .nil, rfl, rfl, fun j k v e => by simp at e⟩
  | _, _, .cons (a := p) (b := kv) h t => by
    obtain ⟨prs, pvs, r, hl, hl2, hp⟩ := pairs_of2 I t
    obtain ⟨its, rv, ht, _⟩ := I.tuple h
    obtain ⟨u, y, ei, ru, ry⟩ := vals2 rv
    subst ei
    refine ⟨(kv.1, y) :: prs, (u, y) :: pvs, .cons ⟨rfl, ry⟩ r, by rw [List.length_cons, List.length_cons, hl], by rw [List.length_cons, List.length_cons, hl2], fun j k v e => ?_⟩
    cases j with
    | zero =>
      cases (show some (u, y) = some (k, v) from e)
      exact ⟨p, kv.1, rfl, ht, rfl, kV_is (P := X.prog) (w := X.w) ru⟩
    | succ j =>
      obtain ⟨b, q, e1, e2, e3, e4⟩ := hp j k v (by simpa using e)
      exact ⟨b, q, by simpa using e1, e2, by simpa using e3, e4⟩
theorem call_dictPT {X : Cx} (hcalm : X.calm = true) : CallR X (.type "dict") (fun xs H Q => ∃ (a : Addr) (ps : List Addr) (kvs : List (Key × V)), xs = [.ref a] ∧ SqT X.K H a (ps.map V.ref) ∧ TNone X.K H a ∧ Paired (fun p kv => SqT X.K H p [kV kv.1, kv.2]) ps kvs ∧
    ∀ p, H p = none → Q (.ref p) (upd H p (.dK (mergeK [] kvs)))) := by
  intro pins s σ H xs us Q I r q
  obtain ⟨a, ps, kvs, ex, hq, hN, hp, q⟩ := q
  subst ex
  obtain ⟨u, eu, rx⟩ := vals1 r
  subst eu
  cases rx
  obtain ⟨its, rv, pl, hz⟩ := I.tuple hq
  have ei := refs_at rv
  subst ei
  rw [List.length_map] at hz
  obtain ⟨prs, pvs, rel, hl, hl2, hpr⟩ := pairs_of2 I hp
  obtain ⟨o, ho, hc, n, hdat⟩ := pl
  have hd : o.dict = none := by
    rcases hN with ⟨o', vs, e1, e2⟩ | ⟨o', e1, e2⟩
    · obtain ⟨e3, _⟩ := I.hok _ _ e1
      rw [ho] at e3; cases e3; exact e2
    · have e3 := I.kIn _ _ e1
      rw [ho] at e3; cases e3; exact e2
  have hP := PairArg.tuple (prog := X.prog) (w := X.w) a (ps.map Value.ref).toArray (fun j => ps.getD j 0) pvs
  have ok : PlainSeq "tuple" s.heap a (ps.map Value.ref).toArray ∧ PairItems s.heap (ps.map Value.ref).toArray (fun j => ps.getD j 0) pvs := by
    refine ⟨⟨o, n, ho, hc, hd, hdat⟩, by simp [hl2], fun j k v e => ?_⟩
    obtain ⟨b, q', e1, e2, e3, e4⟩ := hpr j k v e
    have eb : ps.getD j 0 = b := by rw [List.getD_eq_getElem?_getD, e1]; rfl
    show _ = some (Value.ref (ps.getD j 0)) ∧ PairAt s.heap (ps.getD j 0) k v
    rw [eb]
    exact ⟨by simp [e1], .inl e2⟩
  refine PySem.call_dict_pairs (knd := mixKind X.prog X.w) (kvs := prs) hP (I.ok.hd hcalm) ok ⟨by omega, fun i k v e => ?_⟩ (by omega) fun h' tk hd' k => ?_
  · obtain ⟨b, q', e1, e2, e3, e4⟩ := hpr i k v e
    exact ⟨q', e3, e4⟩
  · have hm : (s.heap.objs.size == sysModules) = false := beq_eq_false_iff_ne.mpr (Nat.ne_of_gt I.big)
    have hlen : (mergeK [] kvs).length ≤ sizeLine := by
      refine Nat.le_trans (length_mergeK kvs []) ?_
      rw [List.length_nil, Nat.zero_add, rel.length, hl]
      exact hz
    exact ⟨.ref s.heap.objs.size, upd H s.heap.objs.size (.dK (mergeK [] kvs)), I.laid (t' := tk) (fun b o e => k b o (fun z => nomatch z) e) (Nat.le_refl _) (show ObjOk X.prog X.w _ _ _ (.dK (mergeK [] kvs)) from ⟨hlen, hm, merged [] prs, KV.merge rel .nil, hd'⟩), rfl, q _ (I.hok.fresh (Nat.le_refl _))⟩
theorem cr_dictA {X : Cx} (hc : X.calm = true) : CallR X (.type "dict") (rD X.K (g1 dictAD)) := by
  intro pins s σ H xs us Q I r h
  obtain ⟨x, rfl, h⟩ := rD_one h
  obtain ⟨O, a, d, fr, m, p1, e, q⟩ := rD1_elim h
  unfold dictAD at e
  split at e
  · cases e
    obtain ⟨p, kv, rfl, h1, h2⟩ := pk_dict p1
    exact call_dictD pins s σ H _ us Q I r ⟨p, kv, rfl, h1, fun l hl => q _ _ (np_dict hl h2)⟩
  · split at e
    · rename_i hpy
      split at e
      · rename_i ps h1
        cases e
        obtain ⟨p, vs, rfl, h2, h3, h6⟩ := pk_tupleN hpy p1
        obtain ⟨as, kvs, rfl, h4, h5⟩ := pairs_den h1 h3
        exact call_dictPT hc pins s σ H _ us Q I r ⟨p, as, kvs, rfl, h2, h6, h4, fun l hl => q _ _ (np_dict hl (denP_merge (kvs := []) (kv := []) rfl h5))⟩
      · cases e
    · cases e
  · refine cr_dict hc pins s σ H _ us Q I r ⟨O, [a], d, fr, m, ⟨x, [], rfl, p1, rfl⟩, e, q⟩
end PD

/-! PdZc: comprehensions with two for. -/
namespace PD
open PySem PySem.Spec PyProof.Rows L2
def lc2L (vs vs1 : List Nat) (g : GF) (t : TF) (s1 : IF) (g1 : GF) (t1 : TF) (f : EF) : List D → Ev → Option (List D × Ev)
  | [], env => some ([], env)
  | d :: ds, env => match g d env with
    | none => none
    | some e1 => match t e1 with
      | none => none
      | some (false, e2) => lc2L vs vs1 g t s1 g1 t1 f ds (wipeE e2 vs)
      | some (true, e2) => match s1 e2 with
        | none => none
        | some (ds1, e3) => if noOwn e3 vs1 = true then match lcL vs1 g1 t1 f ds1 (wipeE e3 vs1) with
            | none => none
            | some (ys, e4) => match lc2L vs vs1 g t s1 g1 t1 f ds (wipeE e4 vs) with
              | some (zs, e5) => some (ys ++ zs, e5)
              | none => none
          else none
def lc2F (vs vs1 : List Nat) (s : IF) (g : GF) (t : TF) (s1 : IF) (g1 : GF) (t1 : TF) (f : EF) : EF := fun env => match s env with
  | some (ds, e1) => if noOwn e1 vs = true then match lc2L vs vs1 g t s1 g1 t1 f ds (wipeE e1 vs) with
      | some (ys, e2) => if ys.length ≤ sizeLine then some (.list ys, true, unw e1 e2 vs) else none
      | none => none
    else none
  | none => none
def lc2DF (vs vs1 : List Nat) (i : Nat) (fk : List (D × D) → List D) (g : GF) (t : TF) (s1 : IF) (g1 : GF) (t1 : TF) (f : EF) : EF := fun env => match dictAt i env with
  | some (kvs, e1) => if noOwn e1 vs = true then match lc2L vs vs1 g t s1 g1 t1 f (fk kvs) (wipeE e1 vs) with
      | some (ys, e2) => if ys.length ≤ sizeLine then some (.list ys, true, unw e1 e2 vs) else none
      | none => none
    else none
  | none => none
section
variable {K : PySem.W.Frag} {vs vs1 wr wr1 : List Nat} {s s1 : IF} {g g1 : GF} {t t1 : TF} {f : EF}
/-- the block between two turns: go on, then what is still to come -/
structure Lw2 (K : PySem.W.Frag) (O : Addr → Prop) (fx : Nat → Option Addr) (a : Addr) (B : Hp) (H1 : Hp) (σB : Sl) (vs : List Nat) (go : Ev → Option (List D × Ev)) (ys : List D) (eE : Ev) (H2 : Hp) : Prop where
  ex : ∃ eB zs acc avs, R K (plus O a) fx eB σB H2 ∧ Same B (Pb (plus O a) eB σB H2) ∧ (∀ b, O b → H2 b = H1 b) ∧ go eB = some (zs, eE) ∧ acc ++ zs = ys ∧ H2 a = some (.lst avs) ∧ DenL K (Pb (plus O a) eB σB H2) acc avs ∧ ∀ j ∈ vs, ∀ x, eB[j]? ≠ some (some x)
theorem lc2_go {O : Addr → Prop} {fx : Nat → Option Addr} {env e1 e2 : Ev} {σ : Sl} {H H1 : Hp} {ds ys : List D} {J : It} {Q : VK} (hw : ∀ j ∈ wr, j ∈ vs) (hw1 : ∀ j ∈ wr1, j ∈ vs1) (hvv : ∀ j ∈ vs1, j ∈ vs) (hl : ys.length ≤ sizeLine) (hno : noOwn e1 vs = true) (h2 : lc2L vs vs1 g t s1 g1 t1 f ds (wipeE e1 vs) = some (ys, e2)) (b1 : Bh K O fx env σ H e1 H1) (jo : JOk K (Pb O e1 σ H1) J ds)
    (q : ∀ v H', EPost K O fx env σ H (.list ys) true (unw e1 e2 vs) v H' → Q v H') : tLc2 (fun _ _ R => R J H1) (tG K g wr) (tT K t) (tI K s1) (tG K g1 wr1) (tT K t1) (tE K f) vs vs1 σ H Q := by
  intro a ha
  have hn := noOwn_at hno
  have np : NPost K (Oo O e1 σ) H1 (.list []) true (.ref a) (upd H1 a (.lst [])) := ⟨fun b u e => by rw [upd_ne (ne_of_none e ha)]; exact e, a, rfl, ha, [], upd_same, rfl⟩
  obtain ⟨a', ea, fs⟩ := np.epost b1.rel
  cases ea
  have hfx : ∀ p : Nat × Addr, fx p.1 = some p.2 → p.1 ∉ vs := fun p hp hv => by
    obtain ⟨d, q1, _⟩ := b1.rel.fix p hp
    have := hn _ hv _ _ q1
    cases this
  have hfx1 : ∀ p : Nat × Addr, fx p.1 = some p.2 → p.1 ∉ vs1 := fun p hp hv => hfx p hp (hvv _ hv)
  have bw := fs.rel.wipe (vs := vs) hfx
  have s0 : Same (Pb O e1 σ H1) (Pb (plus O a) (wipeE e1 vs) (L2.wipe σ vs) (upd H1 a (.lst []))) := fs.same.trans bw.same
  have fin : ∀ {e3 : Ev} {σ3 : Sl} {H3 : Hp}, R K (plus O a) fx e3 σ3 H3 → L2.wipe σ3 vs = L2.wipe σ vs → Bh2 K (plus O a) fx e3 σ3 H3 (wipeE e3 vs) (L2.wipe σ vs) H3 := fun {e3 σ3 H3} r3 hw3 => by
    rw [← hw3]
    exact r3.wipe hfx
  refine ⟨fun i m H2 => m = ds.length - i ∧ i ≤ ds.length ∧ Lw2 K O fx a (Pb O e1 σ H1) H1 (L2.wipe σ vs) vs (lc2L vs vs1 g t s1 g1 t1 f (ds.drop i)) ys e2 H2,
    ⟨_, rfl, Nat.zero_le _, wipeE e1 vs, ys, [], [], bw.rel, s0, fs.outer, h2, rfl, upd_same, rfl, fun j hj x => wipeE_in hj⟩, ?_⟩
  rintro i m H2 ⟨rfl, hi, eB, zs, acc, avs, rB, sB, ouB, goB, eq, hal, hden, hno2⟩
  have leB : Same (Pb O e1 σ H1) (Pb (plus O a) eB (L2.wipe σ vs) H2) := sB
  by_cases hlt : i < ds.length
  · right
    refine ⟨jo.go i H2 hlt (leB.trans cut_sub), Lw2 K O fx a (Pb O e1 σ H1) H1 (L2.wipe σ vs) vs (lc2L vs vs1 g t s1 g1 t1 f (ds.drop (i + 1))) ys e2, fun H' z => ⟨_, by omega, rfl, hlt, z⟩, fun x H3 hy => ?_⟩
    obtain ⟨sm, hd⟩ := jo.yld i H2 ds[i] x H3 (leB.trans cut_sub) (List.getElem?_eq_getElem hlt) hy
    have b3 := rB.grown sm
    have hd := hd (Oo (plus O a) eB (L2.wipe σ vs)) (fun a z => rB.root_some z) leB
    rw [List.drop_eq_getElem_cons hlt] at goB
    simp only [lc2L] at goB
    split at goB
    · cases goB
    · rename_i e3 h3
      refine ⟨plus O a, fx, eB, ds[i], e3, b3.rel, hd, h3, fun σ4 H4 b4 bar => ?_⟩
      have hw4 : L2.wipe σ4 vs = L2.wipe σ vs := (wipe_bar bar hw).trans (wipe_wipe σ vs)
      refine ⟨hw4, ?_⟩
      have b34 := b3.trans b4
      split at goB
      · cases goB
      · rename_i e5 h5
        refine ⟨plus O a, fx, e3, false, e5, b4.rel, h5, fun H5 b5 => iteF ?_⟩
        have b35 := b34.trans b5
        have b6 := b35.trans (fin b35.rel hw4)
        exact ⟨_, zs, acc, avs, b6.rel, sB.trans b6.same, fun b z => (b6.outer b (.inl z)).trans (ouB b z), goB, eq, (b6.outer a (.inr rfl)).trans hal, denL_le (Le.of_same b6.same) hden, fun j hj x => wipeE_in hj⟩
      · rename_i e5 h5
        refine ⟨plus O a, fx, e3, true, e5, b4.rel, h5, fun H5 b5 => iteT ?_⟩
        have b35 := b34.trans b5
        split at goB
        · cases goB
        · rename_i ds1 e6 h6
          split at goB
          · rename_i hno1
            split at goB
            · cases goB
            · rename_i ys1 e7 h7
              split at goB
              · rename_i zs' e8 h8
                cases goB
                refine ⟨plus O a, fx, e5, ds1, e6, b35.rel, h6, fun J1 H6 b6' jo1 => ?_⟩
                have b36 := b35.trans b6'
                have hn1 := noOwn_at hno1
                -- the inner loop
                have bw1 := b36.rel.wipe (vs := vs1) hfx1
                have b37 := b36.trans bw1
                have sI : Same (Pb (plus O a) e6 σ4 H6) (Pb (plus O a) (wipeE e6 vs1) (L2.wipe σ4 vs1) H6) := bw1.same
                have len7 : ∀ {ac zz : List D}, ac ++ zz = acc ++ ys1 → ac.length ≤ sizeLine := fun {ac zz} z => by
                  have e := congrArg List.length z
                  have e' := congrArg List.length eq
                  simp only [List.length_append] at e e'
                  omega
                have ww : L2.wipe (L2.wipe σ4 vs1) vs = L2.wipe σ vs := by
                  rw [← hw4]
                  exact wipe_bar (wr := vs1) ⟨wipe_length σ4 vs1, fun j hj => wipe_out' hj⟩ hvv
                refine ⟨fun j k H7 => k = ds1.length - j ∧ j ≤ ds1.length ∧ Lw2 K O fx a (Pb (plus O a) e6 σ4 H6) H1 (L2.wipe σ4 vs1) vs1 (lcL vs1 g1 t1 f (ds1.drop j)) (acc ++ ys1) e7 H7,
                  ⟨_, rfl, Nat.zero_le _, wipeE e6 vs1, ys1, acc, avs, b37.rel, sI, fun b z => (b37.outer b (.inl z)).trans (ouB b z), h7, rfl, (b37.outer a (.inr rfl)).trans hal, denL_le (Le.of_same b37.same) hden, fun j hj x => wipeE_in hj⟩, ?_⟩
                rintro j k H7 ⟨rfl, hj, eC, zc, acc1, avs1, rC, sC, ouC, goC, eqC, hal1, hden1, hno3⟩
                by_cases hlt1 : j < ds1.length
                · right
                  refine ⟨jo1.go j H7 hlt1 (sC.trans cut_sub), Lw2 K O fx a (Pb (plus O a) e6 σ4 H6) H1 (L2.wipe σ4 vs1) vs1 (lcL vs1 g1 t1 f (ds1.drop (j + 1))) (acc ++ ys1) e7, fun H' z => ⟨_, by omega, rfl, hlt1, z⟩, fun x1 H8 hy1 => ?_⟩
                  obtain ⟨sm1, hd1⟩ := jo1.yld j H7 ds1[j] x1 H8 (sC.trans cut_sub) (List.getElem?_eq_getElem hlt1) hy1
                  have c3 := rC.grown sm1
                  have hd1 := hd1 (Oo (plus O a) eC (L2.wipe σ4 vs1)) (fun a z => rC.root_some z) sC
                  rw [List.drop_eq_getElem_cons hlt1] at goC
                  simp only [lcL] at goC
                  split at goC
                  · cases goC
                  · rename_i g3 k3
                    refine ⟨plus O a, fx, eC, ds1[j], g3, c3.rel, hd1, k3, fun σ5 H9 c4 bar1 => ?_⟩
                    have hw5 : L2.wipe σ5 vs1 = L2.wipe σ4 vs1 := (wipe_bar bar1 hw1).trans (wipe_wipe σ4 vs1)
                    refine ⟨hw5, ?_⟩
                    have c34 := c3.trans c4
                    have fin1 : ∀ {e3 : Ev} {H3 : Hp}, R K (plus O a) fx e3 σ5 H3 → Bh2 K (plus O a) fx e3 σ5 H3 (wipeE e3 vs1) (L2.wipe σ4 vs1) H3 := fun {e3 H3} r3 => by
                      rw [← hw5]
                      exact r3.wipe hfx1
                    split at goC
                    · cases goC
                    · rename_i g5 k5
                      refine ⟨plus O a, fx, g3, false, g5, c4.rel, k5, fun H10 c5 => iteF ?_⟩
                      have c35 := c34.trans c5
                      have c6 := c35.trans (fin1 c35.rel)
                      exact ⟨_, zc, acc1, avs1, c6.rel, sC.trans c6.same, fun b z => (c6.outer b (.inl z)).trans (ouC b z), goC, eqC, (c6.outer a (.inr rfl)).trans hal1, denL_le (Le.of_same c6.same) hden1, fun j hj x => wipeE_in hj⟩
                    · rename_i g5 k5
                      refine ⟨plus O a, fx, g3, true, g5, c4.rel, k5, fun H10 c5 => iteT ?_⟩
                      have c35 := c34.trans c5
                      split at goC
                      · cases goC
                      · rename_i y fr6 g6 k6
                        refine ⟨plus O a, fx, g5, y, fr6, g6, c35.rel, k6, fun v H11 p6 => ?_⟩
                        obtain ⟨c6', hy6⟩ := p6.weak
                        have c6 := c35.trans c6'
                        have ha6 : H11 a = some (.lst avs1) := (c6.outer a (.inr rfl)).trans hal1
                        split at goC
                        · rename_i ys' g7 k7
                          cases goC
                          have hlen := denL_length hden1
                          refine ⟨avs1, ha6, ?_, ?_⟩
                          · have e := congrArg List.length eqC
                            have e' := congrArg List.length eq
                            simp only [List.length_append, List.length_cons] at e e'
                            omega
                          have r7 : R K (plus O a) fx g6 σ5 (upd H11 a (.lst (avs1 ++ [v]))) := push_ok c6.rel
                          have c7 := fin1 r7
                          have s7 : Same (Pb (plus O a) eC (L2.wipe σ4 vs1) H7) (Pb (plus O a) (wipeE g6 vs1) (L2.wipe σ4 vs1) (upd H11 a (.lst (avs1 ++ [v])))) := by
                            refine Same.trans ?_ c7.same
                            rw [push_pb]
                            exact c6.same
                          have s8 : Same (Pb (plus O a) g6 σ5 H11) (Pb (plus O a) (wipeE g6 vs1) (L2.wipe σ4 vs1) (upd H11 a (.lst (avs1 ++ [v])))) := by
                            refine Same.trans ?_ c7.same
                            rw [push_pb]
                            exact Same.refl _
                          refine ⟨_, ys', acc1 ++ [y], _, c7.rel, sC.trans s7, fun b z => ?_, k7, by rw [List.append_assoc]; exact eqC, upd_same, denL_append (denL_le (Le.of_same s7) hden1) ⟨v, [], rfl, den_le (Le.of_same s8) hy6, rfl⟩, fun j hj x => wipeE_in hj⟩
                          have nb : b ≠ a := fun e => fs.new (e ▸ z)
                          rw [upd_ne nb]
                          exact (c6.outer b (.inl z)).trans (ouC b z)
                        · cases goC
                · left
                  refine ⟨jo1.stop j H7 (by omega) (sC.trans cut_sub), ?_⟩
                  rw [List.drop_eq_nil_of_le (by omega)] at goC
                  cases goC
                  rw [List.append_nil] at eqC
                  subst eqC
                  have c9 := fin rC ww
                  exact ⟨_, zs', acc ++ ys1, avs1, c9.rel, sB.trans ((b36.same.trans sC).trans c9.same), ouC, h8, by rw [List.append_assoc]; exact eq, hal1, denL_le (Le.of_same c9.same) hden1, fun j hj x => wipeE_in hj⟩
              · cases goB
          · cases goB
  · left
    refine ⟨jo.stop i H2 (by omega) (leB.trans cut_sub), ?_⟩
    rw [List.drop_eq_nil_of_le (by omega)] at goB
    cases goB
    rw [List.append_nil] at eq
    subst eq
    have rA : R K (plus O a) fx e1 σ (upd H1 a (.lst avs)) := by
      have z := push_ok (u := .lst avs) fs.rel
      rw [upd_upd] at z
      exact z
    have sA : Same (Pb (plus O a) e1 σ (upd H1 a (.lst avs))) (Pb O e1 σ H1) := by
      rw [push_pb]
      exact cut_anti fun b z => plus_oo.mpr (.inl z)
    have bA := rA.unwipe rB (sA.trans sB) (fun b z => by
      by_cases e : b = a
      · subst e; rw [hal, upd_same]
      · rw [upd_ne e]
        rcases z with z | z
        · exact ouB b z
        · exact absurd z e) hn hno2
    have s9 : Same (Pb O e1 σ H1) (Pb (plus O a) (unw e1 e2 vs) σ H2) := by
      have z : Same (Pb O e1 σ H1) (Pb (plus O a) e1 σ (upd H1 a (.lst avs))) := by
        rw [push_pb]
        have z := fs.same
        rw [push_pb] at z
        exact z
      exact z.trans bA.same
    have oo : Pb (plus O a) (unw e1 e2 vs) σ H2 = Pb (plus O a) e2 (L2.wipe σ vs) H2 := by
      have rt : ∀ b, Rt (unw e1 e2 vs) σ b ↔ Rt e2 (L2.wipe σ vs) b := fun b => by
        constructor
        · rintro ⟨j, d, o, h1, h2, h3⟩
          by_cases hj : j ∈ vs
          · exact absurd (hn j hj d o (unw_in hj h1)) h2
          · rw [unw_out hj] at h1
            exact ⟨j, d, o, h1, h2, by rw [wipe_out' hj]; exact h3⟩
        · rintro ⟨j, d, o, h1, h2, h3⟩
          by_cases hj : j ∈ vs
          · exact absurd h1 (hno2 j hj _)
          · exact ⟨j, d, o, by rw [unw_out hj]; exact h1, h2, by rw [wipe_out' hj] at h3; exact h3⟩
      show cut _ _ = cut _ _
      rw [show Oo (plus O a) (unw e1 e2 vs) σ = Oo (plus O a) e2 (L2.wipe σ vs) from funext fun b => propext (or_congr Iff.rfl (rt b))]
    exact q _ _ ⟨a, rfl, fs.new, bA.rel, b1.same.trans s9, fun b z => (ouB b z).trans (b1.outer b z), avs, hal, by rw [oo]; exact hden⟩
theorem lc2_imp {σ : Sl} {H : Hp} {Q : VK} (hw : ∀ j ∈ wr, j ∈ vs) (hw1 : ∀ j ∈ wr1, j ∈ vs1) (hvv : ∀ j ∈ vs1, j ∈ vs) (h : tE K (lc2F vs vs1 s g t s1 g1 t1 f) σ H Q) : tLc2 (tI K s) (tG K g wr) (tT K t) (tI K s1) (tG K g1 wr1) (tT K t1) (tE K f) vs vs1 σ H Q := by
  obtain ⟨O, fx, env, d, fr, env', r, e, q⟩ := h
  unfold lc2F at e
  split at e
  · rename_i ds e1 h1
    split at e
    · rename_i hc
      split at e
      · rename_i ys e2 h2
        split at e
        · rename_i hl
          cases e
          exact ⟨O, fx, env, ds, e1, r, h1, fun J H1 b1 jo => lc2_go hw hw1 hvv hl hc h2 b1 jo q⟩
        · cases e
      · cases e
    · cases e
  · cases e
theorem lc2D_imp {i : Nat} {fk : List (D × D) → List D} {J : Addr → Obj → List (Key × V) → It} {σ : Sl} {H : Hp} {Q : VK} (hJ : JD K J fk) (hw : ∀ j ∈ wr, j ∈ vs) (hw1 : ∀ j ∈ wr1, j ∈ vs1) (hvv : ∀ j ∈ vs1, j ∈ vs) (h : tE K (lc2DF vs vs1 i fk g t s1 g1 t1 f) σ H Q) :
    tLc2 (tIK i J) (tG K g wr) (tT K t) (tI K s1) (tG K g1 wr1) (tT K t1) (tE K f) vs vs1 σ H Q ∨ tLockE (tLc2 (tIK i J) (tG K g wr) (tT K t) (tI K s1) (tG K g1 wr1) (tT K t1) (tE K f) vs vs1) σ H Q := by
  obtain ⟨O, fx, env, x, fr, env', r, e, q⟩ := h
  unfold lc2DF at e
  split at e
  · rename_i kvs e1 h1
    split at e
    · rename_i hc
      split at e
      · rename_i ys e2 h2
        split at e
        · rename_i hl
          cases e
          obtain ⟨d, kv, b, hs, nd, hr, hp⟩ := dictAt_ok r h1
          rcases hr with hr | ⟨o, hr⟩
          · right
            refine ⟨d, .dK kv, hr, trivial, fun od => ?_⟩
            obtain ⟨r2, jo⟩ := locked (od := od) hJ b.rel nd hr hp
            have z := lc2_go (Q := fun v H' => H' d = some (.frz od (.dK kv)) ∧ Q v (upd H' d (.dK kv))) hw hw1 hvv hl hc h2 (Bh.refl r2) jo fun v H' p => by
              obtain ⟨k1, k2⟩ := unlock_ep (u := .dK kv) True.intro hr nd p
              exact ⟨k1, q v _ (bh_epost b k2)⟩
            exact ⟨d, od, kv, hs, upd_same, z⟩
          · left
            have z := lc2_go (Q := Q) hw hw1 hvv hl hc h2 (Bh.refl b.rel) (hJ _ _ _ _ _ (cut_some.mpr ⟨nd, hr⟩) hp) fun v H' p => q v _ (bh_epost b p)
            exact ⟨d, o, kv, hs, hr, z⟩
        · cases e
      · cases e
    · cases e
  · cases e
end
section
variable {X : Cx} {elt tg iter tg1 iter1 : Expr} {ifs ifs1 : List Expr} {scope : Scope} {own : List (Str × Nat)} {vs1 : List Nat} {pos : Pos} {s s1 : IF} {g g1 : GF} {wr wr1 : List Nat} {t t1 : TF} {f : EF}
theorem se_lc2 (hc : X.calm = true) (hN : X.N.Nodup) (hi : SI X s tg iter) (ok : BlkOk X.N X.env.scope scope own) (hv : ∀ i ∈ vs1, i ∈ own.map (·.2))
    (hw : ∀ j ∈ wr, j ∈ own.map (·.2)) (hw1 : ∀ j ∈ wr1, j ∈ vs1)
    (hg : ∀ (s : Shared) (H : Hp) (C : Addr) (cl : List (Str × Addr)) (fp : List Addr), SG (X.blk s H scope (compEnvC scope cl C X.env) fp) g wr tg) (ht : ∀ (s : Shared) (H : Hp) (C : Addr) (cl : List (Str × Addr)) (fp : List Addr), STs (X.blk s H scope (compEnvC scope cl C X.env) fp) t ifs)
    (hi1 : ∀ (s : Shared) (H : Hp) (C : Addr) (cl : List (Str × Addr)) (fp : List Addr), SI (X.blk s H scope (compEnvC scope cl C X.env) fp) s1 tg1 iter1)
    (hg1 : ∀ (s : Shared) (H : Hp) (C : Addr) (cl : List (Str × Addr)) (fp : List Addr), SG (X.blk s H scope (compEnvC scope cl C X.env) fp) g1 wr1 tg1) (ht1 : ∀ (s : Shared) (H : Hp) (C : Addr) (cl : List (Str × Addr)) (fp : List Addr), STs (X.blk s H scope (compEnvC scope cl C X.env) fp) t1 ifs1)
    (he : ∀ (s : Shared) (H : Hp) (C : Addr) (cl : List (Str × Addr)) (fp : List Addr), SE (X.blk s H scope (compEnvC scope cl C X.env) fp) f elt) (hs : ∀ x, foldedSetIterable iter X.env x = pure x := by intro _; rfl) (hs1 : ∀ env x, foldedSetIterable iter1 env x = pure x := by intro _ _; rfl) :
    SE X (lc2F (own.map (·.2)) vs1 s g t s1 g1 t1 f) (.ListComp elt [⟨tg, iter, ifs, 0⟩, ⟨tg1, iter1, ifs1, 0⟩] scope pos) := (pe_lc2 hc hN hi ok hv hg ht hi1 hg1 ht1 he hs hs1).imp fun _ _ _ h => lc2_imp hw hw1 hv h
theorem se_lc2D {i : Nat} {fk : List (D × D) → List D} {J : Addr → Obj → List (Key × V) → It} (hJ : JD X.K J fk) (hc : X.calm = true) (hN : X.N.Nodup) (hi : SIK X i J tg iter) (ok : BlkOk X.N X.env.scope scope own) (hv : ∀ i ∈ vs1, i ∈ own.map (·.2))
    (hw : ∀ j ∈ wr, j ∈ own.map (·.2)) (hw1 : ∀ j ∈ wr1, j ∈ vs1)
    (hg : ∀ (s : Shared) (H : Hp) (C : Addr) (cl : List (Str × Addr)) (fp : List Addr), SG (X.blk s H scope (compEnvC scope cl C X.env) fp) g wr tg) (ht : ∀ (s : Shared) (H : Hp) (C : Addr) (cl : List (Str × Addr)) (fp : List Addr), STs (X.blk s H scope (compEnvC scope cl C X.env) fp) t ifs)
    (hi1 : ∀ (s : Shared) (H : Hp) (C : Addr) (cl : List (Str × Addr)) (fp : List Addr), SI (X.blk s H scope (compEnvC scope cl C X.env) fp) s1 tg1 iter1)
    (hg1 : ∀ (s : Shared) (H : Hp) (C : Addr) (cl : List (Str × Addr)) (fp : List Addr), SG (X.blk s H scope (compEnvC scope cl C X.env) fp) g1 wr1 tg1) (ht1 : ∀ (s : Shared) (H : Hp) (C : Addr) (cl : List (Str × Addr)) (fp : List Addr), STs (X.blk s H scope (compEnvC scope cl C X.env) fp) t1 ifs1)
    (he : ∀ (s : Shared) (H : Hp) (C : Addr) (cl : List (Str × Addr)) (fp : List Addr), SE (X.blk s H scope (compEnvC scope cl C X.env) fp) f elt) (hs : ∀ x, foldedSetIterable iter X.env x = pure x := by intro _; rfl) (hs1 : ∀ env x, foldedSetIterable iter1 env x = pure x := by intro _ _; rfl) :
    SE X (lc2DF (own.map (·.2)) vs1 i fk g t s1 g1 t1 f) (.ListComp elt [⟨tg, iter, ifs, 0⟩, ⟨tg1, iter1, ifs1, 0⟩] scope pos) :=
  pe_or' (pe_lc2 hc hN hi.pi ok hv hg ht hi1 hg1 ht1 he hs hs1) (pe_lock (pe_lc2 hc hN hi.pi ok hv hg ht hi1 hg1 ht1 he hs hs1)) fun _ _ _ h => lc2D_imp hJ hw hw1 hv h
end
end PD

/-! PdZd: {**d, k: v}. -/
namespace PD
open PySem PySem.Spec PyProof.Rows L2
section
variable {prog : Program} {w : World} {K : Type} [DecidableEq K] {knd : KeyKind prog w K} {A : Around} {E : Value → Shared → Prop} {s : Shared}
theorem wpAny_dictPut_pairs {d : Addr} {kvs : List (K × Value)} {k : K} {key v : Value} {Q : Unit → Shared → Prop} (hkey : knd.is k key = true) (hm : s.heap.DictOf knd d kvs)
    (hQ : ∀ h', h'.DictOf knd d (stored kvs k v) → Heap.SameBut d s.heap h' → Q () { s with heap := h' })
    (hsz : kvs.length ≤ sizeLine := by size_fits) :
    wpAny (model prog w) A (dictPut d (knd.hash k) key v) Q E s := by
  obtain ⟨o, es, ep, ho, hc, hd, hk, hp, hn⟩ := hm
  have hes : es.size ≤ sizeLine := by have e1 := hp.length; have e2 : es.toList.length = es.size := by simp
                                      omega
  unfold dictPut
  refine wpAny_bind (wpAny_dictFind_of hkey ho hd hk ?_)
  have hidx : (es.findIdx? fun e => knd.is k e.key) = kvs.findIdx? fun kv => decide (kv.1 = k) := by
    rw [← hp.findIdx k]; obtain ⟨l⟩ := es; simp
  cases hi : es.findIdx? fun e => knd.is k e.key with
  | some i =>
    refine wpAny_updateDict ho hd (hQ _ ⟨_, _, ep, Heap.get?_update_self _ ho (Obj.isFreed_of_dict (Obj.data_mapDict hd _)),
      hc.mapDict _, Obj.data_mapDict hd _, hk.modify _ _, ?_, ?_⟩ (Heap.SameBut.update ..))
    · rw [stored, if_pos (any_of_findIdx_some (hidx ▸ hi))]
      have hl : (es.toList.findIdx? fun e => knd.is k e.key) = some i := by rw [← hi]; obtain ⟨l⟩ := es; simp
      have := hp.modify hn hl v
      obtain ⟨l⟩ := es
      simpa using this
    · rw [stored, if_pos (any_of_findIdx_some (hidx ▸ hi)), keys_map_store]; exact hn
  | none =>
    have hnot : k ∉ kvs.map (·.1) := not_mem_of_findIdx_none (hidx ▸ hi)
    have hany : ¬ (kvs.any fun kv => decide (kv.1 = k)) = true := by
      rw [List.any_eq_true]; rintro ⟨kv, hkv, he⟩
      exact hnot (List.mem_map.mpr ⟨kv, hkv, of_decide_eq_true he⟩)
    refine wpAny_updateDictKeys (hz := hes) ho hd (hQ _ ⟨_, _, ep + 1, Heap.get?_update_self _ ho (Obj.isFreed_of_dict (Obj.data_mapDictKeys hd _)),
      hc.mapDictKeys _, Obj.data_mapDictKeys hd _, hk.push hkey _, ?_, ?_⟩ (Heap.SameBut.update ..))
    · rw [stored, if_neg hany]
      have := hp.append hkey (knd.hash k) v
      obtain ⟨l⟩ := es
      simpa using this
    · rw [stored, if_neg hany, List.map_append, List.nodup_append]
      refine ⟨hn, by simp, ?_⟩
      intro a ha b hb
      simp only [List.map_cons, List.map_nil, List.mem_singleton] at hb
      subst hb
      exact fun e => hnot (e ▸ ha)
theorem wpAny_mergeMapping {d o : Addr} {kvs more : List (K × Value)} {Q : Unit → Shared → Prop} (hnr : ∀ k v, knd.is k v = true → ∀ a, v ≠ .ref a) (hdo : d ≠ o) (hoS : (o == sysModules) = false)
    (hd : s.heap.DictOf knd d kvs) (ho : s.heap.DictOf knd o more)
    (hQ : ∀ h', h'.DictOf knd d (merged kvs more) → h'.DictOf knd o more → Heap.SameBut d s.heap h' → Q () { s with heap := h' })
    (hsz : kvs.length + more.length ≤ sizeLine := by size_fits) :
    wpAny (model prog w) A (mergeMapping d (.ref o) false) Q E s := by
  obtain ⟨od, esd, epd, hod, hcd, hdd, hkd, hpd, hnd⟩ := id hd
  obtain ⟨oo, eso, epo, hoo, hco, hdo', hko, hpo, hno⟩ := id ho
  unfold mergeMapping
  refine wpAny_bind (wpAny_isInstance ho.typeIs isSubtype_dict_dict ?_)
  dsimp only
  rw [if_pos rfl]
  refine wpAny_bind (wpAny_specialOf ho.typeIs F.slot_dict_iter.lookup ?_)
  refine wpAny_bind (wpAny_pure ?_)
  simp only [beq_self_eq_true]
  rw [if_neg (by rw [hoS]; exact Bool.false_ne_true)]
  refine wpAny_bind (wpAny_dictEntries hod hdd ?_)
  have hlen : more.length = eso.size := by rw [← hpo.length]; simp
  have loop : wpAny (model prog w) A (do
      let l ← dictEntries o
      let epoch ← dictEpoch o
      forIn (List.range l.size) PUnit.unit fun i (_ : PUnit) => (do
          let l' ← dictEntries o
          match l'[i]? with
            | some e => do
              holding [e.key, e.val] (dictPut d e.hash e.key e.val)
              let ep' ← dictEpoch o
              if (ep' != epoch) = true then do
                  (unsupported "dict.changed-during-merge" : Sem PUnit)
                  pure (ForInStep.yield PUnit.unit)
                else pure (ForInStep.yield PUnit.unit)
            | _ => do
              (unsupported "dict.changed-during-merge" : Sem PUnit)
              pure (ForInStep.yield PUnit.unit) : Sem (ForInStep PUnit))
      pure ()) Q E s := by
    refine wpAny_bind (wpAny_dictEntries hoo hdo' ?_)
    refine wpAny_bind (wpAny_dictEpoch hoo hdo' ?_)
    refine wpAny_bind ?_
    refine wpAny_forIn_list _
      (fun rest _ s' => ∃ h' i, s' = { s with heap := h' } ∧ rest = (List.range eso.size).drop i ∧ i ≤ eso.size ∧ h'.DictOf knd d (merged kvs (more.take i)) ∧ h'.get? o = some oo ∧ Heap.SameBut d s.heap h')
      _ ?_ ?_ _ _ ⟨s.heap, 0, rfl, by simp, Nat.zero_le _, by simpa [merged] using hd, hoo, Heap.SameBut.refl _ _⟩
    · rintro x rest b s' ⟨h', i, rfl, hr, hi, hd', hoo', hs'⟩
      have hlt : i < eso.size := by
        rcases Nat.lt_or_ge i eso.size with h | h
        · exact h
        · rw [List.drop_eq_nil_of_le (by simpa using h)] at hr; cases hr
      obtain ⟨rfl, hrest⟩ : x = i ∧ rest = (List.range eso.size).drop (i + 1) := by
        rw [List.drop_eq_getElem_cons (by simpa using hlt)] at hr
        injection hr with h1 h2
        exact ⟨by simpa using h1, h2⟩
      refine wpAny_bind (wpAny_dictEntries hoo' hdo' ?_)
      rw [Array.getElem?_eq_getElem hlt]
      obtain ⟨kv, hkv⟩ : ∃ kv, more[x]? = some kv := ⟨more[x]'(by rw [hlen]; exact hlt), List.getElem?_eq_getElem _⟩
      obtain ⟨k, v⟩ := kv
      obtain ⟨hkey, hval⟩ := hpo.get? (e := eso[x]) (by simp [hlt]) hkv
      obtain ⟨k', hkey', hhash⟩ := hko eso[x] (Array.getElem_mem hlt)
      obtain rfl : k' = k := knd.inj _ _ _ hkey' hkey
      show wpAny _ _ (holding [eso[x].key, eso[x].val] (dictPut d eso[x].hash eso[x].key eso[x].val) >>= _) _ _ _
      rw [hhash, hval]
      have hmx : (merged kvs (more.take x)).length ≤ sizeLine := by
        have e1 := merged_length_le kvs (more.take x)
        have e2 : (more.take x).length ≤ more.length := by rw [List.length_take]; omega
        omega
      refine wpAny_bind (wpAny_holding (wpAny_dictPut_pairs (hsz := hmx) hkey hd' fun h'' hd'' hs'' => ?_))
      have hoo'' : h''.get? o = some oo := (hs''.2 o (Ne.symm hdo)).trans hoo'
      refine wpAny_bind (wpAny_dictEpoch hoo'' hdo' ?_)
      rw [if_neg (by simp)]
      exact wpAny_pure ⟨h'', x + 1, rfl, hrest, hlt, by rw [merged_take_succ kvs more x (k', v) hkv]; exact hd'', hoo'', hs'.trans hs''⟩
    · rintro b s' ⟨h', i, rfl, hr, hi, hd', hoo', hs'⟩
      have hin : i = eso.size := by
        rcases Nat.lt_or_ge i eso.size with h | h
        · rw [List.drop_eq_getElem_cons (by simpa using h)] at hr; cases hr
        · omega
      subst hin
      refine wpAny_pure (hQ h' ?_ ⟨oo, eso, epo, hoo', hco, hdo', hko, hpo, hno⟩ hs')
      rw [← hlen, List.take_length] at hd'
      exact hd'
  by_cases hemp : esd.isEmpty = true
  · rw [if_pos hemp]
    refine wpAny_bind (wpAny_dictEntries hoo hdo' ?_)
    refine wpAny_bind ?_
    rw [← Array.forIn_toList]
    refine wpAny_forIn_list _ (fun rest _ s' => s' = s ∧ ∀ e ∈ rest, e ∈ eso.toList) _ ?_ ?_ _ _ ⟨rfl, fun e h => h⟩
    · rintro x rest b s' ⟨rfl, hx⟩
      obtain ⟨k', hkey', _⟩ := hko x (by simpa using hx x List.mem_cons_self)
      split
      · rename_i a ha
        exact absurd ha (hnr _ _ hkey' a)
      · exact wpAny_pure ⟨rfl, fun e h => hx e (List.mem_cons_of_mem _ h)⟩
    · rintro b s' ⟨rfl, _⟩
      exact loop
  · rw [if_neg hemp]
    exact loop
/-- {**e, k: v} -/
theorem wpAny_Dict_spread {env : Env} {e k v : Expr} {pos : Pos} {Q : Value → Shared → Prop}
    (h : wpAny (model prog w) A (eval e env) (fun m s1 => wpAny (model prog w) A (mergeMapping s.heap.objs.size m false) (fun _ s2 =>
      wpAny (model prog w) A (subDict [(eval k env, do let x ← eval v env; standAt pos; pure x)]) (fun sub s3 => wpAny (model prog w) A (mergeMapping s.heap.objs.size (.ref sub) false) (fun _ s4 => Q (.ref s.heap.objs.size) s4) (fun _ _ => False) s3) E s2)
      (fun _ _ => False) s1) E { s with heap := s.heap.push { cls := .type "dict", data := .dict #[] } }) :
    wpAny (model prog w) A (eval (.Dict [none, some k] [e, v] pos) env) Q E s := by
  rw [arm_eval_Dict]
  refine wpAny_bind (wpAny_standAt ?_)
  show wpAny _ _ (dictDisplay [(none, do let x ← eval e env; standAt pos; pure x), (some (eval k env), do let x ← eval v env; standAt pos; pure x)]) _ _ _
  unfold dictDisplay
  simp only [List.forIn_cons, List.forIn_nil, List.isEmpty_nil, if_true, pure_bind, bind_assoc, List.nil_append, List.length_singleton]
  refine wpAny_bind (wpAny_alloc ?_)
  refine wpAny_bind (wpAny_holding (wpAny_bind (wpAny_mono h (fun m s1 h1 => ?_) fun _ _ z => z)))
  refine wpAny_bind (wpAny_standAt (wpAny_pure ?_))
  refine wpAny_bind (wpAny_onRaise (wpAny_tryCatch (wpAny_onRaise (wpAny_holding (wpAny_mono h1 (fun _ s2 h2 => ?_) fun _ _ z => z.elim)))))
  rw [if_neg (by decide)]
  simp only [pure_bind]
  rw [if_neg (by simp)]
  refine wpAny_bind (wpAny_bind (wpAny_holding (wpAny_mono h2 (fun sub s3 h3 => ?_) fun _ _ z => z)))
  refine wpAny_bind (wpAny_onRaise (wpAny_holding (wpAny_mono h3 (fun _ s4 h4 => ?_) fun _ _ z => z.elim)))
  exact wpAny_pure (wpAny_pure h4)
end
/-- {**e, k: v} over the abstract heap -/
def tSpread (te tk tv : TE) : TE := fun σ H Q => ∀ p, H p = none → te σ (upd H p (.dK [])) fun x H1 => ∃ a kvs, x = .ref a ∧ a ≠ p ∧ Rd H1 a (.dK kvs) ∧ H1 p = some (.dK []) ∧ kvs.length < sizeLine ∧
  ∀ p2, H1 p2 = none → p2 ≠ p → tPairs [(tk, tv)] σ (upd (upd H1 p (.dK (mergeK [] kvs))) p2 (.dK [])) fun ps H3 => ∃ k z, ps = [(kV k, z)] ∧ H3 p = some (.dK (mergeK [] kvs)) ∧ H3 p2 = some (.dK []) ∧
    Q (.ref p) (upd (upd H3 p2 (.dK [(k, z)])) p (.dK (putK (mergeK [] kvs) k z)))
theorem pe_spread {X : Cx} {e k v : Expr} {pos : Pos} {te tk tv : TE} (he : PE X e te) (hk : PE X k tk) (hv : PE X v tv) : PE X (.Dict [none, some k] [e, v] pos) (tSpread te tk tv) := by
  refine ⟨fun pins s σ H Q I q => ?_⟩
  have hn := I.hok.fresh (Nat.le_refl s.heap.objs.size)
  have hnr : ∀ (q : Key) (u : Value), (mixKind X.prog X.w).is q u = true → ∀ a, u ≠ .ref a := fun q u h a e => by
    subst e
    rcases keyIs_shape h with ⟨i, t, _, e⟩ | ⟨i, t, _, e⟩ <;> cases e
  have I1 := I.laid (a := s.heap.objs.size) (o := .dK []) (h' := s.heap.push { cls := .type "dict", data := .dict #[] }) (t' := s.toks) (fun _ _ q => Heap.get?_push_of_some _ q) (Nat.le_refl _) (dk_empty s.heap I.big)
  refine wpAny_Dict_spread (thn (he.run pins _ σ _ _ I1 (q _ hn)) fun m s1 ⟨x, H1, I2, rx, a, kvs, ex, ne, hr, hp, hz, q2⟩ => ?_)
  subst ex
  cases rx
  obtain ⟨z, lo, vs, rel, dd⟩ := dk_rd I2.hok hr
  obtain ⟨z0, hd0, vs0, r0, dd0⟩ := dk_of I2.hok hp
  cases r0
  have hl : vs.length = kvs.length := rel.length.symm
  refine wpAny_mergeMapping (knd := mixKind X.prog X.w) hnr (Ne.symm ne) lo dd0 dd (fun h' d1 d2 hs => ?_) (by simp [hl]; exact z)
  have he' : ∃ q, h'.get? s.heap.objs.size = some q := let ⟨q, _, _, hq, _⟩ := d1; ⟨q, hq⟩
  have hm : (mergeK [] kvs).length ≤ sizeLine := Nat.le_trans (length_mergeK kvs []) (by simpa using z)
  have I3 : Inv X pins σ (upd H1 s.heap.objs.size (.dK (mergeK [] kvs))) { s1 with heap := h' } := d_write (t' := s1.toks) I2 (by rw [hp]; trivial) hs he' (dk_new hm hd0 (rel.merge .nil) d1)
  have hn2 := I3.hok.fresh (Nat.le_refl h'.objs.size)
  have hne2 : h'.objs.size ≠ s.heap.objs.size := fun e => by rw [e, upd_same] at hn2; cases hn2
  have hn2' : H1 h'.objs.size = none := by rw [upd_ne hne2] at hn2; exact hn2
  have I4 := I3.laid (a := h'.objs.size) (o := .dK []) (h' := h'.push { cls := .type "dict", data := .dict #[] }) (t' := s1.toks) (fun _ _ q => Heap.get?_push_of_some _ q) (Nat.le_refl _) (dk_empty h' I3.big)
  have hk' : (mergeK [] kvs).length < sizeLine := Nat.lt_of_le_of_lt (length_mergeK kvs []) (by simpa using hz)
  refine wpAny_subDict (knd := mixKind X.prog X.w) (pairs := [(eval k X.env, do let x ← eval v X.env; standAt pos; pure x)]) (by simp) ?_
  refine thn ((pps_cons hk hv (pps_nil (pos := pos))).run pins _ σ _ _ I4 (q2 _ hn2' hne2)) fun ws s3 ⟨ps, H3, I5, vv, kk, zz, ep, hp3, hp4, q3⟩ => ?_
  subst ep
  obtain ⟨rs, c, rk⟩ := carries_of (P := X.prog) (w := X.w) (kvs := [(kk, zz)]) vv
  obtain ⟨y1, hd1, vs1, r1, dd1⟩ := dk_of I5.hok hp4
  cases r1
  refine ⟨rs, c, dd1, fun h2 d3 hs2 => ?_⟩
  have he2 : ∃ q, h2.get? h'.objs.size = some q := let ⟨q, _, _, hq, _⟩ := d3; ⟨q, hq⟩
  have hz1 : (mergeK [] [(kk, zz)]).length ≤ sizeLine := Nat.le_trans (length_mergeK _ []) (by rw [sizeLine_eq]; simp)
  have I6 : Inv X pins σ (upd H3 h'.objs.size (.dK [(kk, zz)])) { s3 with heap := h2, toks := s3.toks + ws.length } := d_write (t' := s3.toks + ws.length) I5 (by rw [hp4]; trivial) hs2 he2 (dk_new (kvs := mergeK [] [(kk, zz)]) hz1 hd1 (rk.merge .nil) d3)
  have hpp : (upd H3 h'.objs.size (.dK [(kk, zz)])) s.heap.objs.size = some (.dK (mergeK [] kvs)) := by rw [upd_ne (Ne.symm hne2)]; exact hp3
  obtain ⟨y2, hd2, vs2, r2, dd2⟩ := dk_of I6.hok hpp
  obtain ⟨y3, hd3, vs3, r3, dd3⟩ := dk_of I6.hok (upd_same (H := H3) (a := h'.objs.size) (o := .dK [(kk, zz)]))
  refine wpAny_mergeMapping (knd := mixKind X.prog X.w) (s := { s3 with heap := h2, toks := s3.toks + ws.length }) hnr (Ne.symm hne2) hd3 dd2 dd3 (fun h3 d4 d5 hs3 => ?_) (by
    rw [← r2.length, ← r3.length]; simp; omega)
  have he3 : ∃ q, h3.get? s.heap.objs.size = some q := let ⟨q, _, _, hq, _⟩ := d4; ⟨q, hq⟩
  refine ⟨.ref s.heap.objs.size, _, d_write (t' := s3.toks + ws.length) I6 (by rw [hpp]; trivial) hs3 he3 (dk_new (kvs := mergeK (mergeK [] kvs) [(kk, zz)]) ?_ hd2 (r3.merge r2) d4), rfl, q3⟩
  have := length_mergeK [(kk, zz)] (mergeK [] kvs)
  simp only [List.length_singleton] at this
  omega
/-- .. of data -/
def spreadF (fe fk fv : EF) : EF := fun env => match fe env with
  | some (.dict kvs, _, e1) => if kvs.length < sizeLine then match fk e1 with
      | some (k, _, e2) => match keyD k with
        | some _ => match fv e2 with
          | some (v, _, e3) => some (.dict (putP (mergeP [] kvs) k v), true, e3)
          | none => none
        | none => none
      | none => none
    else none
  | _ => none
theorem spread_imp {K : PySem.W.Frag} {fe fk fv : EF} {σ : Sl} {H : Hp} {Q : VK} (h : tE K (spreadF fe fk fv) σ H Q) : tSpread (tE K fe) (tE K fk) (tE K fv) σ H Q := by
  obtain ⟨O, fx, env, d, fr, env', r, e, q⟩ := h
  unfold spreadF at e
  split at e
  · rename_i kvs fr1 e1 h1
    split at e
    · rename_i hz
      split at e
      · rename_i k fr2 e2 h2
        split at e
        · rename_i key hk
          split at e
          · rename_i v fr3 e3 h3
            cases e
            intro p hp
            obtain ⟨a0, ea, f⟩ := (np_dict (K := K) (O := Oo O env σ) (ds := []) (vs := []) hp rfl).epost r
            cases ea
            refine ⟨plus O p, fx, env, _, _, _, f.rel, h1, fun x H1 p1 => ?_⟩
            obtain ⟨b1, d1⟩ := p1.weak
            obtain ⟨a, kv, rfl, hr, hd⟩ := d1
            obtain ⟨na, hr⟩ := cut_rd.mp hr
            have hp1 : H1 p = some (.dK []) := (b1.outer p (.inr rfl)).trans upd_same
            refine ⟨a, kv, rfl, fun e => na (.inl (.inr e)), hr, hp1, by rw [denP_length hd]; exact hz, fun p2 hn2 ne2 => ?_⟩
            have r2 : R K (plus O p) fx e1 σ (upd H1 p (.dK (mergeK [] kv))) := push_ok b1.rel
            have np2 : (upd H1 p (.dK (mergeK [] kv))) p2 = none := by rw [upd_ne ne2]; exact hn2
            obtain ⟨a1, ea1, f2⟩ := (np_dict (K := K) (O := Oo (plus O p) e1 σ) (ds := []) (vs := []) np2 rfl).epost r2
            cases ea1
            refine ⟨plus (plus O p) p2, fx, e1, k, fr2, e2, f2.rel, h2, fun y H2 p3 => ?_⟩
            obtain ⟨b2, d2⟩ := p3.weak
            obtain rfl := keyD_kD hk
            have hy : y = kV key := by
              cases key with
              | inl i => exact d2
              | inr i => exact d2
            subst hy
            refine ⟨plus (plus O p) p2, fx, e2, v, fr3, _, b2.rel, h3, fun z H3 p4 => ?_⟩
            obtain ⟨b3, d3⟩ := p4.weak
            have b := b2.trans b3
            have hp3 : H3 p = some (.dK (mergeK [] kv)) := (b.outer p (.inl (.inr rfl))).trans (by rw [upd_ne (Ne.symm ne2), upd_same])
            have hp4 : H3 p2 = some (.dK []) := (b.outer p2 (.inr rfl)).trans upd_same
            refine ⟨key, z, rfl, hp3, hp4, q _ _ ⟨p, rfl, f.new, push_ok (R.unplus (push_ok b.rel)), ?_, fun c hc => ?_, _, upd_same, ?_⟩⟩
            · have s1 : Same (Pb O env σ H) (Pb (plus O p) e1 σ (upd H1 p (.dK (mergeK [] kv)))) := by
                rw [push_pb]; exact f.same.trans b1.same
              have s2 := (s1.trans f2.same).trans b.same
              have s3 : Same (Pb (plus (plus O p) p2) env' σ H3) (Pb (plus O p) env' σ (upd H3 p2 (.dK [(key, z)]))) := by
                rw [← push_pb (u := .dK [(key, z)])]
                exact cut_anti fun c hc => plus_oo.mpr (.inl hc)
              rw [push_pb]
              exact s2.trans s3
            · have nc : c ≠ p := fun e => f.new (e ▸ hc)
              have nc2 : c ≠ p2 := fun e => f2.new (e ▸ .inl hc)
              rw [upd_ne nc, upd_ne nc2, b.outer c (.inl (.inl hc)), upd_ne nc2, upd_ne nc, b1.outer c (.inl hc), upd_ne nc]
            · have s3 : Same (Pb (plus (plus O p) p2) env' σ H3) (Pb (plus O p) env' σ (upd (upd H3 p2 (.dK [(key, z)])) p (.dK (putK (mergeK [] kv) key z)))) := by
                rw [push_pb, ← push_pb (u := .dK [(key, z)])]
                exact cut_anti fun c hc => plus_oo.mpr (.inl hc)
              have s4 : Same (Pb (plus O p) e1 σ H1) (Pb (plus O p) env' σ (upd (upd H3 p2 (.dK [(key, z)])) p (.dK (putK (mergeK [] kv) key z)))) := by
                refine Same.trans ?_ s3
                refine Same.trans ?_ b.same
                refine Same.trans ?_ f2.same
                rw [push_pb]
                exact Same.refl _
              exact denP_put (denP_merge (kvs := []) (kv := []) rfl (denP_le (Le.of_same s4) hd)) (den_le (Le.of_same s3) d3)
          · cases e
        · cases e
      · cases e
    · cases e
  · cases e
theorem se_spread {X : Cx} {e k v : Expr} {pos : Pos} {fe fk fv : EF} (he : SE X fe e) (hk : SE X fk k) (hv : SE X fv v) : SE X (spreadF fe fk fv) (.Dict [none, some k] [e, v] pos) := (pe_spread he hk hv).imp fun _ _ _ h => spread_imp h
end PD

/-! K16: the defs of the text, of data (printed by gen.py). -/
namespace K16
open PySem PD

def s_row : Str := ⟨#[114, 111, 119]⟩
def s_ring : Str := ⟨#[114, 105, 110, 103]⟩
def s_ : Str := ⟨#[]⟩
def s__20_ : Str := ⟨#[32]⟩
def s_any : Str := ⟨#[97, 110, 121]⟩
def s_most : Str := ⟨#[109, 111, 115, 116]⟩
def s_not : Str := ⟨#[110, 111, 116]⟩
def s_n : Str := ⟨#[110]⟩
def s_a : Str := ⟨#[97]⟩
def s_b : Str := ⟨#[98]⟩
def s_c1 : Str := ⟨#[99, 49]⟩
def s_dawn : Str := ⟨#[100, 97, 119, 110]⟩
def s_e : Str := ⟨#[101]⟩
def s_f : Str := ⟨#[102]⟩
def s_lone : Str := ⟨#[108, 111, 110, 101]⟩
def s_s : Str := ⟨#[115]⟩
def s_w : Str := ⟨#[119]⟩
def s_x : Str := ⟨#[120]⟩
def s_t : Str := ⟨#[116]⟩
def s_k : Str := ⟨#[107]⟩
def s_y : Str := ⟨#[121]⟩
def words_of_e1 : EF :=
  varE 1
def words_of_B : SF :=
  retF (opF (consO (ofE (lc2DF [2, 3, 4, 1] [1] 0 valsOf (tupG 3 (consG (nameG 2) (consG (nameG 3) (consG (nameG 4) (nilG))))) (yesT) (seqI (opFA (consO (ofE (varE 2)) (consO (ofE (varE 3)) (nilO))) tupD)) (nameG 1) (yesT) (words_of_e1))) nilO) (g1 sortUD))
def words_of_F : FF := bodyFF false 5 words_of_B
def denied_B : SF :=
  retF (opFA (consO (ofE (opF (consO (varO 0) (consO (ofE (cF (.int 1))) nilO)) (g2 ixD))) (consO (ofE (opF (consO (varO 0) (consO (ofE (cF (.int 0))) nilO)) (g2 ixD))) (consO (ofE (opF (consO (ofE (opF (consO (ofE (cF (.int 1))) nilO) (g1 negD))) (consO (ofE (opF (consO (varO 0) (consO (ofE (cF (.int 2))) nilO)) (g2 ixD))) nilO)) (g2 subD))) (nilO)))) tupD)
def denied_F : FF := bodyFF false 1 denied_B
def ring_b1 : SF :=
  seqF (exprF (mutF "list" 3 (consO (ofE (varE 2)) (nilO)) appendM true))
    (setF 2 (opF (consO (ofE (opF (consO (varO 0) (consO (ofE (opF (consO (varO 1) (consO (varO 2) nilO)) (g2 ixD))) nilO)) (g2 ixD))) (consO (ofE (cF (.int 1))) nilO)) (g2 ixD)))
def ring_e1 : EF :=
  opF (consO (varO 1) (consO (varO 4) nilO)) (g2 ixD)
def ring_B : SF :=
  seqF (setF 3 (opFA (nilO) lstD))
    (seqF (whileL (tstF (opF (consO (varO 2) (consO (varO 3) nilO)) (g2 ninD))) (ring_b1) 64)
    (retF (opF (consO (ofE (lcF [4] (seqI (slF (varO 3) (some (purF "list" (varO 3) (consO (varO 2) (nilO)) (g2 indexD))) none sliceD)) (nameG 4) (yesT) (ring_e1))) (nilO)) (g1 tupleD))))
def ring_F : FF := bodyFF false 5 ring_B
def spread_e1 : EF :=
  varE 7
def spread_e2 : EF :=
  cF (.int 0)
def spread_b1 : SF :=
  seqF (asgF (opF (consO (varO 0) (consO (varO 6) nilO)) (g2 ixD)) (tupG 3 (consG (nameG 8) (consG (nameG 9) (consG (nameG 10) (nilG))))))
    (ifF (tstF (opF (consO (ofE (opF (consO (varO 2) (consO (varO 8) nilO)) (g2 ixD))) (consO (ofE (opF (consO (ofE (opF (consO (varO 2) (consO (varO 9) nilO)) (g2 ixD))) (consO (varO 10) nilO)) (g2 addD))) nilO)) (g2 gtD))) (seqF (asgF (opF (consO (ofE (opF (consO (varO 2) (consO (varO 9) nilO)) (g2 ixD))) (consO (varO 10) nilO)) (g2 addD)) (subG 2 (varO 8)))
    (seqF (asgF (varE 6) (subG 3 (varO 8)))
    (setF 5 (varE 8)))) (nxF))
def spread_e3 : EF :=
  opFA (consO (ofE (varE 7)) (consO (ofE (opF (consO (varO 2) (consO (varO 7) nilO)) (g2 ixD))) (nilO))) tupD
def spread_b2 : SF :=
  seqF (setF 5 (cF .none))
    (seqF (forF (seqI (opF (consO (varO 0) (nilO)) (g1 sortAD))) (nameG 6) (spread_b1))
    (ifF (tstF (opF (consO (varO 5) (consO (ofE (cF .none)) nilO)) (g2 isD))) (retF (opFA (consO (ofE (cF (.str s_row))) (consO (ofE (opF (consO (ofE (lcF [7] (seqI (varE 1)) (nameG 7) (yesT) (spread_e3))) (nilO)) (g1 tupleD))) (nilO))) tupD)) (nxF)))
def spread_B : SF :=
  seqF (setF 1 (callF words_of_F [] (consO (varO 0) (nilO))))
    (seqF (setF 2 (dcF [7] (seqI (varE 1)) (nameG 7) (yesT) (spread_e1) (spread_e2)))
    (seqF (setF 3 (newDF))
    (seqF (forF (rngI (consO (ofE (opF (consO (ofE (opF (consO (varO 1) (nilO)) (g1 lenD))) (consO (ofE (cF (.int 1))) nilO)) (g2 addD))) (nilO))) (nameG 4) (spread_b2))
    (retF (opFA (consO (ofE (cF (.str s_ring))) (consO (ofE (callF ring_F [] (consO (varO 0) (consO (varO 3) (consO (varO 5) (nilO)))))) (nilO))) tupD)))))
def spread_F : FF := bodyFF false 11 spread_B
def is_row_e1 : EF :=
  andE (opF (consO (varO 3) nilO) (g1 (isiD .tuple))) (opF (consO (ofE (opF (consO (varO 3) (nilO)) (g1 lenD))) (consO (ofE (cF (.int 2))) nilO)) (g2 eqD))
def is_row_e2 : EF :=
  varE 4
def is_row_e3 : EF :=
  andE (opF (consO (varO 6) nilO) (g1 (isiD .int))) (notE (opF (consO (varO 6) nilO) (g1 (isiD .bool))))
def is_row_e4 : EF :=
  opF (consO (ofE (opF (consO (ofE (opF (consO (varO 2) (consO (varO 7) nilO)) (g2 ixD))) (consO (ofE (opF (consO (varO 2) (consO (varO 8) nilO)) (g2 ixD))) nilO)) (g2 subD))) (consO (varO 9) nilO)) (g2 leD)
def is_row_B : SF :=
  seqF (ifF (orT (notT (truF (ofE (opF (consO (varO 1) nilO) (g1 (isiD .tuple)))))) (tstF (opF (consO (ofE (cF (.bool false))) (consO (ofE (lcF [3] (seqI (varE 1)) (nameG 3) (yesT) (is_row_e1))) nilO)) (g2 inD)))) (retF (cF (.bool false))) (nxF))
    (seqF (ifF (tstF (opF (consO (ofE (lcF [4, 5] (seqI (varE 1)) (tupG 2 (consG (nameG 4) (consG (nameG 5) (nilG)))) (yesT) (is_row_e2))) (consO (ofE (callF words_of_F [] (consO (varO 0) (nilO)))) nilO)) (g2 neD))) (retF (cF (.bool false))) (nxF))
    (seqF (ifF (tstF (opF (consO (ofE (cF (.bool false))) (consO (ofE (lcF [5, 6] (seqI (varE 1)) (tupG 2 (consG (nameG 5) (consG (nameG 6) (nilG)))) (yesT) (is_row_e3))) nilO)) (g2 inD))) (retF (cF (.bool false))) (nxF))
    (seqF (setF 2 (opF (consO (varO 1) (nilO)) (g1 dictAD)))
    (retF (opF (consO (ofE (cF (.bool false))) (consO (ofE (lcDF [7, 8, 9] 0 valsOf (tupG 3 (consG (nameG 7) (consG (nameG 8) (consG (nameG 9) (nilG))))) (yesT) (is_row_e4))) nilO)) (g2 ninD))))))
def is_row_F : FF := bodyFF false 10 is_row_B
def is_path_e1 : EF :=
  andE (opF (consO (varO 5) nilO) (g1 (isiD .str))) (opF (consO (varO 5) (consO (varO 0) nilO)) (g2 inD))
def is_path_b1 : SF :=
  seqF (asgF (opF (consO (varO 0) (consO (varO 5) nilO)) (g2 ixD)) (tupG 3 (consG (nameG 6) (consG (nameG 7) (consG (nameG 8) (nilG))))))
    (seqF (ifF (tstF (opF (consO (varO 6) (consO (varO 2) nilO)) (g2 neD))) (retF (cF .none)) (nxF))
    (seqF (setF 2 (varE 7))
    (augF 4 (varO 8) iaddD)))
def is_path_B : SF :=
  seqF (ifF (orT (notT (truF (ofE (opF (consO (varO 1) nilO) (g1 (isiD .tuple)))))) (tstF (opF (consO (ofE (cF (.bool false))) (consO (ofE (lcF [5] (seqI (varE 1)) (nameG 5) (yesT) (is_path_e1))) nilO)) (g2 inD)))) (retF (cF .none)) (nxF))
    (seqF (setF 4 (cF (.int 0)))
    (seqF (forF (seqI (varE 1)) (nameG 5) (is_path_b1))
    (retF (iteE (tstF (opF (consO (varO 2) (consO (varO 3) nilO)) (g2 eqD))) (varE 4) (cF .none)))))
def is_path_F : FF := bodyFF false 9 is_path_B
def judge_spread_B : SF :=
  seqF (ifF (orT (notT (truF (ofE (opF (consO (varO 1) nilO) (g1 (isiD .tuple)))))) (tstF (opF (consO (ofE (opF (consO (varO 1) (nilO)) (g1 lenD))) (consO (ofE (cF (.int 2))) nilO)) (g2 neD)))) (retF (cF (.bool false))) (nxF))
    (seqF (ifF (tstF (opF (consO (ofE (opF (consO (varO 1) (consO (ofE (cF (.int 0))) nilO)) (g2 ixD))) (consO (ofE (cF (.str s_row))) nilO)) (g2 eqD))) (retF (callF is_row_F [] (consO (varO 0) (consO (ofE (opF (consO (varO 1) (consO (ofE (cF (.int 1))) nilO)) (g2 ixD))) (nilO))))) (nxF))
    (seqF (ifF (orT (tstF (opF (consO (ofE (opF (consO (varO 1) (consO (ofE (cF (.int 0))) nilO)) (g2 ixD))) (consO (ofE (cF (.str s_ring))) nilO)) (g2 neD))) (orT (notT (truF (ofE (opF (consO (ofE (opF (consO (varO 1) (consO (ofE (cF (.int 1))) nilO)) (g2 ixD))) nilO) (g1 (isiD .tuple)))))) (tstF (opF (consO (ofE (opF (consO (ofE (opF (consO (varO 1) (consO (ofE (cF (.int 1))) nilO)) (g2 ixD))) (nilO)) (g1 lenD))) (consO (ofE (cF (.int 0))) nilO)) (g2 eqD))))) (retF (cF (.bool false))) (nxF))
    (seqF (ifF (orT (notT (truF (ofE (opF (consO (ofE (opF (consO (ofE (opF (consO (varO 1) (consO (ofE (cF (.int 1))) nilO)) (g2 ixD))) (consO (ofE (cF (.int 0))) nilO)) (g2 ixD))) nilO) (g1 (isiD .str)))))) (tstF (opF (consO (ofE (opF (consO (ofE (opF (consO (varO 1) (consO (ofE (cF (.int 1))) nilO)) (g2 ixD))) (consO (ofE (cF (.int 0))) nilO)) (g2 ixD))) (consO (varO 0) nilO)) (g2 ninD)))) (retF (cF (.bool false))) (nxF))
    (seqF (setF 2 (opF (consO (ofE (opF (consO (varO 0) (consO (ofE (opF (consO (ofE (opF (consO (varO 1) (consO (ofE (cF (.int 1))) nilO)) (g2 ixD))) (consO (ofE (cF (.int 0))) nilO)) (g2 ixD))) nilO)) (g2 ixD))) (consO (ofE (cF (.int 0))) nilO)) (g2 ixD)))
    (seqF (setF 3 (callF is_path_F [] (consO (varO 0) (consO (ofE (opF (consO (varO 1) (consO (ofE (cF (.int 1))) nilO)) (g2 ixD))) (consO (varO 2) (consO (varO 2) (nilO)))))))
    (retF (andE (opF (consO (varO 3) (consO (ofE (cF .none)) nilO)) (g2 isntD)) (opF (consO (varO 3) (consO (ofE (cF (.int 0))) nilO)) (g2 ltD)))))))))
def judge_spread_F : FF := bodyFF false 4 judge_spread_B
def with_more_b1 : SF :=
  augF 3 (ofE (cF (.str s__20_))) iaddAD
def with_more_b2 : SF :=
  seqF (whileL (tstF (opF (consO (varO 3) (consO (varO 2) nilO)) (g2 inD))) (with_more_b1) 64)
    (asgF (varE 4) (subG 2 (varO 3)))
def with_more_B : SF :=
  seqF (setF 2 (opF (consO (varO 0) (nilO)) (g1 dictAD)))
    (seqF (setF 3 (cF (.str s_)))
    (seqF (forF (seqI (varE 1)) (nameG 4) (with_more_b2))
    (retF (mvE 2))))
def with_more_F : FF := bodyFF false 5 with_more_B
def most_apart_b1 : SF :=
  seqF (asgF (opF (consO (varO 0) (consO (varO 7) nilO)) (g2 ixD)) (tupG 3 (consG (nameG 10) (consG (nameG 11) (consG (nameG 12) (nilG))))))
    (ifF (andT (tstF (opF (consO (varO 10) (consO (varO 4) nilO)) (g2 inD))) (orT (tstF (opF (consO (varO 11) (consO (varO 4) nilO)) (g2 ninD))) (tstF (opF (consO (ofE (opF (consO (ofE (opF (consO (ofE (opF (consO (varO 4) (consO (varO 10) nilO)) (g2 ixD))) (consO (ofE (cF (.int 0))) nilO)) (g2 ixD))) (consO (varO 12) nilO)) (g2 addD))) (consO (ofE (opF (consO (ofE (opF (consO (varO 4) (consO (varO 11) nilO)) (g2 ixD))) (consO (ofE (cF (.int 0))) nilO)) (g2 ixD))) nilO)) (g2 ltD))))) (asgF (opFA (consO (ofE (opF (consO (ofE (opF (consO (ofE (opF (consO (varO 4) (consO (varO 10) nilO)) (g2 ixD))) (consO (ofE (cF (.int 0))) nilO)) (g2 ixD))) (consO (varO 12) nilO)) (g2 addD))) (consO (ofE (opF (consO (ofE (opF (consO (ofE (opF (consO (varO 4) (consO (varO 10) nilO)) (g2 ixD))) (consO (ofE (cF (.int 1))) nilO)) (g2 ixD))) (consO (ofE (opFA (consO (ofE (varE 7)) (nilO)) tupD)) nilO)) (g2 addD))) (nilO))) tupD) (subG 4 (varO 11))) (nxF))
def most_apart_b2 : SF :=
  forF (seqI (opF (consO (varO 0) (nilO)) (g1 sortAD))) (nameG 7) (most_apart_b1)
def most_apart_B : SF :=
  seqF (setF 3 (callF spread_F [] (consO (ofE (callF with_more_F [] (consO (varO 0) (consO (ofE (opFA (consO (ofE (opFA (consO (ofE (varE 1)) (consO (ofE (varE 1)) (consO (ofE (cF (.int 0))) (nilO)))) tupD)) (consO (ofE (opFA (consO (ofE (varE 2)) (consO (ofE (varE 2)) (consO (ofE (cF (.int 0))) (nilO)))) tupD)) (nilO))) lstD)) (nilO))))) (nilO))))
    (seqF (ifF (tstF (opF (consO (ofE (opF (consO (varO 3) (consO (ofE (cF (.int 0))) nilO)) (g2 ixD))) (consO (ofE (cF (.str s_ring))) nilO)) (g2 eqD))) (retF (mvE 3)) (nxF))
    (seqF (setF 4 (dispF [(varE 1, opFA (consO (ofE (cF (.int 0))) (consO (ofE (opFA (nilO) tupD)) (nilO))) tupD)]))
    (seqF (forF (seqI (callF words_of_F [] (consO (varO 0) (nilO)))) (nameG 5) (most_apart_b2))
    (seqF (ifF (tstF (opF (consO (varO 2) (consO (varO 4) nilO)) (g2 ninD))) (retF (opFA (consO (ofE (cF (.str s_any))) (nilO)) tupD)) (nxF))
    (seqF (asgF (opF (consO (varO 4) (consO (varO 2) nilO)) (g2 ixD)) (tupG 2 (consG (nameG 8) (consG (nameG 9) (nilG)))))
    (seqF (setF 6 (callF spread_F [] (consO (ofE (callF with_more_F [] (consO (varO 0) (consO (ofE (opFA (consO (ofE (opFA (consO (ofE (varE 2)) (consO (ofE (varE 1)) (consO (ofE (opF (consO (varO 8) nilO) (g1 negD))) (nilO)))) tupD)) (nilO)) lstD)) (nilO))))) (nilO))))
    (retF (opFA (consO (ofE (cF (.str s_most))) (consO (ofE (varE 8)) (consO (ofE (varE 9)) (consO (ofE (opF (consO (varO 6) (consO (ofE (cF (.int 1))) nilO)) (g2 ixD))) (nilO))))) tupD))))))))
def most_apart_F : FF := bodyFF false 13 most_apart_B
def judge_most_B : SF :=
  seqF (ifF (orT (notT (truF (ofE (opF (consO (varO 3) nilO) (g1 (isiD .tuple)))))) (orT (tstF (opF (consO (ofE (opF (consO (varO 3) (nilO)) (g1 lenD))) (consO (ofE (cF (.int 4))) nilO)) (g2 neD))) (tstF (opF (consO (ofE (opF (consO (varO 3) (consO (ofE (cF (.int 0))) nilO)) (g2 ixD))) (consO (ofE (cF (.str s_most))) nilO)) (g2 neD))))) (retF (cF (.bool false))) (nxF))
    (seqF (ifF (orT (notT (truF (ofE (opF (consO (ofE (opF (consO (varO 3) (consO (ofE (cF (.int 1))) nilO)) (g2 ixD))) nilO) (g1 (isiD .int)))))) (truF (ofE (opF (consO (ofE (opF (consO (varO 3) (consO (ofE (cF (.int 1))) nilO)) (g2 ixD))) nilO) (g1 (isiD .bool)))))) (retF (cF (.bool false))) (nxF))
    (seqF (setF 4 (callF with_more_F [] (consO (varO 0) (consO (ofE (opFA (consO (ofE (opFA (consO (ofE (varE 2)) (consO (ofE (varE 1)) (consO (ofE (opF (consO (ofE (opF (consO (varO 3) (consO (ofE (cF (.int 1))) nilO)) (g2 ixD))) nilO) (g1 negD))) (nilO)))) tupD)) (nilO)) lstD)) (nilO)))))
    (seqF (ifF (orT (tstF (opF (consO (ofE (callF is_path_F [] (consO (varO 0) (consO (ofE (opF (consO (varO 3) (consO (ofE (cF (.int 2))) nilO)) (g2 ixD))) (consO (varO 1) (consO (varO 2) (nilO))))))) (consO (ofE (opF (consO (varO 3) (consO (ofE (cF (.int 1))) nilO)) (g2 ixD))) nilO)) (g2 neD))) (notT (truF (ofE (callF is_row_F [] (consO (varO 4) (consO (ofE (opF (consO (varO 3) (consO (ofE (cF (.int 3))) nilO)) (g2 ixD))) (nilO)))))))) (retF (cF (.bool false))) (nxF))
    (seqF (setF 5 (opF (consO (ofE (opF (consO (varO 3) (consO (ofE (cF (.int 3))) nilO)) (g2 ixD))) (nilO)) (g1 dictAD)))
    (retF (opF (consO (ofE (opF (consO (ofE (opF (consO (varO 5) (consO (varO 1) nilO)) (g2 ixD))) (consO (ofE (opF (consO (varO 5) (consO (varO 2) nilO)) (g2 ixD))) nilO)) (g2 subD))) (consO (ofE (opF (consO (varO 3) (consO (ofE (cF (.int 1))) nilO)) (g2 ixD))) nilO)) (g2 eqD)))))))
def judge_most_F : FF := bodyFF false 6 judge_most_B
def follows_B : SF :=
  retF (callF spread_F [] (consO (ofE (spreadF (varE 0) (cF (.str s_not)) (callF denied_F [] (consO (varO 1) (nilO))))) (nilO)))
def follows_F : FF := bodyFF false 2 follows_B
def judge_follows_B : SF :=
  retF (callF judge_spread_F [] (consO (ofE (spreadF (varE 0) (cF (.str s_not)) (callF denied_F [] (consO (varO 1) (nilO))))) (consO (varO 2) (nilO))))
def judge_follows_F : FF := bodyFF false 3 judge_follows_B
def _law_next_B : SF :=
  seqF (ifF (andT (tstF (opF (consO (ofE (opF (consO (varO 0) (consO (ofE (cF (.int 2))) nilO)) (g2 ixD))) (consO (ofE (cF (.int 0))) nilO)) (g2 eqD))) (tstF (opF (consO (ofE (opF (consO (varO 0) (consO (ofE (cF (.int 1))) nilO)) (g2 ixD))) (consO (ofE (opF (consO (ofE (opF (consO (varO 0) (consO (ofE (cF (.int 0))) nilO)) (g2 ixD))) (nilO)) (g1 lenD))) nilO)) (g2 ltD)))) (seqF (setF 2 (opF (consO (ofE (opF (consO (varO 0) (consO (ofE (cF (.int 0))) nilO)) (g2 ixD))) (consO (ofE (opF (consO (varO 0) (consO (ofE (cF (.int 1))) nilO)) (g2 ixD))) nilO)) (g2 ixD)))
    (seqF (augS 0 (ofE (cF (.int 1))) (ofE (cF (.int 1))) iaddD)
    (ifF (tstF (opF (consO (varO 2) (consO (ofE (opF (consO (ofE (cF (.int 10))) (consO (ofE (cF (.int 18))) nilO)) (g2 powD))) nilO)) (g2 geD))) (asgF (varE 2) (subG 0 (ofE (cF (.int 2))))) (asgF (opF (consO (ofE (opF (consO (ofE (opF (consO (ofE (opF (consO (ofE (opF (consO (ofE (opF (consO (varO 0) (consO (ofE (cF (.int 3))) nilO)) (g2 ixD))) (consO (ofE (cF (.int 48271))) nilO)) (g2 mulD))) (consO (ofE (opF (consO (ofE (opF (consO (varO 2) (nilO)) (g1 intD))) (consO (ofE (cF (.int 2147483647))) nilO)) (g2 modD))) nilO)) (g2 addD))) (consO (ofE (cF (.int 7))) nilO)) (g2 addD))) (nilO)) (g1 intD))) (consO (ofE (cF (.int 2147483647))) nilO)) (g2 modD)) (subG 0 (ofE (cF (.int 3)))))))) (nxF))
    (seqF (ifF (tstF (opF (consO (ofE (opF (consO (varO 0) (consO (ofE (cF (.int 2))) nilO)) (g2 ixD))) (consO (ofE (cF (.int 0))) nilO)) (g2 gtD))) (seqF (setF 3 (opF (consO (ofE (opF (consO (ofE (opF (consO (varO 0) (consO (ofE (cF (.int 2))) nilO)) (g2 ixD))) (nilO)) (g1 intD))) (consO (varO 1) nilO)) (g2 modD)))
    (seqF (asgF (opF (consO (ofE (opF (consO (varO 0) (consO (ofE (cF (.int 2))) nilO)) (g2 ixD))) (consO (varO 1) nilO)) (g2 fdivD)) (subG 0 (ofE (cF (.int 2)))))
    (retF (mvE 3)))) (nxF))
    (seqF (asgF (opF (consO (ofE (opF (consO (ofE (opF (consO (ofE (opF (consO (ofE (opF (consO (varO 0) (consO (ofE (cF (.int 3))) nilO)) (g2 ixD))) (consO (ofE (cF (.int 69621))) nilO)) (g2 mulD))) (consO (ofE (cF (.int 12345))) nilO)) (g2 addD))) (nilO)) (g1 intD))) (consO (ofE (cF (.int 2147483647))) nilO)) (g2 modD)) (subG 0 (ofE (cF (.int 3)))))
    (retF (opF (consO (ofE (opF (consO (ofE (opF (consO (ofE (opF (consO (varO 0) (consO (ofE (cF (.int 3))) nilO)) (g2 ixD))) (consO (ofE (cF (.int 7))) nilO)) (g2 fdivD))) (nilO)) (g1 intD))) (consO (varO 1) nilO)) (g2 modD)))))
def _law_next_F : FF := bodyFF true 4 _law_next_B
def _law_swapped_b1 : SF :=
  exprF (mutF "list" 3 (consO (ofE (mutF "list" 2 (consO (ofE (callM _law_next_F (consO (varO 0) (consO (ofE (opF (consO (varO 2) (nilO)) (g1 lenD))) (nilO))))) (nilO)) popM true)) (nilO)) appendM true)
def _law_swapped_B : SF :=
  seqF (setF 2 (opF (consO (varO 1) (nilO)) (g1 listD)))
    (seqF (setF 3 (opFA (nilO) lstD))
    (seqF (whileL (tstF (opF (consO (varO 2) (consO (ofE (opFA (nilO) lstD)) nilO)) (g2 neD))) (_law_swapped_b1) 64)
    (retF (mvE 3))))
def _law_swapped_F : FF := bodyFF true 4 _law_swapped_B
def _law_ring_notes_e1 : EF :=
  opFA (consO (ofE (opF (consO (ofE (cF (.str s_n))) (consO (ofE (opF (consO (varO 3) (nilO)) (g1 strD))) nilO)) (g2 addD))) (consO (ofE (opFA (consO (ofE (opF (consO (varO 0) (consO (varO 3) nilO)) (g2 ixD))) (consO (ofE (opF (consO (varO 0) (consO (ofE (opF (consO (ofE (opF (consO (varO 3) (consO (ofE (cF (.int 1))) nilO)) (g2 addD))) (consO (varO 2) nilO)) (g2 modD))) nilO)) (g2 ixD))) (consO (ofE (opF (consO (varO 1) (consO (varO 3) nilO)) (g2 ixD))) (nilO)))) tupD)) (nilO))) tupD
def _law_ring_notes_B : SF :=
  seqF (setF 2 (opF (consO (varO 0) (nilO)) (g1 lenD)))
    (retF (opF (consO (ofE (lcF [3] (rngI (consO (varO 2) (nilO))) (nameG 3) (yesT) (_law_ring_notes_e1))) (nilO)) (g1 dictAD)))
def _law_ring_notes_F : FF := bodyFF false 4 _law_ring_notes_B
def _law_row_is_e1 : EF :=
  varE 3
def _law_row_is_t1 : TF :=
  tstF (opF (consO (ofE (opF (consO (ofE (opF (consO (varO 2) (consO (ofE (opF (consO (ofE (opF (consO (varO 0) (consO (varO 3) nilO)) (g2 ixD))) (consO (ofE (cF (.int 0))) nilO)) (g2 ixD))) nilO)) (g2 ixD))) (consO (ofE (opF (consO (varO 2) (consO (ofE (opF (consO (ofE (opF (consO (varO 0) (consO (varO 3) nilO)) (g2 ixD))) (consO (ofE (cF (.int 1))) nilO)) (g2 ixD))) nilO)) (g2 ixD))) nilO)) (g2 subD))) (consO (ofE (opF (consO (ofE (opF (consO (varO 0) (consO (varO 3) nilO)) (g2 ixD))) (consO (ofE (cF (.int 2))) nilO)) (g2 ixD))) nilO)) (g2 gtD))
def _law_row_is_B : SF :=
  seqF (setF 2 (opF (consO (varO 1) (nilO)) (g1 dictAD)))
    (retF (opF (consO (ofE (lcDF [3] 0 keysOf (nameG 3) (_law_row_is_t1) (_law_row_is_e1))) (consO (ofE (opFA (nilO) lstD)) nilO)) (g2 eqD)))
def _law_row_is_F : FF := bodyFF false 4 _law_row_is_B
def law_s1 : SF :=
  setF 1 (opFA (consO (ofE (opF (consO (varO 0) (nilO)) (g1 listD))) (consO (ofE (cF (.int 0))) (consO (ofE (cF (.int 0))) (consO (ofE (cF (.int 1))) (nilO))))) lstD)
def law_s2 : SF :=
  setF 3 (slF (ofE (callM _law_swapped_F (consO (varO 1) (consO (ofE (opFA (consO (ofE (cF (.str s_a))) (consO (ofE (cF (.str s_b))) (consO (ofE (cF (.str s_c1))) (consO (ofE (cF (.str s_dawn))) (consO (ofE (cF (.str s_e))) (consO (ofE (cF (.str s_f))) (nilO))))))) lstD)) (nilO))))) none (some (opF (consO (ofE (cF (.int 1))) (consO (ofE (callM _law_next_F (consO (varO 1) (consO (ofE (cF (.int 6))) (nilO))))) nilO)) (g2 addD))) sliceD)
def law_e1 : EF :=
  opF (consO (ofE (callM _law_next_F (consO (varO 1) (consO (ofE (cF (.int 9))) (nilO))))) (consO (ofE (cF (.int 4))) nilO)) (g2 subD)
def law_s3 : SF :=
  setF 4 (lcF [23] (seqI (varE 3)) (nameG 23) (yesT) (law_e1))
def law_s4 : SF :=
  setF 5 (callF _law_ring_notes_F [] (consO (varO 3) (consO (varO 4) (nilO))))
def law_s5 : SF :=
  setF 6 (callF spread_F [] (consO (varO 5) (nilO)))
def law_s6 : SF :=
  setF 7 (opF (consO (varO 4) (nilO)) (g1 sumD))
def law_s7 : SF :=
  ifF (orT (tstF (opF (consO (ofE (opF (consO (ofE (opF (consO (varO 6) (consO (ofE (cF (.int 0))) nilO)) (g2 ixD))) (consO (ofE (cF (.str s_ring))) nilO)) (g2 eqD))) (consO (ofE (opF (consO (varO 7) (consO (ofE (cF (.int 0))) nilO)) (g2 ltD))) nilO)) (g2 neD))) (tstF (opF (consO (ofE (callF judge_spread_F [] (consO (varO 5) (consO (varO 6) (nilO))))) (consO (ofE (cF (.bool true))) nilO)) (g2 isntD)))) (retF (cF (.bool false))) (nxF)
def law_e2 : EF :=
  varE 23
def law_s8 : SF :=
  ifF (orT (tstF (opF (consO (ofE (lcF [23, 18] (seqI (opF (consO (varO 6) (consO (ofE (cF (.int 1))) nilO)) (g2 ixD))) (tupG 2 (consG (nameG 23) (consG (nameG 18) (nilG)))) (yesT) (law_e2))) (consO (ofE (opF (consO (varO 3) (nilO)) (g1 sortAD))) nilO)) (g2 neD))) (orT (notT (truF (ofE (callF _law_row_is_F [] (consO (varO 5) (consO (ofE (opF (consO (varO 6) (consO (ofE (cF (.int 1))) nilO)) (g2 ixD))) (nilO))))))) (tstF (opF (consO (ofE (callF judge_spread_F [] (consO (varO 5) (consO (ofE (opFA (consO (ofE (cF (.str s_ring))) (consO (ofE (opF (consO (ofE (opF (consO (varO 5) (nilO)) (g1 sortAD))) (nilO)) (g1 tupleD))) (nilO))) tupD)) (nilO))))) (consO (ofE (cF (.bool false))) nilO)) (g2 isntD))))) (retF (cF (.bool false))) (nxF)
def law_s9 : SF :=
  ifF (tstF (opF (consO (ofE (callF judge_spread_F [] (consO (varO 5) (consO (ofE (opFA (consO (ofE (cF (.str s_row))) (consO (ofE (slF (ofE (opF (consO (varO 6) (consO (ofE (cF (.int 1))) nilO)) (g2 ixD))) (some (cF (.int 1))) none sliceD)) (nilO))) tupD)) (nilO))))) (consO (ofE (cF (.bool false))) nilO)) (g2 isntD))) (retF (cF (.bool false))) (nxF)
def law_s10 : SF :=
  setF 13 (callM _law_next_F (consO (varO 1) (consO (ofE (opF (consO (varO 3) (nilO)) (g1 lenD))) (nilO))))
def law_s11 : SF :=
  setF 14 (callM _law_next_F (consO (varO 1) (consO (ofE (opF (consO (varO 3) (nilO)) (g1 lenD))) (nilO))))
def law_e3 : EF :=
  opF (consO (varO 4) (consO (ofE (opF (consO (ofE (opF (consO (varO 13) (consO (varO 22) nilO)) (g2 addD))) (consO (ofE (opF (consO (varO 3) (nilO)) (g1 lenD))) nilO)) (g2 modD))) nilO)) (g2 ixD)
def law_s12 : SF :=
  setF 15 (opF (consO (ofE (lcF [22] (rngI (consO (ofE (opF (consO (ofE (opF (consO (varO 14) (consO (varO 13) nilO)) (g2 subD))) (consO (ofE (opF (consO (varO 3) (nilO)) (g1 lenD))) nilO)) (g2 modD))) (nilO))) (nameG 22) (yesT) (law_e3))) (nilO)) (g1 sumD))
def law_s13 : SF :=
  setF 16 (callF most_apart_F [] (consO (varO 5) (consO (ofE (opF (consO (varO 3) (consO (varO 13) nilO)) (g2 ixD))) (consO (ofE (opF (consO (varO 3) (consO (varO 14) nilO)) (g2 ixD))) (nilO)))))
def law_s14 : SF :=
  ifF (orT (tstF (opF (consO (ofE (slF (varO 16) none (some (cF (.int 2))) sliceD)) (consO (ofE (opFA (consO (ofE (cF (.str s_most))) (consO (ofE (varE 15)) (nilO))) tupD)) nilO)) (g2 neD))) (tstF (opF (consO (ofE (callF judge_most_F [] (consO (varO 5) (consO (ofE (opF (consO (varO 3) (consO (varO 13) nilO)) (g2 ixD))) (consO (ofE (opF (consO (varO 3) (consO (varO 14) nilO)) (g2 ixD))) (consO (varO 16) (nilO))))))) (consO (ofE (cF (.bool true))) nilO)) (g2 isntD)))) (retF (cF (.bool false))) (nxF)
def law_s15 : SF :=
  setF 17 (opF (consO (ofE (opF (consO (varO 16) (consO (ofE (cF (.int 3))) nilO)) (g2 ixD))) (nilO)) (g1 dictAD))
def law_e4 : EF :=
  opF (consO (ofE (opF (consO (varO 5) (consO (varO 27) nilO)) (g2 ixD))) (consO (ofE (cF (.int 2))) nilO)) (g2 ixD)
def law_s16 : SF :=
  ifF (orT (tstF (opF (consO (ofE (opF (consO (ofE (opF (consO (varO 17) (consO (ofE (opF (consO (varO 3) (consO (varO 13) nilO)) (g2 ixD))) nilO)) (g2 ixD))) (consO (ofE (opF (consO (varO 17) (consO (ofE (opF (consO (varO 3) (consO (varO 14) nilO)) (g2 ixD))) nilO)) (g2 ixD))) nilO)) (g2 subD))) (consO (varO 15) nilO)) (g2 neD))) (orT (notT (truF (ofE (callF _law_row_is_F [] (consO (varO 5) (consO (ofE (opF (consO (varO 16) (consO (ofE (cF (.int 3))) nilO)) (g2 ixD))) (nilO))))))) (tstF (opF (consO (ofE (opF (consO (ofE (lcF [27] (seqI (opF (consO (varO 16) (consO (ofE (cF (.int 2))) nilO)) (g2 ixD))) (nameG 27) (yesT) (law_e4))) (nilO)) (g1 sumD))) (consO (varO 15) nilO)) (g2 neD))))) (retF (cF (.bool false))) (nxF)
def law_s17 : SF :=
  ifF (orT (tstF (opF (consO (ofE (callF judge_most_F [] (consO (varO 5) (consO (ofE (opF (consO (varO 3) (consO (varO 13) nilO)) (g2 ixD))) (consO (ofE (opF (consO (varO 3) (consO (varO 14) nilO)) (g2 ixD))) (consO (ofE (opF (consO (ofE (opFA (consO (ofE (opF (consO (varO 16) (consO (ofE (cF (.int 0))) nilO)) (g2 ixD))) (consO (ofE (opF (consO (varO 15) (consO (ofE (cF (.int 1))) nilO)) (g2 addD))) (nilO))) tupD)) (consO (ofE (slF (varO 16) (some (cF (.int 2))) none sliceD)) nilO)) (g2 addD))) (nilO))))))) (consO (ofE (cF (.bool false))) nilO)) (g2 isntD))) (tstF (opF (consO (ofE (callF judge_most_F [] (consO (varO 5) (consO (ofE (opF (consO (varO 3) (consO (varO 13) nilO)) (g2 ixD))) (consO (ofE (opF (consO (varO 3) (consO (varO 14) nilO)) (g2 ixD))) (consO (ofE (opFA (consO (ofE (cF (.str s_any))) (nilO)) tupD)) (nilO))))))) (consO (ofE (cF (.bool false))) nilO)) (g2 isntD)))) (retF (cF (.bool false))) (nxF)
def law_s18 : SF :=
  setF 24 (opFA (consO (ofE (opF (consO (varO 3) (consO (varO 13) nilO)) (g2 ixD))) (consO (ofE (opF (consO (varO 3) (consO (varO 14) nilO)) (g2 ixD))) (consO (ofE (varE 18)) (nilO)))) tupD)
def law_s19 : SF :=
  setF 12 (callF follows_F [] (consO (varO 5) (consO (varO 24) (nilO))))
def law_s20 : SF :=
  ifF (orT (tstF (opF (consO (ofE (opF (consO (ofE (opF (consO (varO 12) (consO (ofE (cF (.int 0))) nilO)) (g2 ixD))) (consO (ofE (cF (.str s_ring))) nilO)) (g2 eqD))) (consO (ofE (opF (consO (varO 18) (consO (varO 15) nilO)) (g2 geD))) nilO)) (g2 neD))) (tstF (opF (consO (ofE (callF judge_follows_F [] (consO (varO 5) (consO (varO 24) (consO (varO 12) (nilO)))))) (consO (ofE (cF (.bool true))) nilO)) (g2 isntD)))) (retF (cF (.bool false))) (nxF)
def law_s21 : SF :=
  ifF (orT (tstF (opF (consO (ofE (callF denied_F [] (consO (ofE (callF denied_F [] (consO (varO 24) (nilO)))) (nilO)))) (consO (varO 24) nilO)) (g2 neD))) (tstF (opF (consO (ofE (callF denied_F [] (consO (varO 24) (nilO)))) (consO (ofE (opFA (consO (ofE (opF (consO (varO 3) (consO (varO 14) nilO)) (g2 ixD))) (consO (ofE (opF (consO (varO 3) (consO (varO 13) nilO)) (g2 ixD))) (consO (ofE (opF (consO (ofE (opF (consO (ofE (cF (.int 1))) nilO) (g1 negD))) (consO (varO 18) nilO)) (g2 subD))) (nilO)))) tupD)) nilO)) (g2 neD)))) (retF (cF (.bool false))) (nxF)
def law_b1 : SF :=
  seqF (law_s18)
    (seqF (law_s19)
    (seqF (law_s20)
    (law_s21)))
def law_s22 : SF :=
  forF (seqI (opFA (consO (ofE (opF (consO (varO 15) (consO (ofE (cF (.int 1))) nilO)) (g2 subD))) (consO (ofE (varE 15)) (consO (ofE (opF (consO (varO 15) (consO (ofE (cF (.int 2))) nilO)) (g2 addD))) (nilO)))) lstD)) (nameG 18) (law_b1)
def law_s23 : SF :=
  ifF (orT (tstF (opF (consO (ofE (callF most_apart_F [] (consO (varO 5) (consO (ofE (opF (consO (varO 3) (consO (varO 13) nilO)) (g2 ixD))) (consO (ofE (cF (.str s_lone))) (nilO)))))) (consO (ofE (opFA (consO (ofE (cF (.str s_any))) (nilO)) tupD)) nilO)) (g2 neD))) (tstF (opF (consO (ofE (opF (consO (ofE (callF follows_F [] (consO (varO 5) (consO (ofE (opFA (consO (ofE (opF (consO (varO 3) (consO (varO 13) nilO)) (g2 ixD))) (consO (ofE (cF (.str s_lone))) (consO (ofE (opF (consO (ofE (cF (.int 10))) (consO (ofE (cF (.int 6))) nilO)) (g2 powD))) (nilO)))) tupD)) (nilO))))) (consO (ofE (cF (.int 0))) nilO)) (g2 ixD))) (consO (ofE (cF (.str s_row))) nilO)) (g2 neD)))) (retF (cF (.bool false))) (nxF)
def law_e5 : EF :=
  opF (consO (ofE (opF (consO (varO 5) (consO (varO 27) nilO)) (g2 ixD))) (consO (ofE (cF (.int 2))) nilO)) (g2 ixD)
def law_s24 : SF :=
  ifF (orT (tstF (opF (consO (ofE (opF (consO (ofE (lcF [27] (seqI (opF (consO (varO 6) (consO (ofE (cF (.int 1))) nilO)) (g2 ixD))) (nameG 27) (yesT) (law_e5))) (nilO)) (g1 sumD))) (consO (ofE (cF (.int 0))) nilO)) (g2 geD))) (tstF (opF (consO (ofE (opF (consO (ofE (callF most_apart_F [] (consO (varO 5) (consO (ofE (opF (consO (varO 3) (consO (ofE (cF (.int 0))) nilO)) (g2 ixD))) (consO (ofE (opF (consO (varO 3) (consO (ofE (cF (.int 0))) nilO)) (g2 ixD))) (nilO)))))) (consO (ofE (cF (.int 0))) nilO)) (g2 ixD))) (consO (ofE (cF (.str s_ring))) nilO)) (g2 neD)))) (retF (cF (.bool false))) (nxF)
def law_e6 : EF :=
  opFA (consO (ofE (varE 23)) (consO (ofE (cF (.int 0))) (nilO))) tupD
def law_s25 : SF :=
  ifF (tstF (opF (consO (ofE (callF judge_spread_F [] (consO (varO 5) (consO (ofE (opFA (consO (ofE (cF (.str s_row))) (consO (ofE (opF (consO (ofE (lcF [23] (seqI (opF (consO (varO 3) (nilO)) (g1 sortAD))) (nameG 23) (yesT) (law_e6))) (nilO)) (g1 tupleD))) (nilO))) tupD)) (nilO))))) (consO (ofE (cF (.bool false))) nilO)) (g2 isntD))) (retF (cF (.bool false))) (nxF)
def law_s26 : SF :=
  setF 19 (opF (consO (ofE (cF (.str s_n))) (consO (ofE (opF (consO (ofE (callM _law_next_F (consO (varO 1) (consO (ofE (opF (consO (varO 3) (nilO)) (g1 lenD))) (nilO))))) (nilO)) (g1 strD))) nilO)) (g2 addD))
def law_e7 : EF :=
  opFA (consO (ofE (varE 27)) (consO (ofE (opF (consO (varO 5) (consO (varO 27) nilO)) (g2 ixD))) (nilO))) tupD
def law_t1 : TF :=
  tstF (opF (consO (varO 27) (consO (varO 19) nilO)) (g2 neD))
def law_s27 : SF :=
  setF 20 (opF (consO (ofE (lcDF [27] 5 keysOf (nameG 27) (law_t1) (law_e7))) (nilO)) (g1 dictAD))
def law_s28 : SF :=
  ifF (orT (tstF (opF (consO (ofE (opF (consO (ofE (callF spread_F [] (consO (varO 20) (nilO)))) (consO (ofE (cF (.int 0))) nilO)) (g2 ixD))) (consO (ofE (cF (.str s_row))) nilO)) (g2 neD))) (tstF (opF (consO (ofE (callF judge_spread_F [] (consO (varO 20) (consO (varO 6) (nilO))))) (consO (ofE (cF (.bool false))) nilO)) (g2 isntD)))) (retF (cF (.bool false))) (nxF)
def law_s29 : SF :=
  ifF (tstF (opF (consO (varO 7) (consO (ofE (cF (.int 0))) nilO)) (g2 geD))) (seqF (law_s8)
    (seqF (law_s9)
    (seqF (law_s10)
    (seqF (law_s11)
    (seqF (law_s12)
    (seqF (law_s13)
    (seqF (law_s14)
    (seqF (law_s15)
    (seqF (law_s16)
    (seqF (law_s17)
    (seqF (law_s22)
    (law_s23)))))))))))) (seqF (law_s24)
    (seqF (law_s25)
    (seqF (law_s26)
    (seqF (law_s27)
    (law_s28)))))
def law_e8 : EF :=
  opF (consO (ofE (callM _law_next_F (consO (varO 1) (consO (ofE (cF (.int 9))) (nilO))))) (consO (ofE (cF (.int 3))) nilO)) (g2 subD)
def law_e9 : EF :=
  lcF [22] (rngI (consO (ofE (opF (consO (ofE (cF (.int 1))) (consO (ofE (callM _law_next_F (consO (varO 1) (consO (ofE (cF (.int 3))) (nilO))))) nilO)) (g2 addD))) (nilO))) (nameG 22) (yesT) (law_e8)
def law_s30 : SF :=
  setF 8 (lcF [25] (rngI (consO (ofE (opF (consO (ofE (cF (.int 1))) (consO (ofE (callM _law_next_F (consO (varO 1) (consO (ofE (cF (.int 3))) (nilO))))) nilO)) (g2 addD))) (nilO))) (nameG 25) (yesT) (law_e9))
def law_s31 : SF :=
  setF 9 (newDF)
def law_e10 : EF :=
  opF (consO (ofE (opF (consO (ofE (opF (consO (ofE (cF (.str s_w))) (consO (ofE (opF (consO (varO 10) (nilO)) (g1 strD))) nilO)) (g2 addD))) (consO (ofE (cF (.str s_x))) nilO)) (g2 addD))) (consO (ofE (opF (consO (varO 22) (nilO)) (g1 strD))) nilO)) (g2 addD)
def law_s32 : SF :=
  setF 21 (opF (consO (ofE (opF (consO (ofE (opFA (consO (ofE (cF (.str s_s))) (nilO)) lstD)) (consO (ofE (lcF [22] (rngI (consO (ofE (opF (consO (ofE (opF (consO (ofE (opF (consO (varO 8) (consO (varO 10) nilO)) (g2 ixD))) (nilO)) (g1 lenD))) (consO (ofE (cF (.int 1))) nilO)) (g2 subD))) (nilO))) (nameG 22) (yesT) (law_e10))) nilO)) (g2 addD))) (consO (ofE (opFA (consO (ofE (cF (.str s_t))) (nilO)) lstD)) nilO)) (g2 addD))
def law_s33 : SF :=
  asgF (opFA (consO (ofE (opF (consO (varO 21) (consO (varO 22) nilO)) (g2 ixD))) (consO (ofE (opF (consO (varO 21) (consO (ofE (opF (consO (varO 22) (consO (ofE (cF (.int 1))) nilO)) (g2 addD))) nilO)) (g2 ixD))) (consO (ofE (opF (consO (ofE (opF (consO (varO 8) (consO (varO 10) nilO)) (g2 ixD))) (consO (varO 22) nilO)) (g2 ixD))) (nilO)))) tupD) (subG 9 (ofE (opF (consO (ofE (opF (consO (ofE (opF (consO (ofE (cF (.str s_k))) (consO (ofE (opF (consO (varO 10) (nilO)) (g1 strD))) nilO)) (g2 addD))) (consO (ofE (cF (.str s_y))) nilO)) (g2 addD))) (consO (ofE (opF (consO (varO 22) (nilO)) (g1 strD))) nilO)) (g2 addD))))
def law_b2 : SF :=
  law_s33
def law_s34 : SF :=
  forF (rngI (consO (ofE (opF (consO (ofE (opF (consO (varO 8) (consO (varO 10) nilO)) (g2 ixD))) (nilO)) (g1 lenD))) (nilO))) (nameG 22) (law_b2)
def law_b3 : SF :=
  seqF (law_s32)
    (law_s34)
def law_s35 : SF :=
  forF (rngI (consO (ofE (opF (consO (varO 8) (nilO)) (g1 lenD))) (nilO))) (nameG 10) (law_b3)
def law_e11 : EF :=
  opF (consO (varO 26) (nilO)) (g1 sumD)
def law_s36 : SF :=
  setF 11 (opF (consO (ofE (lcF [26] (seqI (varE 8)) (nameG 26) (yesT) (law_e11))) (nilO)) (g1 minLD))
def law_s37 : SF :=
  setF 12 (callF most_apart_F [] (consO (varO 9) (consO (ofE (cF (.str s_s))) (consO (ofE (cF (.str s_t))) (nilO)))))
def law_s38 : SF :=
  ifF (orT (tstF (opF (consO (ofE (slF (varO 12) none (some (cF (.int 2))) sliceD)) (consO (ofE (opFA (consO (ofE (cF (.str s_most))) (consO (ofE (varE 11)) (nilO))) tupD)) nilO)) (g2 neD))) (orT (tstF (opF (consO (ofE (callF judge_most_F [] (consO (varO 9) (consO (ofE (cF (.str s_s))) (consO (ofE (cF (.str s_t))) (consO (varO 12) (nilO))))))) (consO (ofE (cF (.bool true))) nilO)) (g2 isntD))) (tstF (opF (consO (ofE (callF most_apart_F [] (consO (varO 9) (consO (ofE (cF (.str s_t))) (consO (ofE (cF (.str s_s))) (nilO)))))) (consO (ofE (opFA (consO (ofE (cF (.str s_any))) (nilO)) tupD)) nilO)) (g2 neD))))) (retF (cF (.bool false))) (nxF)
def law_s39 : SF :=
  ifF (orT (tstF (opF (consO (ofE (opF (consO (ofE (callF follows_F [] (consO (varO 9) (consO (ofE (opFA (consO (ofE (cF (.str s_s))) (consO (ofE (cF (.str s_t))) (consO (ofE (varE 11)) (nilO)))) tupD)) (nilO))))) (consO (ofE (cF (.int 0))) nilO)) (g2 ixD))) (consO (ofE (cF (.str s_ring))) nilO)) (g2 neD))) (tstF (opF (consO (ofE (opF (consO (ofE (callF follows_F [] (consO (varO 9) (consO (ofE (opFA (consO (ofE (cF (.str s_s))) (consO (ofE (cF (.str s_t))) (consO (ofE (opF (consO (varO 11) (consO (ofE (cF (.int 1))) nilO)) (g2 subD))) (nilO)))) tupD)) (nilO))))) (consO (ofE (cF (.int 0))) nilO)) (g2 ixD))) (consO (ofE (cF (.str s_row))) nilO)) (g2 neD)))) (retF (cF (.bool false))) (nxF)
def law_b4 : SF :=
  seqF (law_s2)
    (seqF (law_s3)
    (seqF (law_s4)
    (seqF (law_s5)
    (seqF (law_s6)
    (seqF (law_s7)
    (seqF (law_s29)
    (seqF (law_s30)
    (seqF (law_s31)
    (seqF (law_s35)
    (seqF (law_s36)
    (seqF (law_s37)
    (seqF (law_s38)
    (law_s39)))))))))))))
def law_s40 : SF :=
  forF (rngI (consO (ofE (cF (.int 3))) (nilO))) (nameG 2) (law_b4)
def law_s41 : SF :=
  retF (andE (opF (consO (ofE (callF spread_F [] (consO (ofE (newDF)) (nilO)))) (consO (ofE (opFA (consO (ofE (cF (.str s_row))) (consO (ofE (opFA (nilO) tupD)) (nilO))) tupD)) nilO)) (g2 eqD)) (opF (consO (ofE (slF (ofE (callF most_apart_F [] (consO (ofE (newDF)) (consO (ofE (cF (.str s_a))) (consO (ofE (cF (.str s_a))) (nilO)))))) none (some (cF (.int 2))) sliceD)) (consO (ofE (opFA (consO (ofE (cF (.str s_most))) (consO (ofE (cF (.int 0))) (nilO))) tupD)) nilO)) (g2 eqD)))
def law_B : SF :=
  seqF (law_s1)
    (seqF (law_s40)
    (law_s41))
def law_F : FF := bodyFF false 28 law_B
end K16

/-! K16: the machine does what those say (printed by gen.py). -/
namespace K16
open PySem PySem.Spec PyProof.Rows L2 PD

def topS (i : Nat) : Stmt := PySem.Challenge.pw_chiplore_k16_how_far_apart_rings_and_way.main.body.getD i (.Pass ⟨0, 0, 0, 0⟩)
theorem s_row_eq : (Str.ofString "row") = s_row := by kernel_rfl
theorem s_ring_eq : (Str.ofString "ring") = s_ring := by kernel_rfl
theorem s__eq : (Str.ofString "") = s_ := by kernel_rfl
theorem s__20__eq : (Str.ofString " ") = s__20_ := by kernel_rfl
theorem s_any_eq : (Str.ofString "any") = s_any := by kernel_rfl
theorem s_most_eq : (Str.ofString "most") = s_most := by kernel_rfl
theorem s_not_eq : (Str.ofString "not") = s_not := by kernel_rfl
theorem s_n_eq : (Str.ofString "n") = s_n := by kernel_rfl
theorem s_a_eq : (Str.ofString "a") = s_a := by kernel_rfl
theorem s_b_eq : (Str.ofString "b") = s_b := by kernel_rfl
theorem s_c1_eq : (Str.ofString "c1") = s_c1 := by kernel_rfl
theorem s_dawn_eq : (Str.ofString "dawn") = s_dawn := by kernel_rfl
theorem s_e_eq : (Str.ofString "e") = s_e := by kernel_rfl
theorem s_f_eq : (Str.ofString "f") = s_f := by kernel_rfl
theorem s_lone_eq : (Str.ofString "lone") = s_lone := by kernel_rfl
theorem s_s_eq : (Str.ofString "s") = s_s := by kernel_rfl
theorem s_w_eq : (Str.ofString "w") = s_w := by kernel_rfl
theorem s_x_eq : (Str.ofString "x") = s_x := by kernel_rfl
theorem s_t_eq : (Str.ofString "t") = s_t := by kernel_rfl
theorem s_k_eq : (Str.ofString "k") = s_k := by kernel_rfl
theorem s_y_eq : (Str.ofString "y") = s_y := by kernel_rfl
abbrev st_words_of : Stmt := topS 1
abbrev st_denied : Stmt := topS 2
abbrev st_ring : Stmt := topS 4
abbrev st_spread : Stmt := topS 3
abbrev st_is_row : Stmt := topS 5
abbrev st_is_path : Stmt := topS 6
abbrev st_judge_spread : Stmt := topS 7
abbrev st_with_more : Stmt := topS 8
abbrev st_most_apart : Stmt := topS 9
abbrev st_judge_most : Stmt := topS 10
abbrev st_follows : Stmt := topS 11
abbrev st_judge_follows : Stmt := topS 12
abbrev st__law_next : Stmt := topS 14
abbrev st__law_swapped : Stmt := topS 15
abbrev st__law_ring_notes : Stmt := topS 16
abbrev st__law_row_is : Stmt := topS 17
abbrev st_law : Stmt := topS 18
abbrev N_words_of : List Str := ["notes", "word", "one", "other", "_"]
theorem sc_words_of : FnScope N_words_of ["notes"] (defScope st_words_of) := ⟨rfl, rfl, rfl, by decide +kernel, rfl, by decide +kernel, by decide +kernel⟩
abbrev N_denied : List Str := ["note"]
theorem sc_denied : FnScope N_denied ["note"] (defScope st_denied) := ⟨rfl, rfl, rfl, by decide +kernel, rfl, by decide +kernel, by decide +kernel⟩
abbrev N_ring : List Str := ["notes", "why", "word", "met", "each"]
theorem sc_ring : FnScope N_ring ["notes", "why", "word"] (defScope st_ring) := ⟨rfl, rfl, rfl, by decide +kernel, rfl, by decide +kernel, by decide +kernel⟩
abbrev N_spread : List Str := ["notes", "words", "found", "why", "_", "last", "name", "word", "one", "other", "most"]
theorem sc_spread : FnScope N_spread ["notes"] (defScope st_spread) := ⟨rfl, rfl, rfl, by decide +kernel, rfl, by decide +kernel, by decide +kernel⟩
abbrev N_is_row : List Str := ["notes", "pairs", "numbers", "pair", "word", "_", "number", "one", "other", "most"]
theorem sc_is_row : FnScope N_is_row ["notes", "pairs"] (defScope st_is_row) := ⟨rfl, rfl, rfl, by decide +kernel, rfl, by decide +kernel, by decide +kernel⟩
abbrev N_is_path : List Str := ["notes", "names", "start", "end", "total", "name", "one", "other", "most"]
theorem sc_is_path : FnScope N_is_path ["notes", "names", "start", "end"] (defScope st_is_path) := ⟨rfl, rfl, rfl, by decide +kernel, rfl, by decide +kernel, by decide +kernel⟩
abbrev N_judge_spread : List Str := ["notes", "told", "start", "total"]
theorem sc_judge_spread : FnScope N_judge_spread ["notes", "told"] (defScope st_judge_spread) := ⟨rfl, rfl, rfl, by decide +kernel, rfl, by decide +kernel, by decide +kernel⟩
abbrev N_with_more : List Str := ["notes", "more", "found", "name", "note"]
theorem sc_with_more : FnScope N_with_more ["notes", "more"] (defScope st_with_more) := ⟨rfl, rfl, rfl, by decide +kernel, rfl, by decide +kernel, by decide +kernel⟩
abbrev N_most_apart : List Str := ["notes", "one", "other", "told", "paths", "_", "row", "name", "total", "names", "start", "end", "most"]
theorem sc_most_apart : FnScope N_most_apart ["notes", "one", "other"] (defScope st_most_apart) := ⟨rfl, rfl, rfl, by decide +kernel, rfl, by decide +kernel, by decide +kernel⟩
abbrev N_judge_most : List Str := ["notes", "one", "other", "told", "tight", "numbers"]
theorem sc_judge_most : FnScope N_judge_most ["notes", "one", "other", "told"] (defScope st_judge_most) := ⟨rfl, rfl, rfl, by decide +kernel, rfl, by decide +kernel, by decide +kernel⟩
abbrev N_follows : List Str := ["notes", "goal"]
theorem sc_follows : FnScope N_follows ["notes", "goal"] (defScope st_follows) := ⟨rfl, rfl, rfl, by decide +kernel, rfl, by decide +kernel, by decide +kernel⟩
abbrev N_judge_follows : List Str := ["notes", "goal", "told"]
theorem sc_judge_follows : FnScope N_judge_follows ["notes", "goal", "told"] (defScope st_judge_follows) := ⟨rfl, rfl, rfl, by decide +kernel, rfl, by decide +kernel, by decide +kernel⟩
abbrev N__law_next : List Str := ["state", "limit", "cell", "value"]
theorem sc__law_next : FnScope N__law_next ["state", "limit"] (defScope st__law_next) := ⟨rfl, rfl, rfl, by decide +kernel, rfl, by decide +kernel, by decide +kernel⟩
abbrev N__law_swapped : List Str := ["state", "rows", "left", "found"]
theorem sc__law_swapped : FnScope N__law_swapped ["state", "rows"] (defScope st__law_swapped) := ⟨rfl, rfl, rfl, by decide +kernel, rfl, by decide +kernel, by decide +kernel⟩
abbrev N__law_ring_notes : List Str := ["words", "numbers", "count", "at"]
theorem sc__law_ring_notes : FnScope N__law_ring_notes ["words", "numbers"] (defScope st__law_ring_notes) := ⟨rfl, rfl, rfl, by decide +kernel, rfl, by decide +kernel, by decide +kernel⟩
abbrev N__law_row_is : List Str := ["notes", "row", "known", "name"]
theorem sc__law_row_is : FnScope N__law_row_is ["notes", "row"] (defScope st__law_row_is) := ⟨rfl, rfl, rfl, by decide +kernel, rfl, by decide +kernel, by decide +kernel⟩
abbrev N_law : List Str := ["script", "state", "turn", "words", "numbers", "notes", "told", "total", "ways", "beside", "place", "least", "found", "up", "to", "due", "most", "known", "number", "gone", "less", "inner", "at", "word", "goal", "k", "way", "name"]
theorem sc_law : FnScope N_law ["script"] (defScope st_law) := ⟨rfl, rfl, rfl, by decide +kernel, rfl, by decide +kernel, by decide +kernel⟩
section
variable {P : Program} {w : World} {K : PySem.W.Frag} {mg : Str → Option Value} {base : Heap}
set_option maxHeartbeats 4000000 in
theorem ok_words_of {f : Addr} {fd : FuncData} (F : Fun K "words_of" "words_of" st_words_of f fd) (m_set : mg "set" = none) (m_sorted : mg "sorted" = none) : FnOk P w K mg base CX0 1 f fd ["notes"] (spF K false 1 words_of_F) :=
  fn_ok (k := 0) (b := false) (B := words_of_B) F sc_words_of fun cdv A outer s H E hr => by
  have hu := hr.units
  have nd := sc_words_of.nd
  exact ss_one (ss_ret (se_sortedSet rfl (by rfl) m_sorted (by rfl) m_set (so_of (se_lc2D jd_vals rfl nd (sik_vals 0) (own := [("one", 2), ("other", 3), ("_", 4), ("word", 1)]) (blkOk_by (by with_unfolding_all rfl)) (by decide) (by decide) (by decide) (fun _ _ _ _ _ => sg_tup rfl (sgs_cons (sg_name nd rfl (by first | exact .inl rfl | exact .inr rfl)) (sgs_cons (sg_name nd rfl (by first | exact .inl rfl | exact .inr rfl)) (sgs_cons (sg_name nd rfl (by first | exact .inl rfl | exact .inr rfl)) (sgs_nil))))) (fun _ _ _ _ _ => sts_nil) (fun _ _ _ _ _ => si_seq (se_tup (sol_cons (so_of (se_var 2)) (sol_cons (so_of (se_var 3)) (sol_nil))))) (fun _ _ _ _ _ => sg_name nd rfl (by first | exact .inl rfl | exact .inr rfl)) (fun _ _ _ _ _ => sts_nil) (fun _ _ _ _ _ => se_var 1)))))
set_option maxHeartbeats 4000000 in
theorem ok_denied {f : Addr} {fd : FuncData} (F : Fun K "denied" "denied" st_denied f fd) : FnOk P w K mg base CX0 1 f fd ["note"] (spF K false 1 denied_F) :=
  fn_ok (k := 0) (b := false) (B := denied_B) F sc_denied fun cdv A outer s H E hr => by
  have hu := hr.units
  have nd := sc_denied.nd
  exact ss_one (ss_ret (se_tup (sol_cons (so_of (se_ix hu (so_var 0) (so_of (se_int)) (fun _ _ => rfl))) (sol_cons (so_of (se_ix hu (so_var 0) (so_of (se_int)) (fun _ _ => rfl))) (sol_cons (so_of (se_bin (or_sub) (so_of (se_un ur_neg (so_of (se_int)))) (so_of (se_ix hu (so_var 0) (so_of (se_int)) (fun _ _ => rfl))))) (sol_nil))))))
set_option maxHeartbeats 4000000 in
theorem ok_ring {f : Addr} {fd : FuncData} (F : Fun K "ring" "ring" st_ring f fd) (m_tuple : mg "tuple" = none) : FnOk P w K mg base CX0 1 f fd ["notes", "why", "word"] (spF K false 3 ring_F) :=
  fn_ok (k := 0) (b := false) (B := ring_B) F sc_ring fun cdv A outer s H E hr => by
  have hu := hr.units
  have nd := sc_ring.nd
  exact ss_cons (ss_set nd rfl (by first | exact .inl rfl | exact .inr rfl) (se_lst (sol_nil)))
    (ss_cons (ss_while 64 PassesOwn.never (st_cmp (or_nin hu) (so_var 2) (so_var 3) (by rfl)) (ss_cons (ss_expr (se_mut (.inl rfl) PySem.F.plainAttrs_list PySem.F.slot_list_append PySem.F.type_list_append mr_append (so_var 3) (sol_cons (so_of (se_var 2)) (sol_nil))))
    (ss_one (ss_set nd rfl (by first | exact .inl rfl | exact .inr rfl) (se_ix hu (so_of (se_ix hu (so_var 0) (so_of (se_ix hu (so_var 1) (so_var 2) (fun _ _ => rfl))) (fun _ _ => rfl))) (so_of (se_int)) (fun _ _ => rfl))))))
    (ss_one (ss_ret (se_callTy cr_tuple (by rfl) m_tuple (by kernel_rfl) (sol_cons (so_of (se_lc rfl nd (si_seq (se_sl (so_var 3) (spo_some (se_pur (.inl rfl) PySem.F.plainAttrs_list PySem.F.slot_list_index PySem.F.type_list_index mp_index (so_var 3) (sol_cons (so_var 2) (sol_nil)))) spo_none)) (own := [("each", 4)]) (blkOk_by (by with_unfolding_all rfl)) (by decide) (fun _ _ _ _ _ => sg_name nd rfl (by first | exact .inl rfl | exact .inr rfl)) (fun _ _ _ _ _ => sts_nil) (fun _ _ _ _ _ => se_ix hu (so_var 1) (so_var 4) (fun _ _ => rfl)))) (sol_nil))))))
set_option maxHeartbeats 4000000 in
theorem ok_spread {f : Addr} {fd : FuncData} (F : Fun K "spread" "spread" st_spread f fd) (h_words_of : Fn P w K mg base 1 "words_of" false 1 words_of_F) (h_ring : Fn P w K mg base 1 "ring" false 3 ring_F) (m_len : mg "len" = none) (m_range : mg "range" = none) (m_sorted : mg "sorted" = none) (m_tuple : mg "tuple" = none) : FnOk P w K mg base CX0 2 f fd ["notes"] (spF K false 1 spread_F) :=
  fn_ok (k := 1) (b := false) (B := spread_B) F sc_spread fun cdv A outer s H E hr => by
  have hu := hr.units
  have nd := sc_spread.nd
  exact ss_cons (ss_set nd rfl (by first | exact .inl rfl | exact .inr rfl) (se_call (h_words_of.kn (hr.mono (by omega))) (by rfl) (sol_cons (so_var 0) (sol_nil)) (len_cons (len_nil)) rfl))
    (ss_cons (ss_set nd rfl (by first | exact .inl rfl | exact .inr rfl) (se_dc rfl nd (si_seq (se_var 1)) (own := [("word", 7)]) (blkOk_by (by with_unfolding_all rfl)) (by decide) (fun _ _ _ _ _ => sg_name nd rfl (by first | exact .inl rfl | exact .inr rfl)) (fun _ _ _ _ _ => sts_nil) (fun _ _ _ _ _ => se_var 7) (fun _ _ _ _ _ => se_int)))
    (ss_cons (ss_set nd rfl (by first | exact .inl rfl | exact .inr rfl) (se_new))
    (ss_cons (ss_for PassesOwn.never rfl (si_rng1 (by rfl) m_range (sol_cons (so_of (se_bin (or_add) (so_of (se_callB cr_len (by rfl) m_len (by kernel_rfl) (sol_cons (so_var 1) (sol_nil)))) (so_of (se_int)))) (sol_nil))) (sg_name nd rfl (by first | exact .inl rfl | exact .inr rfl)) (ss_cons (ss_set nd rfl (by first | exact .inl rfl | exact .inr rfl) (se_non))
    (ss_cons (ss_for PassesOwn.never rfl (si_seq (se_callB (cr_sortA rfl) (by rfl) m_sorted (by kernel_rfl) (sol_cons (so_var 0) (sol_nil)))) (sg_name nd rfl (by first | exact .inl rfl | exact .inr rfl)) (ss_cons (ss_asg (se_ix hu (so_var 0) (so_var 6) (fun _ _ => rfl)) (sg_tup rfl (sgs_cons (sg_name nd rfl (by first | exact .inl rfl | exact .inr rfl)) (sgs_cons (sg_name nd rfl (by first | exact .inl rfl | exact .inr rfl)) (sgs_cons (sg_name nd rfl (by first | exact .inl rfl | exact .inr rfl)) (sgs_nil))))))
    (ss_one (ss_if (st_cmp (or_gt) (so_of (se_ix hu (so_var 2) (so_var 8) (fun _ _ => rfl))) (so_of (se_bin (or_add) (so_of (se_ix hu (so_var 2) (so_var 9) (fun _ _ => rfl))) (so_var 10))) (by rfl)) (ss_cons (ss_asg (se_bin (or_add) (so_of (se_ix hu (so_var 2) (so_var 9) (fun _ _ => rfl))) (so_var 10)) (sg_sub hu (so_var 2) (so_var 8)))
    (ss_cons (ss_asg (se_var 6) (sg_sub hu (so_var 3) (so_var 8)))
    (ss_one (ss_set nd rfl (by first | exact .inl rfl | exact .inr rfl) (se_var 8))))) (ss_nil)))))
    (ss_one (ss_if (st_cmp (or_is) (so_var 5) (so_of (se_non)) (by rfl)) (ss_one (ss_ret (se_tup (sol_cons (so_of ((se_str s_row_eq))) (sol_cons (so_of (se_callTy cr_tuple (by rfl) m_tuple (by kernel_rfl) (sol_cons (so_of (se_lc rfl nd (si_seq (se_var 1)) (own := [("word", 7)]) (blkOk_by (by with_unfolding_all rfl)) (by decide) (fun _ _ _ _ _ => sg_name nd rfl (by first | exact .inl rfl | exact .inr rfl)) (fun _ _ _ _ _ => sts_nil) (fun _ _ _ _ _ => se_tup (sol_cons (so_of (se_var 7)) (sol_cons (so_of (se_ix hu (so_var 2) (so_var 7) (fun _ _ => rfl))) (sol_nil)))))) (sol_nil)))) (sol_nil)))))) (ss_nil))))))
    (ss_one (ss_ret (se_tup (sol_cons (so_of ((se_str s_ring_eq))) (sol_cons (so_of (se_call (h_ring.kn (hr.mono (by omega))) (by rfl) (sol_cons (so_var 0) (sol_cons (so_var 3) (sol_cons (so_var 5) (sol_nil)))) (len_cons (len_cons (len_cons (len_nil)))) rfl)) (sol_nil)))))))))
set_option maxHeartbeats 4000000 in
theorem ok_is_row {f : Addr} {fd : FuncData} (F : Fun K "is_row" "is_row" st_is_row f fd) (h_words_of : Fn P w K mg base 1 "words_of" false 1 words_of_F) (m_bool : mg "bool" = none) (m_dict : mg "dict" = none) (m_int : mg "int" = none) (m_isinstance : mg "isinstance" = none) (m_len : mg "len" = none) (m_tuple : mg "tuple" = none) : FnOk P w K mg base CX0 2 f fd ["notes", "pairs"] (spF K false 2 is_row_F) :=
  fn_ok (k := 1) (b := false) (B := is_row_B) F sc_is_row fun cdv A outer s H E hr => by
  have hu := hr.units
  have nd := sc_is_row.nd
  exact ss_cons (ss_if (st_w (sw_or (st_not (st_truth (so_of (se_isi .tuple (so_var 1) (by rfl) m_isinstance (by rfl) m_tuple (by kernel_rfl))))) (sw_or1 (st_cmp (or_in hu) (so_of (se_bl)) (so_of (se_lc rfl nd (si_seq (se_var 1)) (own := [("pair", 3)]) (blkOk_by (by with_unfolding_all rfl)) (by decide) (fun _ _ _ _ _ => sg_name nd rfl (by first | exact .inl rfl | exact .inr rfl)) (fun _ _ _ _ _ => sts_nil) (fun _ _ _ _ _ => se_and (se_isi .tuple (so_var 3) (by rfl) m_isinstance (by rfl) m_tuple (by kernel_rfl)) (se_one (se_cmp (or_eq hu) (so_of (se_callB cr_len (by rfl) m_len (by kernel_rfl) (sol_cons (so_var 3) (sol_nil)))) (so_of (se_int)) (by rfl)))))) (by rfl))))) (ss_one (ss_ret (se_bl))) (ss_nil))
    (ss_cons (ss_if (st_cmp (or_ne hu) (so_of (se_lc rfl nd (si_seq (se_var 1)) (own := [("word", 4), ("_", 5)]) (blkOk_by (by with_unfolding_all rfl)) (by decide) (fun _ _ _ _ _ => sg_tup rfl (sgs_cons (sg_name nd rfl (by first | exact .inl rfl | exact .inr rfl)) (sgs_cons (sg_name nd rfl (by first | exact .inl rfl | exact .inr rfl)) (sgs_nil)))) (fun _ _ _ _ _ => sts_nil) (fun _ _ _ _ _ => se_var 4))) (so_of (se_call (h_words_of.kn (hr.mono (by omega))) (by rfl) (sol_cons (so_var 0) (sol_nil)) (len_cons (len_nil)) rfl)) (by rfl)) (ss_one (ss_ret (se_bl))) (ss_nil))
    (ss_cons (ss_if (st_cmp (or_in hu) (so_of (se_bl)) (so_of (se_lc rfl nd (si_seq (se_var 1)) (own := [("_", 5), ("number", 6)]) (blkOk_by (by with_unfolding_all rfl)) (by decide) (fun _ _ _ _ _ => sg_tup rfl (sgs_cons (sg_name nd rfl (by first | exact .inl rfl | exact .inr rfl)) (sgs_cons (sg_name nd rfl (by first | exact .inl rfl | exact .inr rfl)) (sgs_nil)))) (fun _ _ _ _ _ => sts_nil) (fun _ _ _ _ _ => se_and (se_isi .int (so_var 6) (by rfl) m_isinstance (by rfl) m_int (by kernel_rfl)) (se_one (se_not (se_isi .bool (so_var 6) (by rfl) m_isinstance (by rfl) m_bool (by kernel_rfl))))))) (by rfl)) (ss_one (ss_ret (se_bl))) (ss_nil))
    (ss_cons (ss_set nd rfl (by first | exact .inl rfl | exact .inr rfl) (se_callTy (cr_dictA rfl) (by rfl) m_dict (by kernel_rfl) (sol_cons (so_var 1) (sol_nil))))
    (ss_one (ss_ret (se_cmp (or_nin hu) (so_of (se_bl)) (so_of (se_lcD jd_vals rfl nd (sik_vals 0) (own := [("one", 7), ("other", 8), ("most", 9)]) (blkOk_by (by with_unfolding_all rfl)) (by decide) (fun _ _ _ _ _ => sg_tup rfl (sgs_cons (sg_name nd rfl (by first | exact .inl rfl | exact .inr rfl)) (sgs_cons (sg_name nd rfl (by first | exact .inl rfl | exact .inr rfl)) (sgs_cons (sg_name nd rfl (by first | exact .inl rfl | exact .inr rfl)) (sgs_nil))))) (fun _ _ _ _ _ => sts_nil) (fun _ _ _ _ _ => se_cmp (or_le) (so_of (se_bin (or_sub) (so_of (se_ix hu (so_var 2) (so_var 7) (fun _ _ => rfl))) (so_of (se_ix hu (so_var 2) (so_var 8) (fun _ _ => rfl))))) (so_var 9) (by rfl)))) (by rfl)))))))
set_option maxHeartbeats 4000000 in
theorem ok_is_path {f : Addr} {fd : FuncData} (F : Fun K "is_path" "is_path" st_is_path f fd) (m_isinstance : mg "isinstance" = none) (m_str : mg "str" = none) (m_tuple : mg "tuple" = none) : FnOk P w K mg base CX0 1 f fd ["notes", "names", "start", "end"] (spF K false 4 is_path_F) :=
  fn_ok (k := 0) (b := false) (B := is_path_B) F sc_is_path fun cdv A outer s H E hr => by
  have hu := hr.units
  have nd := sc_is_path.nd
  exact ss_cons (ss_if (st_w (sw_or (st_not (st_truth (so_of (se_isi .tuple (so_var 1) (by rfl) m_isinstance (by rfl) m_tuple (by kernel_rfl))))) (sw_or1 (st_cmp (or_in hu) (so_of (se_bl)) (so_of (se_lc rfl nd (si_seq (se_var 1)) (own := [("name", 5)]) (blkOk_by (by with_unfolding_all rfl)) (by decide) (fun _ _ _ _ _ => sg_name nd rfl (by first | exact .inl rfl | exact .inr rfl)) (fun _ _ _ _ _ => sts_nil) (fun _ _ _ _ _ => se_and (se_isi .str (so_var 5) (by rfl) m_isinstance (by rfl) m_str (by kernel_rfl)) (se_one (se_cmp (or_in hu) (so_var 5) (so_var 0) (by rfl)))))) (by rfl))))) (ss_one (ss_ret (se_non))) (ss_nil))
    (ss_cons (ss_set nd rfl (by first | exact .inl rfl | exact .inr rfl) (se_int))
    (ss_cons (ss_for PassesOwn.never rfl (si_seq (se_var 1)) (sg_name nd rfl (by first | exact .inl rfl | exact .inr rfl)) (ss_cons (ss_asg (se_ix hu (so_var 0) (so_var 5) (fun _ _ => rfl)) (sg_tup rfl (sgs_cons (sg_name nd rfl (by first | exact .inl rfl | exact .inr rfl)) (sgs_cons (sg_name nd rfl (by first | exact .inl rfl | exact .inr rfl)) (sgs_cons (sg_name nd rfl (by first | exact .inl rfl | exact .inr rfl)) (sgs_nil))))))
    (ss_cons (ss_if (st_cmp (or_ne hu) (so_var 6) (so_var 2) (by rfl)) (ss_one (ss_ret (se_non))) (ss_nil))
    (ss_cons (ss_set nd rfl (by first | exact .inl rfl | exact .inr rfl) (se_var 7))
    (ss_one (ss_aug (i := 4) nd rfl (by first | exact .inl rfl | exact .inr rfl) (so_var 8) pip_add io_add))))))
    (ss_one (ss_ret (se_ite (st_cmp (or_eq hu) (so_var 2) (so_var 3) (by rfl)) (se_var 4) (se_non))))))
set_option maxHeartbeats 4000000 in
theorem ok_judge_spread {f : Addr} {fd : FuncData} (F : Fun K "judge_spread" "judge_spread" st_judge_spread f fd) (h_is_row : Fn P w K mg base 2 "is_row" false 2 is_row_F) (h_is_path : Fn P w K mg base 1 "is_path" false 4 is_path_F) (m_isinstance : mg "isinstance" = none) (m_len : mg "len" = none) (m_str : mg "str" = none) (m_tuple : mg "tuple" = none) : FnOk P w K mg base CX0 3 f fd ["notes", "told"] (spF K false 2 judge_spread_F) :=
  fn_ok (k := 2) (b := false) (B := judge_spread_B) F sc_judge_spread fun cdv A outer s H E hr => by
  have hu := hr.units
  have nd := sc_judge_spread.nd
  exact ss_cons (ss_if (st_w (sw_or (st_not (st_truth (so_of (se_isi .tuple (so_var 1) (by rfl) m_isinstance (by rfl) m_tuple (by kernel_rfl))))) (sw_or1 (st_cmp (or_ne hu) (so_of (se_callB cr_len (by rfl) m_len (by kernel_rfl) (sol_cons (so_var 1) (sol_nil)))) (so_of (se_int)) (by rfl))))) (ss_one (ss_ret (se_bl))) (ss_nil))
    (ss_cons (ss_if (st_cmp (or_eq hu) (so_of (se_ix hu (so_var 1) (so_of (se_int)) (fun _ _ => rfl))) (so_of ((se_str s_row_eq))) (by rfl)) (ss_one (ss_ret (se_call (h_is_row.kn (hr.mono (by omega))) (by rfl) (sol_cons (so_var 0) (sol_cons (so_of (se_ix hu (so_var 1) (so_of (se_int)) (fun _ _ => rfl))) (sol_nil))) (len_cons (len_cons (len_nil))) rfl))) (ss_nil))
    (ss_cons (ss_if (st_w (sw_or (st_cmp (or_ne hu) (so_of (se_ix hu (so_var 1) (so_of (se_int)) (fun _ _ => rfl))) (so_of ((se_str s_ring_eq))) (by rfl)) (sw_or (st_not (st_truth (so_of (se_isi .tuple (so_of (se_ix hu (so_var 1) (so_of (se_int)) (fun _ _ => rfl))) (by rfl) m_isinstance (by rfl) m_tuple (by kernel_rfl))))) (sw_or1 (st_cmp (or_eq hu) (so_of (se_callB cr_len (by rfl) m_len (by kernel_rfl) (sol_cons (so_of (se_ix hu (so_var 1) (so_of (se_int)) (fun _ _ => rfl))) (sol_nil)))) (so_of (se_int)) (by rfl)))))) (ss_one (ss_ret (se_bl))) (ss_nil))
    (ss_cons (ss_if (st_w (sw_or (st_not (st_truth (so_of (se_isi .str (so_of (se_ix hu (so_of (se_ix hu (so_var 1) (so_of (se_int)) (fun _ _ => rfl))) (so_of (se_int)) (fun _ _ => rfl))) (by rfl) m_isinstance (by rfl) m_str (by kernel_rfl))))) (sw_or1 (st_cmp (or_nin hu) (so_of (se_ix hu (so_of (se_ix hu (so_var 1) (so_of (se_int)) (fun _ _ => rfl))) (so_of (se_int)) (fun _ _ => rfl))) (so_var 0) (by rfl))))) (ss_one (ss_ret (se_bl))) (ss_nil))
    (ss_cons (ss_set nd rfl (by first | exact .inl rfl | exact .inr rfl) (se_ix hu (so_of (se_ix hu (so_var 0) (so_of (se_ix hu (so_of (se_ix hu (so_var 1) (so_of (se_int)) (fun _ _ => rfl))) (so_of (se_int)) (fun _ _ => rfl))) (fun _ _ => rfl))) (so_of (se_int)) (fun _ _ => rfl)))
    (ss_cons (ss_set nd rfl (by first | exact .inl rfl | exact .inr rfl) (se_call (h_is_path.kn (hr.mono (by omega))) (by rfl) (sol_cons (so_var 0) (sol_cons (so_of (se_ix hu (so_var 1) (so_of (se_int)) (fun _ _ => rfl))) (sol_cons (so_var 2) (sol_cons (so_var 2) (sol_nil))))) (len_cons (len_cons (len_cons (len_cons (len_nil))))) rfl))
    (ss_one (ss_ret (se_and (se_cmp (or_isnt) (so_var 3) (so_of (se_non)) (by rfl)) (se_one (se_cmp (or_lt) (so_var 3) (so_of (se_int)) (by rfl)))))))))))
set_option maxHeartbeats 4000000 in
theorem ok_with_more {f : Addr} {fd : FuncData} (F : Fun K "with_more" "with_more" st_with_more f fd) (m_dict : mg "dict" = none) : FnOk P w K mg base CX0 1 f fd ["notes", "more"] (spF K false 2 with_more_F) :=
  fn_ok (k := 0) (b := false) (B := with_more_B) F sc_with_more fun cdv A outer s H E hr => by
  have hu := hr.units
  have nd := sc_with_more.nd
  exact ss_cons (ss_set nd rfl (by first | exact .inl rfl | exact .inr rfl) (se_callTy (cr_dictA rfl) (by rfl) m_dict (by kernel_rfl) (sol_cons (so_var 0) (sol_nil))))
    (ss_cons (ss_set nd rfl (by first | exact .inl rfl | exact .inr rfl) ((se_str s__eq)))
    (ss_cons (ss_for PassesOwn.never rfl (si_seq (se_var 1)) (sg_name nd rfl (by first | exact .inl rfl | exact .inr rfl)) (ss_cons (ss_while 64 PassesOwn.never (st_cmp (or_in hu) (so_var 3) (so_var 2) (by rfl)) (ss_one (ss_augA (i := 3) nd rfl (by first | exact .inl rfl | exact .inr rfl) (so_of ((se_str s__20__eq))) pip_addA ao_add)))
    (ss_one (ss_asg (se_var 4) (sg_sub hu (so_var 2) (so_var 3))))))
    (ss_one (ss_ret (se_mv 2)))))
set_option maxHeartbeats 4000000 in
theorem ok_most_apart {f : Addr} {fd : FuncData} (F : Fun K "most_apart" "most_apart" st_most_apart f fd) (h_spread : Fn P w K mg base 2 "spread" false 1 spread_F) (h_with_more : Fn P w K mg base 1 "with_more" false 2 with_more_F) (h_words_of : Fn P w K mg base 1 "words_of" false 1 words_of_F) (m_sorted : mg "sorted" = none) : FnOk P w K mg base CX0 3 f fd ["notes", "one", "other"] (spF K false 3 most_apart_F) :=
  fn_ok (k := 2) (b := false) (B := most_apart_B) F sc_most_apart fun cdv A outer s H E hr => by
  have hu := hr.units
  have nd := sc_most_apart.nd
  exact ss_cons (ss_set nd rfl (by first | exact .inl rfl | exact .inr rfl) (se_call (h_spread.kn (hr.mono (by omega))) (by rfl) (sol_cons (so_of (se_call (h_with_more.kn (hr.mono (by omega))) (by rfl) (sol_cons (so_var 0) (sol_cons (so_of (se_lst (sol_cons (so_of (se_tup (sol_cons (so_of (se_var 1)) (sol_cons (so_of (se_var 1)) (sol_cons (so_of (se_int)) (sol_nil)))))) (sol_cons (so_of (se_tup (sol_cons (so_of (se_var 2)) (sol_cons (so_of (se_var 2)) (sol_cons (so_of (se_int)) (sol_nil)))))) (sol_nil))))) (sol_nil))) (len_cons (len_cons (len_nil))) rfl)) (sol_nil)) (len_cons (len_nil)) rfl))
    (ss_cons (ss_if (st_cmp (or_eq hu) (so_of (se_ix hu (so_var 3) (so_of (se_int)) (fun _ _ => rfl))) (so_of ((se_str s_ring_eq))) (by rfl)) (ss_one (ss_ret (se_mv 3))) (ss_nil))
    (ss_cons (ss_set nd rfl (by first | exact .inl rfl | exact .inr rfl) (se_disp (sps_cons (se_var 1) (se_tup (sol_cons (so_of (se_int)) (sol_cons (so_of (se_tup (sol_nil))) (sol_nil)))) (sps_nil))))
    (ss_cons (ss_for PassesOwn.never rfl (si_seq (se_call (h_words_of.kn (hr.mono (by omega))) (by rfl) (sol_cons (so_var 0) (sol_nil)) (len_cons (len_nil)) rfl)) (sg_name nd rfl (by first | exact .inl rfl | exact .inr rfl)) (ss_one (ss_for PassesOwn.never rfl (si_seq (se_callB (cr_sortA rfl) (by rfl) m_sorted (by kernel_rfl) (sol_cons (so_var 0) (sol_nil)))) (sg_name nd rfl (by first | exact .inl rfl | exact .inr rfl)) (ss_cons (ss_asg (se_ix hu (so_var 0) (so_var 7) (fun _ _ => rfl)) (sg_tup rfl (sgs_cons (sg_name nd rfl (by first | exact .inl rfl | exact .inr rfl)) (sgs_cons (sg_name nd rfl (by first | exact .inl rfl | exact .inr rfl)) (sgs_cons (sg_name nd rfl (by first | exact .inl rfl | exact .inr rfl)) (sgs_nil))))))
    (ss_one (ss_if (st_w (sw_and (st_cmp (or_in hu) (so_var 10) (so_var 4) (by rfl)) (sw_and1 (st_w (sw_or (st_cmp (or_nin hu) (so_var 11) (so_var 4) (by rfl)) (sw_or1 (st_cmp (or_lt) (so_of (se_bin (or_add) (so_of (se_ix hu (so_of (se_ix hu (so_var 4) (so_var 10) (fun _ _ => rfl))) (so_of (se_int)) (fun _ _ => rfl))) (so_var 12))) (so_of (se_ix hu (so_of (se_ix hu (so_var 4) (so_var 11) (fun _ _ => rfl))) (so_of (se_int)) (fun _ _ => rfl))) (by rfl)))))))) (ss_one (ss_asg (se_tup (sol_cons (so_of (se_bin (or_add) (so_of (se_ix hu (so_of (se_ix hu (so_var 4) (so_var 10) (fun _ _ => rfl))) (so_of (se_int)) (fun _ _ => rfl))) (so_var 12))) (sol_cons (so_of (se_bin (or_add) (so_of (se_ix hu (so_of (se_ix hu (so_var 4) (so_var 10) (fun _ _ => rfl))) (so_of (se_int)) (fun _ _ => rfl))) (so_of (se_tup (sol_cons (so_of (se_var 7)) (sol_nil)))))) (sol_nil)))) (sg_sub hu (so_var 4) (so_var 11)))) (ss_nil)))))))
    (ss_cons (ss_if (st_cmp (or_nin hu) (so_var 2) (so_var 4) (by rfl)) (ss_one (ss_ret (se_tup (sol_cons (so_of ((se_str s_any_eq))) (sol_nil))))) (ss_nil))
    (ss_cons (ss_asg (se_ix hu (so_var 4) (so_var 2) (fun _ _ => rfl)) (sg_tup rfl (sgs_cons (sg_name nd rfl (by first | exact .inl rfl | exact .inr rfl)) (sgs_cons (sg_name nd rfl (by first | exact .inl rfl | exact .inr rfl)) (sgs_nil)))))
    (ss_cons (ss_set nd rfl (by first | exact .inl rfl | exact .inr rfl) (se_call (h_spread.kn (hr.mono (by omega))) (by rfl) (sol_cons (so_of (se_call (h_with_more.kn (hr.mono (by omega))) (by rfl) (sol_cons (so_var 0) (sol_cons (so_of (se_lst (sol_cons (so_of (se_tup (sol_cons (so_of (se_var 2)) (sol_cons (so_of (se_var 1)) (sol_cons (so_of (se_un ur_neg (so_var 8))) (sol_nil)))))) (sol_nil)))) (sol_nil))) (len_cons (len_cons (len_nil))) rfl)) (sol_nil)) (len_cons (len_nil)) rfl))
    (ss_one (ss_ret (se_tup (sol_cons (so_of ((se_str s_most_eq))) (sol_cons (so_of (se_var 8)) (sol_cons (so_of (se_var 9)) (sol_cons (so_of (se_ix hu (so_var 6) (so_of (se_int)) (fun _ _ => rfl))) (sol_nil))))))))))))))
set_option maxHeartbeats 4000000 in
theorem ok_judge_most {f : Addr} {fd : FuncData} (F : Fun K "judge_most" "judge_most" st_judge_most f fd) (h_with_more : Fn P w K mg base 1 "with_more" false 2 with_more_F) (h_is_path : Fn P w K mg base 1 "is_path" false 4 is_path_F) (h_is_row : Fn P w K mg base 2 "is_row" false 2 is_row_F) (m_bool : mg "bool" = none) (m_dict : mg "dict" = none) (m_int : mg "int" = none) (m_isinstance : mg "isinstance" = none) (m_len : mg "len" = none) (m_tuple : mg "tuple" = none) : FnOk P w K mg base CX0 3 f fd ["notes", "one", "other", "told"] (spF K false 4 judge_most_F) :=
  fn_ok (k := 2) (b := false) (B := judge_most_B) F sc_judge_most fun cdv A outer s H E hr => by
  have hu := hr.units
  have nd := sc_judge_most.nd
  exact ss_cons (ss_if (st_w (sw_or (st_not (st_truth (so_of (se_isi .tuple (so_var 3) (by rfl) m_isinstance (by rfl) m_tuple (by kernel_rfl))))) (sw_or (st_cmp (or_ne hu) (so_of (se_callB cr_len (by rfl) m_len (by kernel_rfl) (sol_cons (so_var 3) (sol_nil)))) (so_of (se_int)) (by rfl)) (sw_or1 (st_cmp (or_ne hu) (so_of (se_ix hu (so_var 3) (so_of (se_int)) (fun _ _ => rfl))) (so_of ((se_str s_most_eq))) (by rfl)))))) (ss_one (ss_ret (se_bl))) (ss_nil))
    (ss_cons (ss_if (st_w (sw_or (st_not (st_truth (so_of (se_isi .int (so_of (se_ix hu (so_var 3) (so_of (se_int)) (fun _ _ => rfl))) (by rfl) m_isinstance (by rfl) m_int (by kernel_rfl))))) (sw_or1 (st_truth (so_of (se_isi .bool (so_of (se_ix hu (so_var 3) (so_of (se_int)) (fun _ _ => rfl))) (by rfl) m_isinstance (by rfl) m_bool (by kernel_rfl))))))) (ss_one (ss_ret (se_bl))) (ss_nil))
    (ss_cons (ss_set nd rfl (by first | exact .inl rfl | exact .inr rfl) (se_call (h_with_more.kn (hr.mono (by omega))) (by rfl) (sol_cons (so_var 0) (sol_cons (so_of (se_lst (sol_cons (so_of (se_tup (sol_cons (so_of (se_var 2)) (sol_cons (so_of (se_var 1)) (sol_cons (so_of (se_un ur_neg (so_of (se_ix hu (so_var 3) (so_of (se_int)) (fun _ _ => rfl))))) (sol_nil)))))) (sol_nil)))) (sol_nil))) (len_cons (len_cons (len_nil))) rfl))
    (ss_cons (ss_if (st_w (sw_or (st_cmp (or_ne hu) (so_of (se_call (h_is_path.kn (hr.mono (by omega))) (by rfl) (sol_cons (so_var 0) (sol_cons (so_of (se_ix hu (so_var 3) (so_of (se_int)) (fun _ _ => rfl))) (sol_cons (so_var 1) (sol_cons (so_var 2) (sol_nil))))) (len_cons (len_cons (len_cons (len_cons (len_nil))))) rfl)) (so_of (se_ix hu (so_var 3) (so_of (se_int)) (fun _ _ => rfl))) (by rfl)) (sw_or1 (st_not (st_truth (so_of (se_call (h_is_row.kn (hr.mono (by omega))) (by rfl) (sol_cons (so_var 4) (sol_cons (so_of (se_ix hu (so_var 3) (so_of (se_int)) (fun _ _ => rfl))) (sol_nil))) (len_cons (len_cons (len_nil))) rfl))))))) (ss_one (ss_ret (se_bl))) (ss_nil))
    (ss_cons (ss_set nd rfl (by first | exact .inl rfl | exact .inr rfl) (se_callTy (cr_dictA rfl) (by rfl) m_dict (by kernel_rfl) (sol_cons (so_of (se_ix hu (so_var 3) (so_of (se_int)) (fun _ _ => rfl))) (sol_nil))))
    (ss_one (ss_ret (se_cmp (or_eq hu) (so_of (se_bin (or_sub) (so_of (se_ix hu (so_var 5) (so_var 1) (fun _ _ => rfl))) (so_of (se_ix hu (so_var 5) (so_var 2) (fun _ _ => rfl))))) (so_of (se_ix hu (so_var 3) (so_of (se_int)) (fun _ _ => rfl))) (by rfl))))))))
set_option maxHeartbeats 4000000 in
theorem ok_follows {f : Addr} {fd : FuncData} (F : Fun K "follows" "follows" st_follows f fd) (h_spread : Fn P w K mg base 2 "spread" false 1 spread_F) (h_denied : Fn P w K mg base 1 "denied" false 1 denied_F) : FnOk P w K mg base CX0 3 f fd ["notes", "goal"] (spF K false 2 follows_F) :=
  fn_ok (k := 2) (b := false) (B := follows_B) F sc_follows fun cdv A outer s H E hr => by
  have hu := hr.units
  have nd := sc_follows.nd
  exact ss_one (ss_ret (se_call (h_spread.kn (hr.mono (by omega))) (by rfl) (sol_cons (so_of (se_spread (se_var 0) ((se_str s_not_eq)) (se_call (h_denied.kn (hr.mono (by omega))) (by rfl) (sol_cons (so_var 1) (sol_nil)) (len_cons (len_nil)) rfl))) (sol_nil)) (len_cons (len_nil)) rfl))
set_option maxHeartbeats 4000000 in
theorem ok_judge_follows {f : Addr} {fd : FuncData} (F : Fun K "judge_follows" "judge_follows" st_judge_follows f fd) (h_judge_spread : Fn P w K mg base 3 "judge_spread" false 2 judge_spread_F) (h_denied : Fn P w K mg base 1 "denied" false 1 denied_F) : FnOk P w K mg base CX0 4 f fd ["notes", "goal", "told"] (spF K false 3 judge_follows_F) :=
  fn_ok (k := 3) (b := false) (B := judge_follows_B) F sc_judge_follows fun cdv A outer s H E hr => by
  have hu := hr.units
  have nd := sc_judge_follows.nd
  exact ss_one (ss_ret (se_call (h_judge_spread.kn (hr.mono (by omega))) (by rfl) (sol_cons (so_of (se_spread (se_var 0) ((se_str s_not_eq)) (se_call (h_denied.kn (hr.mono (by omega))) (by rfl) (sol_cons (so_var 1) (sol_nil)) (len_cons (len_nil)) rfl))) (sol_cons (so_var 2) (sol_nil))) (len_cons (len_cons (len_nil))) rfl))
set_option maxHeartbeats 4000000 in
theorem ok__law_next {f : Addr} {fd : FuncData} (F : Fun K "_law_next" "_law_next" st__law_next f fd) (m_int : mg "int" = none) (m_len : mg "len" = none) : FnOk P w K mg base CX0 1 f fd ["state", "limit"] (spF K true 2 _law_next_F) :=
  fn_ok (k := 0) (b := true) (B := _law_next_B) F sc__law_next fun cdv A outer s H E hr => by
  have hu := hr.units
  have nd := sc__law_next.nd
  exact ss_cons (ss_if (st_w (sw_and (st_cmp (or_eq hu) (so_of (se_ix hu (so_var 0) (so_of (se_int)) (fun _ _ => rfl))) (so_of (se_int)) (by rfl)) (sw_and1 (st_cmp (or_lt) (so_of (se_ix hu (so_var 0) (so_of (se_int)) (fun _ _ => rfl))) (so_of (se_callB cr_len (by rfl) m_len (by kernel_rfl) (sol_cons (so_of (se_ix hu (so_var 0) (so_of (se_int)) (fun _ _ => rfl))) (sol_nil)))) (by rfl))))) (ss_cons (ss_set nd rfl (by first | exact .inl rfl | exact .inr rfl) (se_ix hu (so_of (se_ix hu (so_var 0) (so_of (se_int)) (fun _ _ => rfl))) (so_of (se_ix hu (so_var 0) (so_of (se_int)) (fun _ _ => rfl))) (fun _ _ => rfl)))
    (ss_cons (ss_augS hu (so_var 0) (so_of (se_int)) (so_of (se_int)) pip_add io_add)
    (ss_one (ss_if (st_cmp (or_ge) (so_var 2) (so_of (se_bin (or_pow) (so_of (se_int)) (so_of (se_int)))) (by rfl)) (ss_one (ss_asg (se_var 2) (sg_sub hu (so_var 0) (so_of (se_int))))) (ss_one (ss_asg (se_bin (or_mod) (so_of (se_callTy cr_int (by rfl) m_int (by kernel_rfl) (sol_cons (so_of (se_bin (or_add) (so_of (se_bin (or_add) (so_of (se_bin (or_mul) (so_of (se_ix hu (so_var 0) (so_of (se_int)) (fun _ _ => rfl))) (so_of (se_int)))) (so_of (se_bin (or_mod) (so_of (se_callTy cr_int (by rfl) m_int (by kernel_rfl) (sol_cons (so_var 2) (sol_nil)))) (so_of (se_int)))))) (so_of (se_int)))) (sol_nil)))) (so_of (se_int))) (sg_sub hu (so_var 0) (so_of (se_int))))))))) (ss_nil))
    (ss_cons (ss_if (st_cmp (or_gt) (so_of (se_ix hu (so_var 0) (so_of (se_int)) (fun _ _ => rfl))) (so_of (se_int)) (by rfl)) (ss_cons (ss_set nd rfl (by first | exact .inl rfl | exact .inr rfl) (se_bin (or_mod) (so_of (se_callTy cr_int (by rfl) m_int (by kernel_rfl) (sol_cons (so_of (se_ix hu (so_var 0) (so_of (se_int)) (fun _ _ => rfl))) (sol_nil)))) (so_var 1)))
    (ss_cons (ss_asg (se_bin (or_fdiv) (so_of (se_ix hu (so_var 0) (so_of (se_int)) (fun _ _ => rfl))) (so_var 1)) (sg_sub hu (so_var 0) (so_of (se_int))))
    (ss_one (ss_ret (se_mv 3))))) (ss_nil))
    (ss_cons (ss_asg (se_bin (or_mod) (so_of (se_callTy cr_int (by rfl) m_int (by kernel_rfl) (sol_cons (so_of (se_bin (or_add) (so_of (se_bin (or_mul) (so_of (se_ix hu (so_var 0) (so_of (se_int)) (fun _ _ => rfl))) (so_of (se_int)))) (so_of (se_int)))) (sol_nil)))) (so_of (se_int))) (sg_sub hu (so_var 0) (so_of (se_int))))
    (ss_one (ss_ret (se_bin (or_mod) (so_of (se_callTy cr_int (by rfl) m_int (by kernel_rfl) (sol_cons (so_of (se_bin (or_fdiv) (so_of (se_ix hu (so_var 0) (so_of (se_int)) (fun _ _ => rfl))) (so_of (se_int)))) (sol_nil)))) (so_var 1))))))
set_option maxHeartbeats 4000000 in
theorem ok__law_swapped {f : Addr} {fd : FuncData} (F : Fun K "_law_swapped" "_law_swapped" st__law_swapped f fd) (h__law_next : Fn P w K mg base 1 "_law_next" true 2 _law_next_F) (m_len : mg "len" = none) (m_list : mg "list" = none) : FnOk P w K mg base CX0 2 f fd ["state", "rows"] (spF K true 2 _law_swapped_F) :=
  fn_ok (k := 1) (b := true) (B := _law_swapped_B) F sc__law_swapped fun cdv A outer s H E hr => by
  have hu := hr.units
  have nd := sc__law_swapped.nd
  exact ss_cons (ss_set nd rfl (by first | exact .inl rfl | exact .inr rfl) (se_callTy cr_list (by rfl) m_list (by kernel_rfl) (sol_cons (so_var 1) (sol_nil))))
    (ss_cons (ss_set nd rfl (by first | exact .inl rfl | exact .inr rfl) (se_lst (sol_nil)))
    (ss_cons (ss_while 64 PassesOwn.never (st_cmp (or_ne hu) (so_var 2) (so_of (se_lst (sol_nil))) (by rfl)) (ss_one (ss_expr (se_mut (.inl rfl) PySem.F.plainAttrs_list PySem.F.slot_list_append PySem.F.type_list_append mr_append (so_var 3) (sol_cons (so_of (se_mut (.inl rfl) PySem.F.plainAttrs_list PySem.F.slot_list_pop PySem.F.type_list_pop mr_pop (so_var 2) (sol_cons (so_of (se_callM (h__law_next.kn (hr.mono (by omega))) (by rfl) (sol_cons (so_var 0) (sol_cons (so_of (se_callB cr_len (by rfl) m_len (by kernel_rfl) (sol_cons (so_var 2) (sol_nil)))) (sol_nil))) (len_cons (len_cons (len_nil))))) (sol_nil)))) (sol_nil))))))
    (ss_one (ss_ret (se_mv 3)))))
set_option maxHeartbeats 4000000 in
theorem ok__law_ring_notes {f : Addr} {fd : FuncData} (F : Fun K "_law_ring_notes" "_law_ring_notes" st__law_ring_notes f fd) (m_dict : mg "dict" = none) (m_len : mg "len" = none) (m_range : mg "range" = none) (m_str : mg "str" = none) : FnOk P w K mg base CX0 1 f fd ["words", "numbers"] (spF K false 2 _law_ring_notes_F) :=
  fn_ok (k := 0) (b := false) (B := _law_ring_notes_B) F sc__law_ring_notes fun cdv A outer s H E hr => by
  have hu := hr.units
  have nd := sc__law_ring_notes.nd
  exact ss_cons (ss_set nd rfl (by first | exact .inl rfl | exact .inr rfl) (se_callB cr_len (by rfl) m_len (by kernel_rfl) (sol_cons (so_var 0) (sol_nil))))
    (ss_one (ss_ret (se_callTy (cr_dictA rfl) (by rfl) m_dict (by kernel_rfl) (sol_cons (so_of (se_lc rfl nd (si_rng1 (by rfl) m_range (sol_cons (so_var 2) (sol_nil))) (own := [("at", 3)]) (blkOk_by (by with_unfolding_all rfl)) (by decide) (fun _ _ _ _ _ => sg_name nd rfl (by first | exact .inl rfl | exact .inr rfl)) (fun _ _ _ _ _ => sts_nil) (fun _ _ _ _ _ => se_tup (sol_cons (so_of (se_bin (or_add) (so_of ((se_str s_n_eq))) (so_of (se_callTy cr_str (by rfl) m_str (by kernel_rfl) (sol_cons (so_var 3) (sol_nil)))))) (sol_cons (so_of (se_tup (sol_cons (so_of (se_ix hu (so_var 0) (so_var 3) (fun _ _ => rfl))) (sol_cons (so_of (se_ix hu (so_var 0) (so_of (se_bin (or_mod) (so_of (se_bin (or_add) (so_var 3) (so_of (se_int)))) (so_var 2))) (fun _ _ => rfl))) (sol_cons (so_of (se_ix hu (so_var 1) (so_var 3) (fun _ _ => rfl))) (sol_nil)))))) (sol_nil)))))) (sol_nil)))))
set_option maxHeartbeats 4000000 in
theorem ok__law_row_is {f : Addr} {fd : FuncData} (F : Fun K "_law_row_is" "_law_row_is" st__law_row_is f fd) (m_dict : mg "dict" = none) : FnOk P w K mg base CX0 1 f fd ["notes", "row"] (spF K false 2 _law_row_is_F) :=
  fn_ok (k := 0) (b := false) (B := _law_row_is_B) F sc__law_row_is fun cdv A outer s H E hr => by
  have hu := hr.units
  have nd := sc__law_row_is.nd
  exact ss_cons (ss_set nd rfl (by first | exact .inl rfl | exact .inr rfl) (se_callTy (cr_dictA rfl) (by rfl) m_dict (by kernel_rfl) (sol_cons (so_var 1) (sol_nil))))
    (ss_one (ss_ret (se_cmp (or_eq hu) (so_of (se_lcD jd_keys rfl nd (sik_keys 0) (own := [("name", 3)]) (blkOk_by (by with_unfolding_all rfl)) (by decide) (fun _ _ _ _ _ => sg_name nd rfl (by first | exact .inl rfl | exact .inr rfl)) (fun _ _ _ _ _ => sts_one (st_cmp (or_gt) (so_of (se_bin (or_sub) (so_of (se_ix hu (so_var 2) (so_of (se_ix hu (so_of (se_ix hu (so_var 0) (so_var 3) (fun _ _ => rfl))) (so_of (se_int)) (fun _ _ => rfl))) (fun _ _ => rfl))) (so_of (se_ix hu (so_var 2) (so_of (se_ix hu (so_of (se_ix hu (so_var 0) (so_var 3) (fun _ _ => rfl))) (so_of (se_int)) (fun _ _ => rfl))) (fun _ _ => rfl))))) (so_of (se_ix hu (so_of (se_ix hu (so_var 0) (so_var 3) (fun _ _ => rfl))) (so_of (se_int)) (fun _ _ => rfl))) (by rfl))) (fun _ _ _ _ _ => se_var 3))) (so_of (se_lst (sol_nil))) (by rfl))))
set_option maxHeartbeats 4000000 in
theorem ok_law {f : Addr} {fd : FuncData} (F : Fun K "law" "law" st_law f fd) (h__law_swapped : Fn P w K mg base 2 "_law_swapped" true 2 _law_swapped_F) (h__law_next : Fn P w K mg base 1 "_law_next" true 2 _law_next_F) (h__law_ring_notes : Fn P w K mg base 1 "_law_ring_notes" false 2 _law_ring_notes_F) (h_spread : Fn P w K mg base 2 "spread" false 1 spread_F) (h_judge_spread : Fn P w K mg base 3 "judge_spread" false 2 judge_spread_F) (h__law_row_is : Fn P w K mg base 1 "_law_row_is" false 2 _law_row_is_F) (h_most_apart : Fn P w K mg base 3 "most_apart" false 3 most_apart_F) (h_judge_most : Fn P w K mg base 3 "judge_most" false 4 judge_most_F) (h_follows : Fn P w K mg base 3 "follows" false 2 follows_F) (h_judge_follows : Fn P w K mg base 4 "judge_follows" false 3 judge_follows_F) (h_denied : Fn P w K mg base 1 "denied" false 1 denied_F) (m_dict : mg "dict" = none) (m_len : mg "len" = none) (m_list : mg "list" = none) (m_min : mg "min" = none) (m_range : mg "range" = none) (m_sorted : mg "sorted" = none) (m_str : mg "str" = none) (m_sum : mg "sum" = none) (m_tuple : mg "tuple" = none) : FnOk P w K mg base CX0 5 f fd ["script"] (spF K false 1 law_F) :=
  fn_ok (k := 4) (b := false) (B := law_B) F sc_law fun cdv A outer s H E hr => by
  have hu := hr.units
  have nd := sc_law.nd
  exact ss_cons (ss_set nd rfl (by first | exact .inl rfl | exact .inr rfl) (se_lst (sol_cons (so_of (se_callTy cr_list (by rfl) m_list (by kernel_rfl) (sol_cons (so_var 0) (sol_nil)))) (sol_cons (so_of (se_int)) (sol_cons (so_of (se_int)) (sol_cons (so_of (se_int)) (sol_nil)))))))
    (ss_cons (ss_for PassesOwn.never rfl (si_rng1 (by rfl) m_range (sol_cons (so_of (se_int)) (sol_nil))) (sg_name nd rfl (by first | exact .inl rfl | exact .inr rfl)) (ss_cons (ss_set nd rfl (by first | exact .inl rfl | exact .inr rfl) (se_sl (so_of (se_callM (h__law_swapped.kn (hr.mono (by omega))) (by rfl) (sol_cons (so_var 1) (sol_cons (so_of (se_lst (sol_cons (so_of ((se_str s_a_eq))) (sol_cons (so_of ((se_str s_b_eq))) (sol_cons (so_of ((se_str s_c1_eq))) (sol_cons (so_of ((se_str s_dawn_eq))) (sol_cons (so_of ((se_str s_e_eq))) (sol_cons (so_of ((se_str s_f_eq))) (sol_nil))))))))) (sol_nil))) (len_cons (len_cons (len_nil))))) spo_none (spo_some (se_bin (or_add) (so_of (se_int)) (so_of (se_callM (h__law_next.kn (hr.mono (by omega))) (by rfl) (sol_cons (so_var 1) (sol_cons (so_of (se_int)) (sol_nil))) (len_cons (len_cons (len_nil)))))))))
    (ss_cons (ss_set nd rfl (by first | exact .inl rfl | exact .inr rfl) (se_lc rfl nd (si_seq (se_var 3)) (own := [("word", 23)]) (blkOk_by (by with_unfolding_all rfl)) (by decide) (fun _ _ _ _ _ => sg_name nd rfl (by first | exact .inl rfl | exact .inr rfl)) (fun _ _ _ _ _ => sts_nil) (fun _ _ _ _ _ => se_bin (or_sub) (so_of (se_callM (h__law_next.kn (hr.mono (by omega))) (by rfl) (sol_cons (so_var 1) (sol_cons (so_of (se_int)) (sol_nil))) (len_cons (len_cons (len_nil))))) (so_of (se_int)))))
    (ss_cons (ss_set nd rfl (by first | exact .inl rfl | exact .inr rfl) (se_call (h__law_ring_notes.kn (hr.mono (by omega))) (by rfl) (sol_cons (so_var 3) (sol_cons (so_var 4) (sol_nil))) (len_cons (len_cons (len_nil))) rfl))
    (ss_cons (ss_set nd rfl (by first | exact .inl rfl | exact .inr rfl) (se_call (h_spread.kn (hr.mono (by omega))) (by rfl) (sol_cons (so_var 5) (sol_nil)) (len_cons (len_nil)) rfl))
    (ss_cons (ss_set nd rfl (by first | exact .inl rfl | exact .inr rfl) (se_callB (cr_sumI rfl) (by rfl) m_sum (by kernel_rfl) (sol_cons (so_var 4) (sol_nil))))
    (ss_cons (ss_if (st_w (sw_or (st_cmp (or_ne hu) (so_of (se_cmp (or_eq hu) (so_of (se_ix hu (so_var 6) (so_of (se_int)) (fun _ _ => rfl))) (so_of ((se_str s_ring_eq))) (by rfl))) (so_of (se_cmp (or_lt) (so_var 7) (so_of (se_int)) (by rfl))) (by rfl)) (sw_or1 (st_cmp (or_isnt) (so_of (se_call (h_judge_spread.kn (hr.mono (by omega))) (by rfl) (sol_cons (so_var 5) (sol_cons (so_var 6) (sol_nil))) (len_cons (len_cons (len_nil))) rfl)) (so_of (se_bl)) (by rfl))))) (ss_one (ss_ret (se_bl))) (ss_nil))
    (ss_cons (ss_if (st_cmp (or_ge) (so_var 7) (so_of (se_int)) (by rfl)) (ss_cons (ss_if (st_w (sw_or (st_cmp (or_ne hu) (so_of (se_lc rfl nd (si_seq (se_ix hu (so_var 6) (so_of (se_int)) (fun _ _ => rfl))) (own := [("word", 23), ("number", 18)]) (blkOk_by (by with_unfolding_all rfl)) (by decide) (fun _ _ _ _ _ => sg_tup rfl (sgs_cons (sg_name nd rfl (by first | exact .inl rfl | exact .inr rfl)) (sgs_cons (sg_name nd rfl (by first | exact .inl rfl | exact .inr rfl)) (sgs_nil)))) (fun _ _ _ _ _ => sts_nil) (fun _ _ _ _ _ => se_var 23))) (so_of (se_callB (cr_sortA rfl) (by rfl) m_sorted (by kernel_rfl) (sol_cons (so_var 3) (sol_nil)))) (by rfl)) (sw_or (st_not (st_truth (so_of (se_call (h__law_row_is.kn (hr.mono (by omega))) (by rfl) (sol_cons (so_var 5) (sol_cons (so_of (se_ix hu (so_var 6) (so_of (se_int)) (fun _ _ => rfl))) (sol_nil))) (len_cons (len_cons (len_nil))) rfl)))) (sw_or1 (st_cmp (or_isnt) (so_of (se_call (h_judge_spread.kn (hr.mono (by omega))) (by rfl) (sol_cons (so_var 5) (sol_cons (so_of (se_tup (sol_cons (so_of ((se_str s_ring_eq))) (sol_cons (so_of (se_callTy cr_tuple (by rfl) m_tuple (by kernel_rfl) (sol_cons (so_of (se_callB (cr_sortA rfl) (by rfl) m_sorted (by kernel_rfl) (sol_cons (so_var 5) (sol_nil)))) (sol_nil)))) (sol_nil))))) (sol_nil))) (len_cons (len_cons (len_nil))) rfl)) (so_of (se_bl)) (by rfl)))))) (ss_one (ss_ret (se_bl))) (ss_nil))
    (ss_cons (ss_if (st_cmp (or_isnt) (so_of (se_call (h_judge_spread.kn (hr.mono (by omega))) (by rfl) (sol_cons (so_var 5) (sol_cons (so_of (se_tup (sol_cons (so_of ((se_str s_row_eq))) (sol_cons (so_of (se_sl (so_of (se_ix hu (so_var 6) (so_of (se_int)) (fun _ _ => rfl))) (spo_some (se_int)) spo_none)) (sol_nil))))) (sol_nil))) (len_cons (len_cons (len_nil))) rfl)) (so_of (se_bl)) (by rfl)) (ss_one (ss_ret (se_bl))) (ss_nil))
    (ss_cons (ss_set nd rfl (by first | exact .inl rfl | exact .inr rfl) (se_callM (h__law_next.kn (hr.mono (by omega))) (by rfl) (sol_cons (so_var 1) (sol_cons (so_of (se_callB cr_len (by rfl) m_len (by kernel_rfl) (sol_cons (so_var 3) (sol_nil)))) (sol_nil))) (len_cons (len_cons (len_nil)))))
    (ss_cons (ss_set nd rfl (by first | exact .inl rfl | exact .inr rfl) (se_callM (h__law_next.kn (hr.mono (by omega))) (by rfl) (sol_cons (so_var 1) (sol_cons (so_of (se_callB cr_len (by rfl) m_len (by kernel_rfl) (sol_cons (so_var 3) (sol_nil)))) (sol_nil))) (len_cons (len_cons (len_nil)))))
    (ss_cons (ss_set nd rfl (by first | exact .inl rfl | exact .inr rfl) (se_callB (cr_sumI rfl) (by rfl) m_sum (by kernel_rfl) (sol_cons (so_of (se_lc rfl nd (si_rng1 (by rfl) m_range (sol_cons (so_of (se_bin (or_mod) (so_of (se_bin (or_sub) (so_var 14) (so_var 13))) (so_of (se_callB cr_len (by rfl) m_len (by kernel_rfl) (sol_cons (so_var 3) (sol_nil)))))) (sol_nil))) (own := [("at", 22)]) (blkOk_by (by with_unfolding_all rfl)) (by decide) (fun _ _ _ _ _ => sg_name nd rfl (by first | exact .inl rfl | exact .inr rfl)) (fun _ _ _ _ _ => sts_nil) (fun _ _ _ _ _ => se_ix hu (so_var 4) (so_of (se_bin (or_mod) (so_of (se_bin (or_add) (so_var 13) (so_var 22))) (so_of (se_callB cr_len (by rfl) m_len (by kernel_rfl) (sol_cons (so_var 3) (sol_nil)))))) (fun _ _ => rfl)))) (sol_nil))))
    (ss_cons (ss_set nd rfl (by first | exact .inl rfl | exact .inr rfl) (se_call (h_most_apart.kn (hr.mono (by omega))) (by rfl) (sol_cons (so_var 5) (sol_cons (so_of (se_ix hu (so_var 3) (so_var 13) (fun _ _ => rfl))) (sol_cons (so_of (se_ix hu (so_var 3) (so_var 14) (fun _ _ => rfl))) (sol_nil)))) (len_cons (len_cons (len_cons (len_nil)))) rfl))
    (ss_cons (ss_if (st_w (sw_or (st_cmp (or_ne hu) (so_of (se_sl (so_var 16) spo_none (spo_some (se_int)))) (so_of (se_tup (sol_cons (so_of ((se_str s_most_eq))) (sol_cons (so_of (se_var 15)) (sol_nil))))) (by rfl)) (sw_or1 (st_cmp (or_isnt) (so_of (se_call (h_judge_most.kn (hr.mono (by omega))) (by rfl) (sol_cons (so_var 5) (sol_cons (so_of (se_ix hu (so_var 3) (so_var 13) (fun _ _ => rfl))) (sol_cons (so_of (se_ix hu (so_var 3) (so_var 14) (fun _ _ => rfl))) (sol_cons (so_var 16) (sol_nil))))) (len_cons (len_cons (len_cons (len_cons (len_nil))))) rfl)) (so_of (se_bl)) (by rfl))))) (ss_one (ss_ret (se_bl))) (ss_nil))
    (ss_cons (ss_set nd rfl (by first | exact .inl rfl | exact .inr rfl) (se_callTy (cr_dictA rfl) (by rfl) m_dict (by kernel_rfl) (sol_cons (so_of (se_ix hu (so_var 16) (so_of (se_int)) (fun _ _ => rfl))) (sol_nil))))
    (ss_cons (ss_if (st_w (sw_or (st_cmp (or_ne hu) (so_of (se_bin (or_sub) (so_of (se_ix hu (so_var 17) (so_of (se_ix hu (so_var 3) (so_var 13) (fun _ _ => rfl))) (fun _ _ => rfl))) (so_of (se_ix hu (so_var 17) (so_of (se_ix hu (so_var 3) (so_var 14) (fun _ _ => rfl))) (fun _ _ => rfl))))) (so_var 15) (by rfl)) (sw_or (st_not (st_truth (so_of (se_call (h__law_row_is.kn (hr.mono (by omega))) (by rfl) (sol_cons (so_var 5) (sol_cons (so_of (se_ix hu (so_var 16) (so_of (se_int)) (fun _ _ => rfl))) (sol_nil))) (len_cons (len_cons (len_nil))) rfl)))) (sw_or1 (st_cmp (or_ne hu) (so_of (se_callB (cr_sumI rfl) (by rfl) m_sum (by kernel_rfl) (sol_cons (so_of (se_lc rfl nd (si_seq (se_ix hu (so_var 16) (so_of (se_int)) (fun _ _ => rfl))) (own := [("name", 27)]) (blkOk_by (by with_unfolding_all rfl)) (by decide) (fun _ _ _ _ _ => sg_name nd rfl (by first | exact .inl rfl | exact .inr rfl)) (fun _ _ _ _ _ => sts_nil) (fun _ _ _ _ _ => se_ix hu (so_of (se_ix hu (so_var 5) (so_var 27) (fun _ _ => rfl))) (so_of (se_int)) (fun _ _ => rfl)))) (sol_nil)))) (so_var 15) (by rfl)))))) (ss_one (ss_ret (se_bl))) (ss_nil))
    (ss_cons (ss_if (st_w (sw_or (st_cmp (or_isnt) (so_of (se_call (h_judge_most.kn (hr.mono (by omega))) (by rfl) (sol_cons (so_var 5) (sol_cons (so_of (se_ix hu (so_var 3) (so_var 13) (fun _ _ => rfl))) (sol_cons (so_of (se_ix hu (so_var 3) (so_var 14) (fun _ _ => rfl))) (sol_cons (so_of (se_bin (or_add) (so_of (se_tup (sol_cons (so_of (se_ix hu (so_var 16) (so_of (se_int)) (fun _ _ => rfl))) (sol_cons (so_of (se_bin (or_add) (so_var 15) (so_of (se_int)))) (sol_nil))))) (so_of (se_sl (so_var 16) (spo_some (se_int)) spo_none)))) (sol_nil))))) (len_cons (len_cons (len_cons (len_cons (len_nil))))) rfl)) (so_of (se_bl)) (by rfl)) (sw_or1 (st_cmp (or_isnt) (so_of (se_call (h_judge_most.kn (hr.mono (by omega))) (by rfl) (sol_cons (so_var 5) (sol_cons (so_of (se_ix hu (so_var 3) (so_var 13) (fun _ _ => rfl))) (sol_cons (so_of (se_ix hu (so_var 3) (so_var 14) (fun _ _ => rfl))) (sol_cons (so_of (se_tup (sol_cons (so_of ((se_str s_any_eq))) (sol_nil)))) (sol_nil))))) (len_cons (len_cons (len_cons (len_cons (len_nil))))) rfl)) (so_of (se_bl)) (by rfl))))) (ss_one (ss_ret (se_bl))) (ss_nil))
    (ss_cons (ss_for PassesOwn.never rfl (si_seq (se_lst (sol_cons (so_of (se_bin (or_sub) (so_var 15) (so_of (se_int)))) (sol_cons (so_of (se_var 15)) (sol_cons (so_of (se_bin (or_add) (so_var 15) (so_of (se_int)))) (sol_nil)))))) (sg_name nd rfl (by first | exact .inl rfl | exact .inr rfl)) (ss_cons (ss_set nd rfl (by first | exact .inl rfl | exact .inr rfl) (se_tup (sol_cons (so_of (se_ix hu (so_var 3) (so_var 13) (fun _ _ => rfl))) (sol_cons (so_of (se_ix hu (so_var 3) (so_var 14) (fun _ _ => rfl))) (sol_cons (so_of (se_var 18)) (sol_nil))))))
    (ss_cons (ss_set nd rfl (by first | exact .inl rfl | exact .inr rfl) (se_call (h_follows.kn (hr.mono (by omega))) (by rfl) (sol_cons (so_var 5) (sol_cons (so_var 24) (sol_nil))) (len_cons (len_cons (len_nil))) rfl))
    (ss_cons (ss_if (st_w (sw_or (st_cmp (or_ne hu) (so_of (se_cmp (or_eq hu) (so_of (se_ix hu (so_var 12) (so_of (se_int)) (fun _ _ => rfl))) (so_of ((se_str s_ring_eq))) (by rfl))) (so_of (se_cmp (or_ge) (so_var 18) (so_var 15) (by rfl))) (by rfl)) (sw_or1 (st_cmp (or_isnt) (so_of (se_call (h_judge_follows.kn (hr.mono (by omega))) (by rfl) (sol_cons (so_var 5) (sol_cons (so_var 24) (sol_cons (so_var 12) (sol_nil)))) (len_cons (len_cons (len_cons (len_nil)))) rfl)) (so_of (se_bl)) (by rfl))))) (ss_one (ss_ret (se_bl))) (ss_nil))
    (ss_one (ss_if (st_w (sw_or (st_cmp (or_ne hu) (so_of (se_call (h_denied.kn (hr.mono (by omega))) (by rfl) (sol_cons (so_of (se_call (h_denied.kn (hr.mono (by omega))) (by rfl) (sol_cons (so_var 24) (sol_nil)) (len_cons (len_nil)) rfl)) (sol_nil)) (len_cons (len_nil)) rfl)) (so_var 24) (by rfl)) (sw_or1 (st_cmp (or_ne hu) (so_of (se_call (h_denied.kn (hr.mono (by omega))) (by rfl) (sol_cons (so_var 24) (sol_nil)) (len_cons (len_nil)) rfl)) (so_of (se_tup (sol_cons (so_of (se_ix hu (so_var 3) (so_var 14) (fun _ _ => rfl))) (sol_cons (so_of (se_ix hu (so_var 3) (so_var 13) (fun _ _ => rfl))) (sol_cons (so_of (se_bin (or_sub) (so_of (se_un ur_neg (so_of (se_int)))) (so_var 18))) (sol_nil)))))) (by rfl))))) (ss_one (ss_ret (se_bl))) (ss_nil)))))))
    (ss_one (ss_if (st_w (sw_or (st_cmp (or_ne hu) (so_of (se_call (h_most_apart.kn (hr.mono (by omega))) (by rfl) (sol_cons (so_var 5) (sol_cons (so_of (se_ix hu (so_var 3) (so_var 13) (fun _ _ => rfl))) (sol_cons (so_of ((se_str s_lone_eq))) (sol_nil)))) (len_cons (len_cons (len_cons (len_nil)))) rfl)) (so_of (se_tup (sol_cons (so_of ((se_str s_any_eq))) (sol_nil)))) (by rfl)) (sw_or1 (st_cmp (or_ne hu) (so_of (se_ix hu (so_of (se_call (h_follows.kn (hr.mono (by omega))) (by rfl) (sol_cons (so_var 5) (sol_cons (so_of (se_tup (sol_cons (so_of (se_ix hu (so_var 3) (so_var 13) (fun _ _ => rfl))) (sol_cons (so_of ((se_str s_lone_eq))) (sol_cons (so_of (se_bin (or_pow) (so_of (se_int)) (so_of (se_int)))) (sol_nil)))))) (sol_nil))) (len_cons (len_cons (len_nil))) rfl)) (so_of (se_int)) (fun _ _ => rfl))) (so_of ((se_str s_row_eq))) (by rfl))))) (ss_one (ss_ret (se_bl))) (ss_nil)))))))))))))) (ss_cons (ss_if (st_w (sw_or (st_cmp (or_ge) (so_of (se_callB (cr_sumI rfl) (by rfl) m_sum (by kernel_rfl) (sol_cons (so_of (se_lc rfl nd (si_seq (se_ix hu (so_var 6) (so_of (se_int)) (fun _ _ => rfl))) (own := [("name", 27)]) (blkOk_by (by with_unfolding_all rfl)) (by decide) (fun _ _ _ _ _ => sg_name nd rfl (by first | exact .inl rfl | exact .inr rfl)) (fun _ _ _ _ _ => sts_nil) (fun _ _ _ _ _ => se_ix hu (so_of (se_ix hu (so_var 5) (so_var 27) (fun _ _ => rfl))) (so_of (se_int)) (fun _ _ => rfl)))) (sol_nil)))) (so_of (se_int)) (by rfl)) (sw_or1 (st_cmp (or_ne hu) (so_of (se_ix hu (so_of (se_call (h_most_apart.kn (hr.mono (by omega))) (by rfl) (sol_cons (so_var 5) (sol_cons (so_of (se_ix hu (so_var 3) (so_of (se_int)) (fun _ _ => rfl))) (sol_cons (so_of (se_ix hu (so_var 3) (so_of (se_int)) (fun _ _ => rfl))) (sol_nil)))) (len_cons (len_cons (len_cons (len_nil)))) rfl)) (so_of (se_int)) (fun _ _ => rfl))) (so_of ((se_str s_ring_eq))) (by rfl))))) (ss_one (ss_ret (se_bl))) (ss_nil))
    (ss_cons (ss_if (st_cmp (or_isnt) (so_of (se_call (h_judge_spread.kn (hr.mono (by omega))) (by rfl) (sol_cons (so_var 5) (sol_cons (so_of (se_tup (sol_cons (so_of ((se_str s_row_eq))) (sol_cons (so_of (se_callTy cr_tuple (by rfl) m_tuple (by kernel_rfl) (sol_cons (so_of (se_lc rfl nd (si_seq (se_callB (cr_sortA rfl) (by rfl) m_sorted (by kernel_rfl) (sol_cons (so_var 3) (sol_nil)))) (own := [("word", 23)]) (blkOk_by (by with_unfolding_all rfl)) (by decide) (fun _ _ _ _ _ => sg_name nd rfl (by first | exact .inl rfl | exact .inr rfl)) (fun _ _ _ _ _ => sts_nil) (fun _ _ _ _ _ => se_tup (sol_cons (so_of (se_var 23)) (sol_cons (so_of (se_int)) (sol_nil)))))) (sol_nil)))) (sol_nil))))) (sol_nil))) (len_cons (len_cons (len_nil))) rfl)) (so_of (se_bl)) (by rfl)) (ss_one (ss_ret (se_bl))) (ss_nil))
    (ss_cons (ss_set nd rfl (by first | exact .inl rfl | exact .inr rfl) (se_bin (or_add) (so_of ((se_str s_n_eq))) (so_of (se_callTy cr_str (by rfl) m_str (by kernel_rfl) (sol_cons (so_of (se_callM (h__law_next.kn (hr.mono (by omega))) (by rfl) (sol_cons (so_var 1) (sol_cons (so_of (se_callB cr_len (by rfl) m_len (by kernel_rfl) (sol_cons (so_var 3) (sol_nil)))) (sol_nil))) (len_cons (len_cons (len_nil))))) (sol_nil))))))
    (ss_cons (ss_set nd rfl (by first | exact .inl rfl | exact .inr rfl) (se_callTy (cr_dictA rfl) (by rfl) m_dict (by kernel_rfl) (sol_cons (so_of (se_lcD jd_keys rfl nd (sik_keys 5) (own := [("name", 27)]) (blkOk_by (by with_unfolding_all rfl)) (by decide) (fun _ _ _ _ _ => sg_name nd rfl (by first | exact .inl rfl | exact .inr rfl)) (fun _ _ _ _ _ => sts_one (st_cmp (or_ne hu) (so_var 27) (so_var 19) (by rfl))) (fun _ _ _ _ _ => se_tup (sol_cons (so_of (se_var 27)) (sol_cons (so_of (se_ix hu (so_var 5) (so_var 27) (fun _ _ => rfl))) (sol_nil)))))) (sol_nil))))
    (ss_one (ss_if (st_w (sw_or (st_cmp (or_ne hu) (so_of (se_ix hu (so_of (se_call (h_spread.kn (hr.mono (by omega))) (by rfl) (sol_cons (so_var 20) (sol_nil)) (len_cons (len_nil)) rfl)) (so_of (se_int)) (fun _ _ => rfl))) (so_of ((se_str s_row_eq))) (by rfl)) (sw_or1 (st_cmp (or_isnt) (so_of (se_call (h_judge_spread.kn (hr.mono (by omega))) (by rfl) (sol_cons (so_var 20) (sol_cons (so_var 6) (sol_nil))) (len_cons (len_cons (len_nil))) rfl)) (so_of (se_bl)) (by rfl))))) (ss_one (ss_ret (se_bl))) (ss_nil))))))))
    (ss_cons (ss_setLc rfl nd rfl rfl (by rfl) (si_rng1 (by rfl) m_range (sol_cons (so_of (se_bin (or_add) (so_of (se_int)) (so_of (se_callM (h__law_next.kn (hr.mono (by omega))) (by rfl) (sol_cons (so_var 1) (sol_cons (so_of (se_int)) (sol_nil))) (len_cons (len_cons (len_nil))))))) (sol_nil))) (own := [("k", 25)]) (blkOk_by (by with_unfolding_all rfl)) (by decide) (fun _ _ _ _ _ => sg_name nd rfl (by first | exact .inl rfl | exact .inr rfl)) (fun _ _ _ _ _ => sts_nil) (fun _ _ _ _ _ => se_lc rfl nd (si_rng1 (by rfl) m_range (sol_cons (so_of (se_bin (or_add) (so_of (se_int)) (so_of (se_callM (h__law_next.kn (hr.mono (by omega))) (by rfl) (sol_cons (so_var 1) (sol_cons (so_of (se_int)) (sol_nil))) (len_cons (len_cons (len_nil))))))) (sol_nil))) (own := [("at", 22)]) (blkOk_by (by with_unfolding_all rfl)) (by decide) (fun _ _ _ _ _ => sg_name nd rfl (by first | exact .inl rfl | exact .inr rfl)) (fun _ _ _ _ _ => sts_nil) (fun _ _ _ _ _ => se_bin (or_sub) (so_of (se_callM (h__law_next.kn (hr.mono (by omega))) (by rfl) (sol_cons (so_var 1) (sol_cons (so_of (se_int)) (sol_nil))) (len_cons (len_cons (len_nil))))) (so_of (se_int)))))
    (ss_cons (ss_set nd rfl (by first | exact .inl rfl | exact .inr rfl) (se_new))
    (ss_cons (ss_for PassesOwn.never rfl (si_rng1 (by rfl) m_range (sol_cons (so_of (se_callB cr_len (by rfl) m_len (by kernel_rfl) (sol_cons (so_var 8) (sol_nil)))) (sol_nil))) (sg_name nd rfl (by first | exact .inl rfl | exact .inr rfl)) (ss_cons (ss_set nd rfl (by first | exact .inl rfl | exact .inr rfl) (se_bin (or_add) (so_of (se_bin (or_add) (so_of (se_lst (sol_cons (so_of ((se_str s_s_eq))) (sol_nil)))) (so_of (se_lc rfl nd (si_rng1 (by rfl) m_range (sol_cons (so_of (se_bin (or_sub) (so_of (se_callB cr_len (by rfl) m_len (by kernel_rfl) (sol_cons (so_of (se_ix hu (so_var 8) (so_var 10) (fun _ _ => rfl))) (sol_nil)))) (so_of (se_int)))) (sol_nil))) (own := [("at", 22)]) (blkOk_by (by with_unfolding_all rfl)) (by decide) (fun _ _ _ _ _ => sg_name nd rfl (by first | exact .inl rfl | exact .inr rfl)) (fun _ _ _ _ _ => sts_nil) (fun _ _ _ _ _ => se_bin (or_add) (so_of (se_bin (or_add) (so_of (se_bin (or_add) (so_of ((se_str s_w_eq))) (so_of (se_callTy cr_str (by rfl) m_str (by kernel_rfl) (sol_cons (so_var 10) (sol_nil)))))) (so_of ((se_str s_x_eq))))) (so_of (se_callTy cr_str (by rfl) m_str (by kernel_rfl) (sol_cons (so_var 22) (sol_nil))))))))) (so_of (se_lst (sol_cons (so_of ((se_str s_t_eq))) (sol_nil))))))
    (ss_one (ss_for PassesOwn.never rfl (si_rng1 (by rfl) m_range (sol_cons (so_of (se_callB cr_len (by rfl) m_len (by kernel_rfl) (sol_cons (so_of (se_ix hu (so_var 8) (so_var 10) (fun _ _ => rfl))) (sol_nil)))) (sol_nil))) (sg_name nd rfl (by first | exact .inl rfl | exact .inr rfl)) (ss_one (ss_asg (se_tup (sol_cons (so_of (se_ix hu (so_var 21) (so_var 22) (fun _ _ => rfl))) (sol_cons (so_of (se_ix hu (so_var 21) (so_of (se_bin (or_add) (so_var 22) (so_of (se_int)))) (fun _ _ => rfl))) (sol_cons (so_of (se_ix hu (so_of (se_ix hu (so_var 8) (so_var 10) (fun _ _ => rfl))) (so_var 22) (fun _ _ => rfl))) (sol_nil))))) (sg_sub hu (so_var 9) (so_of (se_bin (or_add) (so_of (se_bin (or_add) (so_of (se_bin (or_add) (so_of ((se_str s_k_eq))) (so_of (se_callTy cr_str (by rfl) m_str (by kernel_rfl) (sol_cons (so_var 10) (sol_nil)))))) (so_of ((se_str s_y_eq))))) (so_of (se_callTy cr_str (by rfl) m_str (by kernel_rfl) (sol_cons (so_var 22) (sol_nil)))))))))))))
    (ss_cons (ss_set nd rfl (by first | exact .inl rfl | exact .inr rfl) (se_callB (cr_minL rfl) (by rfl) m_min (by kernel_rfl) (sol_cons (so_of (se_lc rfl nd (si_seq (se_var 8)) (own := [("way", 26)]) (blkOk_by (by with_unfolding_all rfl)) (by decide) (fun _ _ _ _ _ => sg_name nd rfl (by first | exact .inl rfl | exact .inr rfl)) (fun _ _ _ _ _ => sts_nil) (fun _ _ _ _ _ => se_callB (cr_sumI rfl) (by rfl) m_sum (by kernel_rfl) (sol_cons (so_var 26) (sol_nil))))) (sol_nil))))
    (ss_cons (ss_set nd rfl (by first | exact .inl rfl | exact .inr rfl) (se_call (h_most_apart.kn (hr.mono (by omega))) (by rfl) (sol_cons (so_var 9) (sol_cons (so_of ((se_str s_s_eq))) (sol_cons (so_of ((se_str s_t_eq))) (sol_nil)))) (len_cons (len_cons (len_cons (len_nil)))) rfl))
    (ss_cons (ss_if (st_w (sw_or (st_cmp (or_ne hu) (so_of (se_sl (so_var 12) spo_none (spo_some (se_int)))) (so_of (se_tup (sol_cons (so_of ((se_str s_most_eq))) (sol_cons (so_of (se_var 11)) (sol_nil))))) (by rfl)) (sw_or (st_cmp (or_isnt) (so_of (se_call (h_judge_most.kn (hr.mono (by omega))) (by rfl) (sol_cons (so_var 9) (sol_cons (so_of ((se_str s_s_eq))) (sol_cons (so_of ((se_str s_t_eq))) (sol_cons (so_var 12) (sol_nil))))) (len_cons (len_cons (len_cons (len_cons (len_nil))))) rfl)) (so_of (se_bl)) (by rfl)) (sw_or1 (st_cmp (or_ne hu) (so_of (se_call (h_most_apart.kn (hr.mono (by omega))) (by rfl) (sol_cons (so_var 9) (sol_cons (so_of ((se_str s_t_eq))) (sol_cons (so_of ((se_str s_s_eq))) (sol_nil)))) (len_cons (len_cons (len_cons (len_nil)))) rfl)) (so_of (se_tup (sol_cons (so_of ((se_str s_any_eq))) (sol_nil)))) (by rfl)))))) (ss_one (ss_ret (se_bl))) (ss_nil))
    (ss_one (ss_if (st_w (sw_or (st_cmp (or_ne hu) (so_of (se_ix hu (so_of (se_call (h_follows.kn (hr.mono (by omega))) (by rfl) (sol_cons (so_var 9) (sol_cons (so_of (se_tup (sol_cons (so_of ((se_str s_s_eq))) (sol_cons (so_of ((se_str s_t_eq))) (sol_cons (so_of (se_var 11)) (sol_nil)))))) (sol_nil))) (len_cons (len_cons (len_nil))) rfl)) (so_of (se_int)) (fun _ _ => rfl))) (so_of ((se_str s_ring_eq))) (by rfl)) (sw_or1 (st_cmp (or_ne hu) (so_of (se_ix hu (so_of (se_call (h_follows.kn (hr.mono (by omega))) (by rfl) (sol_cons (so_var 9) (sol_cons (so_of (se_tup (sol_cons (so_of ((se_str s_s_eq))) (sol_cons (so_of ((se_str s_t_eq))) (sol_cons (so_of (se_bin (or_sub) (so_var 11) (so_of (se_int)))) (sol_nil)))))) (sol_nil))) (len_cons (len_cons (len_nil))) rfl)) (so_of (se_int)) (fun _ _ => rfl))) (so_of ((se_str s_row_eq))) (by rfl))))) (ss_one (ss_ret (se_bl))) (ss_nil)))))))))))))))))
    (ss_one (ss_ret (se_and (se_cmp (or_eq hu) (so_of (se_call (h_spread.kn (hr.mono (by omega))) (by rfl) (sol_cons (so_of (se_new)) (sol_nil)) (len_cons (len_nil)) rfl)) (so_of (se_tup (sol_cons (so_of ((se_str s_row_eq))) (sol_cons (so_of (se_tup (sol_nil))) (sol_nil))))) (by rfl)) (se_one (se_cmp (or_eq hu) (so_of (se_sl (so_of (se_call (h_most_apart.kn (hr.mono (by omega))) (by rfl) (sol_cons (so_of (se_new)) (sol_cons (so_of ((se_str s_a_eq))) (sol_cons (so_of ((se_str s_a_eq))) (sol_nil)))) (len_cons (len_cons (len_cons (len_nil)))) rfl)) spo_none (spo_some (se_int)))) (so_of (se_tup (sol_cons (so_of ((se_str s_most_eq))) (sol_cons (so_of (se_int)) (sol_nil))))) (by rfl)))))))
end
end K16

/-! K16M: rings and rows of differences: relaxing in rounds, in plain Lean. -/
namespace K16
section
variable {α : Type} [DecidableEq α]
/-- a note: one, other, most -/
abbrev Nt (α : Type) := α × α × Int
def lk {β : Type} : List (α × β) → α → Option β
  | [], _ => none
  | (a, v) :: r, k => if a = k then some v else lk r k
def put {β : Type} (m : List (α × β)) (k : α) (v : β) : List (α × β) := if (lk m k).isSome then m.map (fun p => if p.1 = k then (p.1, v) else p) else m ++ [(k, v)]
theorem lk_map_put {β : Type} (k : α) (v : β) (x : α) : ∀ m : List (α × β), lk (m.map fun p => if p.1 = k then (p.1, v) else p) x = if x = k then (lk m x).map (fun _ => v) else lk m x
  | [] => by simp [lk]
  | (a, u) :: r => by
    have ih := lk_map_put k v x r
    by_cases h : a = k
    · subst h
      by_cases h2 : a = x
      · subst h2; simp [lk]
      · have h3 : ¬ x = a := fun e => h2 e.symm
        simp [lk, h2, h3] at ih ⊢
        exact ih
    · by_cases h2 : a = x
      · subst h2; simp [lk, h]
      · simp [lk, h, h2] at ih ⊢
        exact ih
theorem lk_append {β : Type} (x : α) : ∀ (m l : List (α × β)), lk (m ++ l) x = (lk m x).or (lk l x)
  | [], l => by simp [lk]
  | (a, u) :: r, l => by
    simp only [List.cons_append, lk]
    split
    · rfl
    · exact lk_append x r l
theorem lk_put {β : Type} (m : List (α × β)) (k : α) (v : β) (x : α) : lk (put m k v) x = if x = k then some v else lk m x := by
  unfold put
  split
  · rename_i h
    rw [lk_map_put]
    split
    · rename_i e; subst e
      obtain ⟨y, hy⟩ := Option.isSome_iff_exists.mp h
      rw [hy]; rfl
    · rfl
  · rename_i h
    rw [lk_append]
    split
    · rename_i e; subst e
      have : lk m x = none := by simpa using h
      simp [this, lk]
    · rename_i e
      have : ¬ k = x := fun z => e z.symm
      simp [lk, this]
theorem keys_put {β : Type} (m : List (α × β)) (k : α) (v : β) : (put m k v).map (·.1) = if (lk m k).isSome then m.map (·.1) else m.map (·.1) ++ [k] := by
  unfold put
  split
  · rw [List.map_map]
    apply List.map_congr_left
    intro p _
    simp only [Function.comp]
    split <;> rfl
  · simp
theorem lk_some {β : Type} {k : α} {v : β} : ∀ {m : List (α × β)}, lk m k = some v → (k, v) ∈ m
  | (a, u) :: r, h => by
    unfold lk at h
    split at h
    · rename_i e; cases h; subst e; exact List.mem_cons_self
    · exact List.mem_cons_of_mem _ (lk_some h)
theorem lk_none {β : Type} {k : α} : ∀ {m : List (α × β)}, lk m k = none ↔ k ∉ m.map (·.1)
  | [] => by simp [lk]
  | (a, u) :: r => by
    unfold lk
    split
    · rename_i e; simp [e]
    · rename_i e
      rw [lk_none (m := r)]
      simp only [List.map_cons, List.mem_cons, not_or]
      exact ⟨fun h => ⟨fun z => e z.symm, h⟩, fun h => h.2⟩
theorem lk_isSome {β : Type} {k : α} {m : List (α × β)} : (lk m k).isSome = true ↔ k ∈ m.map (·.1) := by
  have := lk_none (k := k) (m := m)
  cases h : lk m k with
  | none => simp [this.mp h]
  | some v =>
    simp only [Option.isSome_some, true_iff]
    refine Classical.not_not.mp fun z => ?_
    rw [this.mpr z] at h; cases h
theorem lk_mem {β : Type} {k : α} {v : β} : ∀ {m : List (α × β)}, (m.map (·.1)).Nodup → (k, v) ∈ m → lk m k = some v
  | (a, u) :: r, hn, h => by
    rw [List.map_cons, List.nodup_cons] at hn
    unfold lk
    rcases List.mem_cons.mp h with e | h
    · cases e; simp
    · split
      · rename_i e
        subst e
        exact absurd (List.mem_map.mpr ⟨_, h, rfl⟩) hn.1
      · exact lk_mem hn.2 h

/-! ### paths -/
def Path (ns : List (α × Nt α)) : List α → α → α → Int → Prop
  | [], a, b, s => a = b ∧ s = 0
  | n :: r, a, b, s => ∃ u m t, lk ns n = some (a, u, m) ∧ Path ns r u b t ∧ s = m + t
def RowIs (ns : List (α × Nt α)) (r : α → Int) : Prop := ∀ n v u m, lk ns n = some (v, u, m) → r v - r u ≤ m
variable {ns : List (α × Nt α)}
theorem path_le {r : α → Int} (h : RowIs ns r) : ∀ {l : List α} {a b : α} {s : Int}, Path ns l a b s → r a - r b ≤ s
  | [], a, b, s, p => by
    obtain ⟨rfl, rfl⟩ := p
    omega
  | n :: l, a, b, s, p => by
    obtain ⟨u, m, t, h1, h2, rfl⟩ := p
    have := path_le h h2
    have := h _ _ _ _ h1
    omega
theorem path_append : ∀ {l m : List α} {a b c : α} {s t : Int}, Path ns l a b s → Path ns m b c t → Path ns (l ++ m) a c (s + t)
  | [], m, a, b, c, s, t, p, q => by
    obtain ⟨rfl, rfl⟩ := p
    simpa using q
  | n :: l, m, a, b, c, s, t, p, q => by
    obtain ⟨u, k, t', h1, h2, rfl⟩ := p
    exact ⟨u, k, t' + t, h1, path_append h2 q, by omega⟩
theorem path_fun : ∀ {l : List α} {a b c d : α} {s t : Int}, Path ns l a b s → Path ns l c d t → (l ≠ [] → a = c ∧ b = d) ∧ s = t
  | [], a, b, c, d, s, t, p, q => ⟨fun h => absurd rfl h, by rw [p.2, q.2]⟩
  | n :: l, a, b, c, d, s, t, p, q => by
    obtain ⟨u, m, s', h1, h2, rfl⟩ := p
    obtain ⟨u', m', t', h3, h4, rfl⟩ := q
    rw [h1] at h3
    cases h3
    obtain ⟨k1, k2⟩ := path_fun h2 h4
    refine ⟨fun _ => ⟨rfl, ?_⟩, by rw [k2]⟩
    cases l with
    | nil => exact h2.1.symm.trans h4.1
    | cons x r => exact (k1 (by simp)).2

/-! ### relaxing -/
structure S (α : Type) where
  f : List (α × Int)
  w : List (α × α)
  l : Option α
def relax (ns : List (α × Nt α)) (s : S α) (n : α) : S α := match lk ns n with
  | some (v, u, m) => match lk s.f v, lk s.f u with
    | some a, some b => if b + m < a then ⟨put s.f v (b + m), put s.w v n, some v⟩ else s
    | _, _ => s
  | none => s
/-- rounds: true, if some round changes nothing -/
def rounds (ns : List (α × Nt α)) (names : List α) : Nat → S α → S α × Bool
  | 0, s => (s, false)
  | k + 1, s =>
    let s' := names.foldl (relax ns) { s with l := none }
    if s'.l.isNone then (s', true) else rounds ns names k s'
/-- what is kept: T the clock, ρ the round and τ the time at which a word was last lowered, in round k, the names of done already read -/
structure Ok (ns : List (α × Nt α)) (words : List α) (k : Nat) (done : List α) (s : S α) (T : Nat) (ρ τ : α → Nat) : Prop where
  keys : s.f.map (·.1) = words
  wk : ∀ v n, lk s.w v = some n → ∃ u m a b, lk ns n = some (v, u, m) ∧ lk s.f v = some a ∧ lk s.f u = some b ∧ b + m ≤ a ∧ (τ v < τ u → b + m < a) ∧ (u = v → m < 0) ∧ ρ v ≤ ρ u + 1 ∧ 1 ≤ τ v
  tm : ∀ v, τ v ≤ T
  inj : ∀ v u, 1 ≤ τ v → τ v = τ u → v = u
  wy : ∀ v, 1 ≤ ρ v → (lk s.w v).isSome
  rk : ∀ v, ρ v ≤ k
  read : ∀ n v u m a b, lk ns n = some (v, u, m) → lk s.f v = some a → lk s.f u = some b → a ≤ b + m ∨ k ≤ ρ u + (if n ∈ done then 0 else 1)
  last : ∀ v, s.l = some v → ρ v = k
  lw : ∀ v, s.l = some v → v ∈ words
def upd (ρ : α → Nat) (v : α) (x : Nat) : α → Nat := fun y => if y = v then x else ρ y
theorem Ok.step {words done : List α} {k T : Nat} {s : S α} {ρ τ : α → Nat} (h : Ok ns words k done s T ρ τ) (hk : 1 ≤ k) (n : α) : ∃ T' ρ' τ', Ok ns words k (n :: done) (relax ns s n) T' ρ' τ' := by
  have same : (∀ v u m a b, lk ns n = some (v, u, m) → lk s.f v = some a → lk s.f u = some b → a ≤ b + m) → Ok ns words k (n :: done) s T ρ τ := fun hh => by
    refine { h with read := fun n' v u m a b e1 e2 e3 => ?_ }
    by_cases e : n' = n
    · subst e
      exact .inl (hh v u m a b e1 e2 e3)
    · have := h.read n' v u m a b e1 e2 e3
      simp only [List.mem_cons, e, false_or]
      exact this
  unfold relax
  split
  · rename_i v u m hn
    split
    · rename_i a b ha hb
      split
      · rename_i hlt
        -- v is lowered
        have hfv : ∀ x, lk (put s.f v (b + m)) x = if x = v then some (b + m) else lk s.f x := lk_put _ _ _
        have hwv : ∀ x, lk (put s.w v n) x = if x = v then some n else lk s.w x := lk_put _ _ _
        have hρ : k ≤ ρ u + (if n ∈ done then 0 else 1) := by
          rcases h.read n v u m a b hn ha hb with z | z
          · omega
          · exact z
        have hρ1 : k ≤ ρ u + 1 := by split at hρ <;> omega
        refine ⟨T + 1, upd ρ v k, upd τ v (T + 1), ⟨?_, fun x n' e => ?_, fun x => ?_, fun x y e1 e2 => ?_, fun x e => ?_, fun x => ?_, fun n' x y m' a' b' e1 e2 e3 => ?_, fun x e => ?_, fun x e => ?_⟩⟩
        · rw [keys_put, ha]
          exact h.keys
        · rw [hwv] at e
          split at e
          · rename_i ex
            cases e
            subst ex
            by_cases huv : u = x
            · subst huv
              rw [ha] at hb
              cases hb
              refine ⟨u, m, a + m, a + m, hn, by rw [hfv]; simp, by rw [hfv]; simp, by omega, fun z => absurd z (Nat.lt_irrefl _), fun _ => by omega, by omega, by simp [upd]⟩
            · refine ⟨u, m, b + m, b, hn, by rw [hfv]; simp, by rw [hfv]; simp [huv, hb], by omega, fun z => ?_, fun z => absurd z huv, ?_, by simp [upd]⟩
              · simp only [upd, if_true, huv, if_false] at z
                have := h.tm u
                omega
              · simp only [upd, if_true, huv, if_false]
                exact hρ1
          · rename_i ex
            obtain ⟨y, m', a', b', q1, q2, q3, q4, q5, q6, q7, q8⟩ := h.wk x n' e
            by_cases ey : y = v
            · subst ey
              rw [ha] at q3
              cases q3
              refine ⟨y, m', a', b + m, q1, by rw [hfv]; simp [ex, q2], by rw [hfv]; simp, by omega, fun _ => by omega, fun z => absurd z.symm ex, ?_, ?_⟩
              · simp only [upd, ex, if_true, if_false]
                have := h.rk x
                omega
              · simp only [upd, ex, if_false]; exact q8
            · refine ⟨y, m', a', b', q1, by rw [hfv]; simp [ex, q2], by rw [hfv]; simp [ey, q3], q4, ?_, q6, ?_, ?_⟩
              · simp only [upd, ex, ey, if_false]; exact q5
              · simp only [upd, ex, ey, if_false]; exact q7
              · simp only [upd, ex, if_false]; exact q8
        · unfold upd
          split
          · exact Nat.le_refl _
          · exact Nat.le_succ_of_le (h.tm x)
        · unfold upd at e1 e2
          by_cases ex : x = v
          · by_cases ey : y = v
            · rw [ex, ey]
            · simp only [ex, ey, if_true, if_false] at e2
              have := h.tm y
              omega
          · by_cases ey : y = v
            · simp only [ex, ey, if_true, if_false] at e2
              have := h.tm x
              omega
            · simp only [ex, ey, if_false] at e1 e2
              exact h.inj x y e1 e2
        · rw [hwv]
          split
          · rfl
          · rename_i ex
            simp only [upd, ex, if_false] at e
            exact h.wy x e
        · unfold upd
          split
          · exact Nat.le_refl _
          · exact h.rk x
        · rw [hfv] at e2 e3
          by_cases ey : y = v
          · right
            simp only [upd, ey, if_true]
            omega
          · rw [if_neg ey] at e3
            simp only [upd, ey, if_false]
            by_cases ex : x = v
            · subst ex
              rw [if_pos rfl] at e2
              cases e2
              by_cases en : n' = n
              · subst en
                rw [hn] at e1
                cases e1
                rw [hb] at e3
                cases e3
                exact .inl (Int.le_refl _)
              · rcases h.read n' x y m' a b' e1 ha e3 with z | z
                · exact .inl (by omega)
                · right
                  simp only [List.mem_cons, en, false_or]
                  exact z
            · rw [if_neg ex] at e2
              by_cases en : n' = n
              · subst en
                rw [hn] at e1
                cases e1
                exact absurd rfl ex
              · rcases h.read n' x y m' a' b' e1 e2 e3 with z | z
                · exact .inl z
                · right
                  simp only [List.mem_cons, en, false_or]
                  exact z
        · cases e
          simp [upd]
        · cases e
          rw [← h.keys]
          exact lk_isSome.mp (by rw [ha]; rfl)
      · rename_i hge
        exact ⟨T, ρ, τ, same fun v' u' m' a' b' e1 e2 e3 => by
          rw [hn] at e1; cases e1
          rw [ha] at e2; cases e2
          rw [hb] at e3; cases e3
          omega⟩
    · rename_i hno
      exact ⟨T, ρ, τ, same fun v' u' m' a' b' e1 e2 e3 => by
        rw [hn] at e1; cases e1
        exact absurd e3 (hno _ _ e2)⟩
  · rename_i hn
    exact ⟨T, ρ, τ, same fun v' u' m' a' b' e1 e2 e3 => by rw [hn] at e1; cases e1⟩
theorem Ok.fold {words : List α} {k : Nat} (hk : 1 ≤ k) : ∀ (names done : List α) {T : Nat} {s : S α} {ρ τ : α → Nat}, Ok ns words k done s T ρ τ → ∃ T' ρ' τ', Ok ns words k (names.reverse ++ done) (names.foldl (relax ns) s) T' ρ' τ'
  | [], done, T, s, ρ, τ, h => ⟨T, ρ, τ, h⟩
  | n :: r, done, T, s, ρ, τ, h => by
    obtain ⟨T', ρ', τ', h'⟩ := h.step hk n
    obtain ⟨T2, ρ2, τ2, h2⟩ := Ok.fold hk r (n :: done) h'
    refine ⟨T2, ρ2, τ2, ?_⟩
    rw [List.reverse_cons, List.append_assoc]
    exact h2
/-- the next round begins -/
theorem Ok.next {words done : List α} {k T : Nat} {s : S α} {ρ τ : α → Nat} (h : Ok ns words k done s T ρ τ) (all : ∀ n v u m, lk ns n = some (v, u, m) → n ∈ done) : Ok ns words (k + 1) [] { s with l := none } T ρ τ := by
  refine ⟨h.keys, h.wk, h.tm, h.inj, h.wy, fun v => Nat.le_succ_of_le (h.rk v), fun n v u m a b e1 e2 e3 => ?_, fun v e => (nomatch e), fun v e => (nomatch e)⟩
  rcases h.read n v u m a b e1 e2 e3 with z | z
  · exact .inl z
  · right
    rw [if_pos (all _ _ _ _ e1)] at z
    simp only [List.not_mem_nil, if_false]
    omega
/-- what nothing lowers any more -/
theorem relax_none {s : S α} {n : α} (h : (relax ns s n).l = none) : relax ns s n = s ∧ ∀ v u m a b, lk ns n = some (v, u, m) → lk s.f v = some a → lk s.f u = some b → a ≤ b + m := by
  unfold relax at h ⊢
  split
  · rename_i v u m hn
    simp only [hn] at h
    split
    · rename_i a b ha hb
      simp only [ha, hb] at h
      split
      · rename_i hlt
        rw [if_pos hlt] at h
        cases h
      · rename_i hge
        refine ⟨rfl, fun v' u' m' a' b' e1 e2 e3 => ?_⟩
        rw [hn] at e1; cases e1
        rw [ha] at e2; cases e2
        rw [hb] at e3; cases e3
        omega
    · rename_i hno
      refine ⟨rfl, fun v' u' m' a' b' e1 e2 e3 => ?_⟩
      rw [hn] at e1; cases e1
      exact absurd e3 (hno _ _ e2)
  · rename_i hn
    exact ⟨rfl, fun v' u' m' a' b' e1 _ _ => by rw [hn] at e1; cases e1⟩
theorem relax_keep {s : S α} {n : α} (h : s.l ≠ none) : (relax ns s n).l ≠ none := by
  unfold relax
  split
  · split
    · split
      · exact fun z => nomatch z
      · exact h
    · exact h
  · exact h
theorem fold_keep : ∀ (names : List α) {s : S α}, s.l ≠ none → (names.foldl (relax ns) s).l ≠ none
  | [], _, h => h
  | _ :: r, _, h => fold_keep r (relax_keep h)
theorem fold_none : ∀ (names : List α) {s : S α}, s.l = none → (names.foldl (relax ns) s).l = none → names.foldl (relax ns) s = s ∧ ∀ n ∈ names, ∀ v u m a b, lk ns n = some (v, u, m) → lk s.f v = some a → lk s.f u = some b → a ≤ b + m
  | [], _, _, _ => ⟨rfl, fun _ h => nomatch h⟩
  | n :: r, s, h0, h => by
    have h1 : (relax ns s n).l = none := by
      refine Classical.byContradiction fun z => ?_
      exact fold_keep r z h
    obtain ⟨e, h2⟩ := relax_none h1
    rw [List.foldl_cons, e] at h ⊢
    obtain ⟨h3, h4⟩ := fold_none r h0 h
    refine ⟨h3, fun n' hn => ?_⟩
    rcases List.mem_cons.mp hn with rfl | hn
    · exact h2
    · exact h4 n' hn
/-- the start -/
theorem ok_start {words : List α} (hw : words.Nodup) : Ok ns words 0 [] ⟨words.map fun v => (v, 0), [], none⟩ 0 (fun _ => 0) (fun _ => 0) := by
  refine ⟨?_, fun v n e => ?_, fun _ => Nat.le_refl _, fun v u e _ => absurd e (by decide), fun v e => absurd e (by decide), fun _ => Nat.le_refl _, fun _ _ _ _ _ _ _ _ _ => .inr (Nat.zero_le _), fun v e => (nomatch e), fun v e => (nomatch e)⟩
  · rw [List.map_map]
    exact List.map_id _
  · cases e
/-- the end of the rounds: either a row, or K rounds that all changed something -/
theorem rounds_ok {words names : List α} (all : ∀ n v u m, lk ns n = some (v, u, m) → n ∈ names) : ∀ (j k : Nat) {done : List α} {T : Nat} {s : S α} {ρ τ : α → Nat}, Ok ns words k done s T ρ τ → (k = 0 ∨ ∀ n v u m, lk ns n = some (v, u, m) → n ∈ done) →
    ((rounds ns names j s).2 = true → (rounds ns names j s).1.f.map (·.1) = words ∧ ∀ n v u m a b, lk ns n = some (v, u, m) → lk (rounds ns names j s).1.f v = some a → lk (rounds ns names j s).1.f u = some b → a ≤ b + m) ∧
    ((rounds ns names j s).2 = false → 1 ≤ j → ∃ v T' ρ' τ' done', (rounds ns names j s).1.l = some v ∧ Ok ns words (k + j) done' (rounds ns names j s).1 T' ρ' τ')
  | 0, k, done, T, s, ρ, τ, h, hd => ⟨fun z => (nomatch z), fun _ z => absurd z (by decide)⟩
  | j + 1, k, done, T, s, ρ, τ, h, hd => by
    have h1 : Ok ns words (k + 1) [] { s with l := none } T ρ τ := by
      rcases hd with rfl | hd
      · refine ⟨h.keys, h.wk, h.tm, h.inj, h.wy, fun v => Nat.le_succ_of_le (h.rk v), fun n v u m a b e1 e2 e3 => .inr ?_, fun v e => (nomatch e), fun v e => (nomatch e)⟩
        simp
      · exact h.next hd
    obtain ⟨T', ρ', τ', h2⟩ := h1.fold (by omega) names
    rw [List.append_nil] at h2
    simp only [rounds]
    cases hl : (names.foldl (relax ns) { s with l := none }).l with
    | none =>
      simp only [Option.isNone_none, if_true]
      obtain ⟨e, h3⟩ := fold_none names (s := { s with l := none }) rfl hl
      refine ⟨fun _ => ⟨h2.keys, fun n v u m a b e1 e2 e3 => ?_⟩, fun z => nomatch z⟩
      rw [e] at e2 e3
      exact h3 n (all _ _ _ _ e1) v u m a b e1 e2 e3
    | some v =>
      simp only [Option.isNone_some, Bool.false_eq_true, if_false]
      obtain ⟨g1, g2⟩ := rounds_ok all j (k + 1) h2 (.inr fun n v u m e => List.mem_reverse.mpr (all _ _ _ _ e))
      refine ⟨g1, fun z _ => ?_⟩
      by_cases hj : 1 ≤ j
      · obtain ⟨v', T2, ρ2, τ2, d2, q1, q2⟩ := g2 z hj
        exact ⟨v', T2, ρ2, τ2, d2, q1, by rw [show k + (j + 1) = k + 1 + j by omega]; exact q2⟩
      · obtain rfl : j = 0 := by omega
        exact ⟨v, T', ρ', τ', _, hl, h2⟩
/-! ### the ring that is found -/
/-- going from a word by what lowered it last -/
def Chain (ns : List (α × Nt α)) (w : List (α × α)) : List α → α → α → Prop
  | [], a, b => a = b
  | v :: r, a, b => v = a ∧ ∃ n u m, lk w v = some n ∧ lk ns n = some (v, u, m) ∧ Chain ns w r u b
theorem chain_snoc {w : List (α × α)} : ∀ {l : List α} {a b : α} {n u : α} {m : Int}, Chain ns w l a b → lk w b = some n → lk ns n = some (b, u, m) → Chain ns w (l ++ [b]) a u
  | [], a, b, n, u, m, h, h1, h2 => by
    cases h
    exact ⟨rfl, n, u, m, h1, h2, rfl⟩
  | v :: l, a, b, n, u, m, h, h1, h2 => by
    obtain ⟨rfl, n', u', m', q1, q2, q3⟩ := h
    exact ⟨rfl, n', u', m', q1, q2, chain_snoc q3 h1 h2⟩
theorem chain_drop {w : List (α × α)} : ∀ {l k : List α} {a b : α}, Chain ns w (l ++ k) a b → ∃ c, Chain ns w k c b ∧ (∀ x, k.head? = some x → c = x)
  | [], k, a, b, h => ⟨a, h, fun x e => by
    cases k with
    | nil => cases e
    | cons y r =>
      cases e
      exact h.1.symm⟩
  | v :: l, k, a, b, h => by
    obtain ⟨_, n, u, m, _, _, q⟩ := h
    exact chain_drop q
/-- a chain as a path, its sum by the row -/
theorem chain_path {words done : List α} {k T : Nat} {s : S α} {ρ τ : α → Nat} (ok : Ok ns words k done s T ρ τ) : ∀ {l : List α} {a b : α}, Chain ns s.w l a b → ∃ t, Path ns (l.filterMap (lk s.w)) a b t ∧ (l.filterMap (lk s.w)).length = l.length ∧ (l ≠ [] → ∃ fa fb, lk s.f a = some fa ∧ lk s.f b = some fb ∧ fb + t ≤ fa ∧ (fb + t = fa → τ b ≤ τ a))
  | [], a, b, h => ⟨0, ⟨h, rfl⟩, rfl, fun z => absurd rfl z⟩
  | v :: l, a, b, h => by
    obtain ⟨rfl, n, u, m, h1, h2, h3⟩ := h
    obtain ⟨t, p, pl, q⟩ := chain_path ok h3
    obtain ⟨u', m', x, y, e1, e2, e3, e4, e5, e6, e7, e8⟩ := ok.wk v n h1
    rw [h2] at e1
    cases e1
    rw [List.filterMap_cons, h1]
    refine ⟨m + t, ⟨u, m, t, h2, p, rfl⟩, by simp [pl], fun _ => ?_⟩
    have hτ : y + m = x → τ u ≤ τ v := fun e => by
      rcases Nat.lt_or_ge (τ v) (τ u) with c | c
      · have := e5 c
        omega
      · exact c
    cases l with
    | nil =>
      have h3 : u = b := h3
      subst h3
      have ht : t = 0 := p.2
      subst ht
      exact ⟨x, y, e2, e3, by omega, fun z => hτ (by omega)⟩
    | cons y' l' =>
      obtain ⟨fu, fb, g1, g2, g3, g4⟩ := q (by simp)
      rw [e3] at g1
      cases g1
      refine ⟨x, fb, e2, g2, by omega, fun z => ?_⟩
      exact Nat.le_trans (g4 (by omega)) (hτ (by omega))
/-- a closed chain has a sum below nothing -/
theorem chain_neg {words done : List α} {k T : Nat} {s : S α} {ρ τ : α → Nat} (ok : Ok ns words k done s T ρ τ) {l : List α} {a : α} (hl : l ≠ []) (h : Chain ns s.w l a a) : ∃ t, Path ns (l.filterMap (lk s.w)) a a t ∧ t < 0 ∧ (l.filterMap (lk s.w)).length = l.length := by
  cases l with
  | nil => exact absurd rfl hl
  | cons v l =>
    obtain ⟨rfl, n, u, m, h1, h2, h3⟩ := h
    obtain ⟨t, p, pl, q⟩ := chain_path ok h3
    obtain ⟨u', m', x, y, e1, e2, e3, e4, e5, e6, e7, e8⟩ := ok.wk v n h1
    rw [h2] at e1
    cases e1
    rw [List.filterMap_cons, h1]
    refine ⟨m + t, ⟨u, m, t, h2, p, rfl⟩, ?_, by simp [pl]⟩
    cases l with
    | nil =>
      have h3 : u = v := h3
      have := e6 h3
      have ht : t = 0 := p.2
      omega
    | cons y' l' =>
      obtain ⟨fu, fv, g1, g2, g3, g4⟩ := q (by simp)
      rw [e3] at g1
      cases g1
      rw [e2] at g2
      cases g2
      refine Int.not_le.mp fun z => ?_
      have k1 : τ v ≤ τ u := g4 (by omega)
      have k2 : ¬ τ v < τ u := fun c => by
        have := e5 c
        omega
      have k3 : v = u := ok.inj v u e8 (by omega)
      have := e6 k3.symm
      subst k3
      rw [e2] at e3
      cases e3
      omega
/-- no word twice among words: at most so many -/
theorem nodup_le : ∀ {l words : List α}, l.Nodup → (∀ x ∈ l, x ∈ words) → l.length ≤ words.length
  | [], _, _, _ => Nat.zero_le _
  | x :: l, words, hn, h => by
    obtain ⟨h1, h2⟩ := List.nodup_cons.mp hn
    have hx := h x List.mem_cons_self
    have := nodup_le (words := words.erase x) h2 fun y hy => (List.mem_erase_of_ne (fun e : y = x => h1 (e ▸ hy))).mpr (h y (List.mem_cons_of_mem _ hy))
    rw [List.length_erase_of_mem hx] at this
    have := List.length_pos_of_mem hx
    simp only [List.length_cons]
    omega
/-- going on from the last word, by what lowered each -/
def goes (ns : List (α × Nt α)) (w : List (α × α)) : Nat → α → List α → Option (List α × α)
  | 0, _, _ => none
  | k + 1, a, met => if a ∈ met then some (met, a) else match lk w a with
    | some n => match lk ns n with
      | some x => goes ns w k x.2.1 (met ++ [a])
      | none => none
    | none => none
theorem first_at {a : α} : ∀ {l : List α}, a ∈ l → ∃ j : Nat, l[j]? = some a ∧ ∀ m : Nat, m < j → l[m]? ≠ some a
  | x :: r, h => by
    by_cases e : x = a
    · exact ⟨0, by simp [e], fun m hm => absurd hm (Nat.not_lt_zero _)⟩
    · obtain ⟨j, h1, h2⟩ := first_at (a := a) (l := r) (by
        rcases List.mem_cons.mp h with z | z
        · exact absurd z.symm e
        · exact z)
      refine ⟨j + 1, by simpa using h1, fun m hm => ?_⟩
      cases m with
      | zero => simpa using e
      | succ m => simpa using h2 m (by omega)
theorem goes_ok {words done : List α} {k T : Nat} {s : S α} {ρ τ : α → Nat} (ok : Ok ns words k done s T ρ τ) (hk : words.length < k) (a0 : α) : ∀ (j : Nat) (a : α) (met : List α), Chain ns s.w met a0 a → met.Nodup → (∀ x ∈ met, x ∈ words) → (a ∈ words) → k ≤ ρ a + met.length → words.length < met.length + j →
    ∃ (met' : List α) (b : α) (i : Nat), goes ns s.w j a met = some (met', b) ∧ met'[i]? = some b ∧ (∀ m : Nat, m < i → met'[m]? ≠ some b) ∧ Chain ns s.w (met'.drop i) b b ∧ met'.length ≤ words.length ∧ (∀ x ∈ met', (lk s.w x).isSome)
  | 0, a, met, hc, hn, hm, ha, hr, hj => by
    have := nodup_le hn hm
    omega
  | j + 1, a, met, hc, hn, hm, ha, hr, hj => by
    unfold goes
    split
    · rename_i hin
      obtain ⟨i, h1, h2⟩ := first_at hin
      have hd : met = met.take i ++ met.drop i := (List.take_append_drop i met).symm
      have hh : (met.drop i).head? = some a := by rw [List.head?_drop]; exact h1
      have hw : ∀ {l : List α} {a b : α}, Chain ns s.w l a b → ∀ x ∈ l, (lk s.w x).isSome := fun {l} => by
        induction l with
        | nil => intro _ _ _ x hx; cases hx
        | cons v r ih =>
          intro a b h x hx
          obtain ⟨_, n, u, m, q1, _, q3⟩ := h
          rcases List.mem_cons.mp hx with rfl | hx
          · rw [q1]; rfl
          · exact ih q3 x hx
      refine ⟨met, a, i, rfl, h1, h2, ?_, nodup_le hn hm, hw hc⟩
      rw [hd] at hc
      obtain ⟨c, h3, h4⟩ := chain_drop hc
      rw [h4 a hh] at h3
      exact h3
    · rename_i hin
      have hlen := nodup_le hn hm
      have hρ : 1 ≤ ρ a := by omega
      obtain ⟨n, hw⟩ := Option.isSome_iff_exists.mp (ok.wy a hρ)
      obtain ⟨u, m, x, y, e1, e2, e3, e4, e5, e6, e7, e8⟩ := ok.wk a n hw
      simp only [hw, e1]
      refine goes_ok ok hk a0 j u (met ++ [a]) (chain_snoc hc hw e1) ?_ ?_ ?_ ?_ ?_
      · rw [List.nodup_append]
        exact ⟨hn, by simp, fun z hz y' hy e => hin (by simp at hy; subst hy; subst e; exact hz)⟩
      · intro z hz
        rcases List.mem_append.mp hz with hz | hz
        · exact hm z hz
        · rw [List.mem_singleton.mp hz]; exact ha
      · rw [← ok.keys]
        exact lk_isSome.mp (by rw [e3]; rfl)
      · rw [List.length_append, List.length_singleton]
        omega
      · rw [List.length_append, List.length_singleton]
        omega
end
end K16

/-! K16N: what the rounds come to; ways, lowered in rounds. -/
namespace K16
section
variable {α : Type} [DecidableEq α] {ns : List (α × Nt α)}
def val (f : List (α × Int)) (x : α) : Int := (lk f x).getD 0
def start (words : List α) : S α := ⟨words.map fun v => (v, 0), [], none⟩
/-- all words of the notes are among these -/
def Within (ns : List (α × Nt α)) (words : List α) : Prop := ∀ n v u m, lk ns n = some (v, u, m) → v ∈ words ∧ u ∈ words
theorem spread_row {words names : List α} (hw : words.Nodup) (wi : Within ns words) (all : ∀ n v u m, lk ns n = some (v, u, m) → n ∈ names) (k : Nat) (h : (rounds ns names k (start words)).2 = true) :
    (rounds ns names k (start words)).1.f.map (·.1) = words ∧ RowIs ns (val (rounds ns names k (start words)).1.f) := by
  obtain ⟨h1, _⟩ := rounds_ok (s := start words) all k 0 (ok_start hw) (.inl rfl)
  obtain ⟨h2, h3⟩ := h1 h
  refine ⟨h2, fun n v u m e => ?_⟩
  obtain ⟨w1, w2⟩ := wi n v u m e
  rw [← h2] at w1 w2
  obtain ⟨a, ha⟩ := Option.isSome_iff_exists.mp (lk_isSome.mpr w1)
  obtain ⟨b, hb⟩ := Option.isSome_iff_exists.mp (lk_isSome.mpr w2)
  have ha' : lk (rounds ns names k (start words)).1.f v = some a := ha
  have hb' : lk (rounds ns names k (start words)).1.f u = some b := hb
  have := h3 n v u m a b e ha' hb'
  simp only [val, ha', hb', Option.getD_some]
  omega
theorem spread_ring {words names : List α} (hw : words.Nodup) (wi : Within ns words) (all : ∀ n v u m, lk ns n = some (v, u, m) → n ∈ names) (j : Nat) (hj : words.length < j) (h : (rounds ns names (words.length + 1) (start words)).2 = false) :
    ∃ (v : α) (met : List α) (b : α) (i : Nat) (t : Int), (rounds ns names (words.length + 1) (start words)).1.l = some v ∧ goes ns (rounds ns names (words.length + 1) (start words)).1.w j v [] = some (met, b) ∧ met[i]? = some b ∧ (∀ m : Nat, m < i → met[m]? ≠ some b) ∧
      Path ns ((met.drop i).filterMap (lk (rounds ns names (words.length + 1) (start words)).1.w)) b b t ∧ t < 0 ∧ (met.drop i).filterMap (lk (rounds ns names (words.length + 1) (start words)).1.w) ≠ [] ∧ met.length ≤ words.length ∧ (∀ x ∈ met, (lk (rounds ns names (words.length + 1) (start words)).1.w x).isSome) := by
  obtain ⟨_, h1⟩ := rounds_ok (s := start words) all (words.length + 1) 0 (ok_start hw) (.inl rfl)
  obtain ⟨v, T, ρ, τ, done, hl, ok⟩ := h1 h (by omega)
  have hv : v ∈ words := ok.lw v hl
  obtain ⟨met, b, i, g1, g2, g3, g4, g5, g6⟩ := goes_ok ok (by omega) v j v [] rfl List.nodup_nil (fun _ h => nomatch h) hv (by rw [ok.last v hl]; simp) (by simpa using hj)
  have hne : met.drop i ≠ [] := fun e => by
    have : (met.drop i).head? = some b := by rw [List.head?_drop]; exact g2
    rw [e] at this; cases this
  obtain ⟨t, p, ht, hlen⟩ := chain_neg ok hne g4
  refine ⟨v, met, b, i, t, hl, g1, g2, g3, p, ht, fun e => ?_, g5, g6⟩
  have := congrArg List.length e
  rw [hlen] at this
  exact hne (List.length_eq_zero_iff.mp this)

/-! ### ways -/
abbrev Ps (α : Type) := List (α × (Int × List α))
def relaxP (ns : List (α × Nt α)) (P : Ps α) (n : α) : Ps α := match lk ns n with
  | some (s, e, m) => match lk P s with
    | some (d, l) => match lk P e with
      | none => put P e (d + m, l ++ [n])
      | some (d', _) => if d + m < d' then put P e (d + m, l ++ [n]) else P
    | none => P
  | none => P
def roundsP (ns : List (α × Nt α)) (names : List α) : Nat → Ps α → Ps α
  | 0, P => P
  | k + 1, P => roundsP ns names k (names.foldl (relaxP ns) P)
def AllP (ns : List (α × Nt α)) (one : α) (P : Ps α) : Prop := ∀ x d l, lk P x = some (d, l) → Path ns l one x d
theorem AllP.step {one : α} {P : Ps α} (h : AllP ns one P) (n : α) : AllP ns one (relaxP ns P n) := by
  unfold relaxP
  split
  · rename_i s e m hn
    split
    · rename_i d l hs
      have key : AllP ns one (put P e (d + m, l ++ [n])) := fun x d' l' hx => by
        rw [lk_put] at hx
        split at hx
        · rename_i ex
          cases hx
          subst ex
          exact path_append (h s d l hs) ⟨x, m, 0, hn, ⟨rfl, rfl⟩, by omega⟩
        · exact h x d' l' hx
      split
      · exact key
      · split
        · exact key
        · exact h
    · exact h
  · exact h
theorem AllP.fold {one : α} : ∀ (names : List α) {P : Ps α}, AllP ns one P → AllP ns one (names.foldl (relaxP ns) P)
  | [], _, h => h
  | n :: r, _, h => AllP.fold r (h.step n)
theorem AllP.rounds {one : α} {names : List α} : ∀ (k : Nat) {P : Ps α}, AllP ns one P → AllP ns one (roundsP ns names k P)
  | 0, _, h => h
  | k + 1, _, h => AllP.rounds k (AllP.fold names h)
def Lower (P Q : Ps α) : Prop := ∀ x d l, lk P x = some (d, l) → ∃ d' l', lk Q x = some (d', l') ∧ d' ≤ d
theorem Lower.refl (P : Ps α) : Lower P P := fun x d l h => ⟨d, l, h, Int.le_refl _⟩
theorem Lower.trans {P Q R : Ps α} (h : Lower P Q) (k : Lower Q R) : Lower P R := fun x d l e => by
  obtain ⟨d', l', e', le⟩ := h x d l e
  obtain ⟨d2, l2, e2, le2⟩ := k x d' l' e'
  exact ⟨d2, l2, e2, Int.le_trans le2 le⟩
theorem lower_step (P : Ps α) (n : α) : Lower P (relaxP ns P n) := by
  unfold relaxP
  split
  · rename_i s e m hn
    split
    · rename_i d l hs
      split
      · rename_i he
        intro x d' l' hx
        refine ⟨d', l', ?_, Int.le_refl _⟩
        rw [lk_put, if_neg fun z => by rw [z, he] at hx; cases hx]
        exact hx
      · rename_i d0 l0 he
        split
        · rename_i hlt
          intro x d' l' hx
          rw [lk_put]
          split
          · rename_i ex
            subst ex
            rw [he] at hx
            cases hx
            exact ⟨_, _, rfl, by omega⟩
          · exact ⟨d', l', hx, Int.le_refl _⟩
        · exact Lower.refl P
    · exact Lower.refl P
  · exact Lower.refl P
theorem lower_fold : ∀ (names : List α) (P : Ps α), Lower P (names.foldl (relaxP ns) P)
  | [], P => Lower.refl P
  | n :: r, P => (lower_step P n).trans (lower_fold r _)
theorem lower_rounds {names : List α} : ∀ (k : Nat) (P : Ps α), Lower P (roundsP ns names k P)
  | 0, P => Lower.refl P
  | k + 1, P => (lower_fold names P).trans (lower_rounds k _)
/-- a step taken -/
theorem step_taken {P : Ps α} {n s e : α} {m d : Int} {l : List α} (hn : lk ns n = some (s, e, m)) (hs : lk P s = some (d, l)) : ∃ d' l', lk (relaxP ns P n) e = some (d', l') ∧ d' ≤ d + m := by
  unfold relaxP
  simp only [hn, hs]
  split
  · exact ⟨_, _, by rw [lk_put, if_pos rfl], Int.le_refl _⟩
  · rename_i d0 l0 he
    split
    · exact ⟨_, _, by rw [lk_put, if_pos rfl], Int.le_refl _⟩
    · exact ⟨d0, l0, he, by omega⟩
theorem fold_taken {n s e : α} {m : Int} (hn : lk ns n = some (s, e, m)) : ∀ {names : List α} {P : Ps α} {d : Int} {l : List α}, n ∈ names → lk P s = some (d, l) → ∃ d' l', lk (names.foldl (relaxP ns) P) e = some (d', l') ∧ d' ≤ d + m
  | x :: r, P, d, l, hin, hs => by
    rw [List.foldl_cons]
    rcases List.mem_cons.mp hin with rfl | hin
    · obtain ⟨d', l', h1, h2⟩ := step_taken hn hs
      obtain ⟨d2, l2, h3, h4⟩ := lower_fold (ns := ns) r (relaxP ns P n) e d' l' h1
      exact ⟨d2, l2, h3, by omega⟩
    · obtain ⟨d', l', h1, h2⟩ := lower_step (ns := ns) P x s d l hs
      obtain ⟨d2, l2, h3, h4⟩ := fold_taken hn hin h1
      exact ⟨d2, l2, h3, by omega⟩
theorem rounds_reach {names : List α} (all : ∀ n v u m, lk ns n = some (v, u, m) → n ∈ names) : ∀ (L : List α) {a x : α} {s : Int} {P : Ps α} {d : Int} {l : List α} {k : Nat}, Path ns L a x s → L.length ≤ k → lk P a = some (d, l) → ∃ d' l', lk (roundsP ns names k P) x = some (d', l') ∧ d' ≤ d + s
  | [], a, x, s, P, d, l, k, p, hk, h => by
    obtain ⟨rfl, rfl⟩ := p
    obtain ⟨d', l', h1, h2⟩ := lower_rounds (ns := ns) (names := names) k P a d l h
    exact ⟨d', l', h1, by omega⟩
  | n :: L, a, x, s, P, d, l, 0, p, hk, h => by simp at hk
  | n :: L, a, x, s, P, d, l, k + 1, p, hk, h => by
    obtain ⟨u, m, t, h1, h2, rfl⟩ := p
    obtain ⟨d1, l1, h3, h4⟩ := fold_taken h1 (all _ _ _ _ h1) h
    obtain ⟨d2, l2, h5, h6⟩ := rounds_reach all L (k := k) h2 (by simpa using hk) h3
    exact ⟨d2, l2, h5, by omega⟩
/-- nothing is reached outside a closed set -/
theorem relaxP_in {X : α → Prop} (hX : ∀ n v u m, lk ns n = some (v, u, m) → X v → X u) {P : Ps α} (h : ∀ x, (lk P x).isSome → X x) (n : α) : ∀ x, (lk (relaxP ns P n) x).isSome → X x := by
  unfold relaxP
  split
  · rename_i s e m hn
    split
    · rename_i d l hs
      have key : ∀ x, (lk (put P e (d + m, l ++ [n])) x).isSome → X x := fun x hx => by
        rw [lk_put] at hx
        split at hx
        · rename_i ex
          subst ex
          exact hX _ _ _ _ hn (h s (by rw [hs]; rfl))
        · exact h x hx
      split
      · exact key
      · split
        · exact key
        · exact h
    · exact h
  · exact h
theorem foldP_in {X : α → Prop} (hX : ∀ n v u m, lk ns n = some (v, u, m) → X v → X u) : ∀ (names : List α) {P : Ps α}, (∀ x, (lk P x).isSome → X x) → ∀ x, (lk (names.foldl (relaxP ns) P) x).isSome → X x
  | [], _, h => h
  | n :: r, _, h => foldP_in hX r (relaxP_in hX h n)
theorem roundsP_in {X : α → Prop} {names : List α} (hX : ∀ n v u m, lk ns n = some (v, u, m) → X v → X u) : ∀ (k : Nat) {P : Ps α}, (∀ x, (lk P x).isSome → X x) → ∀ x, (lk (roundsP ns names k P) x).isSome → X x
  | 0, _, h => h
  | k + 1, _, h => roundsP_in hX k (foldP_in hX names h)
/-- the greatest that one word is above another one: as a row and a way say -/
theorem most_is {names : List α} (all : ∀ n v u m, lk ns n = some (v, u, m) → n ∈ names) {r : α → Int} (hr : RowIs ns r) {L : List α} {one other : α} {due : Int} (p : Path ns L one other due) (e : r one - r other = due) {k : Nat} (hk : L.length ≤ k) :
    ∃ l, lk (roundsP ns names k [(one, (0, []))]) other = some (due, l) ∧ Path ns l one other due := by
  have h0 : lk ([(one, (0, []))] : Ps α) one = some (0, []) := by simp [lk]
  have hA : AllP ns one [(one, (0, []))] := fun x d l h => by
    unfold lk at h
    split at h
    · rename_i ex; cases h; exact ⟨ex, rfl⟩
    · cases h
  obtain ⟨d, l, h1, h2⟩ := rounds_reach all L (k := k) p hk h0
  have hp := hA.rounds (names := names) k _ _ _ h1
  have := path_le hr hp
  have hd : d = due := by omega
  subst hd
  exact ⟨l, h1, hp⟩
end
end K16

/-! K16A: notes as data; words, rings. -/
namespace K16
open PySem PD
theorem size63 {n : Nat} (h : n < 64) : n ≤ sizeLine := by rw [sizeLine_eq]; omega
theorem size63' {n : Nat} (h : n < 64) : n < sizeLine := by rw [sizeLine_eq]; omega
abbrev Ns := List (Str × Nt Str)
def eN (x : Nt Str) : D := .tuple [.str x.1, .str x.2.1, .int x.2.2]
def eM {β : Type} (g : β → D) (m : List (Str × β)) : List (D × D) := m.map fun p => (.str p.1, g p.2)
def eNs (ns : Ns) : D := .dict (eM eN ns)
theorem look_e {β : Type} (g : β → D) (k : Str) : ∀ m : List (Str × β), lookD (eM g m) (.str k) = (lk m k).map g
  | [] => rfl
  | (a, v) :: r => by
    have ih := look_e g k r
    simp only [eM, List.map_cons, lookD, keyEq, lk, decide_eq_true_eq] at ih ⊢
    split
    · rfl
    · exact ih
theorem put_e {β : Type} (g : β → D) (k : Str) (v : β) (m : List (Str × β)) : putP (eM g m) (.str k) (g v) = eM g (put m k v) := by
  unfold putP put
  rw [look_e]
  have e1 : ((lk m k).map g).isSome = (lk m k).isSome := by cases lk m k <;> rfl
  rw [e1]
  split
  · simp only [eM, List.map_map]
    apply List.map_congr_left
    intro p _
    simp only [Function.comp, keyEq, decide_eq_true_eq]
    split <;> rfl
  · simp [eM]
theorem ix_e {β : Type} (g : β → D) {k : Str} {v : β} {m : List (Str × β)} (h : lk m k = some v) : ixD (.dict (eM g m)) (.str k) = some (g v, false) := by
  simp only [ixD, keyD, look_e, h, Option.map_some]
theorem ixT0 {x : D} {r : List D} : ixD (.tuple (x :: r)) (.int 0) = some (x, false) := by simp only [ixD, at0]
theorem ixT1 {x y : D} {r : List D} : ixD (.tuple (x :: y :: r)) (.int 1) = some (y, false) := by simp only [ixD, at1]
theorem ixT2 {x y z : D} {r : List D} : ixD (.tuple (x :: y :: z :: r)) (.int 2) = some (z, false) := by simp only [ixD, at2]
theorem ixT3 {x y z u : D} {r : List D} : ixD (.tuple (x :: y :: z :: u :: r)) (.int 3) = some (u, false) := by simp only [ixD, at3]
theorem in_e {β : Type} (g : β → D) {k : Str} {m : List (Str × β)} : inD (.str k) (.dict (eM g m)) = some (.bool (lk m k).isSome, false) := by
  have e1 : ((lk m k).map g).isSome = (lk m k).isSome := by cases lk m k <;> rfl
  simp only [inD, keyD, look_e, e1]
theorem nin_e {β : Type} (g : β → D) {k : Str} {m : List (Str × β)} : ninD (.str k) (.dict (eM g m)) = some (.bool (!(lk m k).isSome), false) := by
  simp only [ninD, in_e]
theorem eM_length {β : Type} (g : β → D) (m : List (Str × β)) : (eM g m).length = m.length := by simp [eM]
theorem strKeys_e {β : Type} (g : β → D) : ∀ m : List (Str × β), strKeys (eM g m) = some (m.map (·.1))
  | [] => rfl
  | (a, v) :: r => by
    have ih := strKeys_e g r
    simp only [eM, List.map_cons] at ih ⊢
    simp only [strKeys, ih]
def nm (ns : Ns) : List Str := sortS (ns.map (·.1))
def wds (ns : Ns) : List Str := ns.flatMap fun p => [p.2.1, p.2.2.1]
def wd (ns : Ns) : List Str := sortU (wds ns)
structure Vd (ns : Ns) : Prop where
  nodup : (ns.map (·.1)).Nodup
  len : ns.length < 30
theorem nm_mem {ns : Ns} {n : Str} : n ∈ nm ns ↔ n ∈ ns.map (·.1) := (sortS_perm _).mem_iff
theorem all_nm {ns : Ns} : ∀ n v u m, lk ns n = some (v, u, m) → n ∈ nm ns := fun n v u m h => nm_mem.mpr (lk_isSome.mp (by rw [h]; rfl))
theorem nm_lk {ns : Ns} {n : Str} (h : n ∈ nm ns) : ∃ v u m, lk ns n = some (v, u, m) := by
  obtain ⟨⟨v, u, m⟩, e⟩ := Option.isSome_iff_exists.mp (lk_isSome.mpr (nm_mem.mp h))
  exact ⟨v, u, m, e⟩
theorem nm_length {ns : Ns} : (nm ns).length = ns.length := by rw [nm, (sortS_perm _).length_eq, List.length_map]
theorem within_wd {ns : Ns} : Within ns (wd ns) := fun n v u m h => by
  have := lk_some h
  constructor <;> (unfold wd wds; rw [sortU_mem, List.mem_flatMap]; exact ⟨_, this, by simp⟩)
theorem wd_nodup {ns : Ns} : (wd ns).Nodup := (sortU_sorted _).imp ltS_ne
theorem wds_length (ns : Ns) : (wds ns).length = 2 * ns.length := by
  induction ns with
  | nil => rfl
  | cons p r ih =>
    have : wds (p :: r) = p.2.1 :: p.2.2.1 :: wds r := rfl
    rw [this]
    simp only [List.length_cons, ih]
    omega
theorem wd_length {ns : Ns} : (wd ns).length ≤ 2 * ns.length := by
  rw [← wds_length]
  exact nodup_le wd_nodup fun x hx => (sortU_mem x _).mp hx
theorem sorted_e {ns : Ns} (h : Vd ns) : sortAD (eNs ns) = some (.list ((nm ns).map .str), true) := by
  simp only [eNs, sortAD, strKeys_e]
  rw [if_pos (by rw [List.length_map]; have := h.len; omega)]
  rfl
/-! ### a comprehension with two for, whose turns leave the frame as it was -/
theorem lc2L_eq {vs vs1 : List Nat} {g : GF} {t : TF} {s1 : IF} {g1 : GF} {t1 : TF} {f : EF} {env : Ev} {β : Type} (c : β → D) (φ : β → List D) : ∀ (as : List β), (∀ a ∈ as, ∃ e1 e2 ds1 e3 e4, g (c a) env = some e1 ∧ t e1 = some (true, e2) ∧ s1 e2 = some (ds1, e3) ∧ noOwn e3 vs1 = true ∧ lcL vs1 g1 t1 f ds1 (wipeE e3 vs1) = some (φ a, e4) ∧ wipeE e4 vs = env) → lc2L vs vs1 g t s1 g1 t1 f (as.map c) env = some (as.flatMap φ, env)
  | [], _ => rfl
  | a :: as, h => by
    have ih := lc2L_eq c φ as fun b hb => h b (List.mem_cons_of_mem _ hb)
    obtain ⟨e1, e2, ds1, e3, e4, h1, h2, h3, h4, h5, h6⟩ := h a List.mem_cons_self
    simp only [List.map_cons, lc2L, h1, h2, h3, h4, h5, h6, ih, if_true, List.flatMap_cons]
theorem vals_e {β : Type} (g : β → D) (m : List (Str × β)) : valsOf (eM g m) = m.map fun p => g p.2 := by
  simp [valsOf, eM]
theorem words_spec {ns : Ns} (h : Vd ns) : words_of_F [eNs ns] = some (.list ((wd ns).map .str), true, .none) := by
  have l1 : lc2L [2, 3, 4, 1] [1] (tupG 3 (consG (nameG 2) (consG (nameG 3) (consG (nameG 4) nilG)))) yesT (seqI (opFA (consO (ofE (varE 2)) (consO (ofE (varE 3)) nilO)) tupD)) (nameG 1) yesT words_of_e1 (ns.map fun p => eN p.2) [some (eNs ns, .sh), none, none, none, none] = some ((wds ns).map .str, [some (eNs ns, .sh), none, none, none, none]) := by
    rw [lc2L_eq (fun p : Str × Nt Str => eN p.2) (fun p => [.str p.2.1, .str p.2.2.1]) ns fun p _ => ?_]
    · simp [wds, List.map_flatMap]
    · let e1 : Ev := [some (eNs ns, .sh), none, some (.str p.2.1, .sh), some (.str p.2.2.1, .sh), some (.int p.2.2.2, .sh)]
      exact ⟨e1, e1, [.str p.2.1, .str p.2.2.1], e1, e1, by simp [e1, seqF, setF, retF, exprF, ifF, asgF, augF, augS, parF, opF, opFA, consO, nilO, ofE, varO, varE, mvE, cF, derefs, deref, PD.g1, PD.g2, setv, tstF, truF, trueD, andT, orT, notT, andE, orE, notE, iteE, getE, newDF, dispF, dispL, seqI, rngI, callF, callM, frzL, pkS, immD, immL, mutF, noSlot, tyD, slF, partF, nameG, tupG, consG, nilG, subG, wipeE, unw, noOwn, yesT, PyData.plain, PyData.plainAll, PyData.depth, PyData.depthAll, bodyFF, argE, fin0, nxF, retN, forF, tupD, lstD, turnF, lc2DF, lc2F, lcDF, dictAt, forDF, dcF, purF, tyP, spreadF, eN], rfl, by simp [e1, seqF, setF, retF, exprF, ifF, asgF, augF, augS, parF, opF, opFA, consO, nilO, ofE, varO, varE, mvE, cF, derefs, deref, PD.g1, PD.g2, setv, tstF, truF, trueD, andT, orT, notT, andE, orE, notE, iteE, getE, newDF, dispF, dispL, seqI, rngI, callF, callM, frzL, pkS, immD, immL, mutF, noSlot, tyD, slF, partF, nameG, tupG, consG, nilG, subG, wipeE, unw, noOwn, yesT, PyData.plain, PyData.plainAll, PyData.depth, PyData.depthAll, bodyFF, argE, fin0, nxF, retN, forF, tupD, lstD, turnF, lc2DF, lc2F, lcDF, dictAt, forDF, dcF, purF, tyP, spreadF, size63 (show 2 < 64 by decide)], rfl, by simp [e1, lcL, words_of_e1, seqF, setF, retF, exprF, ifF, asgF, augF, augS, parF, opF, opFA, consO, nilO, ofE, varO, varE, mvE, cF, derefs, deref, PD.g1, PD.g2, setv, tstF, truF, trueD, andT, orT, notT, andE, orE, notE, iteE, getE, newDF, dispF, dispL, seqI, rngI, callF, callM, frzL, pkS, immD, immL, mutF, noSlot, tyD, slF, partF, nameG, tupG, consG, nilG, subG, wipeE, unw, noOwn, yesT, PyData.plain, PyData.plainAll, PyData.depth, PyData.depthAll, bodyFF, argE, fin0, nxF, retN, forF, tupD, lstD, turnF, lc2DF, lc2F, lcDF, dictAt, forDF, dcF, purF, tyP, spreadF], rfl⟩
  have l2 : (wds ns).length < 64 := by rw [wds_length]; have := h.len; omega
  have l3 : ((wds ns).map PyData.str).length ≤ sizeLine := by rw [List.length_map]; exact size63 l2
  have l5 : (wds ns).length ≤ sizeLine := size63 l2
  simp only [eNs] at l1
  simp [-List.map_map, words_of_F, words_of_B, seqF, setF, retF, exprF, ifF, asgF, augF, augS, parF, opF, opFA, consO, nilO, ofE, varO, varE, mvE, cF, derefs, deref, PD.g1, PD.g2, setv, tstF, truF, trueD, andT, orT, notT, andE, orE, notE, iteE, getE, newDF, dispF, dispL, seqI, rngI, callF, callM, frzL, pkS, immD, immL, mutF, noSlot, tyD, slF, partF, nameG, tupG, consG, nilG, subG, wipeE, unw, noOwn, yesT, PyData.plain, PyData.plainAll, PyData.depth, PyData.depthAll, bodyFF, argE, fin0, nxF, retN, forF, tupD, lstD, turnF, lc2DF, lc2F, lcDF, dictAt, forDF, dcF, purF, tyP, spreadF, eNs, vals_e, noOwn, l1, l5, sortUD, strsD_map, l2, wd]
end K16

/-! K16B: what ring and spread answer. -/
namespace K16
open PySem PD
theorem plain_strs : ∀ l : List Str, PyData.plainAll (l.map .str) = true
  | [] => rfl
  | x :: r => by simp [PyData.plainAll, PyData.plain, plain_strs r]
theorem any_strs (a : Str) : ∀ l : List Str, ((l.map PyData.str).any fun y => PyData.eqv y (.str a)) = decide (a ∈ l)
  | [] => by simp
  | x :: r => by
    rw [List.map_cons, List.any_cons, any_strs a r, eqv_str]
    by_cases e : x = a
    · simp [e]
    · have e' : ¬ a = x := fun z => e z.symm
      simp [e, e']
theorem in_strs (a : Str) (l : List Str) : inD (.str a) (.list (l.map .str)) = some (.bool (decide (a ∈ l)), false) := by
  simp only [inD, plain_strs, any_strs, PyData.plain, PyData.depth, Bool.and_self, Bool.true_and, decide_eq_true_eq, Nat.zero_le, if_true, decide_true]
theorem nin_strs (a : Str) (l : List Str) : ninD (.str a) (.list (l.map .str)) = some (.bool (!decide (a ∈ l)), false) := by
  simp only [ninD, in_strs]
theorem strIx_first {a : Str} : ∀ {l : List Str} {i : Nat}, l[i]? = some a → (∀ m : Nat, m < i → l[m]? ≠ some a) → strIx a l = some i
  | x :: r, 0, h, _ => by
    simp at h
    simp [strIx, h]
  | x :: r, i + 1, h, h2 => by
    have h0 := h2 0 (by omega)
    simp at h0
    have ih := strIx_first (a := a) (l := r) (i := i) (by simpa using h) fun m hm => by simpa using h2 (m + 1) (by omega)
    simp [strIx, h0, ih]
theorem rng_le {j : Int} (h0 : 0 ≤ j) (h : j < 1000) : -(2 ^ 62) ≤ j ∧ j < 2 ^ 62 := by
  have h1 : (1000 : Int) ≤ 2 ^ 62 := by decide
  generalize (2 : Int) ^ 62 = p at *
  omega
theorem rngI_eq {fl : OLF} {e e1 : Ev} {os : List Opd} {j : Int} (h : fl e = some (os, e1)) (k : derefs e1 os = some [.int j]) (h0 : 0 ≤ j) (h1 : j < 1000) : rngI fl e = some (rngL 0 j.toNat, e1) := by
  simp only [rngI, h, k, if_pos (rng_le h0 h1)]
theorem forF_eq {s : IF} {g : GF} {B : SF} {e e1 : Ev} {ds : List D} (h : s e = some (ds, e1)) : forF s g B e = forL g B ds e1 := by
  simp only [forF, h]
/-! ### ring -/
def eW (w : List (Str × Str)) : D := .dict (eM .str w)
def rgE (ns : Ns) (w : List (Str × Str)) (a : Str) (met : List Str) : Ev := [some (eNs ns, .sh), some (eW w, .sh), some (.str a, .sh), some (.list (met.map .str), .ow), none]
theorem ring_while {ns : Ns} {w : List (Str × Str)} : ∀ (k : Nat) (a : Str) (met met' : List Str) (b : Str), met.length + k < 1000 → goes ns w k a met = some (met', b) → whileL (tstF (opF (consO (varO 2) (consO (varO 3) nilO)) (PD.g2 ninD))) ring_b1 k (rgE ns w a met) = some (.nx, rgE ns w b met')
  | 0, a, met, met', b, _, h => nomatch h
  | k + 1, a, met, met', b, hl, h => by
    have t : tstF (opF (consO (varO 2) (consO (varO 3) nilO)) (PD.g2 ninD)) (rgE ns w a met) = some (!decide (a ∈ met), rgE ns w a met) := by
      simp [rgE, seqF, setF, retF, exprF, ifF, asgF, augF, augS, parF, opF, opFA, consO, nilO, ofE, varO, varE, mvE, cF, derefs, deref, PD.g1, PD.g2, setv, tstF, truF, trueD, andT, orT, notT, andE, orE, notE, iteE, getE, newDF, dispF, dispL, seqI, rngI, callF, callM, frzL, pkS, immD, immL, mutF, noSlot, tyD, slF, partF, nameG, tupG, consG, nilG, subG, wipeE, unw, noOwn, yesT, PyData.plain, PyData.plainAll, PyData.depth, PyData.depthAll, bodyFF, argE, fin0, nxF, retN, forF, tupD, lstD, turnF, lc2DF, lc2F, lcDF, dictAt, forDF, dcF, purF, tyP, spreadF, nin_strs]
    unfold goes at h
    split at h
    · rename_i hin
      cases h
      have t' := t
      simp only [hin, decide_true, Bool.not_true] at t'
      exact while_stop t'
    · rename_i hin
      split at h
      · rename_i n hn
        split at h
        · rename_i x hx
          have t' := t
          simp only [hin, decide_false, Bool.not_false] at t'
          have z : met.length < sizeLine := by rw [sizeLine_eq]; omega
          have b1 : ring_b1 (rgE ns w a met) = some (.nx, rgE ns w x.2.1 (met ++ [a])) := by
            simp [ring_b1, rgE, seqF, setF, retF, exprF, ifF, asgF, augF, augS, parF, opF, opFA, consO, nilO, ofE, varO, varE, mvE, cF, derefs, deref, PD.g1, PD.g2, setv, tstF, truF, trueD, andT, orT, notT, andE, orE, notE, iteE, getE, newDF, dispF, dispL, seqI, rngI, callF, callM, frzL, pkS, immD, immL, mutF, noSlot, tyD, slF, partF, nameG, tupG, consG, nilG, subG, wipeE, unw, noOwn, yesT, PyData.plain, PyData.plainAll, PyData.depth, PyData.depthAll, bodyFF, argE, fin0, nxF, retN, forF, tupD, lstD, turnF, lc2DF, lc2F, lcDF, dictAt, forDF, dcF, purF, tyP, spreadF, appendM, z, eW, eNs, ix_e, hn, hx, eN, ixT1]
          rw [while_go t' (.inl b1)]
          exact ring_while k x.2.1 (met ++ [a]) met' b (by simp; omega) h
        · cases h
      · cases h
theorem ring_spec {ns : Ns} {w : List (Str × Str)} {v b : Str} {met : List Str} {i : Nat} (h : goes ns w 64 v [] = some (met, b)) (h1 : met[i]? = some b) (h2 : ∀ m : Nat, m < i → met[m]? ≠ some b) (hz : met.length < 64) (hw : ∀ x ∈ met, (lk w x).isSome) :
    ring_F [eNs ns, eW w, .str v] = some (.tuple (((met.drop i).filterMap (lk w)).map .str), false, .none) := by
  have wl := ring_while (ns := ns) (w := w) 64 v [] met b (by simp) h
  have hi : i < met.length := by
    obtain ⟨z, _⟩ := List.getElem?_eq_some_iff.mp h1
    exact z
  have cut : cutD (met.map PyData.str) (some ((i : Nat) : Int)) none = (met.drop i).map .str := by
    unfold cutD
    rw [HT.sIx_nat, HT.sIx_none, List.length_map, Nat.min_eq_left (by omega), List.take_of_length_le (by rw [List.length_drop, List.length_map]; omega), List.map_drop]
  have lc : lcL [4] (nameG 4) yesT ring_e1 ((met.drop i).map .str) [some (eNs ns, .sh), some (eW w, .sh), some (.str b, .sh), some (.list (met.map .str), .ow), none] = some (((met.drop i).filterMap (lk w)).map .str, [some (eNs ns, .sh), some (eW w, .sh), some (.str b, .sh), some (.list (met.map .str), .ow), none]) := by
    rw [lcL_map PyData.str (fun x => (lk w x).map PyData.str) (met.drop i) fun x hx => ?_]
    · congr 2
      rw [List.map_filterMap]
    · obtain ⟨y, hy⟩ := Option.isSome_iff_exists.mp (hw x (List.mem_of_mem_drop hx))
      simp [ring_e1, seqF, setF, retF, exprF, ifF, asgF, augF, augS, parF, opF, opFA, consO, nilO, ofE, varO, varE, mvE, cF, derefs, deref, PD.g1, PD.g2, setv, tstF, truF, trueD, andT, orT, notT, andE, orE, notE, iteE, getE, newDF, dispF, dispL, seqI, rngI, callF, callM, frzL, pkS, immD, immL, mutF, noSlot, tyD, slF, partF, nameG, tupG, consG, nilG, subG, wipeE, unw, noOwn, yesT, PyData.plain, PyData.plainAll, PyData.depth, PyData.depthAll, bodyFF, argE, fin0, nxF, retN, forF, tupD, lstD, turnF, lc2DF, lc2F, lcDF, dictAt, forDF, dcF, purF, tyP, spreadF, eW, ix_e, hy]
  have z1 : met.length ≤ sizeLine + i := Nat.le_trans (size63 hz) (Nat.le_add_right _ _)
  have ix : strIx b met = some i := strIx_first h1 h2
  simp only [rgE, List.map_nil] at wl
  simp [-List.map_drop, ring_F, ring_B, seqF, setF, retF, exprF, ifF, asgF, augF, augS, parF, opF, opFA, consO, nilO, ofE, varO, varE, mvE, cF, derefs, deref, PD.g1, PD.g2, setv, tstF, truF, trueD, andT, orT, notT, andE, orE, notE, iteE, getE, newDF, dispF, dispL, seqI, rngI, callF, callM, frzL, pkS, immD, immL, mutF, noSlot, tyD, slF, partF, nameG, tupG, consG, nilG, subG, wipeE, unw, noOwn, yesT, PyData.plain, PyData.plainAll, PyData.depth, PyData.depthAll, bodyFF, argE, fin0, nxF, retN, forF, tupD, lstD, turnF, lc2DF, lc2F, lcDF, dictAt, forDF, dcF, purF, tyP, spreadF, lcF, size63, wl, indexD, strsD_map, ix, sliceD, cut, lc, noOwn, z1, tupleD, List.length_map]
/-! ### spread -/
def lD : Option Str → D
  | none => .none
  | some v => .str v
def spX (p : Bool) (ns : Ns) (W : List Str) (s : S Str) (i4 : Option Int) (x : Option (Str × Nt Str)) : Ev :=
  [some (eNs ns, .sh), some (.list (W.map .str), .sh), some (.dict (eM .int s.f), .ow), some (eW s.w, .ow), i4.map fun i => (.int i, .sh), if p = true then some (lD s.l, .sh) else none, x.map fun t => (.str t.1, .sh), none, x.map fun t => (.str t.2.1, .sh), x.map fun t => (.str t.2.2.1, .sh), x.map fun t => (.int t.2.2.2, .sh)]
abbrev spE := spX true
theorem spread_turn {ns : Ns} {W : List Str} {s : S Str} {i4 : Option Int} {n v u : Str} {m a b : Int} {x : Option (Str × Nt Str)} (hn : lk ns n = some (v, u, m)) (ha : lk s.f v = some a) (hb : lk s.f u = some b) (z1 : s.f.length < sizeLine) (z2 : s.w.length < sizeLine) :
    ∃ e1, nameG 6 (.str n) (spE ns W s i4 x) = some e1 ∧ spread_b1 e1 = some (.nx, spE ns W (relax ns s n) i4 (some (n, v, u, m))) := by
  have p1 : putP (eM PyData.int s.f) (.str v) (.int (b + m)) = eM PyData.int (put s.f v (b + m)) := put_e PyData.int v (b + m) s.f
  have p2 : putP (eM PyData.str s.w) (.str v) (.str n) = eM PyData.str (put s.w v n) := put_e PyData.str v n s.w
  have c1 : (eM PyData.int s.f).length < sizeLine := by rw [eM_length]; exact z1
  have c2 : (eM PyData.str s.w).length < sizeLine := by rw [eM_length]; exact z2
  cases x with
  | none =>
    refine ⟨_, rfl, ?_⟩
    by_cases c : b + m < a
    · simp [spread_b1, seqF, setF, retF, exprF, ifF, asgF, augF, augS, parF, opF, opFA, consO, nilO, ofE, varO, varE, mvE, cF, derefs, deref, PD.g1, PD.g2, setv, tstF, truF, trueD, andT, orT, notT, andE, orE, notE, iteE, getE, newDF, dispF, dispL, seqI, rngI, callF, callM, frzL, pkS, immD, immL, mutF, noSlot, tyD, slF, partF, nameG, tupG, consG, nilG, subG, wipeE, unw, noOwn, yesT, PyData.plain, PyData.plainAll, PyData.depth, PyData.depthAll, bodyFF, argE, fin0, nxF, retN, forF, tupD, lstD, turnF, lc2DF, lc2F, lcDF, dictAt, forDF, dcF, purF, tyP, spreadF, spE, spX, eNs, ix_e, hn, eN, ha, hb, addD, gtD, putD, keyD, c1, c2, p1, p2, relax, c, eW, lD]
    · simp [spread_b1, seqF, setF, retF, exprF, ifF, asgF, augF, augS, parF, opF, opFA, consO, nilO, ofE, varO, varE, mvE, cF, derefs, deref, PD.g1, PD.g2, setv, tstF, truF, trueD, andT, orT, notT, andE, orE, notE, iteE, getE, newDF, dispF, dispL, seqI, rngI, callF, callM, frzL, pkS, immD, immL, mutF, noSlot, tyD, slF, partF, nameG, tupG, consG, nilG, subG, wipeE, unw, noOwn, yesT, PyData.plain, PyData.plainAll, PyData.depth, PyData.depthAll, bodyFF, argE, fin0, nxF, retN, forF, tupD, lstD, turnF, lc2DF, lc2F, lcDF, dictAt, forDF, dcF, purF, tyP, spreadF, spE, spX, eNs, ix_e, hn, eN, ha, hb, addD, gtD, relax, c]
  | some x =>
    refine ⟨_, rfl, ?_⟩
    by_cases c : b + m < a
    · simp [spread_b1, seqF, setF, retF, exprF, ifF, asgF, augF, augS, parF, opF, opFA, consO, nilO, ofE, varO, varE, mvE, cF, derefs, deref, PD.g1, PD.g2, setv, tstF, truF, trueD, andT, orT, notT, andE, orE, notE, iteE, getE, newDF, dispF, dispL, seqI, rngI, callF, callM, frzL, pkS, immD, immL, mutF, noSlot, tyD, slF, partF, nameG, tupG, consG, nilG, subG, wipeE, unw, noOwn, yesT, PyData.plain, PyData.plainAll, PyData.depth, PyData.depthAll, bodyFF, argE, fin0, nxF, retN, forF, tupD, lstD, turnF, lc2DF, lc2F, lcDF, dictAt, forDF, dcF, purF, tyP, spreadF, spE, spX, eNs, ix_e, hn, eN, ha, hb, addD, gtD, putD, keyD, c1, c2, p1, p2, relax, c, eW, lD]
    · simp [spread_b1, seqF, setF, retF, exprF, ifF, asgF, augF, augS, parF, opF, opFA, consO, nilO, ofE, varO, varE, mvE, cF, derefs, deref, PD.g1, PD.g2, setv, tstF, truF, trueD, andT, orT, notT, andE, orE, notE, iteE, getE, newDF, dispF, dispL, seqI, rngI, callF, callM, frzL, pkS, immD, immL, mutF, noSlot, tyD, slF, partF, nameG, tupG, consG, nilG, subG, wipeE, unw, noOwn, yesT, PyData.plain, PyData.plainAll, PyData.depth, PyData.depthAll, bodyFF, argE, fin0, nxF, retN, forF, tupD, lstD, turnF, lc2DF, lc2F, lcDF, dictAt, forDF, dcF, purF, tyP, spreadF, spE, spX, eNs, ix_e, hn, eN, ha, hb, addD, gtD, relax, c]
theorem relax_keys {ns : Ns} {W : List Str} {s : S Str} {n : Str} (wi : Within ns W) (h : s.f.map (·.1) = W) : (relax ns s n).f.map (·.1) = W ∧ (relax ns s n).w.length ≤ s.w.length + 1 := by
  unfold relax
  split
  · split
    · rename_i a b ha hb
      split
      · refine ⟨by rw [keys_put, ha]; exact h, ?_⟩
        show (put s.w _ _).length ≤ _
        unfold put
        split <;> simp
      · exact ⟨h, Nat.le_succ _⟩
    · exact ⟨h, Nat.le_succ _⟩
  · exact ⟨h, Nat.le_succ _⟩
theorem spread_for {ns : Ns} {W : List Str} {i4 : Option Int} (wi : Within ns W) (zW : W.length < sizeLine) : ∀ (names : List Str) (s : S Str) (x : Option (Str × Nt Str)), (∀ n ∈ names, ∃ v u m, lk ns n = some (v, u, m)) → s.f.map (·.1) = W → s.w.length + names.length < sizeLine →
    ∃ x', forL (nameG 6) spread_b1 (names.map .str) (spE ns W s i4 x) = some (.nx, spE ns W (names.foldl (relax ns) s) i4 x') ∧ (names.foldl (relax ns) s).f.map (·.1) = W ∧ (names.foldl (relax ns) s).w.length ≤ s.w.length + names.length
  | [], s, x, _, hk, _ => ⟨x, rfl, hk, Nat.le_add_right _ _⟩
  | n :: r, s, x, hn, hk, hz => by
    obtain ⟨v, u, m, e⟩ := hn n List.mem_cons_self
    obtain ⟨w1, w2⟩ := wi n v u m e
    rw [← hk] at w1 w2
    obtain ⟨a, ha⟩ := Option.isSome_iff_exists.mp (lk_isSome.mpr w1)
    obtain ⟨b, hb⟩ := Option.isSome_iff_exists.mp (lk_isSome.mpr w2)
    have zf : s.f.length < sizeLine := by
      have := congrArg List.length hk
      rw [List.length_map] at this
      omega
    simp only [List.length_cons] at hz
    obtain ⟨e1, h1, h2⟩ := spread_turn (W := W) (i4 := i4) (x := x) e ha hb zf (by omega)
    obtain ⟨k1, k2⟩ := relax_keys (n := n) wi hk
    obtain ⟨x', h3, h4, h5⟩ := spread_for wi zW r (relax ns s n) (some (n, v, u, m)) (fun y hy => hn y (List.mem_cons_of_mem _ hy)) k1 (by omega)
    refine ⟨x', ?_, h4, by simp only [List.foldl_cons, List.length_cons]; omega⟩
    simp only [List.map_cons, forL, h1, h2, List.foldl_cons]
    exact h3
def rowD (W : List Str) (f : Str → Int) : List D := W.map fun w => .tuple [.str w, .int (f w)]
theorem spread_round {p : Bool} {ns : Ns} {W : List Str} {s : S Str} {i4 : Option Int} {x : Option (Str × Nt Str)} {i : Int} (vd : Vd ns) (wi : Within ns W) (zW : W.length < 64) (hk : s.f.map (·.1) = W) (hz : s.w.length + 30 < sizeLine) :
    ∃ e1, nameG 4 (.int i) (spX p ns W s i4 x) = some e1 ∧ ∃ x' e2, let s' := (nm ns).foldl (relax ns) { s with l := none }
      spread_b2 e1 = some (if s'.l.isNone then .rt (.tuple [.str s_row, .tuple (rowD W (val s'.f))]) false else .nx, e2) ∧ (s'.l.isNone = false → e2 = spE ns W s' (some i) x') ∧ s'.f.map (·.1) = W ∧ s'.w.length ≤ s.w.length + 30 := by
  obtain ⟨x', h1, h2, h3⟩ := spread_for (i4 := some i) wi (size63' zW) (nm ns) { s with l := none } x (fun n hn => nm_lk hn) hk (by rw [nm_length]; have := vd.len; simp only; omega)
  have n30 := vd.len
  rw [nm_length] at h3
  simp only at h3
  have fo : forF (seqI (opF (consO (varO 0) nilO) (PD.g1 sortAD))) (nameG 6) spread_b1 (spE ns W { s with l := none } (some i) x) = some (.nx, spE ns W ((nm ns).foldl (relax ns) { s with l := none }) (some i) x') := by
    have := sorted_e vd
    simp [-List.map_map, forF, seqI, opF, consO, nilO, varO, deref, derefs, PD.g1, spE, spX, this] at h1 ⊢
    exact h1
  refine ⟨spX p ns W s (some i) x, by cases i4 <;> simp [spX, nameG, setv], x', ?_⟩
  generalize hs : (nm ns).foldl (relax ns) { s with l := none } = s' at *
  dsimp only
  have st : setF 5 (cF .none) (spX p ns W s (some i) x) = some (.nx, spE ns W { s with l := none } (some i) x) := by cases p <;> simp [setF, cF, setv, spE, spX, lD]
  have lc : ∀ x6 x8 x9 x10 : Option (D × Ow), lcL [7] (nameG 7) yesT spread_e3 (W.map .str) [some (eNs ns, .sh), some (.list (W.map .str), .sh), some (.dict (eM .int s'.f), .ow), some (eW s'.w, .ow), some (.int i, .sh), some (.none, .sh), x6, none, x8, x9, x10] = some (rowD W (val s'.f), [some (eNs ns, .sh), some (.list (W.map .str), .sh), some (.dict (eM .int s'.f), .ow), some (eW s'.w, .ow), some (.int i, .sh), some (.none, .sh), x6, none, x8, x9, x10]) := fun x6 x8 x9 x10 => by
    rw [lcL_map PyData.str (fun w => some (.tuple [.str w, .int (val s'.f w)])) W fun w hw => ?_]
    · rw [filterMap_all]; rfl
    · rw [← h2] at hw
      obtain ⟨a, ha⟩ := Option.isSome_iff_exists.mp (lk_isSome.mpr hw)
      simp [spread_e3, seqF, setF, retF, exprF, ifF, asgF, augF, augS, parF, opF, opFA, consO, nilO, ofE, varO, varE, mvE, cF, derefs, deref, PD.g1, PD.g2, setv, tstF, truF, trueD, andT, orT, notT, andE, orE, notE, iteE, getE, newDF, dispF, dispL, seqI, rngI, callF, callM, frzL, pkS, immD, immL, mutF, noSlot, tyD, slF, partF, nameG, tupG, consG, nilG, subG, wipeE, unw, noOwn, yesT, PyData.plain, PyData.plainAll, PyData.depth, PyData.depthAll, bodyFF, argE, fin0, nxF, retN, forF, tupD, lstD, turnF, lc2DF, lc2F, lcDF, dictAt, forDF, dcF, purF, tyP, spreadF, ix_e, ha, val, size63 (show 2 < 64 by decide)]
  cases hl : s'.l with
  | none =>
    have key : ∃ e2, spread_b2 (spX p ns W s (some i) x) = some (.rt (.tuple [.str s_row, .tuple (rowD W (val s'.f))]) false, e2) := by
      unfold spread_b2
      simp only [seqF_eq st, seqF_eq fo]
      simp [-List.map_map, seqF, setF, retF, exprF, ifF, asgF, augF, augS, parF, opF, opFA, consO, nilO, ofE, varO, varE, mvE, cF, derefs, deref, PD.g1, PD.g2, setv, tstF, truF, trueD, andT, orT, notT, andE, orE, notE, iteE, getE, newDF, dispF, dispL, seqI, rngI, callF, callM, frzL, pkS, immD, immL, mutF, noSlot, tyD, slF, partF, nameG, tupG, consG, nilG, subG, wipeE, unw, noOwn, yesT, PyData.plain, PyData.plainAll, PyData.depth, PyData.depthAll, bodyFF, argE, fin0, nxF, retN, forF, tupD, lstD, turnF, lc2DF, lc2F, lcDF, dictAt, forDF, dcF, purF, tyP, spreadF, spE, spX, hl, lD, isD, lcF, noOwn, size63 zW, lc, tupleD, size63 (show 2 < 64 by decide)]
    obtain ⟨e2, he2⟩ := key
    exact ⟨e2, by simpa [hl] using he2, fun z => by simp [hl] at z, h2, by omega⟩
  | some v =>
    refine ⟨spE ns W s' (some i) x', ?_, fun _ => rfl, h2, by omega⟩
    unfold spread_b2
    rw [seqF_eq st, seqF_eq fo]
    simp [seqF, setF, retF, exprF, ifF, asgF, augF, augS, parF, opF, opFA, consO, nilO, ofE, varO, varE, mvE, cF, derefs, deref, PD.g1, PD.g2, setv, tstF, truF, trueD, andT, orT, notT, andE, orE, notE, iteE, getE, newDF, dispF, dispL, seqI, rngI, callF, callM, frzL, pkS, immD, immL, mutF, noSlot, tyD, slF, partF, nameG, tupG, consG, nilG, subG, wipeE, unw, noOwn, yesT, PyData.plain, PyData.plainAll, PyData.depth, PyData.depthAll, bodyFF, argE, fin0, nxF, retN, forF, tupD, lstD, turnF, lc2DF, lc2F, lcDF, dictAt, forDF, dcF, purF, tyP, spreadF, spE, spX, hl, lD, isD]
theorem spread_rounds {p : Bool} {ns : Ns} {W : List Str} (vd : Vd ns) (wi : Within ns W) (zW : W.length < 64) : ∀ (k : Nat) (l : List Int) (s : S Str) (i4 : Option Int) (x : Option (Str × Nt Str)), l.length = k → s.f.map (·.1) = W → s.w.length + 30 * k + 30 < sizeLine →
    ∃ e2, ((rounds ns (nm ns) k s).2 = true → forL (nameG 4) spread_b2 (l.map .int) (spX p ns W s i4 x) = some (.rt (.tuple [.str s_row, .tuple (rowD W (val (rounds ns (nm ns) k s).1.f))]) false, e2)) ∧
      ((rounds ns (nm ns) k s).2 = false → ∃ p' i4' x', (p' = true ∨ (k = 0 ∧ p' = p)) ∧ e2 = spX p' ns W (rounds ns (nm ns) k s).1 i4' x' ∧ forL (nameG 4) spread_b2 (l.map .int) (spX p ns W s i4 x) = some (.nx, e2))
  | 0, l, s, i4, x, hl, hk, hz => by
    obtain rfl := List.length_eq_zero_iff.mp hl
    refine ⟨spX p ns W s i4 x, fun z => ?_, fun _ => ⟨p, i4, x, .inr ⟨rfl, rfl⟩, rfl, rfl⟩⟩
    simp [rounds] at z
  | k + 1, [], s, i4, x, hl, hk, hz => by cases hl
  | k + 1, i :: l, s, i4, x, hl, hk, hz => by
    obtain ⟨e1, h1, x', e2, h2, h3, h4, h5⟩ := spread_round (p := p) (i4 := i4) (x := x) (i := i) vd wi zW hk (by omega)
    simp only [rounds]
    generalize hs : (nm ns).foldl (relax ns) { s with l := none } = s' at *
    cases hn : s'.l.isNone with
    | true =>
      simp only [hn, if_true] at h2 ⊢
      exact ⟨e2, fun _ => by simp only [List.map_cons, forL, h1, h2], fun z => nomatch z⟩
    | false =>
      simp only [hn, Bool.false_eq_true, if_false] at h2 ⊢
      have h3 := h3 hn
      subst h3
      obtain ⟨e3, q1, q2⟩ := spread_rounds (p := true) vd wi zW k l s' (some i) x' (by simpa using hl) h4 (by omega)
      refine ⟨e3, fun z => ?_, fun z => ?_⟩
      · simp only [List.map_cons, forL, h1, h2]
        exact q1 z
      · obtain ⟨p', i4', x2, r0, r1, r2⟩ := q2 z
        refine ⟨p', i4', x2, .inl (r0.elim id fun z => z.2), r1, ?_⟩
        simp only [List.map_cons, forL, h1, h2]
        exact r2
abbrev dcE (ns : Ns) (W : List Str) : Ev := [some (eNs ns, .sh), some (.list (W.map .str), .ow), none, none, none, none, none, none, none, none, none]
theorem dc_zero {ns : Ns} {W : List Str} : ∀ (ws : List Str) (acc : List (Str × Int)), (acc.map (·.1) ++ ws).Nodup → acc.length + ws.length < 64 → dcL [7] (nameG 7) yesT spread_e1 spread_e2 (ws.map .str) (eM .int acc) [some (eNs ns, .sh), some (.list (W.map .str), .sh), none, none, none, none, none, none, none, none, none] = some (eM .int (acc ++ ws.map fun w => (w, 0)), [some (eNs ns, .sh), some (.list (W.map .str), .sh), none, none, none, none, none, none, none, none, none])
  | [], acc, _, _ => by simp [dcL]
  | w :: ws, acc, hn, hl => by
    have hw : lk acc w = none := lk_none.mpr fun z => by
      rw [List.nodup_append] at hn
      exact hn.2.2 w z w List.mem_cons_self rfl
    have p : putP (eM .int acc) (.str w) (.int 0) = eM .int (acc ++ [(w, 0)]) := by
      rw [put_e PyData.int w 0 acc]
      unfold put
      rw [hw]
      rfl
    have z : (eM PyData.int acc).length < sizeLine := by rw [eM_length]; exact size63' (by simp at hl; omega)
    have ih := dc_zero (ns := ns) (W := W) ws (acc ++ [(w, 0)]) (by simpa using hn) (by simp at hl ⊢; omega)
    have s1 : nameG 7 (.str w) [some (eNs ns, .sh), some (.list (W.map .str), .sh), none, none, none, none, none, none, none, none, none] = some [some (eNs ns, .sh), some (.list (W.map .str), .sh), none, none, none, none, none, some (.str w, .sh), none, none, none] := rfl
    have s2 : spread_e1 [some (eNs ns, .sh), some (.list (W.map .str), .sh), none, none, none, none, none, some (.str w, .sh), none, none, none] = some (.str w, false, [some (eNs ns, .sh), some (.list (W.map .str), .sh), none, none, none, none, none, some (.str w, .sh), none, none, none]) := rfl
    have s3 : spread_e2 [some (eNs ns, .sh), some (.list (W.map .str), .sh), none, none, none, none, none, some (.str w, .sh), none, none, none] = some (.int 0, false, [some (eNs ns, .sh), some (.list (W.map .str), .sh), none, none, none, none, none, some (.str w, .sh), none, none, none]) := rfl
    simp only [List.map_cons, dcL, s1, yesT, s2, s3, keyD, z, if_true, p]
    rw [show wipeE [some (eNs ns, Ow.sh), some (.list (W.map .str), .sh), none, none, none, none, none, some (.str w, .sh), none, none, none] [7] = [some (eNs ns, .sh), some (.list (W.map .str), .sh), none, none, none, none, none, none, none, none, none] from rfl, ih]
    simp
end K16

/-! K16C: what spread answers. -/
namespace K16
open PySem PD
abbrev sp3 (ns : Ns) : Ev := [some (eNs ns, .sh), some (.list ((wd ns).map .str), .sh), some (.dict (eM .int (start (wd ns)).f), .ow), some (eW [], .ow), none, none, none, none, none, none, none]
theorem spread_head {ns : Ns} (vd : Vd ns) (G : SF) : seqF (setF 1 (callF words_of_F [] (consO (varO 0) nilO))) (seqF (setF 2 (dcF [7] (seqI (varE 1)) (nameG 7) yesT spread_e1 spread_e2)) (seqF (setF 3 newDF) G)) [some (eNs ns, .sh), none, none, none, none, none, none, none, none, none, none] = G (sp3 ns) := by
  have zW : (wd ns).length < 64 := by have := wd_length (ns := ns); have := vd.len; omega
  have dc := dc_zero (ns := ns) (W := wd ns) (wd ns) [] (by simpa using wd_nodup) (by simpa using zW)
  have c1 : callF words_of_F [] (consO (varO 0) nilO) [some (eNs ns, .sh), none, none, none, none, none, none, none, none, none, none] = some (.list ((wd ns).map .str), true, [some (eNs ns, .sh), none, none, none, none, none, none, none, none, none, none]) := callF_eq (consO_eq rfl nilO_eq) rfl (words_spec vd) rfl
  simp only [show eM PyData.int ([] : List (Str × Int)) = [] from rfl, List.nil_append] at dc
  simp only [seqF, setF, c1]
  simp [-List.map_map, seqF, setF, retF, exprF, ifF, asgF, augF, augS, parF, opF, opFA, consO, nilO, ofE, varO, varE, mvE, cF, derefs, deref, PD.g1, PD.g2, setv, tstF, truF, trueD, andT, orT, notT, andE, orE, notE, iteE, getE, newDF, dispF, dispL, seqI, rngI, callF, callM, frzL, pkS, immD, immL, mutF, noSlot, tyD, slF, partF, nameG, tupG, consG, nilG, subG, wipeE, unw, noOwn, yesT, PyData.plain, PyData.plainAll, PyData.depth, PyData.depthAll, bodyFF, argE, fin0, nxF, retN, forF, tupD, lstD, turnF, lc2DF, lc2F, lcDF, dictAt, forDF, dcF, purF, tyP, spreadF, noOwn, dc, start, eW, show eM PyData.str ([] : List (Str × Str)) = [] from rfl]
  rfl
theorem spread_loop {ns : Ns} (vd : Vd ns) {o : Out} {e : Ev} (h : forL (nameG 4) spread_b2 (List.map PyData.int (List.map Int.ofNat (List.range ((wd ns).length + 1)))) (sp3 ns) = some (o, e)) : forF (rngI (consO (ofE (opF (consO (ofE (opF (consO (varO 1) (nilO)) (PD.g1 lenD))) (consO (ofE (cF (.int 1))) nilO)) (PD.g2 addD))) (nilO))) (nameG 4) (spread_b2) (sp3 ns) = some (o, e) := by
  have zW : (wd ns).length < 64 := by have := wd_length (ns := ns); have := vd.len; omega
  have rg : rngL 0 ((((wd ns).length : Nat) : Int) + 1).toNat = ((List.range ((wd ns).length + 1)).map Int.ofNat).map PyData.int := by
    rw [show ((((wd ns).length : Nat) : Int) + 1).toNat = (wd ns).length + 1 by omega, rngL, List.map_map]
    apply List.map_congr_left
    intro i _
    simp
  rw [forF_eq (rngI_eq (j := ((wd ns).length : Int) + 1) (os := [.val (.int (((wd ns).length : Int) + 1))]) (e1 := sp3 ns) ?_ rfl (by omega) (by omega)), rg]
  · exact h
  · simp [seqF, setF, retF, exprF, ifF, asgF, augF, augS, parF, opF, opFA, consO, nilO, ofE, varO, varE, mvE, cF, derefs, deref, PD.g1, PD.g2, setv, tstF, truF, trueD, andT, orT, notT, andE, orE, notE, iteE, getE, newDF, dispF, dispL, seqI, rngI, callF, callM, frzL, pkS, immD, immL, mutF, noSlot, tyD, slF, partF, nameG, tupG, consG, nilG, subG, wipeE, unw, noOwn, yesT, PyData.plain, PyData.plainAll, PyData.depth, PyData.depthAll, bodyFF, argE, fin0, nxF, retN, forF, tupD, lstD, turnF, lc2DF, lc2F, lcDF, dictAt, forDF, dcF, purF, tyP, spreadF, sp3, lenD, addD]
theorem imm_strs (l : List Str) : immL (l.map PyData.str) = true := by
  induction l with
  | nil => rfl
  | cons x r ih => simp [immL, immD, ih]
theorem ring_call {p : Bool} {ns : Ns} {W : List Str} {R : S Str} {v b : Str} {met : List Str} {i : Nat} {i4 : Option Int} {x : Option (Str × Nt Str)} (hp : p = true) (g1 : R.l = some v) (g2 : goes ns R.w 64 v [] = some (met, b)) (g3 : met[i]? = some b) (g4 : ∀ m : Nat, m < i → met[m]? ≠ some b) (g8 : met.length < 64) (g9 : ∀ x ∈ met, (lk R.w x).isSome) :
    ∃ e', retF (opFA (consO (ofE (cF (.str s_ring))) (consO (ofE (callF ring_F [] (consO (varO 0) (consO (varO 3) (consO (varO 5) (nilO)))))) (nilO))) tupD) (spX p ns W R i4 x) = some (.rt (.tuple [.str s_ring, .tuple (((met.drop i).filterMap (lk R.w)).map .str)]) false, e') := by
  subst hp
  have rs := ring_spec (ns := ns) g2 g3 g4 g8 g9
  refine ⟨spX true ns W R i4 x, ?_⟩
  have c2 : callF ring_F [] (consO (varO 0) (consO (varO 3) (consO (varO 5) nilO))) (spX true ns W R i4 x) = some (.tuple (((met.drop i).filterMap (lk R.w)).map .str), false, spX true ns W R i4 x) := by
    simp [-List.map_map, seqF, setF, retF, exprF, ifF, asgF, augF, augS, parF, opF, opFA, consO, nilO, ofE, varO, varE, mvE, cF, derefs, deref, PD.g1, PD.g2, setv, tstF, truF, trueD, andT, orT, notT, andE, orE, notE, iteE, getE, newDF, dispF, dispL, seqI, rngI, callF, callM, frzL, pkS, immD, immL, mutF, noSlot, tyD, slF, partF, nameG, tupG, consG, nilG, subG, wipeE, unw, noOwn, yesT, PyData.plain, PyData.plainAll, PyData.depth, PyData.depthAll, bodyFF, argE, fin0, nxF, retN, forF, tupD, lstD, turnF, lc2DF, lc2F, lcDF, dictAt, forDF, dcF, purF, tyP, spreadF, spX, g1, lD, rs, imm_strs]
  simp only [retF, opFA, consO, ofE, cF, c2, nilO, derefs, deref, pkS, List.isEmpty_nil, if_true, tupD, List.length_cons, List.length_nil]
  rw [if_pos (size63 (show 2 < 64 by decide))]
theorem bodyFF_rt {b : Bool} {n : Nat} {B : SF} {ds : List D} {e1 : Ev} {d : D} {fr : Bool} (h : B (argE b ds ++ List.replicate (n - ds.length) none) = some (.rt d fr, e1)) : bodyFF b n B ds = fin0 b e1 d fr := by simp only [bodyFF, h]
theorem seqF_rt {F G : SF} {e e1 : Ev} {d : D} {fr : Bool} (h : F e = some (.rt d fr, e1)) : seqF F G e = some (.rt d fr, e1) := by simp only [seqF, h]
/-- what spread answers -/
theorem spread_is {ns : Ns} (vd : Vd ns) : (∃ f : Str → Int, RowIs ns f ∧ spread_F [eNs ns] = some (.tuple [.str s_row, .tuple (rowD (wd ns) f)], false, .none)) ∨
    ∃ names b t, names ≠ [] ∧ names.length < 64 ∧ Path ns names b b t ∧ t < 0 ∧ spread_F [eNs ns] = some (.tuple [.str s_ring, .tuple (names.map .str)], false, .none) := by
  have zW : (wd ns).length < 64 := by have := wd_length (ns := ns); have := vd.len; omega
  have z30 : 30 * ((wd ns).length + 1) + 30 < sizeLine := by rw [sizeLine_eq]; omega
  obtain ⟨e2, h1, h2⟩ := spread_rounds (p := false) vd within_wd zW ((wd ns).length + 1) ((List.range ((wd ns).length + 1)).map Int.ofNat) (start (wd ns)) none none (by simp) (by simp only [start, List.map_map]; exact List.map_id _) (by show 0 + 30 * ((wd ns).length + 1) + 30 < sizeLine; rw [Nat.zero_add]; exact z30)
  have e0 : argE false [eNs ns] ++ List.replicate (11 - [eNs ns].length) none = [some (eNs ns, .sh), none, none, none, none, none, none, none, none, none, none] := rfl
  have body : ∀ {d : D} {e : Ev}, (seqF (forF (rngI (consO (ofE (opF (consO (ofE (opF (consO (varO 1) (nilO)) (PD.g1 lenD))) (consO (ofE (cF (.int 1))) nilO)) (PD.g2 addD))) (nilO))) (nameG 4) (spread_b2)) (retF (opFA (consO (ofE (cF (.str s_ring))) (consO (ofE (callF ring_F [] (consO (varO 0) (consO (varO 3) (consO (varO 5) (nilO)))))) (nilO))) tupD))) (sp3 ns) = some (.rt d false, e) → spread_F [eNs ns] = some (d, false, .none) := fun {d e} h => by
    unfold spread_F
    refine (bodyFF_rt (e1 := e) (d := d) (fr := false) ?_).trans rfl
    rw [e0]
    unfold spread_B
    rw [spread_head vd]
    exact h
  cases hr : (rounds ns (nm ns) ((wd ns).length + 1) (start (wd ns))).2 with
  | true =>
    left
    obtain ⟨_, h3⟩ := spread_row wd_nodup within_wd all_nm _ hr
    refine ⟨_, h3, body (e := e2) ?_⟩
    exact seqF_rt (spread_loop vd (h1 hr))
  | false =>
    right
    obtain ⟨v, met, b, i, t, g1, g2, g3, g4, g5, g6, g7, g8, g9⟩ := spread_ring wd_nodup within_wd all_nm 64 zW hr
    obtain ⟨p', i4', x', hp, e, h4⟩ := h2 hr
    subst e
    have l1 := spread_loop vd h4
    obtain ⟨e', l2⟩ := ring_call (ns := ns) (W := wd ns) (i4 := i4') (x := x') (p := p') (hp.elim id fun z => absurd z.1 (by omega)) g1 g2 g3 g4 (by omega) g9
    refine ⟨_, b, t, g7, ?_, g5, g6, body (e := e') ?_⟩
    · have := List.length_filterMap_le (lk (rounds ns (nm ns) ((wd ns).length + 1) (start (wd ns))).1.w) (met.drop i)
      rw [List.length_drop] at this
      omega
    rw [seqF_eq l1, l2]
end K16

/-! K16D: what is_path, is_row, judge_spread answer. -/
namespace K16
open PySem PD
def walkP (ns : Ns) : List Str → Str → Int → Option (Str × Int)
  | [], a, t => some (a, t)
  | n :: r, a, t => match lk ns n with
    | some (v, u, m) => if v = a then walkP ns r u (t + m) else none
    | none => none
theorem walkP_iff {ns : Ns} : ∀ {l : List Str} {a c : Str} {t t' : Int}, walkP ns l a t = some (c, t') ↔ Path ns l a c (t' - t)
  | [], a, c, t, t' => by
    simp only [walkP, Path, Option.some.injEq, Prod.mk.injEq]
    constructor
    · rintro ⟨rfl, rfl⟩; exact ⟨rfl, by omega⟩
    · rintro ⟨rfl, h⟩; exact ⟨rfl, by omega⟩
  | n :: r, a, c, t, t' => by
    simp only [walkP, Path]
    constructor
    · intro h
      split at h
      · rename_i v u m hn
        split at h
        · rename_i e
          subst e
          have := walkP_iff.mp h
          exact ⟨u, m, _, hn, this, by omega⟩
        · cases h
      · cases h
    · rintro ⟨u, m, s, hn, p, e⟩
      simp only [hn, if_true]
      exact walkP_iff.mpr (by rw [show t' - (t + m) = s by omega]; exact p)
theorem walkP_in {ns : Ns} : ∀ {l : List Str} {a : Str} {t : Int}, (walkP ns l a t).isSome → ∀ n ∈ l, (lk ns n).isSome
  | n :: r, a, t, h, x, hx => by
    simp only [walkP] at h
    split at h
    · rename_i v u m hn
      split at h
      · rcases List.mem_cons.mp hx with rfl | hx
        · rw [hn]; rfl
        · exact walkP_in h x hx
      · cases h
    · cases h
def pathSum (ns : Ns) (l : List Str) (a b : Str) : Option Int := match walkP ns l a 0 with
  | some (c, t) => if c = b then some t else none
  | none => none
theorem pathSum_iff {ns : Ns} {l : List Str} {a b : Str} {t : Int} : pathSum ns l a b = some t ↔ Path ns l a b t := by
  unfold pathSum
  constructor
  · intro h
    split at h
    · rename_i c t' hw
      split at h
      · rename_i e
        cases h
        subst e
        simpa using walkP_iff.mp hw
      · cases h
    · cases h
  · intro h
    rw [(walkP_iff (t := 0) (t' := t)).mpr (by simpa using h)]
    simp
/-! ### is_path -/
def ipE (ns : Ns) (l : List Str) (a b : Str) (t : Int) (x : Option (Str × Nt Str)) : Ev := [some (eNs ns, .sh), some (.tuple (l.map .str), .sh), some (.str a, .sh), some (.str b, .sh), some (.int t, .sh), x.map fun t => (.str t.1, .sh), x.map fun t => (.str t.2.1, .sh), x.map fun t => (.str t.2.2.1, .sh), x.map fun t => (.int t.2.2.2, .sh)]
theorem path_turn {ns : Ns} {l : List Str} {a b n v u : Str} {t m : Int} {x : Option (Str × Nt Str)} (hn : lk ns n = some (v, u, m)) : ∃ e1, nameG 5 (.str n) (ipE ns l a b t x) = some e1 ∧ (v = a → is_path_b1 e1 = some (.nx, ipE ns l u b (t + m) (some (n, v, u, m)))) ∧ (v ≠ a → ∃ e2, is_path_b1 e1 = some (.rt .none false, e2)) := by
  cases x with
  | none =>
    refine ⟨_, rfl, fun e => ?_, fun e => ?_⟩
    · subst e
      simp [is_path_b1, seqF, setF, retF, exprF, ifF, asgF, augF, augS, parF, opF, opFA, consO, nilO, ofE, varO, varE, mvE, cF, derefs, deref, PD.g1, PD.g2, setv, tstF, truF, trueD, andT, orT, notT, andE, orE, notE, iteE, getE, newDF, dispF, dispL, seqI, rngI, callF, callM, frzL, pkS, immD, immL, mutF, noSlot, tyD, slF, partF, nameG, tupG, consG, nilG, subG, wipeE, unw, noOwn, yesT, PyData.plain, PyData.plainAll, PyData.depth, PyData.depthAll, bodyFF, argE, fin0, nxF, retN, forF, tupD, lstD, turnF, lc2DF, lc2F, lcDF, dictAt, forDF, dcF, purF, tyP, spreadF, ipE, eNs, ix_e, hn, eN, neD, eqv_str, PyData.plain, PyData.depth, iaddD]
    · simp [is_path_b1, seqF, setF, retF, exprF, ifF, asgF, augF, augS, parF, opF, opFA, consO, nilO, ofE, varO, varE, mvE, cF, derefs, deref, PD.g1, PD.g2, setv, tstF, truF, trueD, andT, orT, notT, andE, orE, notE, iteE, getE, newDF, dispF, dispL, seqI, rngI, callF, callM, frzL, pkS, immD, immL, mutF, noSlot, tyD, slF, partF, nameG, tupG, consG, nilG, subG, wipeE, unw, noOwn, yesT, PyData.plain, PyData.plainAll, PyData.depth, PyData.depthAll, bodyFF, argE, fin0, nxF, retN, forF, tupD, lstD, turnF, lc2DF, lc2F, lcDF, dictAt, forDF, dcF, purF, tyP, spreadF, ipE, eNs, ix_e, hn, eN, neD, eqv_str, PyData.plain, PyData.depth, e]
  | some x =>
    refine ⟨_, rfl, fun e => ?_, fun e => ?_⟩
    · subst e
      simp [is_path_b1, seqF, setF, retF, exprF, ifF, asgF, augF, augS, parF, opF, opFA, consO, nilO, ofE, varO, varE, mvE, cF, derefs, deref, PD.g1, PD.g2, setv, tstF, truF, trueD, andT, orT, notT, andE, orE, notE, iteE, getE, newDF, dispF, dispL, seqI, rngI, callF, callM, frzL, pkS, immD, immL, mutF, noSlot, tyD, slF, partF, nameG, tupG, consG, nilG, subG, wipeE, unw, noOwn, yesT, PyData.plain, PyData.plainAll, PyData.depth, PyData.depthAll, bodyFF, argE, fin0, nxF, retN, forF, tupD, lstD, turnF, lc2DF, lc2F, lcDF, dictAt, forDF, dcF, purF, tyP, spreadF, ipE, eNs, ix_e, hn, eN, neD, eqv_str, PyData.plain, PyData.depth, iaddD]
    · simp [is_path_b1, seqF, setF, retF, exprF, ifF, asgF, augF, augS, parF, opF, opFA, consO, nilO, ofE, varO, varE, mvE, cF, derefs, deref, PD.g1, PD.g2, setv, tstF, truF, trueD, andT, orT, notT, andE, orE, notE, iteE, getE, newDF, dispF, dispL, seqI, rngI, callF, callM, frzL, pkS, immD, immL, mutF, noSlot, tyD, slF, partF, nameG, tupG, consG, nilG, subG, wipeE, unw, noOwn, yesT, PyData.plain, PyData.plainAll, PyData.depth, PyData.depthAll, bodyFF, argE, fin0, nxF, retN, forF, tupD, lstD, turnF, lc2DF, lc2F, lcDF, dictAt, forDF, dcF, purF, tyP, spreadF, ipE, eNs, ix_e, hn, eN, neD, eqv_str, PyData.plain, PyData.depth, e]
theorem path_for {ns : Ns} {l0 : List Str} {b : Str} : ∀ (l : List Str) (a : Str) (t : Int) (x : Option (Str × Nt Str)), (∀ n ∈ l, (lk ns n).isSome) → match walkP ns l a t with
    | some (c, t') => ∃ x', forL (nameG 5) is_path_b1 (l.map .str) (ipE ns l0 a b t x) = some (.nx, ipE ns l0 c b t' x')
    | none => ∃ e2, forL (nameG 5) is_path_b1 (l.map .str) (ipE ns l0 a b t x) = some (.rt .none false, e2)
  | [], a, t, x, _ => ⟨x, rfl⟩
  | n :: r, a, t, x, h => by
    obtain ⟨⟨v, u, m⟩, hn⟩ := Option.isSome_iff_exists.mp (h n List.mem_cons_self)
    obtain ⟨e1, h1, h2, h3⟩ := path_turn (l := l0) (a := a) (b := b) (t := t) (x := x) hn
    simp only [walkP, hn]
    by_cases c : v = a
    · subst c
      simp only [if_true]
      have ih := path_for (l0 := l0) (b := b) r u (t + m) (some (n, v, u, m)) fun y hy => h y (List.mem_cons_of_mem _ hy)
      have h2 := h2 rfl
      split
      · rename_i c t' hw
        rw [hw] at ih
        obtain ⟨x', q⟩ := ih
        refine ⟨x', ?_⟩
        simp only [List.map_cons, forL, h1, h2]
        exact q
      · rename_i hw
        rw [hw] at ih
        obtain ⟨x', q⟩ := ih
        refine ⟨x', ?_⟩
        simp only [List.map_cons, forL, h1, h2]
        exact q
    · simp only [if_neg c]
      obtain ⟨e2, h4⟩ := h3 c
      exact ⟨e2, by simp only [List.map_cons, forL, h1, h4]⟩
def oI : Option Int → D
  | none => .none
  | some t => .int t
theorem any_false_bools : ∀ l : List Bool, ((l.map PyData.bool).any fun y => PyData.eqv y (.bool false)) = l.any fun b => !b
  | [] => rfl
  | b :: r => by
    rw [List.map_cons, List.any_cons, List.any_cons, any_false_bools r, eqv_bool]
    cases b <;> rfl
theorem plain_bools : ∀ l : List Bool, PyData.plainAll (l.map .bool) = true
  | [] => rfl
  | x :: r => by simp [PyData.plainAll, PyData.plain, plain_bools r]
theorem in_bools (l : List Bool) : inD (.bool false) (.list (l.map .bool)) = some (.bool (l.any fun b => !b), false) := by
  simp only [inD, plain_bools, any_false_bools, PyData.plain, PyData.depth, Bool.and_self, Bool.true_and, decide_eq_true_eq, Nat.zero_le, if_true, decide_true]
theorem nin_bools (l : List Bool) : ninD (.bool false) (.list (l.map .bool)) = some (.bool (l.all fun b => b), false) := by
  simp only [ninD, in_bools]
  congr 3
  induction l with
  | nil => rfl
  | cons b r ih => cases b <;> simp_all
theorem any_not_all {α : Type} (f : α → Bool) : ∀ l : List α, ((l.map f).any fun b => !b) = !(l.all f)
  | [] => rfl
  | x :: r => by
    rw [List.map_cons, List.any_cons, any_not_all f r, List.all_cons]
    cases f x <;> rfl
theorem path_spec {ns : Ns} {l : List Str} {a b : Str} (hl : l.length ≤ sizeLine) : is_path_F [eNs ns, .tuple (l.map .str), .str a, .str b] = some (oI (pathSum ns l a b), false, .none) := by
  have lc : lcL [5] (nameG 5) yesT is_path_e1 (l.map .str) [some (eNs ns, .sh), some (.tuple (l.map .str), .sh), some (.str a, .sh), some (.str b, .sh), none, none, none, none, none] = some ((l.map fun n => (lk ns n).isSome).map .bool, [some (eNs ns, .sh), some (.tuple (l.map .str), .sh), some (.str a, .sh), some (.str b, .sh), none, none, none, none, none]) := by
    rw [lcL_map PyData.str (fun n => some (.bool (lk ns n).isSome)) l fun n _ => ?_]
    · rw [filterMap_all, List.map_map]; rfl
    · simp [is_path_e1, seqF, setF, retF, exprF, ifF, asgF, augF, augS, parF, opF, opFA, consO, nilO, ofE, varO, varE, mvE, cF, derefs, deref, PD.g1, PD.g2, setv, tstF, truF, trueD, andT, orT, notT, andE, orE, notE, iteE, getE, newDF, dispF, dispL, seqI, rngI, callF, callM, frzL, pkS, immD, immL, mutF, noSlot, tyD, slF, partF, nameG, tupG, consG, nilG, subG, wipeE, unw, noOwn, yesT, PyData.plain, PyData.plainAll, PyData.depth, PyData.depthAll, bodyFF, argE, fin0, nxF, retN, forF, tupD, lstD, turnF, lc2DF, lc2F, lcDF, dictAt, forDF, dcF, purF, tyP, spreadF, eNs, in_e, isiD, tnD, isTn]
  have any_eq := any_not_all (fun n => (lk ns n).isSome) l
  have t : (tstF (opF (consO (ofE (cF (.bool false))) (consO (ofE (lcF [5] (seqI (varE 1)) (nameG 5) (yesT) (is_path_e1))) nilO)) (PD.g2 inD))) [some (eNs ns, .sh), some (.tuple (l.map .str), .sh), some (.str a, .sh), some (.str b, .sh), none, none, none, none, none] = some (!(l.all fun n => (lk ns n).isSome), [some (eNs ns, .sh), some (.tuple (l.map .str), .sh), some (.str a, .sh), some (.str b, .sh), none, none, none, none, none]) := by
    simp [-List.map_map, seqF, setF, retF, exprF, ifF, asgF, augF, augS, parF, opF, opFA, consO, nilO, ofE, varO, varE, mvE, cF, derefs, deref, PD.g1, PD.g2, setv, tstF, truF, trueD, andT, orT, notT, andE, orE, notE, iteE, getE, newDF, dispF, dispL, seqI, rngI, callF, callM, frzL, pkS, immD, immL, mutF, noSlot, tyD, slF, partF, nameG, tupG, consG, nilG, subG, wipeE, unw, noOwn, yesT, PyData.plain, PyData.plainAll, PyData.depth, PyData.depthAll, bodyFF, argE, fin0, nxF, retN, forF, tupD, lstD, turnF, lc2DF, lc2F, lcDF, dictAt, forDF, dcF, purF, tyP, spreadF, lcF, noOwn, hl, lc, in_bools, any_eq]
  have t2 : (orT (notT (truF (ofE (opF (consO (varO 1) nilO) (PD.g1 (isiD .tuple)))))) (tstF (opF (consO (ofE (cF (.bool false))) (consO (ofE (lcF [5] (seqI (varE 1)) (nameG 5) (yesT) (is_path_e1))) nilO)) (PD.g2 inD)))) [some (eNs ns, .sh), some (.tuple (l.map .str), .sh), some (.str a, .sh), some (.str b, .sh), none, none, none, none, none] = some (!(l.all fun n => (lk ns n).isSome), [some (eNs ns, .sh), some (.tuple (l.map .str), .sh), some (.str a, .sh), some (.str b, .sh), none, none, none, none, none]) := by
    simp only [orT, notT, truF, ofE, opF, consO, varO, nilO, derefs, deref, PD.g1, isiD, tnD, isTn, List.getElem?_cons_succ, List.getElem?_cons_zero, trueD, Bool.not_true]
    exact t
  have e0 : argE false [eNs ns, .tuple (l.map .str), .str a, .str b] ++ List.replicate (9 - [eNs ns, .tuple (l.map PyData.str), .str a, .str b].length) none = [some (eNs ns, .sh), some (.tuple (l.map .str), .sh), some (.str a, .sh), some (.str b, .sh), none, none, none, none, none] := rfl
  unfold is_path_F
  cases hall : l.all fun n => (lk ns n).isSome with
  | false =>
    have hs : pathSum ns l a b = none := by
      cases h : pathSum ns l a b with
      | none => rfl
      | some t =>
        have hw := (walkP_iff (t := 0) (t' := t)).mpr (by simpa using pathSum_iff.mp h)
        have := walkP_in (ns := ns) (l := l) (a := a) (t := 0) (by rw [hw]; rfl)
        rw [List.all_eq_false] at hall
        obtain ⟨n, hn, hn2⟩ := hall
        exact absurd (this n hn) hn2
    rw [hs]
    refine (bodyFF_rt (e1 := [some (eNs ns, .sh), some (.tuple (l.map .str), .sh), some (.str a, .sh), some (.str b, .sh), none, none, none, none, none]) (d := .none) (fr := false) ?_).trans rfl
    rw [e0]
    unfold is_path_B
    refine seqF_rt ?_
    rw [hall] at t2
    rw [ifF_yes t2]
    rfl
  | true =>
    have hin : ∀ n ∈ l, (lk ns n).isSome := fun n hn => List.all_eq_true.mp hall n hn
    rw [hall] at t2
    have st : seqF (ifF (orT (notT (truF (ofE (opF (consO (varO 1) nilO) (PD.g1 (isiD .tuple)))))) (tstF (opF (consO (ofE (cF (.bool false))) (consO (ofE (lcF [5] (seqI (varE 1)) (nameG 5) (yesT) (is_path_e1))) nilO)) (PD.g2 inD)))) (retF (cF .none)) (nxF)) (setF 4 (cF (.int 0))) [some (eNs ns, .sh), some (.tuple (l.map .str), .sh), some (.str a, .sh), some (.str b, .sh), none, none, none, none, none] = some (.nx, ipE ns l a b 0 none) := by
      rw [seqF_eq (ifF_no t2)]
      rfl
    have pf := path_for (ns := ns) (l0 := l) (b := b) l a 0 none hin
    have fo : forF (seqI (varE 1)) (nameG 5) is_path_b1 (ipE ns l a b 0 none) = forL (nameG 5) is_path_b1 (l.map .str) (ipE ns l a b 0 none) := forF_eq rfl
    have i1 : (ifF (orT (notT (truF (ofE (opF (consO (varO 1) nilO) (PD.g1 (isiD .tuple)))))) (tstF (opF (consO (ofE (cF (.bool false))) (consO (ofE (lcF [5] (seqI (varE 1)) (nameG 5) (yesT) (is_path_e1))) nilO)) (PD.g2 inD)))) (retF (cF .none)) (nxF)) [some (eNs ns, .sh), some (.tuple (l.map .str), .sh), some (.str a, .sh), some (.str b, .sh), none, none, none, none, none] = some (.nx, [some (eNs ns, .sh), some (.tuple (l.map .str), .sh), some (.str a, .sh), some (.str b, .sh), none, none, none, none, none]) := (ifF_no t2).trans rfl
    have i2 : setF 4 (cF (.int 0)) [some (eNs ns, .sh), some (.tuple (l.map .str), .sh), some (.str a, .sh), some (.str b, .sh), none, none, none, none, none] = some (.nx, ipE ns l a b 0 none) := rfl
    unfold pathSum
    cases hw : walkP ns l a 0 with
    | none =>
      rw [hw] at pf
      obtain ⟨e2, pf⟩ := pf
      refine (bodyFF_rt (e1 := e2) (d := .none) (fr := false) ?_).trans rfl
      rw [e0]
      unfold is_path_B
      rw [seqF_eq i1, seqF_eq i2]
      exact seqF_rt (fo.trans pf)
    | some p =>
      obtain ⟨c, t'⟩ := p
      rw [hw] at pf
      obtain ⟨x', pf⟩ := pf
      refine (bodyFF_rt (e1 := ipE ns l c b t' x') (d := oI (if c = b then some t' else none)) (fr := false) ?_).trans rfl
      rw [e0]
      unfold is_path_B
      rw [seqF_eq i1, seqF_eq i2, seqF_eq (fo.trans pf)]
      by_cases e : c = b
      · subst e
        simp [seqF, setF, retF, exprF, ifF, asgF, augF, augS, parF, opF, opFA, consO, nilO, ofE, varO, varE, mvE, cF, derefs, deref, PD.g1, PD.g2, setv, tstF, truF, trueD, andT, orT, notT, andE, orE, notE, iteE, getE, newDF, dispF, dispL, seqI, rngI, callF, callM, frzL, pkS, immD, immL, mutF, noSlot, tyD, slF, partF, nameG, tupG, consG, nilG, subG, wipeE, unw, noOwn, yesT, PyData.plain, PyData.plainAll, PyData.depth, PyData.depthAll, bodyFF, argE, fin0, nxF, retN, forF, tupD, lstD, turnF, lc2DF, lc2F, lcDF, dictAt, forDF, dcF, purF, tyP, spreadF, ipE, eqD, eqv_str, PyData.plain, PyData.depth, oI]
      · simp [seqF, setF, retF, exprF, ifF, asgF, augF, augS, parF, opF, opFA, consO, nilO, ofE, varO, varE, mvE, cF, derefs, deref, PD.g1, PD.g2, setv, tstF, truF, trueD, andT, orT, notT, andE, orE, notE, iteE, getE, newDF, dispF, dispL, seqI, rngI, callF, callM, frzL, pkS, immD, immL, mutF, noSlot, tyD, slF, partF, nameG, tupG, consG, nilG, subG, wipeE, unw, noOwn, yesT, PyData.plain, PyData.plainAll, PyData.depth, PyData.depthAll, bodyFF, argE, fin0, nxF, retN, forF, tupD, lstD, turnF, lc2DF, lc2F, lcDF, dictAt, forDF, dcF, purF, tyP, spreadF, ipE, eqD, eqv_str, PyData.plain, PyData.depth, oI, e]
end K16

/-! K16E: what is_row, judge_spread answer. -/
namespace K16
open PySem PD
def eP (p : Str × Int) : D := .tuple [.str p.1, .int p.2]
theorem eqv_strs : ∀ a b : List Str, PyData.eqv (.list (a.map .str)) (.list (b.map .str)) = decide (a = b)
  | [], [] => rfl
  | [], _ :: _ => rfl
  | _ :: _, [] => rfl
  | x :: a, y :: b => by
    have ih := eqv_strs a b
    simp only [PyData.eqv, List.map_cons, PyData.eqvAll] at ih ⊢
    rw [ih]
    by_cases e : x = y
    · subst e; simp
    · simp [e]
theorem pairs_e : ∀ ps : List (Str × Int), pairsD (ps.map eP) = some (eM .int ps)
  | [] => rfl
  | p :: r => by
    have ih := pairs_e r
    simp only [List.map_cons, eP, pairsD, keyD, ih, eM]
theorem merge_e {β : Type} (g : β → D) : ∀ (ps acc : List (Str × β)), (acc.map (·.1) ++ ps.map (·.1)).Nodup → mergeP (eM g acc) (eM g ps) = eM g (acc ++ ps)
  | [], acc, _ => by simp [mergeP, eM]
  | p :: r, acc, hn => by
    have hw : lk acc p.1 = none := lk_none.mpr fun z => by
      rw [List.nodup_append] at hn
      exact hn.2.2 p.1 z p.1 (by simp) rfl
    have h1 : putP (eM g acc) (.str p.1) (g p.2) = eM g (acc ++ [p]) := by
      rw [put_e g p.1 p.2 acc]
      unfold put
      rw [hw]
      rfl
    have ih := merge_e g r (acc ++ [p]) (by simpa using hn)
    have e1 : mergeP (eM g acc) (eM g (p :: r)) = mergeP (putP (eM g acc) (.str p.1) (g p.2)) (eM g r) := rfl
    rw [e1, h1, ih, List.append_assoc]
    rfl
theorem merge_nil {β : Type} (g : β → D) {ps : List (Str × β)} (h : (ps.map (·.1)).Nodup) : mergeP [] (eM g ps) = eM g ps := merge_e g ps [] (by simpa using h)
theorem pairy_e : ∀ {ps : List (Str × Int)}, ps ≠ [] → pairy (ps.map eP) = true
  | [], h => absurd rfl h
  | p :: r, _ => by
    simp [pairy, eP]
theorem dict_pairs {ps : List (Str × Int)} (h0 : ps ≠ []) (h : (ps.map (·.1)).Nodup) : dictAD (.tuple (ps.map eP)) = some (.dict (eM .int ps), true) := by
  simp only [dictAD, pairy_e h0, if_true, pairs_e, merge_nil _ h]
def rowB (ns : Ns) (ps : List (Str × Int)) : Bool := ns.all fun p => decide (val ps p.2.1 - val ps p.2.2.1 ≤ p.2.2.2)
theorem rowB_iff {ns : Ns} (vd : Vd ns) {ps : List (Str × Int)} : rowB ns ps = true ↔ RowIs ns (val ps) := by
  unfold rowB RowIs
  rw [List.all_eq_true]
  constructor
  · intro h n v u m e
    have := h _ (lk_some e)
    simpa using this
  · intro h p hp
    have := h p.1 p.2.1 p.2.2.1 p.2.2.2 (lk_mem vd.nodup hp)
    simpa using this
abbrev irE (ns : Ns) (ps : List (Str × Int)) : Ev := [some (eNs ns, .sh), some (.tuple (ps.map eP), .sh), none, none, none, none, none, none, none, none]
abbrev irE2 (ns : Ns) (ps : List (Str × Int)) : Ev := [some (eNs ns, .sh), some (.tuple (ps.map eP), .sh), some (.dict (eM .int ps), .ow), none, none, none, none, none, none, none]
theorem cF_eq {e : Ev} {d : D} : cF d e = some (d, false, e) := rfl
theorem all_true {α : Type} : ∀ l : List α, ((l.map fun _ => true).any fun b => !b) = false
  | [] => rfl
  | x :: r => by simp
theorem lcDF_eq {vs : List Nat} {i : Nat} {fk : List (D × D) → List D} {g : GF} {t : TF} {f : EF} {e e1 e2 : Ev} {kvs : List (D × D)} {ys : List D} (h : dictAt i e = some (kvs, e1)) (h1 : kvs.length ≤ sizeLine) (h2 : (fk kvs).length ≤ sizeLine) (no : noOwn e1 vs = true) (k : lcL vs g t f (fk kvs) (wipeE e1 vs) = some (ys, e2)) : lcDF vs i fk g t f e = some (.list ys, true, unw e1 e2 vs) := by
  simp only [lcDF, h, h1, h2, no, k, and_self, if_true]
theorem row_spec {ns : Ns} (vd : Vd ns) (h0 : ns ≠ []) {ps : List (Str × Int)} (hl : ps.length < 64) : is_row_F [eNs ns, .tuple (ps.map eP)] = some (.bool (decide (ps.map (·.1) = wd ns) && rowB ns ps), false, .none) := by
  have l1 : lcL [3] (nameG 3) yesT is_row_e1 (ps.map eP) (irE ns ps) = some ((ps.map fun _ => true).map .bool, irE ns ps) := by
    rw [lcL_map eP (fun _ => some (.bool true)) ps fun p _ => ?_]
    · rw [filterMap_all, List.map_map]; rfl
    · simp [is_row_e1, seqF, setF, retF, exprF, ifF, asgF, augF, augS, parF, opF, opFA, consO, nilO, ofE, varO, varE, mvE, cF, derefs, deref, PD.g1, PD.g2, setv, tstF, truF, trueD, andT, orT, notT, andE, orE, notE, iteE, getE, newDF, dispF, dispL, seqI, rngI, callF, callM, frzL, pkS, immD, immL, mutF, noSlot, tyD, slF, partF, nameG, tupG, consG, nilG, subG, wipeE, unw, noOwn, yesT, PyData.plain, PyData.plainAll, PyData.depth, PyData.depthAll, bodyFF, argE, fin0, nxF, retN, forF, tupD, lstD, turnF, lc2DF, lc2F, lcDF, dictAt, forDF, dcF, purF, tyP, spreadF, eP, isiD, tnD, isTn, lenD, eqD, eqv_int, PyData.plain, PyData.depth]
  have l2 : lcL [4, 5] (tupG 2 (consG (nameG 4) (consG (nameG 5) nilG))) yesT is_row_e2 (ps.map eP) (irE ns ps) = some ((ps.map (·.1)).map .str, irE ns ps) := by
    rw [lcL_map eP (fun p => some (.str p.1)) ps fun p _ => ?_]
    · rw [filterMap_all, List.map_map]; rfl
    · simp [is_row_e2, seqF, setF, retF, exprF, ifF, asgF, augF, augS, parF, opF, opFA, consO, nilO, ofE, varO, varE, mvE, cF, derefs, deref, PD.g1, PD.g2, setv, tstF, truF, trueD, andT, orT, notT, andE, orE, notE, iteE, getE, newDF, dispF, dispL, seqI, rngI, callF, callM, frzL, pkS, immD, immL, mutF, noSlot, tyD, slF, partF, nameG, tupG, consG, nilG, subG, wipeE, unw, noOwn, yesT, PyData.plain, PyData.plainAll, PyData.depth, PyData.depthAll, bodyFF, argE, fin0, nxF, retN, forF, tupD, lstD, turnF, lc2DF, lc2F, lcDF, dictAt, forDF, dcF, purF, tyP, spreadF, eP]
  have l3 : lcL [5, 6] (tupG 2 (consG (nameG 5) (consG (nameG 6) nilG))) yesT is_row_e3 (ps.map eP) (irE ns ps) = some ((ps.map fun _ => true).map .bool, irE ns ps) := by
    rw [lcL_map eP (fun _ => some (.bool true)) ps fun p _ => ?_]
    · rw [filterMap_all, List.map_map]; rfl
    · simp [is_row_e3, seqF, setF, retF, exprF, ifF, asgF, augF, augS, parF, opF, opFA, consO, nilO, ofE, varO, varE, mvE, cF, derefs, deref, PD.g1, PD.g2, setv, tstF, truF, trueD, andT, orT, notT, andE, orE, notE, iteE, getE, newDF, dispF, dispL, seqI, rngI, callF, callM, frzL, pkS, immD, immL, mutF, noSlot, tyD, slF, partF, nameG, tupG, consG, nilG, subG, wipeE, unw, noOwn, yesT, PyData.plain, PyData.plainAll, PyData.depth, PyData.depthAll, bodyFF, argE, fin0, nxF, retN, forF, tupD, lstD, turnF, lc2DF, lc2F, lcDF, dictAt, forDF, dcF, purF, tyP, spreadF, eP, isiD, tnD, isTn]
  have t1 : (orT (notT (truF (ofE (opF (consO (varO 1) nilO) (PD.g1 (isiD .tuple)))))) (tstF (opF (consO (ofE (cF (.bool false))) (consO (ofE (lcF [3] (seqI (varE 1)) (nameG 3) (yesT) (is_row_e1))) nilO)) (PD.g2 inD)))) (irE ns ps) = some (false, irE ns ps) := by
    simp [-List.map_map, seqF, setF, retF, exprF, ifF, asgF, augF, augS, parF, opF, opFA, consO, nilO, ofE, varO, varE, mvE, cF, derefs, deref, PD.g1, PD.g2, setv, tstF, truF, trueD, andT, orT, notT, andE, orE, notE, iteE, getE, newDF, dispF, dispL, seqI, rngI, callF, callM, frzL, pkS, immD, immL, mutF, noSlot, tyD, slF, partF, nameG, tupG, consG, nilG, subG, wipeE, unw, noOwn, yesT, PyData.plain, PyData.plainAll, PyData.depth, PyData.depthAll, bodyFF, argE, fin0, nxF, retN, forF, tupD, lstD, turnF, lc2DF, lc2F, lcDF, dictAt, forDF, dcF, purF, tyP, spreadF, lcF, noOwn, size63 hl, l1, in_bools, all_true, isiD, tnD, isTn]
  have c1 : callF words_of_F [] (consO (varO 0) nilO) (irE ns ps) = some (.list ((wd ns).map .str), true, irE ns ps) := callF_eq (consO_eq rfl nilO_eq) rfl (words_spec vd) rfl
  have t2 : (tstF (opF (consO (ofE (lcF [4, 5] (seqI (varE 1)) (tupG 2 (consG (nameG 4) (consG (nameG 5) (nilG)))) (yesT) (is_row_e2))) (consO (ofE (callF words_of_F [] (consO (varO 0) (nilO)))) nilO)) (PD.g2 neD))) (irE ns ps) = some (!decide (ps.map (·.1) = wd ns), irE ns ps) := by
    have x1 : lcF [4, 5] (seqI (varE 1)) (tupG 2 (consG (nameG 4) (consG (nameG 5) (nilG)))) (yesT) (is_row_e2) (irE ns ps) = some (.list ((ps.map (·.1)).map .str), true, irE ns ps) := lcF_eq (ds := ps.map eP) (e1 := irE ns ps) (e2 := irE ns ps) rfl (by rw [List.length_map]; exact size63 hl) rfl l2
    have n1 : neD (.list ((ps.map (·.1)).map .str)) (.list ((wd ns).map .str)) = some (.bool (!decide (ps.map (·.1) = wd ns)), false) := by
      unfold neD
      rw [if_pos, eqv_strs]
      have d1 : ∀ l : List Str, PyData.depthAll (l.map .str) = 0 := fun l => by
        induction l with
        | nil => rfl
        | cons x r ih => simp [PyData.depthAll, PyData.depth, ih]
      simp [-List.map_map, PyData.plain, plain_strs, PyData.depth, d1]
    exact tstF_eq (opF_eq (consO_eq (ofE_eq x1) (consO_eq (ofE_eq c1) nilO_eq)) rfl n1)
  have t3 : (tstF (opF (consO (ofE (cF (.bool false))) (consO (ofE (lcF [5, 6] (seqI (varE 1)) (tupG 2 (consG (nameG 5) (consG (nameG 6) (nilG)))) (yesT) (is_row_e3))) nilO)) (PD.g2 inD))) (irE ns ps) = some (false, irE ns ps) := by
    simp [-List.map_map, seqF, setF, retF, exprF, ifF, asgF, augF, augS, parF, opF, opFA, consO, nilO, ofE, varO, varE, mvE, cF, derefs, deref, PD.g1, PD.g2, setv, tstF, truF, trueD, andT, orT, notT, andE, orE, notE, iteE, getE, newDF, dispF, dispL, seqI, rngI, callF, callM, frzL, pkS, immD, immL, mutF, noSlot, tyD, slF, partF, nameG, tupG, consG, nilG, subG, wipeE, unw, noOwn, yesT, PyData.plain, PyData.plainAll, PyData.depth, PyData.depthAll, bodyFF, argE, fin0, nxF, retN, forF, tupD, lstD, turnF, lc2DF, lc2F, lcDF, dictAt, forDF, dcF, purF, tyP, spreadF, lcF, noOwn, size63 hl, l3, in_bools, all_true]
  have e0 : argE false [eNs ns, .tuple (ps.map eP)] ++ List.replicate (10 - [eNs ns, .tuple (ps.map eP)].length) none = irE ns ps := rfl
  have i1 : ifF (orT (notT (truF (ofE (opF (consO (varO 1) nilO) (PD.g1 (isiD .tuple)))))) (tstF (opF (consO (ofE (cF (.bool false))) (consO (ofE (lcF [3] (seqI (varE 1)) (nameG 3) (yesT) (is_row_e1))) nilO)) (PD.g2 inD)))) (retF (cF (.bool false))) nxF (irE ns ps) = some (.nx, irE ns ps) := (ifF_no t1).trans rfl
  have i3 : ifF (tstF (opF (consO (ofE (cF (.bool false))) (consO (ofE (lcF [5, 6] (seqI (varE 1)) (tupG 2 (consG (nameG 5) (consG (nameG 6) (nilG)))) (yesT) (is_row_e3))) nilO)) (PD.g2 inD))) (retF (cF (.bool false))) nxF (irE ns ps) = some (.nx, irE ns ps) := (ifF_no t3).trans rfl
  unfold is_row_F
  by_cases hk : ps.map (·.1) = wd ns
  · simp only [hk, decide_true, Bool.not_true] at t2
    have i2 := (ifF_no (F := retF (cF (.bool false))) (G := nxF) t2).trans rfl
    have hp0 : ps ≠ [] := fun z => by
      subst z
      have e : wd ns = [] := hk.symm
      cases ns with
      | nil => exact h0 rfl
      | cons p r =>
        have := (sortU_mem p.2.1 (wds (p :: r))).mpr (by simp [wds])
        rw [show sortU (wds (p :: r)) = [] from e] at this
        cases this
    have dk := dict_pairs hp0 (by rw [hk]; exact wd_nodup)
    have i4 : setF 2 (opF (consO (varO 1) nilO) (PD.g1 dictAD)) (irE ns ps) = some (.nx, irE2 ns ps) := by
      simp [-List.map_map, seqF, setF, retF, exprF, ifF, asgF, augF, augS, parF, opF, opFA, consO, nilO, ofE, varO, varE, mvE, cF, derefs, deref, PD.g1, PD.g2, setv, tstF, truF, trueD, andT, orT, notT, andE, orE, notE, iteE, getE, newDF, dispF, dispL, seqI, rngI, callF, callM, frzL, pkS, immD, immL, mutF, noSlot, tyD, slF, partF, nameG, tupG, consG, nilG, subG, wipeE, unw, noOwn, yesT, PyData.plain, PyData.plainAll, PyData.depth, PyData.depthAll, bodyFF, argE, fin0, nxF, retN, forF, tupD, lstD, turnF, lc2DF, lc2F, lcDF, dictAt, forDF, dcF, purF, tyP, spreadF, dk]
    have lkv : ∀ w ∈ wd ns, lk ps w = some (val ps w) := fun w hw => by
      rw [← hk] at hw
      obtain ⟨a, ha⟩ := Option.isSome_iff_exists.mp (lk_isSome.mpr hw)
      simp [val, ha]
    have l4 : lcL [7, 8, 9] (tupG 3 (consG (nameG 7) (consG (nameG 8) (consG (nameG 9) nilG)))) yesT is_row_e4 (ns.map fun p => eN p.2) (irE2 ns ps) = some ((ns.map fun p => decide (val ps p.2.1 - val ps p.2.2.1 ≤ p.2.2.2)).map .bool, irE2 ns ps) := by
      rw [lcL_map (fun p : Str × Nt Str => eN p.2) (fun p => some (.bool (decide (val ps p.2.1 - val ps p.2.2.1 ≤ p.2.2.2)))) ns fun p hp => ?_]
      · rw [filterMap_all, List.map_map]; rfl
      · obtain ⟨w1, w2⟩ := within_wd p.1 p.2.1 p.2.2.1 p.2.2.2 (lk_mem vd.nodup hp)
        simp [is_row_e4, seqF, setF, retF, exprF, ifF, asgF, augF, augS, parF, opF, opFA, consO, nilO, ofE, varO, varE, mvE, cF, derefs, deref, PD.g1, PD.g2, setv, tstF, truF, trueD, andT, orT, notT, andE, orE, notE, iteE, getE, newDF, dispF, dispL, seqI, rngI, callF, callM, frzL, pkS, immD, immL, mutF, noSlot, tyD, slF, partF, nameG, tupG, consG, nilG, subG, wipeE, unw, noOwn, yesT, PyData.plain, PyData.plainAll, PyData.depth, PyData.depthAll, bodyFF, argE, fin0, nxF, retN, forF, tupD, lstD, turnF, lc2DF, lc2F, lcDF, dictAt, forDF, dcF, purF, tyP, spreadF, eN, ix_e, lkv _ w1, lkv _ w2, subD, leD]
    have zn : ns.length ≤ sizeLine := size63 (Nat.lt_trans vd.len (by decide))
    have r5 : retF (opF (consO (ofE (cF (.bool false))) (consO (ofE (lcDF [7, 8, 9] 0 valsOf (tupG 3 (consG (nameG 7) (consG (nameG 8) (consG (nameG 9) (nilG))))) (yesT) (is_row_e4))) nilO)) (PD.g2 ninD)) (irE2 ns ps) = some (.rt (.bool (rowB ns ps)) false, irE2 ns ps) := by
      have x1 : lcDF [7, 8, 9] 0 valsOf (tupG 3 (consG (nameG 7) (consG (nameG 8) (consG (nameG 9) (nilG))))) (yesT) (is_row_e4) (irE2 ns ps) = some (.list ((ns.map fun p => decide (val ps p.2.1 - val ps p.2.2.1 ≤ p.2.2.2)).map .bool), true, irE2 ns ps) := by
        have z1 : (eM eN ns).length ≤ sizeLine := by rw [eM_length]; exact zn
        refine (lcDF_eq (kvs := eM eN ns) (e1 := irE2 ns ps) (e2 := irE2 ns ps) rfl z1 (by rw [vals_e, List.length_map]; exact zn) rfl (by rw [vals_e]; exact l4)).trans rfl
      have x2 : opF (consO (ofE (cF (.bool false))) (consO (ofE (lcDF [7, 8, 9] 0 valsOf (tupG 3 (consG (nameG 7) (consG (nameG 8) (consG (nameG 9) (nilG))))) (yesT) (is_row_e4))) nilO)) (PD.g2 ninD) (irE2 ns ps) = some (.bool (rowB ns ps), false, irE2 ns ps) := by
        refine opF_eq (consO_eq (ofE_eq cF_eq) (consO_eq (ofE_eq x1) nilO_eq)) rfl ?_
        show ninD _ _ = _
        rw [nin_bools, List.all_map]
        rfl
      simp only [retF, x2]
    refine (bodyFF_rt (e1 := irE2 ns ps) (d := .bool (decide (ps.map (·.1) = wd ns) && rowB ns ps)) (fr := false) ?_).trans rfl
    rw [e0]
    unfold is_row_B
    rw [seqF_eq i1, seqF_eq i2, seqF_eq i3, seqF_eq i4, r5, hk]
    simp
  · simp only [hk, decide_false, Bool.not_false] at t2
    refine (bodyFF_rt (e1 := irE ns ps) (d := .bool (decide (ps.map (·.1) = wd ns) && rowB ns ps)) (fr := false) ?_).trans rfl
    rw [e0]
    unfold is_row_B
    rw [seqF_eq i1]
    refine seqF_rt ?_
    rw [ifF_yes t2]
    simp [hk, retF, cF]
theorem g2e {f : G2} {a b : D} {r : D × Bool} (h : f a b = some r) : PD.g2 f [a, b] = some r := h
/-! ### judge_spread -/
def isRing (ns : Ns) (l : List Str) : Bool := match l with
  | [] => false
  | n :: _ => match lk ns n with
    | none => false
    | some (v, _, _) => match pathSum ns l v v with
      | some t => decide (t < 0)
      | none => false
theorem isRing_of {ns : Ns} {l : List Str} {b : Str} {t : Int} (h0 : l ≠ []) (p : Path ns l b b t) (ht : t < 0) : isRing ns l = true := by
  cases l with
  | nil => exact absurd rfl h0
  | cons n r =>
    have p' := p
    obtain ⟨u, m, t', h1, h2, rfl⟩ := p
    simp only [isRing, h1, pathSum_iff.mpr p']
    simpa using ht
theorem of_isRing {ns : Ns} {l : List Str} (h : isRing ns l = true) : l ≠ [] ∧ ∃ b t, Path ns l b b t ∧ t < 0 := by
  cases l with
  | nil => cases h
  | cons n r =>
    simp only [isRing] at h
    split at h
    · cases h
    · rename_i v u m hn
      split at h
      · rename_i t ht
        exact ⟨by simp, v, t, pathSum_iff.mp ht, by simpa using h⟩
      · cases h
abbrev jsE (ns : Ns) (d : D) : Ev := [some (eNs ns, .sh), some (d, .sh), none, none]
theorem s_row_ring : (s_row = s_ring) = False := by decide
theorem s_ring_row : (s_ring = s_row) = False := by decide
theorem judge_row {ns : Ns} (vd : Vd ns) (h0 : ns ≠ []) {ps : List (Str × Int)} (hl : ps.length < 64) : judge_spread_F [eNs ns, .tuple [.str s_row, .tuple (ps.map eP)]] = some (.bool (decide (ps.map (·.1) = wd ns) && rowB ns ps), false, .none) := by
  have r := row_spec vd h0 hl
  have e0 : argE false [eNs ns, .tuple [.str s_row, .tuple (ps.map eP)]] ++ List.replicate (4 - [eNs ns, .tuple [.str s_row, .tuple (ps.map eP)]].length) none = jsE ns (.tuple [.str s_row, .tuple (ps.map eP)]) := rfl
  have t1 : (orT (notT (truF (ofE (opF (consO (varO 1) nilO) (PD.g1 (isiD .tuple)))))) (tstF (opF (consO (ofE (opF (consO (varO 1) (nilO)) (PD.g1 lenD))) (consO (ofE (cF (.int 2))) nilO)) (PD.g2 neD)))) (jsE ns (.tuple [.str s_row, .tuple (ps.map eP)])) = some (false, jsE ns (.tuple [.str s_row, .tuple (ps.map eP)])) := by
    simp [seqF, setF, retF, exprF, ifF, asgF, augF, augS, parF, opF, opFA, consO, nilO, ofE, varO, varE, mvE, cF, derefs, deref, PD.g1, PD.g2, setv, tstF, truF, trueD, andT, orT, notT, andE, orE, notE, iteE, getE, newDF, dispF, dispL, seqI, rngI, callF, callM, frzL, pkS, immD, immL, mutF, noSlot, tyD, slF, partF, nameG, tupG, consG, nilG, subG, wipeE, unw, noOwn, yesT, PyData.plain, PyData.plainAll, PyData.depth, PyData.depthAll, bodyFF, argE, fin0, nxF, retN, forF, tupD, lstD, turnF, lc2DF, lc2F, lcDF, dictAt, forDF, dcF, purF, tyP, spreadF, isiD, tnD, isTn, lenD, neD, eqv_int, PyData.plain, PyData.depth]
  have t2 : (tstF (opF (consO (ofE (opF (consO (varO 1) (consO (ofE (cF (.int 0))) nilO)) (PD.g2 ixD))) (consO (ofE (cF (.str s_row))) nilO)) (PD.g2 eqD))) (jsE ns (.tuple [.str s_row, .tuple (ps.map eP)])) = some (true, jsE ns (.tuple [.str s_row, .tuple (ps.map eP)])) := by
    simp [seqF, setF, retF, exprF, ifF, asgF, augF, augS, parF, opF, opFA, consO, nilO, ofE, varO, varE, mvE, cF, derefs, deref, PD.g1, PD.g2, setv, tstF, truF, trueD, andT, orT, notT, andE, orE, notE, iteE, getE, newDF, dispF, dispL, seqI, rngI, callF, callM, frzL, pkS, immD, immL, mutF, noSlot, tyD, slF, partF, nameG, tupG, consG, nilG, subG, wipeE, unw, noOwn, yesT, PyData.plain, PyData.plainAll, PyData.depth, PyData.depthAll, bodyFF, argE, fin0, nxF, retN, forF, tupD, lstD, turnF, lc2DF, lc2F, lcDF, dictAt, forDF, dcF, purF, tyP, spreadF, ixT0, eqD, eqv_str, PyData.plain, PyData.depth]
  have c : callF is_row_F [] (consO (varO 0) (consO (ofE (opF (consO (varO 1) (consO (ofE (cF (.int 1))) nilO)) (PD.g2 ixD))) (nilO))) (jsE ns (.tuple [.str s_row, .tuple (ps.map eP)])) = some (.bool (decide (ps.map (·.1) = wd ns) && rowB ns ps), false, jsE ns (.tuple [.str s_row, .tuple (ps.map eP)])) := by
    refine callF_eq (ds := [eNs ns, .tuple (ps.map eP)]) (os := [.slot 0, .val (.tuple (ps.map eP))]) (d0 := .none) (consO_eq rfl (consO_eq (ofE_eq (fr := false) (opF_eq (consO_eq rfl (consO_eq (ofE_eq cF_eq) nilO_eq)) rfl ?_)) nilO_eq)) rfl r rfl
    exact g2e ixT1
  refine (bodyFF_rt (e1 := jsE ns (.tuple [.str s_row, .tuple (ps.map eP)])) (d := .bool (decide (ps.map (·.1) = wd ns) && rowB ns ps)) (fr := false) ?_).trans rfl
  rw [e0]
  unfold judge_spread_B
  rw [seqF_eq ((ifF_no t1).trans rfl)]
  refine seqF_rt ?_
  rw [ifF_yes t2]
  simp only [retF, c]
theorem judge_ring {ns : Ns} {l : List Str} (hl : l.length < 64) : judge_spread_F [eNs ns, .tuple [.str s_ring, .tuple (l.map .str)]] = some (.bool (isRing ns l), false, .none) := by
  have e0 : argE false [eNs ns, .tuple [.str s_ring, .tuple (l.map .str)]] ++ List.replicate (4 - [eNs ns, .tuple [.str s_ring, .tuple (l.map .str)]].length) none = jsE ns (.tuple [.str s_ring, .tuple (l.map .str)]) := rfl
  have t1 : (orT (notT (truF (ofE (opF (consO (varO 1) nilO) (PD.g1 (isiD .tuple)))))) (tstF (opF (consO (ofE (opF (consO (varO 1) (nilO)) (PD.g1 lenD))) (consO (ofE (cF (.int 2))) nilO)) (PD.g2 neD)))) (jsE ns (.tuple [.str s_ring, .tuple (l.map .str)])) = some (false, jsE ns (.tuple [.str s_ring, .tuple (l.map .str)])) := by
    simp [seqF, setF, retF, exprF, ifF, asgF, augF, augS, parF, opF, opFA, consO, nilO, ofE, varO, varE, mvE, cF, derefs, deref, PD.g1, PD.g2, setv, tstF, truF, trueD, andT, orT, notT, andE, orE, notE, iteE, getE, newDF, dispF, dispL, seqI, rngI, callF, callM, frzL, pkS, immD, immL, mutF, noSlot, tyD, slF, partF, nameG, tupG, consG, nilG, subG, wipeE, unw, noOwn, yesT, PyData.plain, PyData.plainAll, PyData.depth, PyData.depthAll, bodyFF, argE, fin0, nxF, retN, forF, tupD, lstD, turnF, lc2DF, lc2F, lcDF, dictAt, forDF, dcF, purF, tyP, spreadF, isiD, tnD, isTn, lenD, neD, eqv_int, PyData.plain, PyData.depth]
  have t2 : (tstF (opF (consO (ofE (opF (consO (varO 1) (consO (ofE (cF (.int 0))) nilO)) (PD.g2 ixD))) (consO (ofE (cF (.str s_row))) nilO)) (PD.g2 eqD))) (jsE ns (.tuple [.str s_ring, .tuple (l.map .str)])) = some (false, jsE ns (.tuple [.str s_ring, .tuple (l.map .str)])) := by
    simp [seqF, setF, retF, exprF, ifF, asgF, augF, augS, parF, opF, opFA, consO, nilO, ofE, varO, varE, mvE, cF, derefs, deref, PD.g1, PD.g2, setv, tstF, truF, trueD, andT, orT, notT, andE, orE, notE, iteE, getE, newDF, dispF, dispL, seqI, rngI, callF, callM, frzL, pkS, immD, immL, mutF, noSlot, tyD, slF, partF, nameG, tupG, consG, nilG, subG, wipeE, unw, noOwn, yesT, PyData.plain, PyData.plainAll, PyData.depth, PyData.depthAll, bodyFF, argE, fin0, nxF, retN, forF, tupD, lstD, turnF, lc2DF, lc2F, lcDF, dictAt, forDF, dcF, purF, tyP, spreadF, ixT0, eqD, eqv_str, PyData.plain, PyData.depth, s_ring_row]
  have i1 := (ifF_no (F := retF (cF (.bool false))) (G := nxF) t1).trans rfl
  have i2 := (ifF_no (F := retF (callF is_row_F [] (consO (varO 0) (consO (ofE (opF (consO (varO 1) (consO (ofE (cF (.int 1))) nilO)) (PD.g2 ixD))) (nilO))))) (G := nxF) t2).trans rfl
  cases l with
  | nil =>
    refine (bodyFF_rt (e1 := jsE ns (.tuple [.str s_ring, .tuple []])) (d := .bool false) (fr := false) ?_).trans rfl
    rw [e0]
    unfold judge_spread_B
    rw [seqF_eq i1, seqF_eq i2]
    refine seqF_rt ?_
    simp [seqF, setF, retF, exprF, ifF, asgF, augF, augS, parF, opF, opFA, consO, nilO, ofE, varO, varE, mvE, cF, derefs, deref, PD.g1, PD.g2, setv, tstF, truF, trueD, andT, orT, notT, andE, orE, notE, iteE, getE, newDF, dispF, dispL, seqI, rngI, callF, callM, frzL, pkS, immD, immL, mutF, noSlot, tyD, slF, partF, nameG, tupG, consG, nilG, subG, wipeE, unw, noOwn, yesT, PyData.plain, PyData.plainAll, PyData.depth, PyData.depthAll, bodyFF, argE, fin0, nxF, retN, forF, tupD, lstD, turnF, lc2DF, lc2F, lcDF, dictAt, forDF, dcF, purF, tyP, spreadF, ixT0, ixT1, neD, eqD, eqv_str, eqv_int, isiD, tnD, isTn, lenD, PyData.plain, PyData.depth]
  | cons n r =>
    have t3 : (orT (tstF (opF (consO (ofE (opF (consO (varO 1) (consO (ofE (cF (.int 0))) nilO)) (PD.g2 ixD))) (consO (ofE (cF (.str s_ring))) nilO)) (PD.g2 neD))) (orT (notT (truF (ofE (opF (consO (ofE (opF (consO (varO 1) (consO (ofE (cF (.int 1))) nilO)) (PD.g2 ixD))) nilO) (PD.g1 (isiD .tuple)))))) (tstF (opF (consO (ofE (opF (consO (ofE (opF (consO (varO 1) (consO (ofE (cF (.int 1))) nilO)) (PD.g2 ixD))) (nilO)) (PD.g1 lenD))) (consO (ofE (cF (.int 0))) nilO)) (PD.g2 eqD))))) (jsE ns (.tuple [.str s_ring, .tuple ((n :: r).map .str)])) = some (false, jsE ns (.tuple [.str s_ring, .tuple ((n :: r).map .str)])) := by
      have z : ¬ ((r.length : Int) + 1 = 0) := by omega
      simp [seqF, setF, retF, exprF, ifF, asgF, augF, augS, parF, opF, opFA, consO, nilO, ofE, varO, varE, mvE, cF, derefs, deref, PD.g1, PD.g2, setv, tstF, truF, trueD, andT, orT, notT, andE, orE, notE, iteE, getE, newDF, dispF, dispL, seqI, rngI, callF, callM, frzL, pkS, immD, immL, mutF, noSlot, tyD, slF, partF, nameG, tupG, consG, nilG, subG, wipeE, unw, noOwn, yesT, PyData.plain, PyData.plainAll, PyData.depth, PyData.depthAll, bodyFF, argE, fin0, nxF, retN, forF, tupD, lstD, turnF, lc2DF, lc2F, lcDF, dictAt, forDF, dcF, purF, tyP, spreadF, ixT0, ixT1, neD, eqD, eqv_str, eqv_int, isiD, tnD, isTn, lenD, PyData.plain, PyData.depth, z]
    have t4 : (orT (notT (truF (ofE (opF (consO (ofE (opF (consO (ofE (opF (consO (varO 1) (consO (ofE (cF (.int 1))) nilO)) (PD.g2 ixD))) (consO (ofE (cF (.int 0))) nilO)) (PD.g2 ixD))) nilO) (PD.g1 (isiD .str)))))) (tstF (opF (consO (ofE (opF (consO (ofE (opF (consO (varO 1) (consO (ofE (cF (.int 1))) nilO)) (PD.g2 ixD))) (consO (ofE (cF (.int 0))) nilO)) (PD.g2 ixD))) (consO (varO 0) nilO)) (PD.g2 ninD)))) (jsE ns (.tuple [.str s_ring, .tuple ((n :: r).map .str)])) = some (!(lk ns n).isSome, jsE ns (.tuple [.str s_ring, .tuple ((n :: r).map .str)])) := by
      simp [seqF, setF, retF, exprF, ifF, asgF, augF, augS, parF, opF, opFA, consO, nilO, ofE, varO, varE, mvE, cF, derefs, deref, PD.g1, PD.g2, setv, tstF, truF, trueD, andT, orT, notT, andE, orE, notE, iteE, getE, newDF, dispF, dispL, seqI, rngI, callF, callM, frzL, pkS, immD, immL, mutF, noSlot, tyD, slF, partF, nameG, tupG, consG, nilG, subG, wipeE, unw, noOwn, yesT, PyData.plain, PyData.plainAll, PyData.depth, PyData.depthAll, bodyFF, argE, fin0, nxF, retN, forF, tupD, lstD, turnF, lc2DF, lc2F, lcDF, dictAt, forDF, dcF, purF, tyP, spreadF, ixT0, ixT1, isiD, tnD, isTn, eNs, nin_e]
    have i3 := (ifF_no (F := retF (cF (.bool false))) (G := nxF) t3).trans rfl
    cases hn : lk ns n with
    | none =>
      rw [hn] at t4
      have e9 : isRing ns (n :: r) = false := by simp [isRing, hn]
      rw [e9]
      refine (bodyFF_rt (e1 := jsE ns (.tuple [.str s_ring, .tuple ((n :: r).map .str)])) (d := .bool false) (fr := false) ?_).trans rfl
      rw [e0]
      unfold judge_spread_B
      rw [seqF_eq i1, seqF_eq i2, seqF_eq i3]
      refine seqF_rt ?_
      rw [ifF_yes t4]
      rfl
    | some x =>
      obtain ⟨v, u, m⟩ := x
      rw [hn] at t4
      have i4 := (ifF_no (F := retF (cF (.bool false))) (G := nxF) t4).trans rfl
      have ps := path_spec (ns := ns) (a := v) (b := v) (size63 hl)
      have i5 : setF 2 (opF (consO (ofE (opF (consO (varO 0) (consO (ofE (opF (consO (ofE (opF (consO (varO 1) (consO (ofE (cF (.int 1))) nilO)) (PD.g2 ixD))) (consO (ofE (cF (.int 0))) nilO)) (PD.g2 ixD))) nilO)) (PD.g2 ixD))) (consO (ofE (cF (.int 0))) nilO)) (PD.g2 ixD)) (jsE ns (.tuple [.str s_ring, .tuple ((n :: r).map .str)])) = some (.nx, [some (eNs ns, .sh), some (.tuple [.str s_ring, .tuple ((n :: r).map .str)], .sh), some (.str v, .sh), none]) := by
        simp [seqF, setF, retF, exprF, ifF, asgF, augF, augS, parF, opF, opFA, consO, nilO, ofE, varO, varE, mvE, cF, derefs, deref, PD.g1, PD.g2, setv, tstF, truF, trueD, andT, orT, notT, andE, orE, notE, iteE, getE, newDF, dispF, dispL, seqI, rngI, callF, callM, frzL, pkS, immD, immL, mutF, noSlot, tyD, slF, partF, nameG, tupG, consG, nilG, subG, wipeE, unw, noOwn, yesT, PyData.plain, PyData.plainAll, PyData.depth, PyData.depthAll, bodyFF, argE, fin0, nxF, retN, forF, tupD, lstD, turnF, lc2DF, lc2F, lcDF, dictAt, forDF, dcF, purF, tyP, spreadF, ixT0, ixT1, eNs, ix_e, hn, eN]
      have i6 : setF 3 (callF is_path_F [] (consO (varO 0) (consO (ofE (opF (consO (varO 1) (consO (ofE (cF (.int 1))) nilO)) (PD.g2 ixD))) (consO (varO 2) (consO (varO 2) (nilO)))))) [some (eNs ns, .sh), some (.tuple [.str s_ring, .tuple ((n :: r).map .str)], .sh), some (.str v, .sh), none] = some (.nx, [some (eNs ns, .sh), some (.tuple [.str s_ring, .tuple ((n :: r).map .str)], .sh), some (.str v, .sh), some (oI (pathSum ns (n :: r) v v), .sh)]) := by
        refine setF_eq (callF_eq (ds := [eNs ns, .tuple ((n :: r).map .str), .str v, .str v]) (os := [.slot 0, .val (.tuple ((n :: r).map .str)), .slot 2, .slot 2]) (d0 := .none) (consO_eq rfl (consO_eq (ofE_eq (fr := false) (opF_eq (consO_eq rfl (consO_eq (ofE_eq cF_eq) nilO_eq)) rfl (g2e ixT1))) (consO_eq rfl (consO_eq rfl nilO_eq)))) rfl ps rfl) rfl
      refine (bodyFF_rt (e1 := [some (eNs ns, .sh), some (.tuple [.str s_ring, .tuple ((n :: r).map .str)], .sh), some (.str v, .sh), some (oI (pathSum ns (n :: r) v v), .sh)]) (d := .bool (isRing ns (n :: r))) (fr := false) ?_).trans rfl
      rw [e0]
      unfold judge_spread_B
      rw [seqF_eq i1, seqF_eq i2, seqF_eq i3, seqF_eq i4, seqF_eq i5, seqF_eq i6]
      cases hp : pathSum ns (n :: r) v v with
      | none => simp [seqF, setF, retF, exprF, ifF, asgF, augF, augS, parF, opF, opFA, consO, nilO, ofE, varO, varE, mvE, cF, derefs, deref, PD.g1, PD.g2, setv, tstF, truF, trueD, andT, orT, notT, andE, orE, notE, iteE, getE, newDF, dispF, dispL, seqI, rngI, callF, callM, frzL, pkS, immD, immL, mutF, noSlot, tyD, slF, partF, nameG, tupG, consG, nilG, subG, wipeE, unw, noOwn, yesT, PyData.plain, PyData.plainAll, PyData.depth, PyData.depthAll, bodyFF, argE, fin0, nxF, retN, forF, tupD, lstD, turnF, lc2DF, lc2F, lcDF, dictAt, forDF, dcF, purF, tyP, spreadF, oI, isntD, isD, isRing, hn, hp]
      | some t => simp [seqF, setF, retF, exprF, ifF, asgF, augF, augS, parF, opF, opFA, consO, nilO, ofE, varO, varE, mvE, cF, derefs, deref, PD.g1, PD.g2, setv, tstF, truF, trueD, andT, orT, notT, andE, orE, notE, iteE, getE, newDF, dispF, dispL, seqI, rngI, callF, callM, frzL, pkS, immD, immL, mutF, noSlot, tyD, slF, partF, nameG, tupG, consG, nilG, subG, wipeE, unw, noOwn, yesT, PyData.plain, PyData.plainAll, PyData.depth, PyData.depthAll, bodyFF, argE, fin0, nxF, retN, forF, tupD, lstD, turnF, lc2DF, lc2F, lcDF, dictAt, forDF, dcF, purF, tyP, spreadF, oI, isntD, isD, isRing, hn, hp, ltD]
end K16

/-! K16G: with_more, denied, follows. -/
namespace K16
open PySem PD
/-- no name is blank -/
def NoBl (ns : Ns) : Prop := lk ns s_ = none ∧ lk ns s__20_ = none
theorem nodup_mem {ns : Ns} (vd : Vd ns) : ((eM eN ns).length) = ns.length := eM_length _ _
theorem dict_notes {ns : Ns} : dictAD (eNs ns) = some (eNs ns, true) := rfl
abbrev wmE (ns : Ns) (l : List D) (found : Ns) (name : Str) (x : Option D) : Ev := [some (eNs ns, .sh), some (.list l, .sh), some (eNs found, .ow), some (.str name, .sh), x.map fun d => (d, .sh)]
theorem put_new {β : Type} {m : List (Str × β)} {k : Str} {v : β} (h : lk m k = none) : put m k v = m ++ [(k, v)] := by
  unfold put
  rw [h]
  rfl
theorem more_turn {ns found : Ns} {l : List D} {name : Str} {x : Option D} {y : Nt Str} (h : lk found name = none) (z : found.length < 60) : ∃ e1, nameG 4 (eN y) (wmE ns l found name x) = some e1 ∧ with_more_b2 e1 = some (.nx, wmE ns l (found ++ [(name, y)]) name (some (eN y))) := by
  refine ⟨wmE ns l found name (some (eN y)), by cases x <;> simp [nameG, setv], ?_⟩
  have t : tstF (opF (consO (varO 3) (consO (varO 2) nilO)) (PD.g2 inD)) (wmE ns l found name (some (eN y))) = some (false, wmE ns l found name (some (eN y))) := by
    simp [seqF, setF, retF, exprF, ifF, asgF, augF, augS, parF, opF, opFA, consO, nilO, ofE, varO, varE, mvE, cF, derefs, deref, PD.g1, PD.g2, setv, tstF, truF, trueD, andT, orT, notT, andE, orE, notE, iteE, getE, newDF, dispF, dispL, seqI, rngI, callF, callM, frzL, pkS, immD, immL, mutF, noSlot, tyD, slF, partF, nameG, tupG, consG, nilG, subG, wipeE, unw, noOwn, yesT, PyData.plain, PyData.plainAll, PyData.depth, PyData.depthAll, bodyFF, argE, fin0, nxF, retN, forF, tupD, lstD, turnF, lc2DF, lc2F, lcDF, dictAt, forDF, dcF, purF, tyP, spreadF, eNs, in_e, h]
  have w1 : whileL (tstF (opF (consO (varO 3) (consO (varO 2) nilO)) (PD.g2 inD))) with_more_b1 64 (wmE ns l found name (some (eN y))) = some (.nx, wmE ns l found name (some (eN y))) := while_stop t
  have z1 : (eM eN found).length < sizeLine := by rw [eM_length]; exact size63' (by omega)
  have p : putP (eM eN found) (.str name) (eN y) = eM eN (found ++ [(name, y)]) := by rw [put_e eN name y found, put_new h]
  unfold with_more_b2
  rw [seqF_eq w1]
  simp [asgF, varE, subG, varO, deref, eNs, putD, keyD, z1, p]
theorem more_turn2 {ns found : Ns} {l : List D} {x : Option D} {y : Nt Str} (h : (lk found s_).isSome) (h2 : lk found s__20_ = none) (z : found.length < 60) : ∃ e1, nameG 4 (eN y) (wmE ns l found s_ x) = some e1 ∧ with_more_b2 e1 = some (.nx, wmE ns l (found ++ [(s__20_, y)]) s__20_ (some (eN y))) := by
  refine ⟨wmE ns l found s_ (some (eN y)), by cases x <;> simp [nameG, setv], ?_⟩
  have t : tstF (opF (consO (varO 3) (consO (varO 2) nilO)) (PD.g2 inD)) (wmE ns l found s_ (some (eN y))) = some (true, wmE ns l found s_ (some (eN y))) := by
    simp [seqF, setF, retF, exprF, ifF, asgF, augF, augS, parF, opF, opFA, consO, nilO, ofE, varO, varE, mvE, cF, derefs, deref, PD.g1, PD.g2, setv, tstF, truF, trueD, andT, orT, notT, andE, orE, notE, iteE, getE, newDF, dispF, dispL, seqI, rngI, callF, callM, frzL, pkS, immD, immL, mutF, noSlot, tyD, slF, partF, nameG, tupG, consG, nilG, subG, wipeE, unw, noOwn, yesT, PyData.plain, PyData.plainAll, PyData.depth, PyData.depthAll, bodyFF, argE, fin0, nxF, retN, forF, tupD, lstD, turnF, lc2DF, lc2F, lcDF, dictAt, forDF, dcF, purF, tyP, spreadF, eNs, in_e, h]
  have b : with_more_b1 (wmE ns l found s_ (some (eN y))) = some (.nx, wmE ns l found s__20_ (some (eN y))) := by
    have e : s_.length + s__20_.length ≤ sizeLine := by rw [sizeLine_eq]; decide
    have e2 : s_ ++ s__20_ = s__20_ := by decide
    simp [with_more_b1, augF, ofE, cF, deref, iaddAD, e, e2, setv]
  have t2 : tstF (opF (consO (varO 3) (consO (varO 2) nilO)) (PD.g2 inD)) (wmE ns l found s__20_ (some (eN y))) = some (false, wmE ns l found s__20_ (some (eN y))) := by
    simp [seqF, setF, retF, exprF, ifF, asgF, augF, augS, parF, opF, opFA, consO, nilO, ofE, varO, varE, mvE, cF, derefs, deref, PD.g1, PD.g2, setv, tstF, truF, trueD, andT, orT, notT, andE, orE, notE, iteE, getE, newDF, dispF, dispL, seqI, rngI, callF, callM, frzL, pkS, immD, immL, mutF, noSlot, tyD, slF, partF, nameG, tupG, consG, nilG, subG, wipeE, unw, noOwn, yesT, PyData.plain, PyData.plainAll, PyData.depth, PyData.depthAll, bodyFF, argE, fin0, nxF, retN, forF, tupD, lstD, turnF, lc2DF, lc2F, lcDF, dictAt, forDF, dcF, purF, tyP, spreadF, eNs, in_e, h2]
  have w1 : whileL (tstF (opF (consO (varO 3) (consO (varO 2) nilO)) (PD.g2 inD))) with_more_b1 64 (wmE ns l found s_ (some (eN y))) = some (.nx, wmE ns l found s__20_ (some (eN y))) := by
    rw [while_go t (.inl b)]
    exact while_stop t2
  have z1 : (eM eN found).length < sizeLine := by rw [eM_length]; exact size63' (by omega)
  have p : putP (eM eN found) (.str s__20_) (eN y) = eM eN (found ++ [(s__20_, y)]) := by rw [put_e eN s__20_ y found, put_new h2]
  unfold with_more_b2
  rw [seqF_eq w1]
  simp [asgF, varE, subG, varO, deref, eNs, putD, keyD, z1, p]
theorem more1_spec {ns : Ns} (vd : Vd ns) (nb : NoBl ns) (y : Nt Str) : with_more_F [eNs ns, .list [eN y]] = some (eNs (ns ++ [(s_, y)]), true, .none) := by
  have z := vd.len
  obtain ⟨e1, h1, h2⟩ := more_turn (ns := ns) (l := [eN y]) (x := none) (y := y) nb.1 (by omega)
  have e0 : argE false [eNs ns, .list [eN y]] ++ List.replicate (5 - [eNs ns, .list [eN y]].length) none = [some (eNs ns, .sh), some (.list [eN y], .sh), none, none, none] := rfl
  have i1 : setF 2 (opF (consO (varO 0) nilO) (PD.g1 dictAD)) [some (eNs ns, .sh), some (.list [eN y], .sh), none, none, none] = some (.nx, [some (eNs ns, .sh), some (.list [eN y], .sh), some (eNs ns, .ow), none, none]) := rfl
  have i2 : setF 3 (cF (.str s_)) [some (eNs ns, .sh), some (.list [eN y], .sh), some (eNs ns, .ow), none, none] = some (.nx, wmE ns [eN y] ns s_ none) := rfl
  have i3 : forF (seqI (varE 1)) (nameG 4) with_more_b2 (wmE ns [eN y] ns s_ none) = some (.nx, wmE ns [eN y] (ns ++ [(s_, y)]) s_ (some (eN y))) := by
    rw [forF_eq (ds := [eN y]) (e1 := wmE ns [eN y] ns s_ none) rfl]
    simp only [forL, h1, h2]
  unfold with_more_F
  refine (bodyFF_rt (e1 := [some (eNs ns, .sh), some (.list [eN y], .sh), none, some (.str s_, .sh), some (eN y, .sh)]) (d := eNs (ns ++ [(s_, y)])) (fr := true) ?_).trans rfl
  rw [e0]
  unfold with_more_B
  rw [seqF_eq i1, seqF_eq i2, seqF_eq i3]
  rfl
theorem more2_spec {ns : Ns} (vd : Vd ns) (nb : NoBl ns) (y y2 : Nt Str) : with_more_F [eNs ns, .list [eN y, eN y2]] = some (eNs (ns ++ [(s_, y), (s__20_, y2)]), true, .none) := by
  have z := vd.len
  obtain ⟨e1, h1, h2⟩ := more_turn (ns := ns) (l := [eN y, eN y2]) (x := none) (y := y) nb.1 (by omega)
  have k1 : (lk (ns ++ [(s_, y)]) s_).isSome := by rw [lk_append, nb.1]; rfl
  have k2 : lk (ns ++ [(s_, y)]) s__20_ = none := by
    rw [lk_append, nb.2]
    rfl
  obtain ⟨e3, h3, h4⟩ := more_turn2 (ns := ns) (l := [eN y, eN y2]) (x := some (eN y)) (y := y2) k1 k2 (by simp; omega)
  have e0 : argE false [eNs ns, .list [eN y, eN y2]] ++ List.replicate (5 - [eNs ns, .list [eN y, eN y2]].length) none = [some (eNs ns, .sh), some (.list [eN y, eN y2], .sh), none, none, none] := rfl
  have i1 : setF 2 (opF (consO (varO 0) nilO) (PD.g1 dictAD)) [some (eNs ns, .sh), some (.list [eN y, eN y2], .sh), none, none, none] = some (.nx, [some (eNs ns, .sh), some (.list [eN y, eN y2], .sh), some (eNs ns, .ow), none, none]) := rfl
  have i2 : setF 3 (cF (.str s_)) [some (eNs ns, .sh), some (.list [eN y, eN y2], .sh), some (eNs ns, .ow), none, none] = some (.nx, wmE ns [eN y, eN y2] ns s_ none) := rfl
  have i3 : forF (seqI (varE 1)) (nameG 4) with_more_b2 (wmE ns [eN y, eN y2] ns s_ none) = some (.nx, wmE ns [eN y, eN y2] (ns ++ [(s_, y)] ++ [(s__20_, y2)]) s__20_ (some (eN y2))) := by
    rw [forF_eq (ds := [eN y, eN y2]) (e1 := wmE ns [eN y, eN y2] ns s_ none) rfl]
    simp only [forL, h1, h2, h3, h4]
  unfold with_more_F
  refine (bodyFF_rt (e1 := [some (eNs ns, .sh), some (.list [eN y, eN y2], .sh), none, some (.str s__20_, .sh), some (eN y2, .sh)]) (d := eNs (ns ++ [(s_, y), (s__20_, y2)])) (fr := true) ?_).trans rfl
  rw [e0]
  unfold with_more_B
  rw [seqF_eq i1, seqF_eq i2, seqF_eq i3, List.append_assoc]
  rfl
/-! ### denied, follows -/
def den (x : Nt Str) : Nt Str := (x.2.1, x.1, -1 - x.2.2)
theorem denied_spec (x : Nt Str) : denied_F [eN x] = some (eN (den x), false, .none) := by
  have e0 : argE false [eN x] ++ List.replicate (1 - [eN x].length) none = [some (eN x, .sh)] := rfl
  unfold denied_F
  refine (bodyFF_rt (e1 := [some (eN x, .sh)]) (d := eN (den x)) (fr := false) ?_).trans rfl
  rw [e0]
  simp [denied_B, seqF, setF, retF, exprF, ifF, asgF, augF, augS, parF, opF, opFA, consO, nilO, ofE, varO, varE, mvE, cF, derefs, deref, PD.g1, PD.g2, setv, tstF, truF, trueD, andT, orT, notT, andE, orE, notE, iteE, getE, newDF, dispF, dispL, seqI, rngI, callF, callM, frzL, pkS, immD, immL, mutF, noSlot, tyD, slF, partF, nameG, tupG, consG, nilG, subG, wipeE, unw, noOwn, yesT, PyData.plain, PyData.plainAll, PyData.depth, PyData.depthAll, bodyFF, argE, fin0, nxF, retN, forF, tupD, lstD, turnF, lc2DF, lc2F, lcDF, dictAt, forDF, dcF, purF, tyP, spreadF, eN, ixT0, ixT1, ixT2, negD, subD, size63 (show 3 < 64 by decide), den]
def withNot (ns : Ns) (x : Nt Str) : Ns := ns ++ [(s_not, den x)]
theorem spread_call {ns : Ns} (vd : Vd ns) (hn : lk ns s_not = none) {x : Nt Str} {e : Ev} (h0 : e[0]? = some (some (eNs ns, .sh))) (h1 : e[1]? = some (some (eN x, .sh))) : spreadF (varE 0) (cF (.str s_not)) (callF denied_F [] (consO (varO 1) nilO)) e = some (eNs (withNot ns x), true, e) := by
  have v0 : varE 0 e = some (eNs ns, false, e) := by simp only [varE, h0]
  have v1 : varO 1 e = some (.slot 1, e) := by simp only [varO, h1]
  have c : callF denied_F [] (consO (varO 1) nilO) e = some (eN (den x), false, e) := by
    refine callF_eq (ds := [eN x]) (os := [.slot 1]) (d0 := .none) (consO_eq v1 nilO_eq) ?_ (denied_spec x) ?_
    · simp only [derefs, deref, h1]
    · simp only [pkS, h1]
  have z : (eM eN ns).length < sizeLine := by rw [eM_length]; exact size63' (Nat.lt_trans vd.len (by decide))
  have m : mergeP [] (eM eN ns) = eM eN ns := merge_nil eN vd.nodup
  have p : putP (eM eN ns) (.str s_not) (eN (den x)) = eM eN (withNot ns x) := by rw [put_e eN s_not _ ns, put_new hn]; rfl
  simp only [spreadF, v0, eNs, z, if_true, cF, keyD, c, m, p]
theorem follows_spec {ns : Ns} (vd : Vd ns) (hn : lk ns s_not = none) {x : Nt Str} {d : D} (h : spread_F [eNs (withNot ns x)] = some (d, false, .none)) : follows_F [eNs ns, eN x] = some (d, false, .none) := by
  have e0 : argE false [eNs ns, eN x] ++ List.replicate (2 - [eNs ns, eN x].length) none = [some (eNs ns, .sh), some (eN x, .sh)] := rfl
  have s := spread_call vd hn (x := x) (e := [some (eNs ns, .sh), some (eN x, .sh)]) rfl rfl
  unfold follows_F
  refine (bodyFF_rt (e1 := [some (eNs ns, .sh), some (eN x, .sh)]) (d := d) (fr := false) ?_).trans rfl
  rw [e0]
  unfold follows_B
  have c := callF_eq (F := spread_F) (dds := []) (consO_eq (ofE_eq s) nilO_eq) rfl h rfl
  simp only [retF, c]
theorem judge_follows_spec {ns : Ns} (vd : Vd ns) (hn : lk ns s_not = none) {x : Nt Str} {t : D} {b : Bool} (h : judge_spread_F [eNs (withNot ns x), t] = some (.bool b, false, .none)) : judge_follows_F [eNs ns, eN x, t] = some (.bool b, false, .none) := by
  have e0 : argE false [eNs ns, eN x, t] ++ List.replicate (3 - [eNs ns, eN x, t].length) none = [some (eNs ns, .sh), some (eN x, .sh), some (t, .sh)] := rfl
  have s := spread_call vd hn (x := x) (e := [some (eNs ns, .sh), some (eN x, .sh), some (t, .sh)]) rfl rfl
  unfold judge_follows_F
  refine (bodyFF_rt (e1 := [some (eNs ns, .sh), some (eN x, .sh), some (t, .sh)]) (d := .bool b) (fr := false) ?_).trans rfl
  rw [e0]
  unfold judge_follows_B
  have c := callF_eq (F := judge_spread_F) (dds := []) (consO_eq (ofE_eq s) (consO_eq (f := varO 2) rfl nilO_eq)) (ds := [eNs (withNot ns x), t]) rfl h rfl
  simp only [retF, c]
end K16

/-! K16H: most_apart. -/
namespace K16
open PySem PD
def eQ (q : Int × List Str) : D := .tuple [.int q.1, .tuple (q.2.map .str)]
def eR (P : Ps Str) : D := .dict (eM eQ P)
def mpE (ns : Ns) (one other : Str) (told : D) (P : Ps Str) (x5 : Option Str) (x : Option (Str × Nt Str)) : Ev :=
  [some (eNs ns, .sh), some (.str one, .sh), some (.str other, .sh), some (told, .sh), some (eR P, .ow), x5.map fun y => (.str y, .sh), none, x.map fun t => (.str t.1, .sh), none, none, x.map fun t => (.str t.2.1, .sh), x.map fun t => (.str t.2.2.1, .sh), x.map fun t => (.int t.2.2.2, .sh)]
structure Sm (P : Ps Str) (c : Nat) : Prop where
  len : P.length ≤ c
  ls : ∀ x d l, lk P x = some (d, l) → l.length ≤ c
theorem Sm.put {P : Ps Str} {c : Nat} (h : Sm P c) {e : Str} {d : Int} {l : List Str} (hl : l.length ≤ c + 1) : Sm (put P e (d, l)) (c + 1) := by
  refine ⟨?_, fun x d' l' hx => ?_⟩
  · have := h.len
    unfold K16.put
    split <;> simp <;> omega
  · rw [lk_put] at hx
    split at hx
    · cases hx; exact hl
    · exact Nat.le_succ_of_le (h.ls x d' l' hx)
theorem Sm.up {P : Ps Str} {c : Nat} (h : Sm P c) : Sm P (c + 1) := ⟨Nat.le_succ_of_le h.len, fun x d l e => Nat.le_succ_of_le (h.ls x d l e)⟩
theorem sm_step {ns : Ns} {P : Ps Str} {c : Nat} (h : Sm P c) (n : Str) : Sm (relaxP ns P n) (c + 1) := by
  unfold relaxP
  split
  · split
    · rename_i d l hs
      have hl : (l ++ [n]).length ≤ c + 1 := by
        have := h.ls _ _ _ hs
        rw [List.length_append, List.length_singleton]
        omega
      split
      · exact h.put hl
      · split
        · exact h.put hl
        · exact h.up
    · exact h.up
  · exact h.up
abbrev mpL (ns : Ns) (one other : Str) (told : D) (P : Ps Str) (x5 : Option Str) (n : Str) (a b c : Option (D × Ow)) : Ev :=
  [some (eNs ns, .sh), some (.str one, .sh), some (.str other, .sh), some (told, .sh), some (eR P, .ow), x5.map fun y => (.str y, .sh), none, some (.str n, .sh), none, none, a, b, c]
theorem ap_head {ns : Ns} {one other : Str} {told : D} {P : Ps Str} {x5 : Option Str} {n s e : Str} {m : Int} {a b c : Option D} (hn : lk ns n = some (s, e, m)) : asgF (opF (consO (varO 0) (consO (varO 7) nilO)) (PD.g2 ixD)) (tupG 3 (consG (nameG 10) (consG (nameG 11) (consG (nameG 12) (nilG))))) (mpL ns one other told P x5 n (a.map fun d => (d, .sh)) (b.map fun d => (d, .sh)) (c.map fun d => (d, .sh))) = some (.nx, mpE ns one other told P x5 (some (n, s, e, m))) := by
  cases a <;> cases b <;> cases c <;> simp [seqF, setF, retF, exprF, ifF, asgF, augF, augS, parF, opF, opFA, consO, nilO, ofE, varO, varE, mvE, cF, derefs, deref, PD.g1, PD.g2, setv, tstF, truF, trueD, andT, orT, notT, andE, orE, notE, iteE, getE, newDF, dispF, dispL, seqI, rngI, callF, callM, frzL, pkS, immD, immL, mutF, noSlot, tyD, slF, partF, nameG, tupG, consG, nilG, subG, wipeE, unw, noOwn, yesT, PyData.plain, PyData.plainAll, PyData.depth, PyData.depthAll, bodyFF, argE, fin0, nxF, retN, forF, tupD, lstD, turnF, lc2DF, lc2F, lcDF, dictAt, forDF, dcF, purF, tyP, spreadF, eNs, ix_e, hn, eN, mpE]
theorem ap_test {ns : Ns} {one other : Str} {told : D} {P : Ps Str} {x5 : Option Str} {n s e : Str} {m : Int} :
    (andT (tstF (opF (consO (varO 10) (consO (varO 4) nilO)) (PD.g2 inD))) (orT (tstF (opF (consO (varO 11) (consO (varO 4) nilO)) (PD.g2 ninD))) (tstF (opF (consO (ofE (opF (consO (ofE (opF (consO (ofE (opF (consO (varO 4) (consO (varO 10) nilO)) (PD.g2 ixD))) (consO (ofE (cF (.int 0))) nilO)) (PD.g2 ixD))) (consO (varO 12) nilO)) (PD.g2 addD))) (consO (ofE (opF (consO (ofE (opF (consO (varO 4) (consO (varO 11) nilO)) (PD.g2 ixD))) (consO (ofE (cF (.int 0))) nilO)) (PD.g2 ixD))) nilO)) (PD.g2 ltD))))) (mpE ns one other told P x5 (some (n, s, e, m))) =
    some (match lk P s with
      | none => false
      | some (d, _) => match lk P e with
        | none => true
        | some (d', _) => decide (d + m < d'), mpE ns one other told P x5 (some (n, s, e, m))) := by
  cases hs : lk P s with
  | none => simp [seqF, setF, retF, exprF, ifF, asgF, augF, augS, parF, opF, opFA, consO, nilO, ofE, varO, varE, mvE, cF, derefs, deref, PD.g1, PD.g2, setv, tstF, truF, trueD, andT, orT, notT, andE, orE, notE, iteE, getE, newDF, dispF, dispL, seqI, rngI, callF, callM, frzL, pkS, immD, immL, mutF, noSlot, tyD, slF, partF, nameG, tupG, consG, nilG, subG, wipeE, unw, noOwn, yesT, PyData.plain, PyData.plainAll, PyData.depth, PyData.depthAll, bodyFF, argE, fin0, nxF, retN, forF, tupD, lstD, turnF, lc2DF, lc2F, lcDF, dictAt, forDF, dcF, purF, tyP, spreadF, mpE, eR, in_e, hs]
  | some q =>
    obtain ⟨d, l⟩ := q
    cases he : lk P e with
    | none => simp [seqF, setF, retF, exprF, ifF, asgF, augF, augS, parF, opF, opFA, consO, nilO, ofE, varO, varE, mvE, cF, derefs, deref, PD.g1, PD.g2, setv, tstF, truF, trueD, andT, orT, notT, andE, orE, notE, iteE, getE, newDF, dispF, dispL, seqI, rngI, callF, callM, frzL, pkS, immD, immL, mutF, noSlot, tyD, slF, partF, nameG, tupG, consG, nilG, subG, wipeE, unw, noOwn, yesT, PyData.plain, PyData.plainAll, PyData.depth, PyData.depthAll, bodyFF, argE, fin0, nxF, retN, forF, tupD, lstD, turnF, lc2DF, lc2F, lcDF, dictAt, forDF, dcF, purF, tyP, spreadF, mpE, eR, in_e, nin_e, hs, he]
    | some q' =>
      obtain ⟨d', l'⟩ := q'
      simp [seqF, setF, retF, exprF, ifF, asgF, augF, augS, parF, opF, opFA, consO, nilO, ofE, varO, varE, mvE, cF, derefs, deref, PD.g1, PD.g2, setv, tstF, truF, trueD, andT, orT, notT, andE, orE, notE, iteE, getE, newDF, dispF, dispL, seqI, rngI, callF, callM, frzL, pkS, immD, immL, mutF, noSlot, tyD, slF, partF, nameG, tupG, consG, nilG, subG, wipeE, unw, noOwn, yesT, PyData.plain, PyData.plainAll, PyData.depth, PyData.depthAll, bodyFF, argE, fin0, nxF, retN, forF, tupD, lstD, turnF, lc2DF, lc2F, lcDF, dictAt, forDF, dcF, purF, tyP, spreadF, mpE, eR, in_e, nin_e, hs, he, ix_e, eQ, ixT0, addD, ltD]
theorem ap_store {ns : Ns} {one other : Str} {told : D} {P : Ps Str} {x5 : Option Str} {n s e : Str} {m d : Int} {l : List Str} (hs : lk P s = some (d, l)) (zl : l.length + 1 ≤ sizeLine) (z : (eM eQ P).length < sizeLine) :
    asgF (opFA (consO (ofE (opF (consO (ofE (opF (consO (ofE (opF (consO (varO 4) (consO (varO 10) nilO)) (PD.g2 ixD))) (consO (ofE (cF (.int 0))) nilO)) (PD.g2 ixD))) (consO (varO 12) nilO)) (PD.g2 addD))) (consO (ofE (opF (consO (ofE (opF (consO (ofE (opF (consO (varO 4) (consO (varO 10) nilO)) (PD.g2 ixD))) (consO (ofE (cF (.int 1))) nilO)) (PD.g2 ixD))) (consO (ofE (opFA (consO (ofE (varE 7)) (nilO)) tupD)) nilO)) (PD.g2 addD))) (nilO))) tupD) (subG 4 (varO 11)) (mpE ns one other told P x5 (some (n, s, e, m))) = some (.nx, mpE ns one other told (put P e (d + m, l ++ [n])) x5 (some (n, s, e, m))) := by
  have p : putP (eM eQ P) (.str e) (.tuple [.int (d + m), .tuple (l.map .str ++ [.str n])]) = eM eQ (put P e (d + m, l ++ [n])) := by
    have := put_e eQ e (d + m, l ++ [n]) P
    simp only [eQ, List.map_append, List.map_cons, List.map_nil] at this
    exact this
  simp [seqF, setF, retF, exprF, ifF, asgF, augF, augS, parF, opF, opFA, consO, nilO, ofE, varO, varE, mvE, cF, derefs, deref, PD.g1, PD.g2, setv, tstF, truF, trueD, andT, orT, notT, andE, orE, notE, iteE, getE, newDF, dispF, dispL, seqI, rngI, callF, callM, frzL, pkS, immD, immL, mutF, noSlot, tyD, slF, partF, nameG, tupG, consG, nilG, subG, wipeE, unw, noOwn, yesT, PyData.plain, PyData.plainAll, PyData.depth, PyData.depthAll, bodyFF, argE, fin0, nxF, retN, forF, tupD, lstD, turnF, lc2DF, lc2F, lcDF, dictAt, forDF, dcF, purF, tyP, spreadF, mpE, eR, hs, ix_e, eQ, ixT0, ixT1, addD, size63 (show 2 < 64 by decide), size63 (show 1 < 64 by decide), zl, putD, keyD, z]
  exact p
theorem ap_turn {ns : Ns} {one other : Str} {told : D} {P : Ps Str} {x5 : Option Str} {x : Option (Str × Nt Str)} {n s e : Str} {m : Int} {c : Nat} (hn : lk ns n = some (s, e, m)) (sm : Sm P c) (hc : c + 1 < sizeLine) :
    ∃ e1, nameG 7 (.str n) (mpE ns one other told P x5 x) = some e1 ∧ most_apart_b1 e1 = some (.nx, mpE ns one other told (relaxP ns P n) x5 (some (n, s, e, m))) := by
  have z : (eM eQ P).length < sizeLine := by rw [eM_length]; have := sm.len; omega
  have key : ∀ a b c : Option D, most_apart_b1 (mpL ns one other told P x5 n (a.map fun d => (d, .sh)) (b.map fun d => (d, .sh)) (c.map fun d => (d, .sh))) = some (.nx, mpE ns one other told (relaxP ns P n) x5 (some (n, s, e, m))) := fun a b c => by
    unfold most_apart_b1
    rw [seqF_eq (ap_head hn)]
    have t := ap_test (ns := ns) (one := one) (other := other) (told := told) (P := P) (x5 := x5) (n := n) (s := s) (e := e) (m := m)
    unfold relaxP
    simp only [hn]
    cases hs : lk P s with
    | none =>
      simp only [hs] at t ⊢
      rw [ifF_no t]
      rfl
    | some q =>
      obtain ⟨d, l⟩ := q
      have st := ap_store (ns := ns) (one := one) (other := other) (told := told) (x5 := x5) (n := n) (e := e) (m := m) hs (by have := sm.ls _ _ _ hs; omega) z
      cases he : lk P e with
      | none =>
        simp only [hs, he] at t ⊢
        rw [ifF_yes t]
        exact st
      | some q' =>
        obtain ⟨d', l'⟩ := q'
        simp only [hs, he] at t ⊢
        by_cases c1 : d + m < d'
        · simp only [c1, decide_true, if_true] at t ⊢
          rw [ifF_yes t]
          exact st
        · simp only [c1, decide_false, if_false] at t ⊢
          rw [ifF_no t]
          rfl
  cases x with
  | none => exact ⟨_, rfl, key none none none⟩
  | some x => exact ⟨_, rfl, key (some _) (some _) (some _)⟩
theorem ap_for {ns : Ns} {one other : Str} {told : D} {x5 : Option Str} : ∀ (names : List Str) (P : Ps Str) (x : Option (Str × Nt Str)) (c : Nat), (∀ n ∈ names, ∃ v u m, lk ns n = some (v, u, m)) → Sm P c → c + names.length + 1 < sizeLine → ∃ x', forL (nameG 7) most_apart_b1 (names.map .str) (mpE ns one other told P x5 x) = some (.nx, mpE ns one other told (names.foldl (relaxP ns) P) x5 x') ∧ Sm (names.foldl (relaxP ns) P) (c + names.length)
  | [], P, x, c, _, sm, _ => ⟨x, rfl, sm⟩
  | n :: r, P, x, c, h, sm, hz => by
    obtain ⟨s, e, m, hn⟩ := h n List.mem_cons_self
    simp only [List.length_cons] at hz
    obtain ⟨e1, h1, h2⟩ := ap_turn (ns := ns) (one := one) (other := other) (told := told) (x5 := x5) (x := x) hn sm (by omega)
    obtain ⟨x', h3, h4⟩ := ap_for r (relaxP ns P n) (some (n, s, e, m)) (c + 1) (fun y hy => h y (List.mem_cons_of_mem _ hy)) (sm_step sm n) (by omega)
    refine ⟨x', ?_, by rw [List.foldl_cons, List.length_cons, show c + (r.length + 1) = c + 1 + r.length by omega]; exact h4⟩
    simp only [List.map_cons, forL, h1, h2, List.foldl_cons]
    exact h3
theorem ap_round {ns : Ns} (vd : Vd ns) {one other : Str} {told : D} {P : Ps Str} {x5 : Option Str} {x : Option (Str × Nt Str)} {c : Nat} {y : Str} (sm : Sm P c) (hz : c + 31 < sizeLine) : ∃ e1, nameG 5 (.str y) (mpE ns one other told P x5 x) = some e1 ∧ ∃ x', most_apart_b2 e1 = some (.nx, mpE ns one other told ((nm ns).foldl (relaxP ns) P) (some y) x') ∧ Sm ((nm ns).foldl (relaxP ns) P) (c + 30) := by
  have n30 := vd.len
  obtain ⟨x', h1, h2⟩ := ap_for (ns := ns) (one := one) (other := other) (told := told) (x5 := some y) (nm ns) P x c (fun n hn => nm_lk hn) sm (by rw [nm_length]; omega)
  rw [nm_length] at h2
  refine ⟨mpE ns one other told P (some y) x, by cases x5 <;> simp [mpE, nameG, setv], x', ?_, ?_⟩
  · unfold most_apart_b2
    rw [forF_eq (ds := (nm ns).map .str) (e1 := mpE ns one other told P (some y) x) ?_]
    · exact h1
    · have := sorted_e vd
      exact seqI_list (opF_eq (consO_eq rfl nilO_eq) rfl (show PD.g1 sortAD [eNs ns] = _ from this))
  · refine ⟨Nat.le_trans h2.len (by omega), fun x d l e => Nat.le_trans (h2.ls x d l e) (by omega)⟩
theorem ap_rounds {ns : Ns} (vd : Vd ns) {one other : Str} {told : D} : ∀ (ys : List Str) (P : Ps Str) (x5 : Option Str) (x : Option (Str × Nt Str)) (c : Nat), Sm P c → c + 31 * ys.length + 31 < sizeLine → ∃ x5' x', forL (nameG 5) most_apart_b2 (ys.map .str) (mpE ns one other told P x5 x) = some (.nx, mpE ns one other told (roundsP ns (nm ns) ys.length P) x5' x')
  | [], P, x5, x, c, _, _ => ⟨x5, x, rfl⟩
  | y :: r, P, x5, x, c, sm, hz => by
    simp only [List.length_cons] at hz
    obtain ⟨e1, h1, x', h2, h3⟩ := ap_round vd (one := one) (other := other) (told := told) (x5 := x5) (x := x) (y := y) sm (by omega)
    obtain ⟨x5', x2, h4⟩ := ap_rounds vd r _ (some y) x' (c + 30) h3 (by omega)
    refine ⟨x5', x2, ?_⟩
    simp only [List.map_cons, forL, h1, h2, List.length_cons, roundsP]
    exact h4
end K16

/-! K16I: what most_apart and judge_most answer. -/
namespace K16
open PySem PD
abbrev ma0 (ns : Ns) (one other : Str) : Ev := [some (eNs ns, .sh), some (.str one, .sh), some (.str other, .sh), none, none, none, none, none, none, none, none, none, none]
abbrev ma1 (ns : Ns) (one other : Str) (told : D) : Ev := [some (eNs ns, .sh), some (.str one, .sh), some (.str other, .sh), some (told, .sh), none, none, none, none, none, none, none, none, none]
def plus2 (ns : Ns) (one other : Str) : Ns := ns ++ [(s_, (one, one, 0)), (s__20_, (other, other, 0))]
def tight (ns : Ns) (one other : Str) (t : Int) : Ns := ns ++ [(s_, (other, one, -t))]
theorem ma_first {ns : Ns} (vd : Vd ns) (nb : NoBl ns) {one other : Str} {d : D} (h : spread_F [eNs (plus2 ns one other)] = some (d, false, .none)) :
    setF 3 (callF spread_F [] (consO (ofE (callF with_more_F [] (consO (varO 0) (consO (ofE (opFA (consO (ofE (opFA (consO (ofE (varE 1)) (consO (ofE (varE 1)) (consO (ofE (cF (.int 0))) (nilO)))) tupD)) (consO (ofE (opFA (consO (ofE (varE 2)) (consO (ofE (varE 2)) (consO (ofE (cF (.int 0))) (nilO)))) tupD)) (nilO))) lstD)) (nilO))))) (nilO))) (ma0 ns one other) = some (.nx, ma1 ns one other d) := by
  have a : opFA (consO (ofE (opFA (consO (ofE (varE 1)) (consO (ofE (varE 1)) (consO (ofE (cF (.int 0))) (nilO)))) tupD)) (consO (ofE (opFA (consO (ofE (varE 2)) (consO (ofE (varE 2)) (consO (ofE (cF (.int 0))) (nilO)))) tupD)) (nilO))) lstD (ma0 ns one other) = some (.list [eN (one, one, 0), eN (other, other, 0)], true, ma0 ns one other) := by
    simp [seqF, setF, retF, exprF, ifF, asgF, augF, augS, parF, opF, opFA, consO, nilO, ofE, varO, varE, mvE, cF, derefs, deref, PD.g1, PD.g2, setv, tstF, truF, trueD, andT, orT, notT, andE, orE, notE, iteE, getE, newDF, dispF, dispL, seqI, rngI, callF, callM, frzL, pkS, immD, immL, mutF, noSlot, tyD, slF, partF, nameG, tupG, consG, nilG, subG, wipeE, unw, noOwn, yesT, PyData.plain, PyData.plainAll, PyData.depth, PyData.depthAll, bodyFF, argE, fin0, nxF, retN, forF, tupD, lstD, turnF, lc2DF, lc2F, lcDF, dictAt, forDF, dcF, purF, tyP, spreadF, size63 (show 3 < 64 by decide), size63 (show 2 < 64 by decide), eN]
  have b := callF_eq (F := with_more_F) (dds := []) (consO_eq (f := varO 0) (e := ma0 ns one other) rfl (consO_eq (ofE_eq a) nilO_eq)) (ds := [eNs ns, .list [eN (one, one, 0), eN (other, other, 0)]]) rfl (more2_spec vd nb (one, one, 0) (other, other, 0)) rfl
  have c := callF_eq (F := spread_F) (dds := []) (consO_eq (ofE_eq b) nilO_eq) (ds := [eNs (plus2 ns one other)]) rfl h rfl
  exact setF_eq c rfl
theorem ma_ring {ns : Ns} (vd : Vd ns) (nb : NoBl ns) {one other : Str} {d : D} (h : spread_F [eNs (plus2 ns one other)] = some (.tuple [.str s_ring, d], false, .none)) : most_apart_F [eNs ns, .str one, .str other] = some (.tuple [.str s_ring, d], false, .none) := by
  have e0 : argE false [eNs ns, .str one, .str other] ++ List.replicate (13 - [eNs ns, .str one, .str other].length) none = ma0 ns one other := rfl
  have t : tstF (opF (consO (ofE (opF (consO (varO 3) (consO (ofE (cF (.int 0))) nilO)) (PD.g2 ixD))) (consO (ofE (cF (.str s_ring))) nilO)) (PD.g2 eqD)) (ma1 ns one other (.tuple [.str s_ring, d])) = some (true, ma1 ns one other (.tuple [.str s_ring, d])) := by
    simp [seqF, setF, retF, exprF, ifF, asgF, augF, augS, parF, opF, opFA, consO, nilO, ofE, varO, varE, mvE, cF, derefs, deref, PD.g1, PD.g2, setv, tstF, truF, trueD, andT, orT, notT, andE, orE, notE, iteE, getE, newDF, dispF, dispL, seqI, rngI, callF, callM, frzL, pkS, immD, immL, mutF, noSlot, tyD, slF, partF, nameG, tupG, consG, nilG, subG, wipeE, unw, noOwn, yesT, PyData.plain, PyData.plainAll, PyData.depth, PyData.depthAll, bodyFF, argE, fin0, nxF, retN, forF, tupD, lstD, turnF, lc2DF, lc2F, lcDF, dictAt, forDF, dcF, purF, tyP, spreadF, ixT0, eqD, eqv_str, PyData.plain, PyData.depth]
  unfold most_apart_F
  refine (bodyFF_rt (e1 := [some (eNs ns, .sh), some (.str one, .sh), some (.str other, .sh), some (.tuple [.str s_ring, d], .sh), none, none, none, none, none, none, none, none, none]) (d := .tuple [.str s_ring, d]) (fr := false) ?_).trans rfl
  rw [e0]
  unfold most_apart_B
  rw [seqF_eq (ma_first vd nb h)]
  refine seqF_rt ?_
  rw [ifF_yes t]
  rfl
theorem ma_loop {ns : Ns} (vd : Vd ns) (nb : NoBl ns) {one other : Str} {d : D} (h : spread_F [eNs (plus2 ns one other)] = some (.tuple [.str s_row, d], false, .none)) (G : SF) : ∃ x5 x, seqF (setF 3 (callF spread_F [] (consO (ofE (callF with_more_F [] (consO (varO 0) (consO (ofE (opFA (consO (ofE (opFA (consO (ofE (varE 1)) (consO (ofE (varE 1)) (consO (ofE (cF (.int 0))) (nilO)))) tupD)) (consO (ofE (opFA (consO (ofE (varE 2)) (consO (ofE (varE 2)) (consO (ofE (cF (.int 0))) (nilO)))) tupD)) (nilO))) lstD)) (nilO))))) (nilO))))
    (seqF (ifF (tstF (opF (consO (ofE (opF (consO (varO 3) (consO (ofE (cF (.int 0))) nilO)) (PD.g2 ixD))) (consO (ofE (cF (.str s_ring))) nilO)) (PD.g2 eqD))) (retF (mvE 3)) (nxF))
    (seqF (setF 4 (dispF [(varE 1, opFA (consO (ofE (cF (.int 0))) (consO (ofE (opFA (nilO) tupD)) (nilO))) tupD)]))
    (seqF (forF (seqI (callF words_of_F [] (consO (varO 0) (nilO)))) (nameG 5) (most_apart_b2)) G))) (ma0 ns one other) = G (mpE ns one other (.tuple [.str s_row, d]) (roundsP ns (nm ns) (wd ns).length [(one, (0, []))]) x5 x) := by
  have zW : (wd ns).length < 64 := by have := wd_length (ns := ns); have := vd.len; omega
  have t : tstF (opF (consO (ofE (opF (consO (varO 3) (consO (ofE (cF (.int 0))) nilO)) (PD.g2 ixD))) (consO (ofE (cF (.str s_ring))) nilO)) (PD.g2 eqD)) (ma1 ns one other (.tuple [.str s_row, d])) = some (false, ma1 ns one other (.tuple [.str s_row, d])) := by
    simp [seqF, setF, retF, exprF, ifF, asgF, augF, augS, parF, opF, opFA, consO, nilO, ofE, varO, varE, mvE, cF, derefs, deref, PD.g1, PD.g2, setv, tstF, truF, trueD, andT, orT, notT, andE, orE, notE, iteE, getE, newDF, dispF, dispL, seqI, rngI, callF, callM, frzL, pkS, immD, immL, mutF, noSlot, tyD, slF, partF, nameG, tupG, consG, nilG, subG, wipeE, unw, noOwn, yesT, PyData.plain, PyData.plainAll, PyData.depth, PyData.depthAll, bodyFF, argE, fin0, nxF, retN, forF, tupD, lstD, turnF, lc2DF, lc2F, lcDF, dictAt, forDF, dcF, purF, tyP, spreadF, ixT0, eqD, eqv_str, PyData.plain, PyData.depth, s_row_ring]
  have sm : Sm [(one, ((0 : Int), ([] : List Str)))] 1 := ⟨by simp, fun x d l e => by
    unfold lk at e
    split at e
    · cases e; simp
    · cases e⟩
  obtain ⟨x5, x, h4⟩ := ap_rounds vd (one := one) (other := other) (told := .tuple [.str s_row, d]) (wd ns) _ none none 1 sm (by rw [sizeLine_eq]; omega)
  have i3 : setF 4 (dispF [(varE 1, opFA (consO (ofE (cF (.int 0))) (consO (ofE (opFA (nilO) tupD)) (nilO))) tupD)]) (ma1 ns one other (.tuple [.str s_row, d])) = some (.nx, mpE ns one other (.tuple [.str s_row, d]) [(one, (0, []))] none none) := by
    simp [seqF, setF, retF, exprF, ifF, asgF, augF, augS, parF, opF, opFA, consO, nilO, ofE, varO, varE, mvE, cF, derefs, deref, PD.g1, PD.g2, setv, tstF, truF, trueD, andT, orT, notT, andE, orE, notE, iteE, getE, newDF, dispF, dispL, seqI, rngI, callF, callM, frzL, pkS, immD, immL, mutF, noSlot, tyD, slF, partF, nameG, tupG, consG, nilG, subG, wipeE, unw, noOwn, yesT, PyData.plain, PyData.plainAll, PyData.depth, PyData.depthAll, bodyFF, argE, fin0, nxF, retN, forF, tupD, lstD, turnF, lc2DF, lc2F, lcDF, dictAt, forDF, dcF, purF, tyP, spreadF, keyD, size63 (show 2 < 64 by decide), size63 (show 0 < 64 by decide), mergeP, putP, lookD, mpE, eR, eM, eQ]
  have c1 : callF words_of_F [] (consO (varO 0) nilO) (mpE ns one other (.tuple [.str s_row, d]) [(one, (0, []))] none none) = some (.list ((wd ns).map .str), true, mpE ns one other (.tuple [.str s_row, d]) [(one, (0, []))] none none) := callF_eq (consO_eq rfl nilO_eq) rfl (words_spec vd) rfl
  refine ⟨x5, x, ?_⟩
  rw [seqF_eq (ma_first vd nb h), seqF_eq ((ifF_no t).trans rfl), seqF_eq i3, seqF_eq ((forF_eq (seqI_list c1)).trans h4)]
theorem ma_any {ns : Ns} (vd : Vd ns) (nb : NoBl ns) {one other : Str} {d : D} (h : spread_F [eNs (plus2 ns one other)] = some (.tuple [.str s_row, d], false, .none)) (hP : lk (roundsP ns (nm ns) (wd ns).length [(one, (0, []))]) other = none) : most_apart_F [eNs ns, .str one, .str other] = some (.tuple [.str s_any], false, .none) := by
  have e0 : argE false [eNs ns, .str one, .str other] ++ List.replicate (13 - [eNs ns, .str one, .str other].length) none = ma0 ns one other := rfl
  obtain ⟨x5, x, hl⟩ := ma_loop vd nb h (seqF (ifF (tstF (opF (consO (varO 2) (consO (varO 4) nilO)) (PD.g2 ninD))) (retF (opFA (consO (ofE (cF (.str s_any))) (nilO)) tupD)) (nxF))
    (seqF (asgF (opF (consO (varO 4) (consO (varO 2) nilO)) (PD.g2 ixD)) (tupG 2 (consG (nameG 8) (consG (nameG 9) (nilG)))))
    (seqF (setF 6 (callF spread_F [] (consO (ofE (callF with_more_F [] (consO (varO 0) (consO (ofE (opFA (consO (ofE (opFA (consO (ofE (varE 2)) (consO (ofE (varE 1)) (consO (ofE (opF (consO (varO 8) nilO) (PD.g1 negD))) (nilO)))) tupD)) (nilO)) lstD)) (nilO))))) (nilO))))
    (retF (opFA (consO (ofE (cF (.str s_most))) (consO (ofE (varE 8)) (consO (ofE (varE 9)) (consO (ofE (opF (consO (varO 6) (consO (ofE (cF (.int 1))) nilO)) (PD.g2 ixD))) (nilO))))) tupD)))))
  have t : tstF (opF (consO (varO 2) (consO (varO 4) nilO)) (PD.g2 ninD)) (mpE ns one other (.tuple [.str s_row, d]) (roundsP ns (nm ns) (wd ns).length [(one, (0, []))]) x5 x) = some (true, mpE ns one other (.tuple [.str s_row, d]) (roundsP ns (nm ns) (wd ns).length [(one, (0, []))]) x5 x) := by
    simp [seqF, setF, retF, exprF, ifF, asgF, augF, augS, parF, opF, opFA, consO, nilO, ofE, varO, varE, mvE, cF, derefs, deref, PD.g1, PD.g2, setv, tstF, truF, trueD, andT, orT, notT, andE, orE, notE, iteE, getE, newDF, dispF, dispL, seqI, rngI, callF, callM, frzL, pkS, immD, immL, mutF, noSlot, tyD, slF, partF, nameG, tupG, consG, nilG, subG, wipeE, unw, noOwn, yesT, PyData.plain, PyData.plainAll, PyData.depth, PyData.depthAll, bodyFF, argE, fin0, nxF, retN, forF, tupD, lstD, turnF, lc2DF, lc2F, lcDF, dictAt, forDF, dcF, purF, tyP, spreadF, mpE, eR, nin_e, hP]
  unfold most_apart_F
  refine (bodyFF_rt (e1 := mpE ns one other (.tuple [.str s_row, d]) (roundsP ns (nm ns) (wd ns).length [(one, (0, []))]) x5 x) (d := .tuple [.str s_any]) (fr := false) ?_).trans rfl
  rw [e0]
  unfold most_apart_B
  rw [hl]
  refine seqF_rt ?_
  rw [ifF_yes t]
  simp [seqF, setF, retF, exprF, ifF, asgF, augF, augS, parF, opF, opFA, consO, nilO, ofE, varO, varE, mvE, cF, derefs, deref, PD.g1, PD.g2, setv, tstF, truF, trueD, andT, orT, notT, andE, orE, notE, iteE, getE, newDF, dispF, dispL, seqI, rngI, callF, callM, frzL, pkS, immD, immL, mutF, noSlot, tyD, slF, partF, nameG, tupG, consG, nilG, subG, wipeE, unw, noOwn, yesT, PyData.plain, PyData.plainAll, PyData.depth, PyData.depthAll, bodyFF, argE, fin0, nxF, retN, forF, tupD, lstD, turnF, lc2DF, lc2F, lcDF, dictAt, forDF, dcF, purF, tyP, spreadF, size63 (show 1 < 64 by decide)]
theorem ma_most {ns : Ns} (vd : Vd ns) (nb : NoBl ns) {one other : Str} {d w pd : D} {t : Int} {l : List Str} (h : spread_F [eNs (plus2 ns one other)] = some (.tuple [.str s_row, d], false, .none)) (hP : lk (roundsP ns (nm ns) (wd ns).length [(one, (0, []))]) other = some (t, l))
    (h2 : spread_F [eNs (tight ns one other t)] = some (.tuple [w, pd], false, .none)) : most_apart_F [eNs ns, .str one, .str other] = some (.tuple [.str s_most, .int t, .tuple (l.map .str), pd], false, .none) := by
  have e0 : argE false [eNs ns, .str one, .str other] ++ List.replicate (13 - [eNs ns, .str one, .str other].length) none = ma0 ns one other := rfl
  obtain ⟨x5, x, hl⟩ := ma_loop vd nb h (seqF (ifF (tstF (opF (consO (varO 2) (consO (varO 4) nilO)) (PD.g2 ninD))) (retF (opFA (consO (ofE (cF (.str s_any))) (nilO)) tupD)) (nxF))
    (seqF (asgF (opF (consO (varO 4) (consO (varO 2) nilO)) (PD.g2 ixD)) (tupG 2 (consG (nameG 8) (consG (nameG 9) (nilG)))))
    (seqF (setF 6 (callF spread_F [] (consO (ofE (callF with_more_F [] (consO (varO 0) (consO (ofE (opFA (consO (ofE (opFA (consO (ofE (varE 2)) (consO (ofE (varE 1)) (consO (ofE (opF (consO (varO 8) nilO) (PD.g1 negD))) (nilO)))) tupD)) (nilO)) lstD)) (nilO))))) (nilO))))
    (retF (opFA (consO (ofE (cF (.str s_most))) (consO (ofE (varE 8)) (consO (ofE (varE 9)) (consO (ofE (opF (consO (varO 6) (consO (ofE (cF (.int 1))) nilO)) (PD.g2 ixD))) (nilO))))) tupD)))))
  generalize roundsP ns (nm ns) (wd ns).length [(one, (0, []))] = P at *
  have t1 : tstF (opF (consO (varO 2) (consO (varO 4) nilO)) (PD.g2 ninD)) (mpE ns one other (.tuple [.str s_row, d]) P x5 x) = some (false, mpE ns one other (.tuple [.str s_row, d]) P x5 x) := by
    simp [seqF, setF, retF, exprF, ifF, asgF, augF, augS, parF, opF, opFA, consO, nilO, ofE, varO, varE, mvE, cF, derefs, deref, PD.g1, PD.g2, setv, tstF, truF, trueD, andT, orT, notT, andE, orE, notE, iteE, getE, newDF, dispF, dispL, seqI, rngI, callF, callM, frzL, pkS, immD, immL, mutF, noSlot, tyD, slF, partF, nameG, tupG, consG, nilG, subG, wipeE, unw, noOwn, yesT, PyData.plain, PyData.plainAll, PyData.depth, PyData.depthAll, bodyFF, argE, fin0, nxF, retN, forF, tupD, lstD, turnF, lc2DF, lc2F, lcDF, dictAt, forDF, dcF, purF, tyP, spreadF, mpE, eR, nin_e, hP]
  let e2 : Ev := [some (eNs ns, .sh), some (.str one, .sh), some (.str other, .sh), some (.tuple [.str s_row, d], .sh), some (eR P, .ow), x5.map fun y => (.str y, .sh), none, x.map fun t => (.str t.1, .sh), some (.int t, .sh), some (.tuple (l.map .str), .sh), x.map fun t => (.str t.2.1, .sh), x.map fun t => (.str t.2.2.1, .sh), x.map fun t => (.int t.2.2.2, .sh)]
  let e3 : Ev := [some (eNs ns, .sh), some (.str one, .sh), some (.str other, .sh), some (.tuple [.str s_row, d], .sh), some (eR P, .ow), x5.map fun y => (.str y, .sh), some (.tuple [w, pd], .sh), x.map fun t => (.str t.1, .sh), some (.int t, .sh), some (.tuple (l.map .str), .sh), x.map fun t => (.str t.2.1, .sh), x.map fun t => (.str t.2.2.1, .sh), x.map fun t => (.int t.2.2.2, .sh)]
  have i6 : asgF (opF (consO (varO 4) (consO (varO 2) nilO)) (PD.g2 ixD)) (tupG 2 (consG (nameG 8) (consG (nameG 9) (nilG)))) (mpE ns one other (.tuple [.str s_row, d]) P x5 x) = some (.nx, e2) := by
    simp [seqF, setF, retF, exprF, ifF, asgF, augF, augS, parF, opF, opFA, consO, nilO, ofE, varO, varE, mvE, cF, derefs, deref, PD.g1, PD.g2, setv, tstF, truF, trueD, andT, orT, notT, andE, orE, notE, iteE, getE, newDF, dispF, dispL, seqI, rngI, callF, callM, frzL, pkS, immD, immL, mutF, noSlot, tyD, slF, partF, nameG, tupG, consG, nilG, subG, wipeE, unw, noOwn, yesT, PyData.plain, PyData.plainAll, PyData.depth, PyData.depthAll, bodyFF, argE, fin0, nxF, retN, forF, tupD, lstD, turnF, lc2DF, lc2F, lcDF, dictAt, forDF, dcF, purF, tyP, spreadF, mpE, eR, ix_e, hP, eQ, e2]
  have a : opFA (consO (ofE (opFA (consO (ofE (varE 2)) (consO (ofE (varE 1)) (consO (ofE (opF (consO (varO 8) nilO) (PD.g1 negD))) (nilO)))) tupD)) (nilO)) lstD e2 = some (.list [eN (other, one, -t)], true, e2) := by
    simp [seqF, setF, retF, exprF, ifF, asgF, augF, augS, parF, opF, opFA, consO, nilO, ofE, varO, varE, mvE, cF, derefs, deref, PD.g1, PD.g2, setv, tstF, truF, trueD, andT, orT, notT, andE, orE, notE, iteE, getE, newDF, dispF, dispL, seqI, rngI, callF, callM, frzL, pkS, immD, immL, mutF, noSlot, tyD, slF, partF, nameG, tupG, consG, nilG, subG, wipeE, unw, noOwn, yesT, PyData.plain, PyData.plainAll, PyData.depth, PyData.depthAll, bodyFF, argE, fin0, nxF, retN, forF, tupD, lstD, turnF, lc2DF, lc2F, lcDF, dictAt, forDF, dcF, purF, tyP, spreadF, e2, size63 (show 3 < 64 by decide), size63 (show 1 < 64 by decide), negD, eN]
  have b := callF_eq (F := with_more_F) (dds := []) (consO_eq (f := varO 0) (e := e2) rfl (consO_eq (ofE_eq a) nilO_eq)) (ds := [eNs ns, .list [eN (other, one, -t)]]) rfl (more1_spec vd nb (other, one, -t)) rfl
  have c := callF_eq (F := spread_F) (dds := []) (consO_eq (ofE_eq b) nilO_eq) (ds := [eNs (tight ns one other t)]) rfl h2 rfl
  have i7 : setF 6 (callF spread_F [] (consO (ofE (callF with_more_F [] (consO (varO 0) (consO (ofE (opFA (consO (ofE (opFA (consO (ofE (varE 2)) (consO (ofE (varE 1)) (consO (ofE (opF (consO (varO 8) nilO) (PD.g1 negD))) (nilO)))) tupD)) (nilO)) lstD)) (nilO))))) (nilO))) e2 = some (.nx, e3) := setF_eq c rfl
  have i8 : retF (opFA (consO (ofE (cF (.str s_most))) (consO (ofE (varE 8)) (consO (ofE (varE 9)) (consO (ofE (opF (consO (varO 6) (consO (ofE (cF (.int 1))) nilO)) (PD.g2 ixD))) (nilO))))) tupD) e3 = some (.rt (.tuple [.str s_most, .int t, .tuple (l.map .str), pd]) false, e3) := by
    simp [seqF, setF, retF, exprF, ifF, asgF, augF, augS, parF, opF, opFA, consO, nilO, ofE, varO, varE, mvE, cF, derefs, deref, PD.g1, PD.g2, setv, tstF, truF, trueD, andT, orT, notT, andE, orE, notE, iteE, getE, newDF, dispF, dispL, seqI, rngI, callF, callM, frzL, pkS, immD, immL, mutF, noSlot, tyD, slF, partF, nameG, tupG, consG, nilG, subG, wipeE, unw, noOwn, yesT, PyData.plain, PyData.plainAll, PyData.depth, PyData.depthAll, bodyFF, argE, fin0, nxF, retN, forF, tupD, lstD, turnF, lc2DF, lc2F, lcDF, dictAt, forDF, dcF, purF, tyP, spreadF, e3, ixT1, size63 (show 4 < 64 by decide)]
  unfold most_apart_F
  refine (bodyFF_rt (e1 := e3) (d := .tuple [.str s_most, .int t, .tuple (l.map .str), pd]) (fr := false) ?_).trans rfl
  rw [e0]
  unfold most_apart_B
  rw [hl, seqF_eq ((ifF_no t1).trans rfl), seqF_eq i6, seqF_eq i7, i8]
/-! ### judge_most -/
abbrev jmE (ns : Ns) (one other : Str) (d : D) : Ev := [some (eNs ns, .sh), some (.str one, .sh), some (.str other, .sh), some (d, .sh), none, none]
theorem callF_imm {F : FF} {dds : List D} {fl : OLF} {e e1 : Ev} {os : List Opd} {ds : List D} {d d0 : D} (h : fl e = some (os, e1)) (k : derefs e1 os = some ds) (q : F (ds ++ dds) = some (d, false, d0)) (im : immD d = true) : callF F dds fl e = some (d, false, e1) := by
  simp only [callF, h, k, q, im, if_true]
  split <;> rfl
theorem orT_eq {a b : TF} {e : Ev} {x y : Bool} (h : a e = some (x, e)) (k : b e = some (y, e)) : orT a b e = some (x || y, e) := by cases x <;> simp [orT, h, k]
theorem judge_any {ns : Ns} {one other : Str} : judge_most_F [eNs ns, .str one, .str other, .tuple [.str s_any]] = some (.bool false, false, .none) := by
  have e0 : argE false [eNs ns, .str one, .str other, .tuple [.str s_any]] ++ List.replicate (6 - [eNs ns, .str one, .str other, .tuple [.str s_any]].length) none = jmE ns one other (.tuple [.str s_any]) := rfl
  unfold judge_most_F
  refine (bodyFF_rt (e1 := jmE ns one other (.tuple [.str s_any])) (d := .bool false) (fr := false) ?_).trans rfl
  rw [e0]
  unfold judge_most_B
  refine seqF_rt ?_
  simp [seqF, setF, retF, exprF, ifF, asgF, augF, augS, parF, opF, opFA, consO, nilO, ofE, varO, varE, mvE, cF, derefs, deref, PD.g1, PD.g2, setv, tstF, truF, trueD, andT, orT, notT, andE, orE, notE, iteE, getE, newDF, dispF, dispL, seqI, rngI, callF, callM, frzL, pkS, immD, immL, mutF, noSlot, tyD, slF, partF, nameG, tupG, consG, nilG, subG, wipeE, unw, noOwn, yesT, PyData.plain, PyData.plainAll, PyData.depth, PyData.depthAll, bodyFF, argE, fin0, nxF, retN, forF, tupD, lstD, turnF, lc2DF, lc2F, lcDF, dictAt, forDF, dcF, purF, tyP, spreadF, isiD, tnD, isTn, lenD, neD, eqv_int, PyData.plain, PyData.depth]
theorem judge_most_spec {ns : Ns} (vd : Vd ns) (nb : NoBl ns) {one other : Str} {k : Int} {l : List Str} {ps : List (Str × Int)} (hl : l.length ≤ sizeLine) (hps : ps.length < 64) (vt : Vd (tight ns one other k)) :
    judge_most_F [eNs ns, .str one, .str other, .tuple [.str s_most, .int k, .tuple (l.map .str), .tuple (ps.map eP)]] = some (.bool (decide (pathSum ns l one other = some k) && (decide (ps.map (·.1) = wd (tight ns one other k)) && rowB (tight ns one other k) ps) && decide (val ps one - val ps other = k)), false, .none) := by
  have e0 : argE false [eNs ns, .str one, .str other, .tuple [.str s_most, .int k, .tuple (l.map .str), .tuple (ps.map eP)]] ++ List.replicate (6 - [eNs ns, .str one, .str other, .tuple [.str s_most, .int k, .tuple (l.map .str), .tuple (ps.map eP)]].length) none = jmE ns one other (.tuple [.str s_most, .int k, .tuple (l.map .str), .tuple (ps.map eP)]) := rfl
  have hne : tight ns one other k ≠ [] := by unfold tight; simp
  have psp := path_spec (ns := ns) (a := one) (b := other) hl
  have rsp := row_spec vt hne hps
  let D4 : D := .tuple [.str s_most, .int k, .tuple (l.map .str), .tuple (ps.map eP)]
  let E4 : Ev := [some (eNs ns, .sh), some (.str one, .sh), some (.str other, .sh), some (D4, .sh), some (eNs (tight ns one other k), .ow), none]
  let E5 : Ev := [some (eNs ns, .sh), some (.str one, .sh), some (.str other, .sh), some (D4, .sh), some (eNs (tight ns one other k), .ow), some (.dict (eM .int ps), .ow)]
  have i1 : ifF (orT (notT (truF (ofE (opF (consO (varO 3) nilO) (PD.g1 (isiD .tuple)))))) (orT (tstF (opF (consO (ofE (opF (consO (varO 3) (nilO)) (PD.g1 lenD))) (consO (ofE (cF (.int 4))) nilO)) (PD.g2 neD))) (tstF (opF (consO (ofE (opF (consO (varO 3) (consO (ofE (cF (.int 0))) nilO)) (PD.g2 ixD))) (consO (ofE (cF (.str s_most))) nilO)) (PD.g2 neD))))) (retF (cF (.bool false))) (nxF) (jmE ns one other D4) = some (.nx, jmE ns one other D4) := by
    simp [seqF, setF, retF, exprF, ifF, asgF, augF, augS, parF, opF, opFA, consO, nilO, ofE, varO, varE, mvE, cF, derefs, deref, PD.g1, PD.g2, setv, tstF, truF, trueD, andT, orT, notT, andE, orE, notE, iteE, getE, newDF, dispF, dispL, seqI, rngI, callF, callM, frzL, pkS, immD, immL, mutF, noSlot, tyD, slF, partF, nameG, tupG, consG, nilG, subG, wipeE, unw, noOwn, yesT, PyData.plain, PyData.plainAll, PyData.depth, PyData.depthAll, bodyFF, argE, fin0, nxF, retN, forF, tupD, lstD, turnF, lc2DF, lc2F, lcDF, dictAt, forDF, dcF, purF, tyP, spreadF, D4, isiD, tnD, isTn, lenD, neD, eqv_int, eqv_str, PyData.plain, PyData.depth, ixT0]
  have i2 : ifF (orT (notT (truF (ofE (opF (consO (ofE (opF (consO (varO 3) (consO (ofE (cF (.int 1))) nilO)) (PD.g2 ixD))) nilO) (PD.g1 (isiD .int)))))) (truF (ofE (opF (consO (ofE (opF (consO (varO 3) (consO (ofE (cF (.int 1))) nilO)) (PD.g2 ixD))) nilO) (PD.g1 (isiD .bool)))))) (retF (cF (.bool false))) (nxF) (jmE ns one other D4) = some (.nx, jmE ns one other D4) := by
    simp [seqF, setF, retF, exprF, ifF, asgF, augF, augS, parF, opF, opFA, consO, nilO, ofE, varO, varE, mvE, cF, derefs, deref, PD.g1, PD.g2, setv, tstF, truF, trueD, andT, orT, notT, andE, orE, notE, iteE, getE, newDF, dispF, dispL, seqI, rngI, callF, callM, frzL, pkS, immD, immL, mutF, noSlot, tyD, slF, partF, nameG, tupG, consG, nilG, subG, wipeE, unw, noOwn, yesT, PyData.plain, PyData.plainAll, PyData.depth, PyData.depthAll, bodyFF, argE, fin0, nxF, retN, forF, tupD, lstD, turnF, lc2DF, lc2F, lcDF, dictAt, forDF, dcF, purF, tyP, spreadF, D4, isiD, tnD, isTn, ixT1]
  have a : opFA (consO (ofE (opFA (consO (ofE (varE 2)) (consO (ofE (varE 1)) (consO (ofE (opF (consO (ofE (opF (consO (varO 3) (consO (ofE (cF (.int 1))) nilO)) (PD.g2 ixD))) nilO) (PD.g1 negD))) (nilO)))) tupD)) (nilO)) lstD (jmE ns one other D4) = some (.list [eN (other, one, -k)], true, jmE ns one other D4) := by
    simp [seqF, setF, retF, exprF, ifF, asgF, augF, augS, parF, opF, opFA, consO, nilO, ofE, varO, varE, mvE, cF, derefs, deref, PD.g1, PD.g2, setv, tstF, truF, trueD, andT, orT, notT, andE, orE, notE, iteE, getE, newDF, dispF, dispL, seqI, rngI, callF, callM, frzL, pkS, immD, immL, mutF, noSlot, tyD, slF, partF, nameG, tupG, consG, nilG, subG, wipeE, unw, noOwn, yesT, PyData.plain, PyData.plainAll, PyData.depth, PyData.depthAll, bodyFF, argE, fin0, nxF, retN, forF, tupD, lstD, turnF, lc2DF, lc2F, lcDF, dictAt, forDF, dcF, purF, tyP, spreadF, D4, size63 (show 3 < 64 by decide), size63 (show 1 < 64 by decide), negD, eN, ixT1]
  have b := callF_eq (F := with_more_F) (dds := []) (consO_eq (f := varO 0) (e := jmE ns one other D4) rfl (consO_eq (ofE_eq a) nilO_eq)) (ds := [eNs ns, .list [eN (other, one, -k)]]) rfl (more1_spec vd nb (other, one, -k)) rfl
  have i3 : setF 4 (callF with_more_F [] (consO (varO 0) (consO (ofE (opFA (consO (ofE (opFA (consO (ofE (varE 2)) (consO (ofE (varE 1)) (consO (ofE (opF (consO (ofE (opF (consO (varO 3) (consO (ofE (cF (.int 1))) nilO)) (PD.g2 ixD))) nilO) (PD.g1 negD))) (nilO)))) tupD)) (nilO)) lstD)) (nilO)))) (jmE ns one other D4) = some (.nx, E4) := setF_eq b rfl
  have c1 : callF is_path_F [] (consO (varO 0) (consO (ofE (opF (consO (varO 3) (consO (ofE (cF (.int 2))) nilO)) (PD.g2 ixD))) (consO (varO 1) (consO (varO 2) (nilO))))) E4 = some (oI (pathSum ns l one other), false, E4) :=
    callF_eq (ds := [eNs ns, .tuple (l.map .str), .str one, .str other]) (os := [.slot 0, .val (.tuple (l.map .str)), .slot 1, .slot 2]) (d0 := .none) (consO_eq rfl (consO_eq (ofE_eq (fr := false) (opF_eq (consO_eq rfl (consO_eq (ofE_eq cF_eq) nilO_eq)) rfl (g2e ixT2))) (consO_eq rfl (consO_eq rfl nilO_eq)))) rfl psp rfl
  have c2 : callF is_row_F [] (consO (varO 4) (consO (ofE (opF (consO (varO 3) (consO (ofE (cF (.int 3))) nilO)) (PD.g2 ixD))) (nilO))) E4 = some (.bool (decide (ps.map (·.1) = wd (tight ns one other k)) && rowB (tight ns one other k) ps), false, E4) :=
    callF_imm (ds := [eNs (tight ns one other k), .tuple (ps.map eP)]) (os := [.slot 4, .val (.tuple (ps.map eP))]) (d0 := .none) (consO_eq rfl (consO_eq (ofE_eq (fr := false) (opF_eq (consO_eq rfl (consO_eq (ofE_eq cF_eq) nilO_eq)) rfl (g2e ixT3))) nilO_eq)) rfl rsp rfl
  have t4a : tstF (opF (consO (ofE (callF is_path_F [] (consO (varO 0) (consO (ofE (opF (consO (varO 3) (consO (ofE (cF (.int 2))) nilO)) (PD.g2 ixD))) (consO (varO 1) (consO (varO 2) (nilO))))))) (consO (ofE (opF (consO (varO 3) (consO (ofE (cF (.int 1))) nilO)) (PD.g2 ixD))) nilO)) (PD.g2 neD)) E4 = some (!decide (pathSum ns l one other = some k), E4) := by
    refine tstF_eq (fr := false) (opF_eq (consO_eq (ofE_eq c1) (consO_eq (ofE_eq (fr := false) (opF_eq (consO_eq rfl (consO_eq (ofE_eq cF_eq) nilO_eq)) rfl (g2e ixT1))) nilO_eq)) rfl ?_)
    cases hp : pathSum ns l one other with
    | none => simp [PD.g2, neD, oI, PyData.plain, PyData.depth, PyData.eqv]
    | some t => simp [PD.g2, neD, oI, PyData.plain, PyData.depth, eqv_int]
  have t4b : notT (truF (ofE (callF is_row_F [] (consO (varO 4) (consO (ofE (opF (consO (varO 3) (consO (ofE (cF (.int 3))) nilO)) (PD.g2 ixD))) (nilO)))))) E4 = some (!(decide (ps.map (·.1) = wd (tight ns one other k)) && rowB (tight ns one other k) ps), E4) := by
    simp only [notT, truF, ofE, c2, deref, trueD]
  have t4 : orT (tstF (opF (consO (ofE (callF is_path_F [] (consO (varO 0) (consO (ofE (opF (consO (varO 3) (consO (ofE (cF (.int 2))) nilO)) (PD.g2 ixD))) (consO (varO 1) (consO (varO 2) (nilO))))))) (consO (ofE (opF (consO (varO 3) (consO (ofE (cF (.int 1))) nilO)) (PD.g2 ixD))) nilO)) (PD.g2 neD))) (notT (truF (ofE (callF is_row_F [] (consO (varO 4) (consO (ofE (opF (consO (varO 3) (consO (ofE (cF (.int 3))) nilO)) (PD.g2 ixD))) (nilO))))))) E4 = some (!(decide (pathSum ns l one other = some k) && (decide (ps.map (·.1) = wd (tight ns one other k)) && rowB (tight ns one other k) ps)), E4) := by
    refine (orT_eq t4a t4b).trans ?_
    have nn : ∀ x y : Bool, (!x || !y) = !(x && y) := by decide
    rw [nn]
  unfold judge_most_F
  cases hb : decide (pathSum ns l one other = some k) && (decide (ps.map (·.1) = wd (tight ns one other k)) && rowB (tight ns one other k) ps) with
  | false =>
    rw [hb] at t4
    refine (bodyFF_rt (e1 := E4) (d := .bool false) (fr := false) ?_).trans rfl
    rw [e0]
    unfold judge_most_B
    rw [seqF_eq i1, seqF_eq i2, seqF_eq i3]
    refine seqF_rt ?_
    rw [ifF_yes t4]
    rfl
  | true =>
    rw [hb] at t4
    simp only [Bool.and_eq_true, decide_eq_true_eq] at hb
    have hk := hb.2.1
    have hin : one ∈ wd (tight ns one other k) ∧ other ∈ wd (tight ns one other k) := by
      have := within_wd (ns := tight ns one other k) s_ other one (-k) (by unfold tight; rw [lk_append, nb.1]; simp [lk])
      exact ⟨this.2, this.1⟩
    have hp0 : ps ≠ [] := fun z => by
      subst z
      rw [← hk] at hin
      cases hin.1
    have dk := dict_pairs hp0 (by rw [hk]; exact wd_nodup)
    have lkv : ∀ w ∈ wd (tight ns one other k), lk ps w = some (val ps w) := fun w hw => by
      rw [← hk] at hw
      obtain ⟨a, ha⟩ := Option.isSome_iff_exists.mp (lk_isSome.mpr hw)
      simp [val, ha]
    have i5 : setF 5 (opF (consO (ofE (opF (consO (varO 3) (consO (ofE (cF (.int 3))) nilO)) (PD.g2 ixD))) (nilO)) (PD.g1 dictAD)) E4 = some (.nx, E5) := by
      simp [-List.map_map, seqF, setF, retF, exprF, ifF, asgF, augF, augS, parF, opF, opFA, consO, nilO, ofE, varO, varE, mvE, cF, derefs, deref, PD.g1, PD.g2, setv, tstF, truF, trueD, andT, orT, notT, andE, orE, notE, iteE, getE, newDF, dispF, dispL, seqI, rngI, callF, callM, frzL, pkS, immD, immL, mutF, noSlot, tyD, slF, partF, nameG, tupG, consG, nilG, subG, wipeE, unw, noOwn, yesT, PyData.plain, PyData.plainAll, PyData.depth, PyData.depthAll, bodyFF, argE, fin0, nxF, retN, forF, tupD, lstD, turnF, lc2DF, lc2F, lcDF, dictAt, forDF, dcF, purF, tyP, spreadF, E4, E5, D4, ixT3, dk]
    refine (bodyFF_rt (e1 := E5) (d := .bool (decide (val ps one - val ps other = k))) (fr := false) ?_).trans (by simp [fin0])
    rw [e0]
    unfold judge_most_B
    rw [seqF_eq i1, seqF_eq i2, seqF_eq i3, seqF_eq ((ifF_no t4).trans rfl), seqF_eq i5]
    simp [seqF, setF, retF, exprF, ifF, asgF, augF, augS, parF, opF, opFA, consO, nilO, ofE, varO, varE, mvE, cF, derefs, deref, PD.g1, PD.g2, setv, tstF, truF, trueD, andT, orT, notT, andE, orE, notE, iteE, getE, newDF, dispF, dispL, seqI, rngI, callF, callM, frzL, pkS, immD, immL, mutF, noSlot, tyD, slF, partF, nameG, tupG, consG, nilG, subG, wipeE, unw, noOwn, yesT, PyData.plain, PyData.plainAll, PyData.depth, PyData.depthAll, bodyFF, argE, fin0, nxF, retN, forF, tupD, lstD, turnF, lc2DF, lc2F, lcDF, dictAt, forDF, dcF, purF, tyP, spreadF, E5, D4, ix_e, lkv _ hin.1, lkv _ hin.2, subD, eqD, eqv_int, PyData.plain, PyData.depth, ixT1]
end K16

/-! K16J: all that the law asks of the program, by rows and ways. -/
namespace K16
open PySem PD
theorem rowD_eP (W : List Str) (f : Str → Int) : rowD W f = (W.map fun w => (w, f w)).map eP := by
  unfold rowD
  rw [List.map_map]
  rfl
theorem val_map {W : List Str} {f : Str → Int} {w : Str} (h : w ∈ W) : val (W.map fun w => (w, f w)) w = f w := by
  have : ∀ W : List Str, w ∈ W → lk (W.map fun w => (w, f w)) w = some (f w) := fun W => by
    induction W with
    | nil => intro h; cases h
    | cons x r ih =>
      intro h
      simp only [List.map_cons, lk]
      by_cases e : x = w
      · simp [e]
      · rw [if_neg e]
        exact ih ((List.mem_cons.mp h).resolve_left fun z => e z.symm)
  simp only [val, this W h, Option.getD_some]
theorem rowB_map {ns : Ns} (vd : Vd ns) {f : Str → Int} (h : RowIs ns f) : rowB ns ((wd ns).map fun w => (w, f w)) = true := by
  rw [rowB_iff vd]
  intro n v u m e
  obtain ⟨w1, w2⟩ := within_wd n v u m e
  rw [val_map w1, val_map w2]
  exact h n v u m e
theorem keys_map (W : List Str) (f : Str → Int) : (W.map fun w => (w, f w)).map (·.1) = W := by
  rw [List.map_map]
  exact List.map_id _
abbrev rw_ (ns : Ns) (f : Str → Int) : List (Str × Int) := (wd ns).map fun w => (w, f w)
/-- notes that can all be so -/
theorem sp_row {ns : Ns} (vd : Vd ns) {r : Str → Int} (hr : RowIs ns r) : ∃ f, RowIs ns f ∧ spread_F [eNs ns] = some (.tuple [.str s_row, .tuple ((rw_ ns f).map eP)], false, .none) := by
  rcases spread_is vd with ⟨f, h1, h2⟩ | ⟨names, b, t, _, _, p, ht, _⟩
  · exact ⟨f, h1, by rw [h2, rowD_eP]⟩
  · have := path_le hr p
    omega
/-- notes that cannot -/
theorem sp_ring {ns : Ns} (vd : Vd ns) {l : List Str} {b : Str} {t : Int} (p : Path ns l b b t) (ht : t < 0) : ∃ names b' t', names ≠ [] ∧ names.length < 64 ∧ Path ns names b' b' t' ∧ t' < 0 ∧ spread_F [eNs ns] = some (.tuple [.str s_ring, .tuple (names.map .str)], false, .none) := by
  rcases spread_is vd with ⟨f, h1, _⟩ | h
  · have := path_le h1 p
    omega
  · exact h
theorem wd63 {ns : Ns} (vd : Vd ns) : (wd ns).length < 64 := by have := wd_length (ns := ns); have := vd.len; omega
theorem judge_row_yes {ns : Ns} (vd : Vd ns) (h0 : ns ≠ []) {f : Str → Int} (h : RowIs ns f) : judge_spread_F [eNs ns, .tuple [.str s_row, .tuple ((rw_ ns f).map eP)]] = some (.bool true, false, .none) := by
  rw [judge_row vd h0 (by rw [List.length_map]; exact wd63 vd), keys_map, rowB_map vd h]
  simp
/-- no ring where there is a row -/
theorem no_ring {ns : Ns} {r : Str → Int} (h : RowIs ns r) (l : List Str) : isRing ns l = false := by
  cases hr : isRing ns l with
  | false => rfl
  | true =>
    obtain ⟨_, b, t, p, ht⟩ := of_isRing hr
    have := path_le h p
    omega
theorem sm_fold {ns : Ns} : ∀ (names : List Str) {P : Ps Str} {c : Nat}, Sm P c → Sm (names.foldl (relaxP ns) P) (c + names.length)
  | [], _, _, h => h
  | n :: r, P, c, h => by
    have := sm_fold (ns := ns) r (sm_step (ns := ns) h n)
    rw [List.length_cons, show c + (r.length + 1) = c + 1 + r.length by omega]
    exact this
theorem sm_rounds {ns : Ns} {names : List Str} (hl : names.length ≤ 30) : ∀ (k : Nat) {P : Ps Str} {c : Nat}, Sm P c → Sm (roundsP ns names k P) (c + 30 * k)
  | 0, _, _, h => h
  | k + 1, P, c, h => by
    have h1 := sm_fold (ns := ns) names h
    have h2 : Sm (names.foldl (relaxP ns) P) (c + 30) := ⟨Nat.le_trans h1.len (by omega), fun x d l e => Nat.le_trans (h1.ls x d l e) (by omega)⟩
    have := sm_rounds (ns := ns) hl k h2
    rw [show c + 30 * (k + 1) = c + 30 + 30 * k by omega]
    exact this
theorem lk_app {ns ms : Ns} {n : Str} {x : Nt Str} (h : lk ns n = some x) : lk (ns ++ ms) n = some x := by
  rw [lk_append, h]
  rfl
theorem path_app {ns ms : Ns} : ∀ {l : List Str} {a b : Str} {t : Int}, Path ns l a b t → Path (ns ++ ms) l a b t
  | [], _, _, _, p => p
  | n :: r, a, b, t, p => by
    obtain ⟨u, m, t', h1, h2, e⟩ := p
    exact ⟨u, m, t', lk_app h1, path_app h2, e⟩
theorem row_app {ns ms : Ns} {r : Str → Int} (h : RowIs ns r) (k : ∀ p ∈ ms, r p.2.1 - r p.2.2.1 ≤ p.2.2.2) : RowIs (ns ++ ms) r := fun n v u m e => by
  rw [lk_append] at e
  cases h1 : lk ns n with
  | some x =>
    rw [h1] at e
    cases e
    exact h n v u m h1
  | none =>
    rw [h1] at e
    exact k _ (lk_some (m := ms) e)
theorem vd_app {ns ms : Ns} (vd : Vd ns) (hm : (ms.map (·.1)).Nodup) (hd : ∀ n ∈ ms.map (·.1), lk ns n = none) (hl : ns.length + ms.length < 30) : Vd (ns ++ ms) := by
  refine ⟨?_, by rw [List.length_append]; exact hl⟩
  rw [List.map_append, List.nodup_append]
  exact ⟨vd.nodup, hm, fun a ha b hb e => by
    subst e
    have := hd a hb
    exact (lk_none.mp this) ha⟩
/-- what the law's notes are like -/
structure Nice (ns : Ns) : Prop where
  vd : Vd ns
  len : ns.length < 28
  nb : NoBl ns
  nt : lk ns s_not = none
  ne : ns ≠ []
theorem Nice.plus2 {ns : Ns} (h : Nice ns) (one other : Str) : Vd (plus2 ns one other) := by
  refine vd_app h.vd ?_ ?_ (by simp; have := h.len; omega)
  · simp; decide
  · intro n hn
    simp at hn
    rcases hn with rfl | rfl
    · exact h.nb.1
    · exact h.nb.2
theorem Nice.tight {ns : Ns} (h : Nice ns) (one other : Str) (t : Int) : Vd (tight ns one other t) := by
  refine vd_app h.vd (by simp) ?_ (by simp; have := h.len; omega)
  intro n hn
  simp at hn
  subst hn
  exact h.nb.1
theorem Nice.withNot {ns : Ns} (h : Nice ns) (x : Nt Str) : Vd (withNot ns x) := by
  refine vd_app h.vd (by simp) ?_ (by simp; have := h.len; omega)
  intro n hn
  simp at hn
  subst hn
  exact h.nt
theorem bl_ne : s_ ≠ s__20_ := by decide
/-- the greatest that one word may be above another one -/
theorem most_row {ns : Ns} (h : Nice ns) {r : Str → Int} (hr : RowIs ns r) {L : List Str} {one other : Str} {due : Int} (p : Path ns L one other due) (e : r one - r other = due) (hL : L.length ≤ (wd ns).length) :
    ∃ l f, Path ns l one other due ∧ l.length ≤ sizeLine ∧ RowIs (K16.tight ns one other due) f ∧ f one - f other = due ∧ most_apart_F [eNs ns, .str one, .str other] = some (.tuple [.str s_most, .int due, .tuple (l.map .str), .tuple ((rw_ (K16.tight ns one other due) f).map eP)], false, .none) := by
  have r2 : RowIs (K16.plus2 ns one other) r := row_app hr fun p hp => by
    simp at hp
    rcases hp with rfl | rfl <;> simp
  obtain ⟨f0, _, s0⟩ := sp_row (h.plus2 one other) r2
  obtain ⟨l, hl, pl⟩ := most_is (names := nm ns) all_nm hr p e hL
  have rt : RowIs (K16.tight ns one other due) r := row_app hr fun p hp => by
    simp at hp
    subst hp
    show r other - r one ≤ -due
    omega
  obtain ⟨f, hf, s1⟩ := sp_row (h.tight one other due) rt
  have sm : Sm [(one, ((0 : Int), ([] : List Str)))] 1 := ⟨by simp, fun x d l e => by
    unfold lk at e
    split at e
    · cases e; simp
    · cases e⟩
  have smr := (sm_rounds (ns := ns) (names := nm ns) (by rw [nm_length]; have := h.len; omega) (wd ns).length sm).ls _ _ _ hl
  have z := wd63 h.vd
  refine ⟨l, f, pl, by rw [sizeLine_eq]; omega, hf, ?_, ma_most h.vd h.nb s0 hl s1⟩
  have k1 := path_le hf (path_app (ms := [(s_, (other, one, -due))]) pl)
  have k2 := hf s_ other one (-due) (by show lk (ns ++ _) _ = _; rw [lk_append, h.nb.1]; simp [lk])
  omega
theorem judge_most_yes {ns : Ns} (h : Nice ns) {l : List Str} {one other : Str} {due : Int} {f : Str → Int} (p : Path ns l one other due) (hl : l.length ≤ sizeLine) (hf : RowIs (K16.tight ns one other due) f) (e : f one - f other = due) : judge_most_F [eNs ns, .str one, .str other, .tuple [.str s_most, .int due, .tuple (l.map .str), .tuple ((rw_ (K16.tight ns one other due) f).map eP)]] = some (.bool true, false, .none) := by
  have vt := h.tight one other due
  have hin := within_wd (ns := K16.tight ns one other due) s_ other one (-due) (by show lk (ns ++ _) _ = _; rw [lk_append, h.nb.1]; simp [lk])
  rw [judge_most_spec h.vd h.nb hl (by rw [List.length_map]; exact wd63 vt) vt, pathSum_iff.mpr p, keys_map, rowB_map vt hf, val_map hin.2, val_map hin.1, e]
  simp
theorem judge_most_no {ns : Ns} (h : Nice ns) {l : List Str} {one other : Str} {due k : Int} {ps : List (Str × Int)} (p : Path ns l one other due) (hl : l.length ≤ sizeLine) (hps : ps.length < 64) (hk : k ≠ due) : judge_most_F [eNs ns, .str one, .str other, .tuple [.str s_most, .int k, .tuple (l.map .str), .tuple (ps.map eP)]] = some (.bool false, false, .none) := by
  rw [judge_most_spec h.vd h.nb hl hps (h.tight one other k), pathSum_iff.mpr p]
  have : ¬ due = k := fun z => hk z.symm
  simp [this]
theorem most_any {ns : Ns} (h : Nice ns) {r : Str → Int} (hr : RowIs ns r) {one other : Str} {X : Str → Prop} (hX : ∀ n v u m, lk ns n = some (v, u, m) → X v → X u) (h1 : X one) (h2 : ¬ X other) : most_apart_F [eNs ns, .str one, .str other] = some (.tuple [.str s_any], false, .none) := by
  have r2 : RowIs (K16.plus2 ns one other) r := row_app hr fun p hp => by
    simp at hp
    rcases hp with rfl | rfl <;> simp
  obtain ⟨f0, _, s0⟩ := sp_row (h.plus2 one other) r2
  refine ma_any h.vd h.nb s0 ?_
  cases hq : lk (roundsP ns (nm ns) (wd ns).length [(one, (0, []))]) other with
  | none => rfl
  | some q =>
    refine absurd (roundsP_in (ns := ns) (names := nm ns) hX (wd ns).length (P := [(one, (0, []))]) (fun x hx => ?_) other (by rw [hq]; rfl)) h2
    simp only [lk] at hx
    split at hx
    · rename_i e; subst e; exact h1
    · cases hx
theorem most_ring {ns : Ns} (h : Nice ns) {one other : Str} {l : List Str} {b : Str} {t : Int} (p : Path ns l b b t) (ht : t < 0) : ∃ d, most_apart_F [eNs ns, .str one, .str other] = some (.tuple [.str s_ring, d], false, .none) := by
  obtain ⟨names, b', t', _, _, _, _, s⟩ := sp_ring (h.plus2 one other) (path_app p) ht
  exact ⟨_, ma_ring h.vd h.nb s⟩
/-- a goal that follows -/
theorem follows_yes {ns : Ns} (h : Nice ns) {L : List Str} {one other : Str} {due k : Int} (p : Path ns L one other due) (hk : due ≤ k) : ∃ names : List Str, follows_F [eNs ns, eN (one, other, k)] = some (.tuple [.str s_ring, .tuple (names.map .str)], false, .none) ∧ judge_follows_F [eNs ns, eN (one, other, k), .tuple [.str s_ring, .tuple (names.map .str)]] = some (.bool true, false, .none) := by
  have pn : Path (K16.withNot ns (one, other, k)) (L ++ [s_not]) one one (due + (-1 - k)) := by
    refine path_append (path_app p) ⟨one, -1 - k, 0, ?_, ⟨rfl, rfl⟩, by omega⟩
    show lk (ns ++ _) _ = _
    rw [lk_append, h.nt]
    simp [lk, den]
  obtain ⟨names, b', t', q1, q0, q2, q3, s⟩ := sp_ring (h.withNot (one, other, k)) pn (by omega)
  refine ⟨names, follows_spec h.vd h.nt s, judge_follows_spec h.vd h.nt ?_⟩
  rw [judge_ring q0, isRing_of q1 q2 q3]
/-- a goal that does not -/
theorem follows_no {ns : Ns} (h : Nice ns) {r : Str → Int} (hr : RowIs ns r) {one other : Str} {k : Int} (hk : k < r one - r other) : ∃ ps : List (Str × Int), follows_F [eNs ns, eN (one, other, k)] = some (.tuple [.str s_row, .tuple (ps.map eP)], false, .none) ∧ judge_follows_F [eNs ns, eN (one, other, k), .tuple [.str s_row, .tuple (ps.map eP)]] = some (.bool true, false, .none) := by
  have rn : RowIs (K16.withNot ns (one, other, k)) r := row_app hr fun p hp => by
    simp at hp
    subst hp
    show r other - r one ≤ -1 - k
    omega
  obtain ⟨f, hf, s⟩ := sp_row (h.withNot (one, other, k)) rn
  exact ⟨_, follows_spec h.vd h.nt s, judge_follows_spec h.vd h.nt (judge_row_yes (h.withNot _) (by unfold K16.withNot; simp) hf)⟩
end K16

/-! K16R: rings. -/
namespace K16
open PySem PD
def nN (i : Nat) : Str := ⟨#[110, 48 + i]⟩
theorem nN_inj {i j : Nat} (h : nN i = nN j) : i = j := by
  unfold nN at h
  injection h with h
  have := congrArg Array.toList h
  simp at this
  exact this
def rn (c : Nat) (W : Nat → Str) (X : Nat → Int) : Ns := (List.range c).map fun i => (nN i, (W i, W ((i + 1) % c), X i))
def pre (c : Nat) (X : Nat → Int) (u : Nat) : Nat → Int
  | 0 => 0
  | k + 1 => pre c X u k + X ((u + k) % c)
section
variable {c : Nat} {W : Nat → Str} {X : Nat → Int}
theorem rn_keys : (rn c W X).map (·.1) = (List.range c).map nN := by
  unfold rn
  rw [List.map_map]
  rfl
theorem range_nN_nodup : ((List.range c).map nN).Nodup := List.Pairwise.map nN (fun a b h e => h (nN_inj e)) List.nodup_range
theorem rn_lk {i : Nat} (h : i < c) : lk (rn c W X) (nN i) = some (W i, W ((i + 1) % c), X i) := by
  refine lk_mem (by rw [rn_keys]; exact range_nN_nodup) ?_
  unfold rn
  exact List.mem_map.mpr ⟨i, List.mem_range.mpr h, rfl⟩
theorem rn_inv {n v u : Str} {m : Int} (h : lk (rn c W X) n = some (v, u, m)) : ∃ i, i < c ∧ n = nN i ∧ v = W i ∧ u = W ((i + 1) % c) ∧ m = X i := by
  have := lk_some h
  unfold rn at this
  obtain ⟨i, hi, e⟩ := List.mem_map.mp this
  cases e
  exact ⟨i, List.mem_range.mp hi, rfl, rfl, rfl, rfl⟩
theorem rn_other {n : Str} (h : ∀ i, n ≠ nN i) : lk (rn c W X) n = none := lk_none.mpr fun z => by
  rw [rn_keys] at z
  obtain ⟨i, _, e⟩ := List.mem_map.mp z
  exact h i e.symm
theorem size_nN {n : Str} (h : n.cps.size ≠ 2) : ∀ i, n ≠ nN i := fun i e => h (by rw [e]; rfl)
theorem rn_nice (h0 : 0 < c) (h : c < 28) : Nice (rn c W X) := by
  have hl : (rn c W X).length = c := by simp [rn]
  refine ⟨⟨by rw [rn_keys]; exact range_nN_nodup, by omega⟩, by omega, ⟨rn_other (size_nN (by decide)), rn_other (size_nN (by decide))⟩, rn_other (size_nN (by decide)), fun e => ?_⟩
  rw [e] at hl
  simp at hl
  omega
theorem ring_path (h0 : 0 < c) (u : Nat) : ∀ k : Nat, Path (rn c W X) ((List.range k).map fun j => nN ((u + j) % c)) (W (u % c)) (W ((u + k) % c)) (pre c X u k)
  | 0 => ⟨rfl, rfl⟩
  | k + 1 => by
    rw [List.range_succ, List.map_append]
    refine path_append (ring_path h0 u k) ⟨W ((u + (k + 1)) % c), X ((u + k) % c), 0, ?_, ⟨rfl, rfl⟩, by omega⟩
    rw [rn_lk (Nat.mod_lt _ h0), Nat.mod_add_mod, Nat.add_assoc]
theorem pre_shift (u : Nat) : ∀ k : Nat, pre c X (u + 1) k = pre c X u (k + 1) - X (u % c)
  | 0 => by simp [pre]
  | k + 1 => by
    have ih := pre_shift u k
    show pre c X (u + 1) k + X ((u + 1 + k) % c) = pre c X u (k + 1) + X ((u + (k + 1)) % c) - X (u % c)
    rw [ih, show u + 1 + k = u + (k + 1) by omega]
    omega
theorem pre_turn : ∀ u : Nat, pre c X u c = pre c X 0 c
  | 0 => rfl
  | u + 1 => by
    rw [pre_shift, ← pre_turn u]
    show pre c X u c + X ((u + c) % c) - X (u % c) = _
    rw [Nat.add_mod_right]
    omega
theorem pre_sum : ∀ k : Nat, k ≤ c → pre c X 0 k = ((List.range k).map X).sum
  | 0, _ => rfl
  | k + 1, h => by
    rw [List.range_succ, List.map_append, List.sum_append, ← pre_sum k (by omega)]
    show pre c X 0 k + X ((0 + k) % c) = _
    rw [Nat.zero_add, Nat.mod_eq_of_lt (by omega)]
    simp
/-! rows -/
def place (c : Nat) (W : Nat → Str) (x : Str) : Nat := ((List.range c).find? fun i => decide (W i = x)).getD 0
theorem place_W (inj : ∀ i j, i < c → j < c → W i = W j → i = j) {i : Nat} (h : i < c) : place c W (W i) = i := by
  unfold place
  cases hf : (List.range c).find? fun j => decide (W j = W i) with
  | none =>
    have := List.find?_eq_none.mp hf i (List.mem_range.mpr h)
    simp at this
  | some j =>
    have h1 := List.find?_some hf
    have h2 := List.mem_range.mp (List.mem_of_find?_eq_some hf)
    simp at h1
    exact inj j i h2 h h1
def stepsTo (c u i : Nat) : Nat := (i + (c - u)) % c
def rowR (c : Nat) (W : Nat → Str) (X : Nat → Int) (u : Nat) (x : Str) : Int := - pre c X u (stepsTo c u (place c W x))
theorem steps_next {u i : Nat} (hu : u < c) (hi : i < c) : stepsTo c u ((i + 1) % c) = (stepsTo c u i + 1) % c := by
  unfold stepsTo
  rw [Nat.mod_add_mod, Nat.mod_add_mod]
  congr 1
  omega
theorem steps_back {u i : Nat} (hu : u < c) (hi : i < c) : (u + stepsTo c u i) % c = i := by
  unfold stepsTo
  rw [Nat.add_mod_mod, show u + (i + (c - u)) = i + c by omega, Nat.add_mod_right, Nat.mod_eq_of_lt hi]
theorem row_note (inj : ∀ i j, i < c → j < c → W i = W j → i = j) {u i : Nat} (hu : u < c) (hi : i < c) (h : stepsTo c u i + 1 < c ∨ 0 ≤ pre c X 0 c) : rowR c W X u (W i) - rowR c W X u (W ((i + 1) % c)) ≤ X i := by
  have h0 : 0 < c := by omega
  unfold rowR
  rw [place_W inj hi, place_W inj (Nat.mod_lt _ h0), steps_next hu hi]
  have hb := steps_back hu hi
  have hlt : stepsTo c u i < c := Nat.mod_lt _ h0
  have hp : pre c X u (stepsTo c u i + 1) = pre c X u (stepsTo c u i) + X i := by
    show pre c X u (stepsTo c u i) + X ((u + stepsTo c u i) % c) = _
    rw [hb]
  by_cases c1 : stepsTo c u i + 1 < c
  · rw [Nat.mod_eq_of_lt c1, hp]
    omega
  · have e : stepsTo c u i + 1 = c := by omega
    rw [e, Nat.mod_self]
    rw [e, pre_turn] at hp
    have h := h.resolve_left c1
    show -pre c X u (stepsTo c u i) - -(0 : Int) ≤ X i
    omega
theorem ring_row (inj : ∀ i j, i < c → j < c → W i = W j → i = j) {u : Nat} (hu : u < c) (h : 0 ≤ pre c X 0 c) : RowIs (rn c W X) (rowR c W X u) := fun n v w m e => by
  obtain ⟨i, hi, rfl, rfl, rfl, rfl⟩ := rn_inv e
  exact row_note inj hu hi (.inr h)
theorem row_diff (inj : ∀ i j, i < c → j < c → W i = W j → i = j) {u i : Nat} (hu : u < c) (hi : i < c) : rowR c W X u (W u) - rowR c W X u (W i) = pre c X u (stepsTo c u i) := by
  unfold rowR
  rw [place_W inj hu, place_W inj hi]
  have : stepsTo c u u = 0 := by
    unfold stepsTo
    rw [show u + (c - u) = c by omega, Nat.mod_self]
  rw [this]
  simp [pre]
theorem ring_words (inj : ∀ i j, i < c → j < c → W i = W j → i = j) : c ≤ (wd (rn c W X)).length := by
  have h1 : ((List.range c).map W).Nodup := by
    rw [List.Nodup, List.pairwise_map]
    exact List.nodup_range.imp_of_mem fun ha hb h e => h (inj _ _ (List.mem_range.mp ha) (List.mem_range.mp hb) e)
  have := nodup_le h1 fun x hx => by
    obtain ⟨i, hi, rfl⟩ := List.mem_map.mp hx
    exact (within_wd _ _ _ _ (rn_lk (W := W) (X := X) (List.mem_range.mp hi))).1
  simpa using this
/-- without the note g -/
def less (c : Nat) (W : Nat → Str) (X : Nat → Int) (g : Nat) : Ns := (rn c W X).filter fun p => decide (p.1 ≠ nN g)
theorem less_vd {g : Nat} (h : c < 28) : Vd (less c W X g) := by
  refine ⟨?_, ?_⟩
  · have : ((less c W X g).map (·.1)).Sublist ((rn c W X).map (·.1)) := (List.filter_sublist).map _
    exact this.nodup (by rw [rn_keys]; exact range_nN_nodup)
  · have := List.length_filter_le (fun p : Str × Nt Str => decide (p.1 ≠ nN g)) (rn c W X)
    have hl : (rn c W X).length = c := by simp [rn]
    unfold less
    omega
theorem less_row (inj : ∀ i j, i < c → j < c → W i = W j → i = j) {g : Nat} (hg : g < c) : RowIs (less c W X g) (rowR c W X ((g + 1) % c)) := fun n v w m e => by
  have hm := lk_some e
  unfold less at hm
  obtain ⟨hm, hne⟩ := List.mem_filter.mp hm
  have e2 := lk_mem (m := rn c W X) (by rw [rn_keys]; exact range_nN_nodup) hm
  obtain ⟨i, hi, rfl, rfl, rfl, rfl⟩ := rn_inv e2
  have h0 : 0 < c := by omega
  refine row_note inj (Nat.mod_lt _ h0) hi (.inl ?_)
  have hlt : stepsTo c ((g + 1) % c) i < c := Nat.mod_lt _ h0
  have hb := steps_back (c := c) (u := (g + 1) % c) (i := i) (Nat.mod_lt _ h0) hi
  refine Nat.lt_of_le_of_ne (by omega) fun z => ?_
  have : stepsTo c ((g + 1) % c) i = c - 1 := by omega
  rw [this, Nat.mod_add_mod, show g + 1 + (c - 1) = g + c by omega, Nat.add_mod_right, Nat.mod_eq_of_lt hg] at hb
  subst hb
  simp at hne
end
end K16

/-! K16W: ways beside one another. -/
namespace K16
open PySem PD
def kN (p a : Nat) : Str := ⟨#[107, 48 + p, 121, 48 + a]⟩
def wN (p a : Nat) : Str := ⟨#[119, 48 + p, 120, 48 + a]⟩
theorem kN_inj {p a q b : Nat} (h : kN p a = kN q b) : p = q ∧ a = b := by
  unfold kN at h
  injection h with h
  have := congrArg Array.toList h
  simp at this
  exact this
theorem wN_inj {p a q b : Nat} (h : wN p a = wN q b) : p = q ∧ a = b := by
  unfold wN at h
  injection h with h
  have := congrArg Array.toList h
  simp at this
  exact this
def nd (p len a : Nat) : Str := if a = 0 then s_s else if a = len then s_t else wN p (a - 1)
def wayN (p : Nat) (w : List Int) : Ns := (List.range w.length).map fun a => (kN p a, (nd p w.length a, nd p w.length (a + 1), w.getD a 0))
def bsF : Nat → List (List Int) → Ns
  | _, [] => []
  | p, w :: r => wayN p w ++ bsF (p + 1) r
theorem wayN_keys (p : Nat) (w : List Int) : (wayN p w).map (·.1) = (List.range w.length).map (kN p) := by
  unfold wayN
  rw [List.map_map]
  rfl
theorem bs_mem : ∀ {ways : List (List Int)} {p0 : Nat} {x : Str × Nt Str}, x ∈ bsF p0 ways ↔ ∃ (i a : Nat) (w : List Int), ways[i]? = some w ∧ a < w.length ∧ x = (kN (p0 + i) a, (nd (p0 + i) w.length a, nd (p0 + i) w.length (a + 1), w.getD a 0))
  | [], p0, x => by simp [bsF]
  | w :: r, p0, x => by
    rw [bsF, List.mem_append, bs_mem (ways := r)]
    constructor
    · rintro (h | ⟨i, a, w', h1, h2, h3⟩)
      · obtain ⟨a, ha, rfl⟩ := List.mem_map.mp h
        exact ⟨0, a, w, rfl, List.mem_range.mp ha, rfl⟩
      · exact ⟨i + 1, a, w', by simpa using h1, h2, by rw [h3, show p0 + 1 + i = p0 + (i + 1) by omega]⟩
    · rintro ⟨i, a, w', h1, h2, h3⟩
      cases i with
      | zero =>
        simp at h1
        subst h1
        exact .inl (List.mem_map.mpr ⟨a, List.mem_range.mpr h2, h3.symm⟩)
      | succ i => exact .inr ⟨i, a, w', by simpa using h1, h2, by rw [h3, show p0 + 1 + i = p0 + (i + 1) by omega]⟩
theorem bs_nodup : ∀ (ways : List (List Int)) (p0 : Nat), ((bsF p0 ways).map (·.1)).Nodup
  | [], _ => List.nodup_nil
  | w :: r, p0 => by
    rw [bsF, List.map_append, List.nodup_append]
    refine ⟨by rw [wayN_keys]; exact List.Pairwise.map (kN p0) (fun a b h e => h (kN_inj e).2) List.nodup_range, bs_nodup r (p0 + 1), fun x hx y hy e => ?_⟩
    rw [wayN_keys] at hx
    obtain ⟨a, _, rfl⟩ := List.mem_map.mp hx
    obtain ⟨z, hz, rfl⟩ := List.mem_map.mp hy
    obtain ⟨i, b, w', _, _, rfl⟩ := bs_mem.mp hz
    have := (kN_inj e).1
    omega
theorem bs_lk {ways : List (List Int)} {i a : Nat} {w : List Int} (h : ways[i]? = some w) (ha : a < w.length) : lk (bsF 0 ways) (kN i a) = some (nd i w.length a, nd i w.length (a + 1), w.getD a 0) :=
  lk_mem (bs_nodup ways 0) (bs_mem.mpr ⟨i, a, w, h, ha, by rw [Nat.zero_add]⟩)
theorem bs_inv {ways : List (List Int)} {n v u : Str} {m : Int} (h : lk (bsF 0 ways) n = some (v, u, m)) : ∃ (i a : Nat) (w : List Int), ways[i]? = some w ∧ a < w.length ∧ n = kN i a ∧ v = nd i w.length a ∧ u = nd i w.length (a + 1) ∧ m = w.getD a 0 := by
  obtain ⟨i, a, w, h1, h2, h3⟩ := bs_mem.mp (lk_some h)
  rw [Nat.zero_add] at h3
  cases h3
  exact ⟨i, a, w, h1, h2, rfl, rfl, rfl, rfl⟩
theorem bs_length : ∀ (ways : List (List Int)) (p0 : Nat), (∀ w ∈ ways, w.length ≤ 3) → (bsF p0 ways).length ≤ 3 * ways.length
  | [], _, _ => Nat.zero_le _
  | w :: r, p0, h => by
    have := bs_length r (p0 + 1) fun x hx => h x (List.mem_cons_of_mem _ hx)
    have := h w List.mem_cons_self
    rw [bsF, List.length_append, List.length_cons]
    simp only [wayN, List.length_map, List.length_range]
    omega
theorem bs_other {ways : List (List Int)} {n : Str} (h : n.cps.size ≠ 4) : lk (bsF 0 ways) n = none := lk_none.mpr fun z => by
  obtain ⟨x, hx, e⟩ := List.mem_map.mp z
  obtain ⟨i, a, w, _, _, rfl⟩ := bs_mem.mp hx
  exact h (by rw [← e]; rfl)
theorem bs_nice {ways : List (List Int)} (h0 : ways ≠ []) (hk : ways.length ≤ 3) (h1 : ∀ w ∈ ways, w ≠ []) (h3 : ∀ w ∈ ways, w.length ≤ 3) : Nice (bsF 0 ways) := by
  have hl := bs_length ways 0 h3
  refine ⟨⟨bs_nodup _ _, by omega⟩, by omega, ⟨bs_other (by decide), bs_other (by decide)⟩, bs_other (by decide), fun e => ?_⟩
  cases ways with
  | nil => exact h0 rfl
  | cons w r =>
    rw [bsF] at e
    have := (List.append_eq_nil_iff.mp e).1
    have hw := h1 w List.mem_cons_self
    unfold wayN at this
    have := List.map_eq_nil_iff.mp this
    have := congrArg List.length this
    simp at this
    exact hw this
def suf (ways : List (List Int)) (p a : Nat) : Int := ((ways.getD p []).drop a).sum
def rowW (ways : List (List Int)) (least : Int) (x : Str) : Int := match x.cps.toList with
  | [116] => 0
  | [115] => least
  | [_, p, _, a] => suf ways (p - 48) (a - 48 + 1)
  | _ => 0
theorem rowW_t {ways : List (List Int)} {l : Int} : rowW ways l s_t = 0 := rfl
theorem rowW_s {ways : List (List Int)} {l : Int} : rowW ways l s_s = l := rfl
theorem rowW_w {ways : List (List Int)} {l : Int} {p a : Nat} : rowW ways l (wN p a) = suf ways p (a + 1) := by
  show suf ways (48 + p - 48) (48 + a - 48 + 1) = _
  rw [Nat.add_sub_cancel_left, Nat.add_sub_cancel_left]
theorem drop_sum {w : List Int} {a : Nat} (h : a < w.length) : (w.drop a).sum = w.getD a 0 + (w.drop (a + 1)).sum := by
  rw [List.drop_eq_getElem_cons h, List.sum_cons, List.getD_eq_getElem?_getD, List.getElem?_eq_getElem h]
  rfl
theorem rowW_nd {ways : List (List Int)} {least : Int} {i a : Nat} {w : List Int} (h : ways[i]? = some w) (h0 : 0 < a) (ha : a ≤ w.length) : rowW ways least (nd i w.length a) = (w.drop a).sum := by
  unfold nd
  rw [if_neg (by omega)]
  split
  · rename_i e
    rw [rowW_t, e, List.drop_length]
    rfl
  · rw [rowW_w, Nat.sub_add_cancel h0]
    unfold suf
    rw [List.getD_eq_getElem?_getD, h]
    rfl
theorem bs_row {ways : List (List Int)} {least : Int} (h : ∀ w ∈ ways, least ≤ w.sum) : RowIs (bsF 0 ways) (rowW ways least) := fun n v u m e => by
  obtain ⟨i, a, w, h1, h2, rfl, rfl, rfl, rfl⟩ := bs_inv e
  rw [rowW_nd (a := a + 1) h1 (by omega) (by omega)]
  have ds := drop_sum h2
  by_cases h0 : a = 0
  · subst h0
    have : nd i w.length 0 = s_s := by simp [nd]
    rw [this, rowW_s]
    have := h w (List.mem_of_getElem? h1)
    simp only [List.drop_zero] at ds
    omega
  · rw [rowW_nd h1 (by omega) (by omega)]
    omega
theorem way_path {ways : List (List Int)} {i : Nat} {w : List Int} (h : ways[i]? = some w) : ∀ k : Nat, k ≤ w.length → Path (bsF 0 ways) ((List.range k).map (kN i)) (nd i w.length 0) (nd i w.length k) (w.take k).sum
  | 0, _ => ⟨rfl, by simp⟩
  | k + 1, hk => by
    rw [List.range_succ, List.map_append]
    have : (w.take (k + 1)).sum = (w.take k).sum + w.getD k 0 := by
      rw [List.take_succ, List.sum_append, List.getD_eq_getElem?_getD]
      have : w[k]? = some w[k] := List.getElem?_eq_getElem (by omega)
      rw [this]
      simp
    rw [this]
    exact path_append (way_path h k (by omega)) ⟨nd i w.length (k + 1), w.getD k 0, 0, bs_lk h (by omega), ⟨rfl, rfl⟩, by omega⟩
theorem way_whole {ways : List (List Int)} {i : Nat} {w : List Int} (h : ways[i]? = some w) (hw : w ≠ []) : Path (bsF 0 ways) ((List.range w.length).map (kN i)) s_s s_t w.sum := by
  have := way_path h w.length (Nat.le_refl _)
  have hp := List.length_pos_iff.mpr hw
  rw [List.take_length] at this
  have e0 : nd i w.length 0 = s_s := by simp [nd]
  have e1 : nd i w.length w.length = s_t := by unfold nd; rw [if_neg (by omega), if_pos rfl]
  rw [e0, e1] at this
  exact this
theorem way_words {ways : List (List Int)} {i : Nat} {w : List Int} (h : ways[i]? = some w) : w.length ≤ (wd (bsF 0 ways)).length := by
  have h1 : ((List.range w.length).map (nd i w.length)).Nodup := by
    rw [List.Nodup, List.pairwise_map]
    refine List.nodup_range.imp_of_mem fun {a b} ha hb hne e => hne ?_
    have ha := List.mem_range.mp ha
    have hb := List.mem_range.mp hb
    unfold nd at e
    by_cases a0 : a = 0
    · by_cases b0 : b = 0
      · omega
      · rw [if_pos a0, if_neg b0, if_neg (by omega)] at e
        exact absurd (congrArg (fun x : Str => x.cps.size) e) (by show ¬ ((1:Nat) = 4); decide)
    · by_cases b0 : b = 0
      · rw [if_neg a0, if_neg (by omega), if_pos b0] at e
        exact absurd (congrArg (fun x : Str => x.cps.size) e) (by show ¬ ((4:Nat) = 1); decide)
      · rw [if_neg a0, if_neg (by omega), if_neg b0, if_neg (by omega)] at e
        have := (wN_inj e).2
        omega
  have := nodup_le h1 fun x hx => by
    obtain ⟨a, ha, rfl⟩ := List.mem_map.mp hx
    exact (within_wd _ _ _ _ (bs_lk h (List.mem_range.mp ha))).1
  simpa using this
theorem bs_t {ways : List (List Int)} {n u : Str} {m : Int} (h : lk (bsF 0 ways) n = some (s_t, u, m)) : False := by
  obtain ⟨i, a, w, h1, h2, _, h3, _, _⟩ := bs_inv h
  unfold nd at h3
  split at h3
  · exact absurd h3 (by decide)
  · rw [if_neg (by omega)] at h3
    exact absurd (congrArg (fun x : Str => x.cps.size) h3) (by show ¬ ((1:Nat) = 4); decide)
end K16

/-! K16O: the draws, rows in a drawn order. -/
namespace K16
open PySem PD

def encS (cs : List Int) (i : Nat) (b s : Int) : D := .list [.list (cs.map .int), .int i, .int b, .int s]
def nxE (cs : List Int) (i : Nat) (b s lim : Int) (x2 x3 : Option D) : Ev := [some (encS cs i b s, .br), some (.int lim, .sh), x2.map fun d => (d, .sh), x3.map fun d => (d, .sh)]
theorem next_first {cs : List Int} {i : Nat} {b s lim : Int} : ∃ i' b' s' x2, (ifF (andT (tstF (opF (consO (ofE (opF (consO (varO 0) (consO (ofE (cF (.int 2))) nilO)) (PD.g2 ixD))) (consO (ofE (cF (.int 0))) nilO)) (PD.g2 eqD))) (tstF (opF (consO (ofE (opF (consO (varO 0) (consO (ofE (cF (.int 1))) nilO)) (PD.g2 ixD))) (consO (ofE (opF (consO (ofE (opF (consO (varO 0) (consO (ofE (cF (.int 0))) nilO)) (PD.g2 ixD))) (nilO)) (PD.g1 lenD))) nilO)) (PD.g2 ltD)))) (seqF (setF 2 (opF (consO (ofE (opF (consO (varO 0) (consO (ofE (cF (.int 0))) nilO)) (PD.g2 ixD))) (consO (ofE (opF (consO (varO 0) (consO (ofE (cF (.int 1))) nilO)) (PD.g2 ixD))) nilO)) (PD.g2 ixD)))
    (seqF (augS 0 (ofE (cF (.int 1))) (ofE (cF (.int 1))) iaddD)
    (ifF (tstF (opF (consO (varO 2) (consO (ofE (opF (consO (ofE (cF (.int 10))) (consO (ofE (cF (.int 18))) nilO)) (PD.g2 powD))) nilO)) (PD.g2 geD))) (asgF (varE 2) (subG 0 (ofE (cF (.int 2))))) (asgF (opF (consO (ofE (opF (consO (ofE (opF (consO (ofE (opF (consO (ofE (opF (consO (ofE (opF (consO (varO 0) (consO (ofE (cF (.int 3))) nilO)) (PD.g2 ixD))) (consO (ofE (cF (.int 48271))) nilO)) (PD.g2 mulD))) (consO (ofE (opF (consO (ofE (opF (consO (varO 2) (nilO)) (PD.g1 intD))) (consO (ofE (cF (.int 2147483647))) nilO)) (PD.g2 modD))) nilO)) (PD.g2 addD))) (consO (ofE (cF (.int 7))) nilO)) (PD.g2 addD))) (nilO)) (PD.g1 intD))) (consO (ofE (cF (.int 2147483647))) nilO)) (PD.g2 modD)) (subG 0 (ofE (cF (.int 3)))))))) (nxF)) (nxE cs i b s lim none none) = some (.nx, nxE cs i' b' s' lim x2 none) := by
  by_cases c1 : b = 0
  · by_cases c2 : i < cs.length
    · have g1 : L2.atI (cs.map PyData.int) (i : Int) = some (.int cs[i]) := L2.atI_nat (by simp [c2])
      by_cases c3 : (1000000000000000000 : Int) ≤ cs[i]
      · refine ⟨i + 1, cs[i], s, some (.int cs[i]), ?_⟩
        simp [nxE, encS, seqF, setF, retF, exprF, ifF, asgF, augF, augS, parF, opF, opFA, consO, nilO, ofE, varO, varE, mvE, cF, derefs, deref, PD.g1, PD.g2, setv, tstF, truF, trueD, andT, orT, notT, andE, orE, notE, iteE, getE, newDF, dispF, dispL, seqI, rngI, callF, callM, frzL, pkS, immD, immL, mutF, noSlot, tyD, slF, partF, nameG, tupG, consG, nilG, subG, wipeE, unw, noOwn, yesT, PyData.plain, PyData.plainAll, PyData.depth, PyData.depthAll, bodyFF, argE, fin0, nxF, retN, forF, tupD, lstD, turnF, lc2DF, lc2F, lcDF, dictAt, forDF, dcF, purF, tyP, spreadF, ixD, at0, at1, at2, at3, eqD, eqv_int, lenD, ltD, geD, powD, c1, c2, c3, g1, gixD, iaddD, putD, L2.ixN]
      · refine ⟨i + 1, b, (s * 48271 + cs[i] % 2147483647 + 7) % 2147483647, some (.int cs[i]), ?_⟩
        simp [nxE, encS, seqF, setF, retF, exprF, ifF, asgF, augF, augS, parF, opF, opFA, consO, nilO, ofE, varO, varE, mvE, cF, derefs, deref, PD.g1, PD.g2, setv, tstF, truF, trueD, andT, orT, notT, andE, orE, notE, iteE, getE, newDF, dispF, dispL, seqI, rngI, callF, callM, frzL, pkS, immD, immL, mutF, noSlot, tyD, slF, partF, nameG, tupG, consG, nilG, subG, wipeE, unw, noOwn, yesT, PyData.plain, PyData.plainAll, PyData.depth, PyData.depthAll, bodyFF, argE, fin0, nxF, retN, forF, tupD, lstD, turnF, lc2DF, lc2F, lcDF, dictAt, forDF, dcF, purF, tyP, spreadF, ixD, at0, at1, at2, at3, eqD, eqv_int, lenD, ltD, geD, powD, c1, c2, c3, g1, gixD, iaddD, putD, L2.ixN, mulD, modD, intD, addD]
    · refine ⟨i, b, s, none, ?_⟩
      simp [nxE, encS, seqF, setF, retF, exprF, ifF, asgF, augF, augS, parF, opF, opFA, consO, nilO, ofE, varO, varE, mvE, cF, derefs, deref, PD.g1, PD.g2, setv, tstF, truF, trueD, andT, orT, notT, andE, orE, notE, iteE, getE, newDF, dispF, dispL, seqI, rngI, callF, callM, frzL, pkS, immD, immL, mutF, noSlot, tyD, slF, partF, nameG, tupG, consG, nilG, subG, wipeE, unw, noOwn, yesT, PyData.plain, PyData.plainAll, PyData.depth, PyData.depthAll, bodyFF, argE, fin0, nxF, retN, forF, tupD, lstD, turnF, lc2DF, lc2F, lcDF, dictAt, forDF, dcF, purF, tyP, spreadF, ixD, at0, at1, at2, at3, eqD, eqv_int, lenD, ltD, c1, c2]
  · refine ⟨i, b, s, none, ?_⟩
    simp [nxE, encS, seqF, setF, retF, exprF, ifF, asgF, augF, augS, parF, opF, opFA, consO, nilO, ofE, varO, varE, mvE, cF, derefs, deref, PD.g1, PD.g2, setv, tstF, truF, trueD, andT, orT, notT, andE, orE, notE, iteE, getE, newDF, dispF, dispL, seqI, rngI, callF, callM, frzL, pkS, immD, immL, mutF, noSlot, tyD, slF, partF, nameG, tupG, consG, nilG, subG, wipeE, unw, noOwn, yesT, PyData.plain, PyData.plainAll, PyData.depth, PyData.depthAll, bodyFF, argE, fin0, nxF, retN, forF, tupD, lstD, turnF, lc2DF, lc2F, lcDF, dictAt, forDF, dcF, purF, tyP, spreadF, ixD, at0, at1, at2, at3, eqD, eqv_int, c1]
theorem next_spec {cs : List Int} {i : Nat} {b s lim : Int} (h0 : 0 < lim) (h1 : lim < 1073741824) : ∃ v i' b' s', 0 ≤ v ∧ v < lim ∧ _law_next_F [encS cs i b s, .int lim] = some (.int v, false, encS cs i' b' s') := by
  obtain ⟨i', b', s', x2, f⟩ := next_first (cs := cs) (i := i) (b := b) (s := s) (lim := lim)
  have e0 : argE true [encS cs i b s, .int lim] ++ List.replicate (4 - [encS cs i b s, .int lim].length) none = nxE cs i b s lim none none := rfl
  by_cases c : 0 < b'
  · refine ⟨b' % lim, i', b' / lim, s', Int.emod_nonneg _ (by omega), Int.emod_lt_of_pos _ h0, ?_⟩
    unfold _law_next_F bodyFF _law_next_B
    rw [e0, seqF_eq f]
    cases x2 <;> simp [nxE, encS, seqF, setF, retF, exprF, ifF, asgF, augF, augS, parF, opF, opFA, consO, nilO, ofE, varO, varE, mvE, cF, derefs, deref, PD.g1, PD.g2, setv, tstF, truF, trueD, andT, orT, notT, andE, orE, notE, iteE, getE, newDF, dispF, dispL, seqI, rngI, callF, callM, frzL, pkS, immD, immL, mutF, noSlot, tyD, slF, partF, nameG, tupG, consG, nilG, subG, wipeE, unw, noOwn, yesT, PyData.plain, PyData.plainAll, PyData.depth, PyData.depthAll, bodyFF, argE, fin0, nxF, retN, forF, tupD, lstD, turnF, lc2DF, lc2F, lcDF, dictAt, forDF, dcF, purF, tyP, spreadF, ixD, at0, at1, at2, at3, gtD, c, intD, modD, h0, h1, fdivD, putD, L2.ixN]
  · refine ⟨(s' * 69621 + 12345) % 2147483647 / 7 % lim, i', b', (s' * 69621 + 12345) % 2147483647, Int.emod_nonneg _ (by omega), Int.emod_lt_of_pos _ h0, ?_⟩
    unfold _law_next_F bodyFF _law_next_B
    rw [e0, seqF_eq f]
    cases x2 <;> simp [nxE, encS, seqF, setF, retF, exprF, ifF, asgF, augF, augS, parF, opF, opFA, consO, nilO, ofE, varO, varE, mvE, cF, derefs, deref, PD.g1, PD.g2, setv, tstF, truF, trueD, andT, orT, notT, andE, orE, notE, iteE, getE, newDF, dispF, dispL, seqI, rngI, callF, callM, frzL, pkS, immD, immL, mutF, noSlot, tyD, slF, partF, nameG, tupG, consG, nilG, subG, wipeE, unw, noOwn, yesT, PyData.plain, PyData.plainAll, PyData.depth, PyData.depthAll, bodyFF, argE, fin0, nxF, retN, forF, tupD, lstD, turnF, lc2DF, lc2F, lcDF, dictAt, forDF, dcF, purF, tyP, spreadF, ixD, at0, at1, at2, at3, gtD, c, intD, modD, h0, h1, fdivD, putD, L2.ixN, mulD, addD]

theorem eqv_nil (l : List D) : PyData.eqv (.list l) (.list []) = l.isEmpty := by
  cases l <;> simp [PyData.eqv, PyData.eqvAll]
def swE (cs : List Int) (i : Nat) (b s : Int) (rows left found : List D) : Ev := [some (encS cs i b s, .br), some (.list rows, .sh), some (.list left, .ow), some (.list found, .ow)]
theorem perm_erase {α : Type} : ∀ {l : List α} {n : Nat} {y : α}, l[n]? = some y → l.Perm (y :: l.eraseIdx n)
  | [], _, _, h => by simp at h
  | x :: r, 0, y, h => by cases h; exact .refl _
  | x :: r, n + 1, y, h => ((perm_erase (l := r) (n := n) h).cons x).trans (.swap y x _)
theorem swap_turn {cs : List Int} {i : Nat} {b s : Int} {rows left found : List D} (hl : left ≠ []) (hz : left.length < 64) (hf : found.length < 64) :
    ∃ i' b' s' left' y, left.Perm (y :: left') ∧ _law_swapped_b1 (swE cs i b s rows left found) = some (.nx, swE cs i' b' s' rows left' (found ++ [y])) := by
  have hp : 0 < left.length := List.length_pos_iff.mpr hl
  obtain ⟨v, i', b', s', h0, h1, h2⟩ := next_spec (cs := cs) (i := i) (b := b) (s := s) (lim := (left.length : Int)) (by omega) (by omega)
  have hv : v.toNat < left.length := by omega
  have hy : left[v.toNat]? = some left[v.toNat] := List.getElem?_eq_getElem hv
  refine ⟨i', b', s', left.eraseIdx v.toNat, left[v.toNat], perm_erase hy, ?_⟩
  have a1 : callM _law_next_F (consO (varO 0) (consO (ofE (opF (consO (varO 2) (nilO)) (PD.g1 lenD))) (nilO))) (swE cs i b s rows left found) = some (.int v, false, swE cs i' b' s' rows left found) := by
    refine (callM_eq (o := .br) (c := encS cs i b s) (ds := [.int left.length]) (c' := encS cs i' b' s') (os := [.val (.int left.length)]) (i := 0) (e1 := swE cs i b s rows left found) ?_ rfl rfl (by decide) rfl h2).trans rfl
    simp [swE, seqF, setF, retF, exprF, ifF, asgF, augF, augS, parF, opF, opFA, consO, nilO, ofE, varO, varE, mvE, cF, derefs, deref, PD.g1, PD.g2, setv, tstF, truF, trueD, andT, orT, notT, andE, orE, notE, iteE, getE, newDF, dispF, dispL, seqI, rngI, callF, callM, frzL, pkS, immD, immL, mutF, noSlot, tyD, slF, partF, nameG, tupG, consG, nilG, subG, wipeE, unw, noOwn, yesT, PyData.plain, PyData.plainAll, PyData.depth, PyData.depthAll, bodyFF, argE, fin0, nxF, retN, forF, tupD, lstD, turnF, lc2DF, lc2F, lcDF, dictAt, forDF, dcF, purF, tyP, spreadF, lenD]
  have ix : L2.ixN left.length v = some v.toNat := by
    unfold L2.ixN
    rw [if_pos h0, if_pos h1]
  have a2 : mutF "list" 2 (consO (ofE (callM _law_next_F (consO (varO 0) (consO (ofE (opF (consO (varO 2) (nilO)) (PD.g1 lenD))) (nilO))))) (nilO)) popM true (swE cs i b s rows left found) = some (left[v.toNat], false, swE cs i' b' s' rows (left.eraseIdx v.toNat) found) := by
    have fl : consO (ofE (callM _law_next_F (consO (varO 0) (consO (ofE (opF (consO (varO 2) (nilO)) (PD.g1 lenD))) (nilO))))) nilO (swE cs i b s rows left found) = some ([.val (.int v)], swE cs i' b' s' rows left found) := consO_eq (ofE_eq a1) nilO_eq
    unfold mutF
    simp only [fl]
    simp [swE, seqF, setF, retF, exprF, ifF, asgF, augF, augS, parF, opF, opFA, consO, nilO, ofE, varO, varE, mvE, cF, derefs, deref, PD.g1, PD.g2, setv, tstF, truF, trueD, andT, orT, notT, andE, orE, notE, iteE, getE, newDF, dispF, dispL, seqI, rngI, callF, callM, frzL, pkS, immD, immL, mutF, noSlot, tyD, slF, partF, nameG, tupG, consG, nilG, subG, wipeE, unw, noOwn, yesT, PyData.plain, PyData.plainAll, PyData.depth, PyData.depthAll, bodyFF, argE, fin0, nxF, retN, forF, tupD, lstD, turnF, lc2DF, lc2F, lcDF, dictAt, forDF, dcF, purF, tyP, spreadF, popM, ix, hy]
  have hfz : found.length < sizeLine := by rw [sizeLine_eq]; omega
  unfold _law_swapped_b1
  have fl : consO (ofE (mutF "list" 2 (consO (ofE (callM _law_next_F (consO (varO 0) (consO (ofE (opF (consO (varO 2) (nilO)) (PD.g1 lenD))) (nilO))))) (nilO)) popM true)) nilO (swE cs i b s rows left found) = some ([.val left[v.toNat]], swE cs i' b' s' rows (left.eraseIdx v.toNat) found) := consO_eq (ofE_eq a2) nilO_eq
  unfold exprF
  have a3 : mutF "list" 3 (consO (ofE (mutF "list" 2 (consO (ofE (callM _law_next_F (consO (varO 0) (consO (ofE (opF (consO (varO 2) (nilO)) (PD.g1 lenD))) (nilO))))) (nilO)) popM true)) (nilO)) appendM true (swE cs i b s rows left found) = some (.none, false, swE cs i' b' s' rows (left.eraseIdx v.toNat) (found ++ [left[v.toNat]])) := by
    exact mutF_eq (c0 := .list found) (i := 3) (o0 := .ow) (c := .list found) (o := .ow) (c' := .list (found ++ [left[v.toNat]])) (ds := [left[v.toNat]]) rfl (by decide) rfl fl (fun _ => rfl) (fun z => nomatch z) rfl (by decide) rfl (by simp [appendM, hfz])
  simp only [a3]
theorem plain_perm {xs ys : List D} (h : ∀ y ∈ ys, y ∈ xs) (p : PyData.plainAll xs = true) : PyData.plainAll ys = true := by
  have mem : ∀ {l : List D}, PyData.plainAll l = true ↔ ∀ y ∈ l, y.plain = true := fun {l} => by
    induction l with
    | nil => simp [PyData.plainAll]
    | cons x r ih => simp [PyData.plainAll, ih]
  exact mem.mpr fun y hy => mem.mp p y (h y hy)
theorem depth_perm {xs ys : List D} {n : Nat} (h : ∀ y ∈ ys, y ∈ xs) (p : PyData.depthAll xs ≤ n) : PyData.depthAll ys ≤ n := by
  have mem : ∀ {l : List D}, PyData.depthAll l ≤ n ↔ ∀ y ∈ l, y.depth ≤ n := fun {l} => by
    induction l with
    | nil => simp [PyData.depthAll]
    | cons x r ih => simp [PyData.depthAll, ih, Nat.max_le]
  exact mem.mpr fun y hy => mem.mp p y (h y hy)
theorem swap_while {cs : List Int} {rows : List D} : ∀ (k i : Nat) (b s : Int) (left found : List D), PyData.plainAll left = true → PyData.depthAll left ≤ 50 → left.length < k → left.length + found.length < 64 →
    ∃ i' b' s' out, out.Perm (found ++ left) ∧ whileL (tstF (opF (consO (varO 2) (consO (ofE (opFA (nilO) lstD)) nilO)) (PD.g2 neD))) _law_swapped_b1 k (swE cs i b s rows left found) = some (.nx, swE cs i' b' s' rows [] out)
  | 0, _, _, _, _, _, _, _, h, _ => absurd h (Nat.not_lt_zero _)
  | k + 1, i, b, s, left, found, hp, hd, hk, hl => by
    have e : PyData.eqv (.list left) (.list []) = left.isEmpty := eqv_nil left
    have dp : (PyData.list left).depth ≤ 60 := by
      simp only [PyData.depth]
      omega
    have t : tstF (opF (consO (varO 2) (consO (ofE (opFA (nilO) lstD)) nilO)) (PD.g2 neD)) (swE cs i b s rows left found) = some (!left.isEmpty, swE cs i b s rows left found) := by
      have n1 : neD (.list left) (.list []) = some (.bool (!left.isEmpty), false) := by
        unfold neD
        rw [e, if_pos (by simp [PyData.plain, PyData.plainAll, hp, dp])]
      simp [swE, seqF, setF, retF, exprF, ifF, asgF, augF, augS, parF, opF, opFA, consO, nilO, ofE, varO, varE, mvE, cF, derefs, deref, PD.g1, PD.g2, setv, tstF, truF, trueD, andT, orT, notT, andE, orE, notE, iteE, getE, newDF, dispF, dispL, seqI, rngI, callF, callM, frzL, pkS, immD, immL, mutF, noSlot, tyD, slF, partF, nameG, tupG, consG, nilG, subG, wipeE, unw, noOwn, yesT, PyData.plain, PyData.plainAll, PyData.depth, PyData.depthAll, bodyFF, argE, fin0, nxF, retN, forF, tupD, lstD, turnF, lc2DF, lc2F, lcDF, dictAt, forDF, dcF, purF, tyP, spreadF, n1]
    cases left with
    | nil =>
      exact ⟨i, b, s, found, by simp, while_stop t⟩
    | cons x r =>
      obtain ⟨i1, b1, s1, left', y, p1, h1⟩ := swap_turn (cs := cs) (i := i) (b := b) (s := s) (rows := rows) (left := x :: r) (found := found) (by simp) (by omega) (by omega)
      have hm : ∀ z ∈ left', z ∈ x :: r := fun z hz => p1.mem_iff.mpr (List.mem_cons_of_mem _ hz)
      have hlen := p1.length_eq
      rw [List.length_cons (a := y)] at hlen
      obtain ⟨i2, b2, s2, out, p2, h2⟩ := swap_while (rows := rows) (cs := cs) k i1 b1 s1 left' (found ++ [y]) (plain_perm hm hp) (depth_perm hm hd) (by omega) (by rw [List.length_append, List.length_singleton]; omega)
      refine ⟨i2, b2, s2, out, p2.trans ?_, (while_go t (.inl h1)).trans h2⟩
      rw [List.append_assoc]
      exact (List.Perm.append_left found p1).symm
theorem swap_spec {cs : List Int} {i : Nat} {b s : Int} {rows : List D} (hp : PyData.plainAll rows = true) (hd : PyData.depthAll rows ≤ 50) (hl : rows.length < 64) :
    ∃ i' b' s' out, out.Perm rows ∧ _law_swapped_F [encS cs i b s, .list rows] = some (.list out, true, encS cs i' b' s') := by
  obtain ⟨i', b', s', out, p, h⟩ := swap_while (cs := cs) (rows := rows) 64 i b s rows [] hp hd hl (by simpa using hl)
  refine ⟨i', b', s', out, by simpa using p, ?_⟩
  have e0 : argE true [encS cs i b s, .list rows] ++ List.replicate (4 - [encS cs i b s, .list rows].length) none = [some (encS cs i b s, .br), some (.list rows, .sh), none, none] := rfl
  have s1 : setF 2 (opF (consO (varO 1) (nilO)) (PD.g1 listD)) [some (encS cs i b s, .br), some (.list rows, .sh), none, none] = some (.nx, [some (encS cs i b s, .br), some (.list rows, .sh), some (.list rows, .ow), none]) := by simp [seqF, setF, retF, exprF, ifF, asgF, augF, augS, parF, opF, opFA, consO, nilO, ofE, varO, varE, mvE, cF, derefs, deref, PD.g1, PD.g2, setv, tstF, truF, trueD, andT, orT, notT, andE, orE, notE, iteE, getE, newDF, dispF, dispL, seqI, rngI, callF, callM, frzL, pkS, immD, immL, mutF, noSlot, tyD, slF, partF, nameG, tupG, consG, nilG, subG, wipeE, unw, noOwn, yesT, PyData.plain, PyData.plainAll, PyData.depth, PyData.depthAll, bodyFF, argE, fin0, nxF, retN, forF, tupD, lstD, turnF, lc2DF, lc2F, lcDF, dictAt, forDF, dcF, purF, tyP, spreadF, listD]
  have s2 : setF 3 (opFA (nilO) lstD) [some (encS cs i b s, .br), some (.list rows, .sh), some (.list rows, .ow), none] = some (.nx, swE cs i b s rows rows []) := by simp [seqF, setF, retF, exprF, ifF, asgF, augF, augS, parF, opF, opFA, consO, nilO, ofE, varO, varE, mvE, cF, derefs, deref, PD.g1, PD.g2, setv, tstF, truF, trueD, andT, orT, notT, andE, orE, notE, iteE, getE, newDF, dispF, dispL, seqI, rngI, callF, callM, frzL, pkS, immD, immL, mutF, noSlot, tyD, slF, partF, nameG, tupG, consG, nilG, subG, wipeE, unw, noOwn, yesT, PyData.plain, PyData.plainAll, PyData.depth, PyData.depthAll, bodyFF, argE, fin0, nxF, retN, forF, tupD, lstD, turnF, lc2DF, lc2F, lcDF, dictAt, forDF, dcF, purF, tyP, spreadF, swE]
  unfold _law_swapped_F bodyFF _law_swapped_B
  rw [e0, seqF_eq s1, seqF_eq s2, seqF_eq h]
  simp [swE, seqF, setF, retF, exprF, ifF, asgF, augF, augS, parF, opF, opFA, consO, nilO, ofE, varO, varE, mvE, cF, derefs, deref, PD.g1, PD.g2, setv, tstF, truF, trueD, andT, orT, notT, andE, orE, notE, iteE, getE, newDF, dispF, dispL, seqI, rngI, callF, callM, frzL, pkS, immD, immL, mutF, noSlot, tyD, slF, partF, nameG, tupG, consG, nilG, subG, wipeE, unw, noOwn, yesT, PyData.plain, PyData.plainAll, PyData.depth, PyData.depthAll, bodyFF, argE, fin0, nxF, retN, forF, tupD, lstD, turnF, lc2DF, lc2F, lcDF, dictAt, forDF, dcF, purF, tyP, spreadF]
end K16

/-! K16Q: the law's frame. -/
namespace K16
open PySem PD

abbrev cvs : List Nat := [18, 22, 23, 25, 26, 27]
structure Fx (e : Ev) : Prop where
  len : e.length = 28
  nb : ∀ (i : Nat) (d : D), e[i]? ≠ some (some (d, Ow.br))
  cv : ∀ (i : Nat) (d : D), i ∈ cvs → e[i]? ≠ some (some (d, Ow.ow))
  st : ∃ cs i b s, e[1]? = some (some (encS cs i b s, Ow.ow))
abbrev At (e : Ev) (i : Nat) (d : D) (o : Ow) : Prop := e[i]? = some (some (d, o))
abbrev Only (ws : List Nat) (e e' : Ev) : Prop := ∀ j : Nat, j ∉ ws → e'[j]? = e[j]?
theorem only_refl {e : Ev} {ws : List Nat} : Only ws e e := fun _ _ => rfl
theorem Only.trans {a b c : Ev} {ws vs us : List Nat} (h : Only ws a b) (k : Only vs b c) (s1 : ∀ j ∈ ws, j ∈ us) (s2 : ∀ j ∈ vs, j ∈ us) : Only us a c := fun j hj => (k j fun z => hj (s2 j z)).trans (h j fun z => hj (s1 j z))
theorem Only.at {a b : Ev} {ws : List Nat} {i : Nat} {d : D} {o : Ow} (h : Only ws a b) (k : At a i d o) (n : i ∉ ws) : At b i d o := (h i n).trans k
theorem set_at {e : Ev} {i : Nat} {x : Option (D × Ow)} (h : i < e.length) : (e.set i x)[i]? = some x := List.getElem?_set_self h
theorem set_ne {e : Ev} {i j : Nat} {x : Option (D × Ow)} (h : j ≠ i) : (e.set i x)[j]? = e[j]? := List.getElem?_set_ne (Ne.symm h)
theorem only_set {e : Ev} {i : Nat} {x : Option (D × Ow)} : Only [i] e (e.set i x) := fun j hj => set_ne (by simpa using hj)
theorem Fx.setx {e : Ev} (F : Fx e) {i : Nat} {x : Option (D × Ow)} (h1 : i ≠ 1) (hx : ∀ d o, x = some (d, o) → o ≠ .br ∧ (o = .ow → i ∉ cvs)) : Fx (e.set i x) := by
  refine ⟨by rw [List.length_set]; exact F.len, fun j d' => ?_, fun j d' l => ?_, ?_⟩
  · by_cases e1 : j = i
    · subst e1
      intro z
      by_cases hl : j < e.length
      · rw [set_at hl] at z
        exact (hx d' .br (Option.some.inj z)).1 rfl
      · rw [List.getElem?_eq_none (by rw [List.length_set]; omega)] at z
        cases z
    · rw [set_ne e1]; exact F.nb j d'
  · by_cases e1 : j = i
    · subst e1
      intro z
      by_cases hl : j < e.length
      · rw [set_at hl] at z
        exact (hx d' .ow (Option.some.inj z)).2 rfl l
      · rw [List.getElem?_eq_none (by rw [List.length_set]; omega)] at z
        cases z
    · rw [set_ne e1]; exact F.cv j d' l
  · obtain ⟨cs, k, b, s, h⟩ := F.st
    exact ⟨cs, k, b, s, by rw [set_ne (Ne.symm h1)]; exact h⟩
theorem Fx.put {e : Ev} (F : Fx e) {i : Nat} {d : D} {o : Ow} (h1 : i ≠ 1) (hb : o ≠ .br) (hc : o = .ow → i ∉ cvs) : Fx (e.set i (some (d, o))) := F.setx h1 fun d' o' z => by cases z; exact ⟨hb, hc⟩
theorem Fx.stt {e : Ev} (F : Fx e) (cs : List Int) (i : Nat) (b s : Int) : Fx (e.set 1 (some (encS cs i b s, .ow))) := by
  have hl : 1 < e.length := by rw [F.len]; omega
  refine ⟨by rw [List.length_set]; exact F.len, fun j d' => ?_, fun j d' l => ?_, cs, i, b, s, set_at hl⟩
  · by_cases e1 : j = 1
    · subst e1
      rw [set_at hl]
      intro z; cases z
    · rw [set_ne e1]; exact F.nb j d'
  · rw [set_ne (by intro z; subst z; simp at l)]; exact F.cv j d' l
theorem Fx.setv {e : Ev} (F : Fx e) {i : Nat} (d : D) (fr : Bool) (hi : i < 28) : setv i d fr e = some (e.set i (some (d, if fr then .ow else .sh))) := by
  have hl : i < e.length := by rw [F.len]; exact hi
  have h := List.getElem?_eq_getElem hl
  cases q : e[i] with
  | none => simp only [PD.setv, h, q]
  | some p =>
    obtain ⟨d', o⟩ := p
    have nb := F.nb i d'
    rw [h, q] at nb
    cases o with
    | sh => simp only [PD.setv, h, q]
    | ow => simp only [PD.setv, h, q]
    | br => exact absurd rfl nb
/-- a statement that sets a variable -/
theorem set_sh {e e1 : Ev} (F : Fx e1) {i : Nat} {f : EF} {d : D} (h : f e = some (d, false, e1)) (hi : i < 28) (h1 : i ≠ 1) : ∃ e2, setF i f e = some (.nx, e2) ∧ Fx e2 ∧ Only [i] e1 e2 ∧ At e2 i d .sh :=
  ⟨_, setF_eq h (F.setv d false hi), F.put h1 (by decide) (fun z => nomatch z), only_set, set_at (by rw [F.len]; exact hi)⟩
theorem set_ow {e e1 : Ev} (F : Fx e1) {i : Nat} {f : EF} {d : D} (h : f e = some (d, true, e1)) (hi : i < 28) (h1 : i ≠ 1) (hc : i ∉ cvs) : ∃ e2, setF i f e = some (.nx, e2) ∧ Fx e2 ∧ Only [i] e1 e2 ∧ At e2 i d .ow :=
  ⟨_, setF_eq h (F.setv d true hi), F.put h1 (by decide) (fun _ => hc), only_set, set_at (by rw [F.len]; exact hi)⟩
theorem varO_at {e : Ev} {i : Nat} {d : D} {o : Ow} (h : At e i d o) : varO i e = some (.slot i, e) := by
  simp only [varO, h]
theorem deref_at {e : Ev} {i : Nat} {d : D} {o : Ow} (h : At e i d o) : deref e (.slot i) = some d := by
  simp only [deref, h]
theorem varE_sh {e : Ev} {i : Nat} {d : D} (h : At e i d .sh) : varE i e = some (d, false, e) := by
  simp only [varE, h]
theorem derefs_nil {e : Ev} : derefs e [] = some [] := rfl
theorem derefs_cons {e : Ev} {o : Opd} {os : List Opd} {d : D} {ds : List D} (h : deref e o = some d) (k : derefs e os = some ds) : derefs e (o :: os) = some (d :: ds) := by
  simp only [derefs, h, k]
theorem deref_val {e : Ev} {d : D} : deref e (.val d) = some d := rfl
/-- a draw -/
theorem draw {e : Ev} (F : Fx e) {f : OF} {lim : Int} (hf : f e = some (.val (.int lim), e)) (h0 : 0 < lim) (h1 : lim < 1073741824) : ∃ v e', 0 ≤ v ∧ v < lim ∧ callM _law_next_F (consO (varO 1) (consO f nilO)) e = some (.int v, false, e') ∧ Fx e' ∧ Only [1] e e' := by
  obtain ⟨cs, i, b, s, h⟩ := F.st
  obtain ⟨v, i', b', s', v0, v1, h2⟩ := next_spec (cs := cs) (i := i) (b := b) (s := s) h0 h1
  exact ⟨v, _, v0, v1, callM_eq (c := encS cs i b s) (o := .ow) (consO_eq (varO_at h) (consO_eq hf nilO_eq)) rfl h (by decide) (derefs_cons deref_val derefs_nil) h2, F.stt cs i' b' s', only_set⟩
/-- rows in a drawn order -/
theorem mixed {e : Ev} (F : Fx e) {f : OF} {rows : List D} (hf : f e = some (.val (.list rows), e)) (hp : PyData.plainAll rows = true) (hd : PyData.depthAll rows ≤ 50) (hl : rows.length < 64) : ∃ out e', out.Perm rows ∧ callM _law_swapped_F (consO (varO 1) (consO f nilO)) e = some (.list out, true, e') ∧ Fx e' ∧ Only [1] e e' := by
  obtain ⟨cs, i, b, s, h⟩ := F.st
  obtain ⟨i', b', s', out, p, h2⟩ := swap_spec (cs := cs) (i := i) (b := b) (s := s) hp hd hl
  exact ⟨out, _, p, callM_eq (c := encS cs i b s) (o := .ow) (consO_eq (varO_at h) (consO_eq hf nilO_eq)) rfl h (by decide) (derefs_cons deref_val derefs_nil) h2, F.stt cs i' b' s', only_set⟩
/-! ### what leaves the frame as it was -/
def OV (f : OF) (e : Ev) (d : D) : Prop := ∃ o, f e = some (o, e) ∧ deref e o = some d
abbrev EE (f : EF) (e : Ev) (d : D) (fr : Bool) : Prop := f e = some (d, fr, e)
section
variable {e : Ev} {f f1 f2 f3 f4 : OF} {g g' : EF} {x y z u d d0 : D} {fr : Bool} {i : Nat} {o : Ow}
theorem ov (h : At e i d o) : OV (varO i) e d := ⟨_, varO_at h, deref_at h⟩
theorem oe (h : EE g e d fr) : OV (ofE g) e d := ⟨_, ofE_eq h, deref_val⟩
theorem oc : OV (ofE (cF d)) e d := oe cF_eq
theorem e1 {G : G1} (a : OV f e x) (h : G x = some (d, fr)) : EE (opF (consO f nilO) (PD.g1 G)) e d fr := by
  obtain ⟨o, h1, h2⟩ := a
  exact opF_eq (consO_eq h1 nilO_eq) (derefs_cons h2 derefs_nil) h
theorem e2 {G : G2} (a : OV f1 e x) (b : OV f2 e y) (h : G x y = some (d, fr)) : EE (opF (consO f1 (consO f2 nilO)) (PD.g2 G)) e d fr := by
  obtain ⟨o, h1, h2⟩ := a
  obtain ⟨o', k1, k2⟩ := b
  exact opF_eq (consO_eq h1 (consO_eq k1 nilO_eq)) (derefs_cons h2 (derefs_cons k2 derefs_nil)) h
theorem c1 {F : FF} (a : OV f e x) (q : F [x] = some (d, false, d0)) (im : immD d = true) : EE (callF F [] (consO f nilO)) e d false := by
  obtain ⟨o, h1, h2⟩ := a
  exact callF_imm (consO_eq h1 nilO_eq) (derefs_cons h2 derefs_nil) q im
theorem c2 {F : FF} (a : OV f1 e x) (b : OV f2 e y) (q : F [x, y] = some (d, false, d0)) (im : immD d = true) : EE (callF F [] (consO f1 (consO f2 nilO))) e d false := by
  obtain ⟨o, h1, h2⟩ := a
  obtain ⟨o', k1, k2⟩ := b
  exact callF_imm (consO_eq h1 (consO_eq k1 nilO_eq)) (derefs_cons h2 (derefs_cons k2 derefs_nil)) q im
theorem c3 {F : FF} (a : OV f1 e x) (b : OV f2 e y) (c : OV f3 e z) (q : F [x, y, z] = some (d, false, d0)) (im : immD d = true) : EE (callF F [] (consO f1 (consO f2 (consO f3 nilO)))) e d false := by
  obtain ⟨o, h1, h2⟩ := a
  obtain ⟨o', k1, k2⟩ := b
  obtain ⟨o'', l1, l2⟩ := c
  exact callF_imm (consO_eq h1 (consO_eq k1 (consO_eq l1 nilO_eq))) (derefs_cons h2 (derefs_cons k2 (derefs_cons l2 derefs_nil))) q im
theorem c4 {F : FF} (a : OV f1 e x) (b : OV f2 e y) (c : OV f3 e z) (dd : OV f4 e u) (q : F [x, y, z, u] = some (d, false, d0)) (im : immD d = true) : EE (callF F [] (consO f1 (consO f2 (consO f3 (consO f4 nilO))))) e d false := by
  obtain ⟨o, h1, h2⟩ := a
  obtain ⟨o', k1, k2⟩ := b
  obtain ⟨o'', l1, l2⟩ := c
  obtain ⟨o3, m1, m2⟩ := dd
  exact callF_imm (consO_eq h1 (consO_eq k1 (consO_eq l1 (consO_eq m1 nilO_eq)))) (derefs_cons h2 (derefs_cons k2 (derefs_cons l2 (derefs_cons m2 derefs_nil)))) q im
theorem tupD_eq {ds : List D} (h : ds.length < 64) : tupD ds = some (.tuple ds, false) := by
  unfold tupD
  rw [if_pos (size63 h)]
theorem lstD_eq {ds : List D} (h : ds.length < 64) : lstD ds = some (.list ds, true) := by
  unfold lstD
  rw [if_pos (size63 h)]
variable {h1 h2 h3 : EF} {b1 b2 b3 : Bool}
theorem mk1 {G : List D → Option (D × Bool)} (a : EE h1 e x b1) (q : G [x] = some (d, fr)) : EE (opFA (consO (ofE h1) nilO) G) e d fr := opFA_eq (consO_eq (ofE_eq a) nilO_eq) rfl (derefs_cons deref_val derefs_nil) q
theorem mk2 {G : List D → Option (D × Bool)} (a : EE h1 e x b1) (b : EE h2 e y b2) (q : G [x, y] = some (d, fr)) : EE (opFA (consO (ofE h1) (consO (ofE h2) nilO)) G) e d fr := opFA_eq (consO_eq (ofE_eq a) (consO_eq (ofE_eq b) nilO_eq)) rfl (derefs_cons deref_val (derefs_cons deref_val derefs_nil)) q
theorem mk3 {G : List D → Option (D × Bool)} (a : EE h1 e x b1) (b : EE h2 e y b2) (c : EE h3 e z b3) (q : G [x, y, z] = some (d, fr)) : EE (opFA (consO (ofE h1) (consO (ofE h2) (consO (ofE h3) nilO))) G) e d fr := opFA_eq (consO_eq (ofE_eq a) (consO_eq (ofE_eq b) (consO_eq (ofE_eq c) nilO_eq))) rfl (derefs_cons deref_val (derefs_cons deref_val (derefs_cons deref_val derefs_nil))) q
theorem sl {lo hi : Option EF} {l r : Option Int} (a : OV f e x) (hl : partF lo e = some (l, e)) (hh : partF hi e = some (r, e)) (q : sliceD x l r = some (d, fr)) : EE (slF f lo hi sliceD) e d fr := by
  obtain ⟨o, k1, k2⟩ := a
  simp only [EE, slF, k1, hl, hh, k2, q]
theorem pno : partF none e = some (none, e) := rfl
theorem pint {j : Int} (h : EE g e (.int j) fr) : partF (some g) e = some (some j, e) := by simp only [partF, h]
theorem tst {b : Bool} (h : EE g e (.bool b) fr) : tstF g e = some (b, e) := tstF_eq h
theorem tru {b : Bool} (h : EE g e (.bool b) fr) : truF (ofE g) e = some (b, e) := by
  simp only [truF, ofE_eq h, deref, trueD, Option.map_some]
theorem notT_eq {t : TF} {b : Bool} (h : t e = some (b, e)) : notT t e = some (!b, e) := by simp only [notT, h]
theorem skip {t : TF} {G : SF} (h : t e = some (false, e)) : ifF t G nxF e = some (.nx, e) := (ifF_no h).trans rfl
theorem or3 {a b c : TF} (h1 : a e = some (false, e)) (h2 : b e = some (false, e)) (h3 : c e = some (false, e)) : orT a (orT b c) e = some (false, e) := orT_eq h1 (orT_eq h2 h3)
end
theorem wipe_in {e : Ev} {j : Nat} : ∀ {vs : List Nat}, j ∈ vs → j < e.length → (wipeE e vs)[j]? = some none
  | v :: vs, h, hl => by
    unfold wipeE
    by_cases c : j = v
    · subst c
      exact set_at (by rw [wipeE_length]; exact hl)
    · rw [set_ne c]
      exact wipe_in ((List.mem_cons.mp h).resolve_left c) hl
theorem wipe_ext {e e' : Ev} {vs : List Nat} (hl : e'.length = e.length) (h : ∀ j, j ∉ vs → e'[j]? = e[j]?) : wipeE e' vs = wipeE e vs := by
  refine List.ext_getElem? fun j => ?_
  by_cases c : j ∈ vs
  · by_cases b : j < e.length
    · rw [wipe_in c b, wipe_in c (by rw [hl]; exact b)]
    · rw [List.getElem?_eq_none (by rw [wipeE_length]; omega), List.getElem?_eq_none (by rw [wipeE_length]; omega)]
  · rw [wipeE_out c, wipeE_out c, h j c]
theorem Fx.wipe {e : Ev} (F : Fx e) : ∀ {vs : List Nat}, 1 ∉ vs → Fx (wipeE e vs)
  | [], _ => F
  | v :: vs, h => by
    unfold wipeE
    exact (F.wipe fun z => h (List.mem_cons_of_mem _ z)).setx (fun z => h (by simp [z])) fun _ _ z => nomatch z
theorem unw_in {e : Ev} {j : Nat} : ∀ {vs : List Nat} {x : Ev}, x.length = e.length → j ∈ vs → (unw e x vs)[j]? = e[j]?
  | v :: vs, x, hl, h => by
    unfold unw
    by_cases c : j = v
    · subst c
      by_cases b : j < e.length
      · rw [set_at (by rw [unw_length]; omega), List.getD_eq_getElem?_getD, List.getElem?_eq_getElem b]
        rfl
      · rw [List.getElem?_eq_none (by rw [List.length_set, unw_length]; omega), List.getElem?_eq_none (by omega)]
    · rw [set_ne c]
      exact unw_in hl ((List.mem_cons.mp h).resolve_left c)
theorem unw_out {e : Ev} {j : Nat} : ∀ {vs : List Nat} {x : Ev}, j ∉ vs → (unw e x vs)[j]? = x[j]?
  | [], x, h => rfl
  | v :: vs, x, h => by
    unfold unw
    rw [set_ne (fun z => h (by simp [z]))]
    exact unw_out fun z => h (List.mem_cons_of_mem _ z)
theorem unw_ext {e x : Ev} {vs : List Nat} (hl : x.length = e.length) (h : ∀ j, j ∉ vs → x[j]? = e[j]?) : unw e x vs = e := List.ext_getElem? fun j => by
  by_cases c : j ∈ vs
  · exact unw_in hl c
  · rw [unw_out c, h j c]
theorem Fx.unw {e x : Ev} (F : Fx e) (G : Fx x) {vs : List Nat} (h : 1 ∉ vs) : Fx (PD.unw e x vs) := by
  have hl : x.length = e.length := by rw [F.len, G.len]
  refine ⟨by rw [unw_length]; exact G.len, fun j d => ?_, fun j d hj => ?_, ?_⟩
  · by_cases c : j ∈ vs
    · rw [unw_in hl c]; exact F.nb j d
    · rw [unw_out c]; exact G.nb j d
  · by_cases c : j ∈ vs
    · rw [unw_in hl c]; exact F.cv j d hj
    · rw [unw_out c]; exact G.cv j d hj
  · rw [unw_out h]; exact G.st
theorem no_own {e : Ev} (F : Fx e) : ∀ {vs : List Nat}, (∀ v ∈ vs, v ∈ cvs) → noOwn e vs = true
  | [], _ => rfl
  | v :: vs, h => by
    have ih := no_own F (vs := vs) fun u hu => h u (List.mem_cons_of_mem _ hu)
    have h1 := h v List.mem_cons_self
    have hl : v < e.length := by
      rw [F.len]
      simp only [cvs, List.mem_cons, List.not_mem_nil, or_false] at h1
      omega
    have g := List.getElem?_eq_getElem hl
    simp only [noOwn, ih, Bool.and_true]
    cases q : e[v] with
    | none => simp only [g, q]
    | some p =>
      obtain ⟨d, o⟩ := p
      have b := F.nb v d
      have c := F.cv v d h1
      rw [g, q] at b c
      cases o with
      | sh => simp only [g, q]
      | ow => exact absurd rfl c
      | br => exact absurd rfl b
/-- a comprehension of the law's that draws nothing -/
theorem lc_law {e e' : Ev} (F : Fx e') {vs : List Nat} (hv : ∀ v ∈ vs, v ∈ cvs) {s : IF} {g : GF} {t : TF} {f : EF} {α : Type} (c : α → D) (φ : α → Option D) {as : List α} (hs : s e = some (as.map c, e')) (hl : as.length ≤ sizeLine) (h : ∀ a ∈ as, turnF vs g t f (c a) (wipeE e' vs) = some (φ a, wipeE e' vs)) :
    lcF vs s g t f e = some (.list (as.filterMap φ), true, e') := by
  rw [lcF_eq hs (by rw [List.length_map]; exact hl) (no_own F hv) (lcL_map c φ as h), unw_ext (by rw [wipeE_length]) fun j hj => wipeE_out hj]
/-- one name in a turn -/
theorem name1 {e : Ev} (F : Fx e) {v : Nat} (hv : v < 28) (d : D) : ∃ w : Ev, nameG v d (wipeE e [v]) = some w ∧ At w v d .sh ∧ (∀ j, j ≠ v → w[j]? = e[j]?) ∧ wipeE w [v] = wipeE e [v] := by
  have hl : v < e.length := by rw [F.len]; exact hv
  have g : (wipeE e [v])[v]? = some none := wipe_in (by simp) hl
  refine ⟨(wipeE e [v]).set v (some (d, .sh)), by simp only [nameG, PD.setv, g, Bool.false_eq_true, if_false], set_at (by rw [wipeE_length]; exact hl), fun j hj => by rw [set_ne hj, wipeE_out (by simpa using hj)], wipe_ext (by rw [List.length_set, wipeE_length]) fun j hj => ?_⟩
  have hj : j ≠ v := by simpa using hj
  rw [set_ne hj, wipeE_out (by simpa using hj)]
/-- what a comprehension over one name gives, no test -/
theorem lc1 {e e' : Ev} (F : Fx e') {v : Nat} (hv : v ∈ cvs) {s : IF} {f : EF} {α : Type} (c : α → D) (φ : α → D) {as : List α} (hs : s e = some (as.map c, e')) (hl : as.length ≤ sizeLine) (h : ∀ a ∈ as, ∀ w : Ev, At w v (c a) .sh → (∀ j, j ≠ v → w[j]? = e'[j]?) → ∃ fr, EE f w (φ a) fr) :
    lcF [v] s (nameG v) yesT f e = some (.list (as.map φ), true, e') := by
  have hv28 : v < 28 := by
    simp only [cvs, List.mem_cons, List.not_mem_nil, or_false] at hv
    omega
  have z := lc_law F (vs := [v]) (g := nameG v) (t := yesT) (f := f) (by simpa using hv) c (fun a => some (φ a)) hs hl fun a ha => by
    obtain ⟨w, h1, h2, h3, h4⟩ := name1 F hv28 (c a)
    obtain ⟨fr, h5⟩ := h a ha w h2 h3
    unfold turnF
    simp only [h1, yesT, h5, h4]
  rw [filterMap_all] at z
  exact z
/-- a comprehension that draws -/
theorem lc_draws {v : Nat} (hv : v ∈ cvs) {f : EF} {P : D → Prop} (hf : ∀ e, Fx e → ∃ d fr e', f e = some (d, fr, e') ∧ P d ∧ Fx e' ∧ Only [1] e e') : ∀ (ds : List D) (e : Ev), Fx e → e[v]? = some none → ∃ ys e', lcL [v] (nameG v) yesT f ds e = some (ys, e') ∧ ys.length = ds.length ∧ (∀ y ∈ ys, P y) ∧ Fx e' ∧ Only [1] e e'
  | [], e, F, _ => ⟨[], e, rfl, rfl, fun _ h => (by cases h), F, only_refl⟩
  | d :: ds, e, F, hn => by
    have hv28 : v < 28 := by
      simp only [cvs, List.mem_cons, List.not_mem_nil, or_false] at hv
      omega
    have hv1 : v ≠ 1 := by
      simp only [cvs, List.mem_cons, List.not_mem_nil, or_false] at hv
      omega
    have F1 : Fx (e.set v (some (d, .sh))) := F.put hv1 (by decide) (fun z => nomatch z)
    obtain ⟨y, fr, e2, h2, hy, F2, o2⟩ := hf _ F1
    have g1 : nameG v d e = some (e.set v (some (d, .sh))) := F.setv d false hv28
    have F3 : Fx (wipeE e2 [v]) := F2.wipe (by simpa using Ne.symm hv1)
    have hn3 : (wipeE e2 [v])[v]? = some none := wipe_in (by simp) (by rw [F2.len]; exact hv28)
    obtain ⟨ys, e', h4, hl, hp, F4, o4⟩ := lc_draws hv hf ds (wipeE e2 [v]) F3 hn3
    refine ⟨y :: ys, e', ?_, by simp [hl], fun z hz => ?_, F4, fun j hj => ?_⟩
    · simp only [lcL, g1, yesT, h2, h4]
    · rcases List.mem_cons.mp hz with rfl | hz
      · exact hy
      · exact hp z hz
    · rw [o4 j hj]
      by_cases c : j = v
      · subst c; rw [hn3, hn]
      · rw [wipeE_out (by simpa using c), o2 j hj, set_ne c]
theorem lc_drawn {v : Nat} (hv : v ∈ cvs) {f : EF} {P : D → Prop} (hf : ∀ e, Fx e → ∃ d fr e', f e = some (d, fr, e') ∧ P d ∧ Fx e' ∧ Only [1] e e') {s : IF} {e e1 : Ev} {ds : List D} (F : Fx e1) (hs : s e = some (ds, e1)) (hl : ds.length < 64) : ∃ ys e', lcF [v] s (nameG v) yesT f e = some (.list ys, true, e') ∧ ys.length = ds.length ∧ (∀ y ∈ ys, P y) ∧ Fx e' ∧ Only [1] e1 e' := by
  have hv28 : v < 28 := by
    simp only [cvs, List.mem_cons, List.not_mem_nil, or_false] at hv
    omega
  have hv1 : 1 ∉ [v] := by
    simp only [cvs, List.mem_cons, List.not_mem_nil, or_false] at hv ⊢
    omega
  obtain ⟨ys, e', h1, h2, h3, F2, o2⟩ := lc_draws hv hf ds (wipeE e1 [v]) (F.wipe hv1) (wipe_in (by simp) (by rw [F.len]; exact hv28))
  refine ⟨ys, _, lcF_eq hs (size63 hl) (no_own F (by simpa using hv)) h1, h2, h3, F.unw F2 hv1, fun j hj => ?_⟩
  by_cases c : j ∈ [v]
  · exact unw_in (by rw [F.len, F2.len]) c
  · rw [unw_out c, o2 j hj, wipeE_out c]
theorem perm_enc {α β : Type} {c : α → β} {out : List β} {xs : List α} (p : out.Perm (xs.map c)) : ∃ ys : List α, ys.Perm xs ∧ out = ys.map c := by
  generalize hb : xs.map c = bs at p
  induction p generalizing xs with
  | nil => 
    cases xs with
    | nil => exact ⟨[], .nil, rfl⟩
    | cons => cases hb
  | cons b _ ih =>
    cases xs with
    | nil => cases hb
    | cons x r =>
      simp only [List.map_cons, List.cons.injEq] at hb
      obtain ⟨ys, h1, h2⟩ := ih hb.2
      exact ⟨x :: ys, h1.cons x, by rw [List.map_cons, h2, hb.1]⟩
  | swap a b l =>
    match xs, hb with
    | x :: y :: r, hb =>
      simp only [List.map_cons, List.cons.injEq] at hb
      exact ⟨y :: x :: r, .swap _ _ _, by rw [List.map_cons, List.map_cons, hb.1, hb.2.1, hb.2.2]⟩
  | trans _ _ ih1 ih2 =>
    obtain ⟨ys, h1, h2⟩ := ih2 hb
    obtain ⟨zs, h3, h4⟩ := ih1 h2.symm
    exact ⟨zs, h3.trans h1, h4⟩
end K16

/-! K16S: the law's own functions. -/
namespace K16
open PySem PD

def dW (c : Nat) (W : Nat → Str) : List D := (List.range c).map fun i => .str (W i)
def dX (c : Nat) (X : Nat → Int) : List D := (List.range c).map fun i => .int (X i)
theorem dW_len {c : Nat} {W : Nat → Str} : (dW c W).length = c := by simp [dW]
theorem dX_len {c : Nat} {X : Nat → Int} : (dX c X).length = c := by simp [dX]
theorem ixL {xs : List D} {i : Nat} {x : D} (h : xs[i]? = some x) : ixD (.list xs) (.int (i : Int)) = some (x, false) := by
  have : L2.atI xs (i : Int) = some x := L2.atI_nat h
  simp only [ixD, this]
theorem dW_at {c i : Nat} {W : Nat → Str} (h : i < c) : (dW c W)[i]? = some (.str (W i)) := by simp [dW, h]
theorem dX_at {c i : Nat} {X : Nat → Int} (h : i < c) : (dX c X)[i]? = some (.int (X i)) := by simp [dX, h]
theorem ixW {c i : Nat} {W : Nat → Str} (h : i < c) : ixD (.list (dW c W)) (.int (i : Int)) = some (.str (W i), false) := ixL (dW_at h)
theorem ixX {c i : Nat} {X : Nat → Int} (h : i < c) : ixD (.list (dX c X)) (.int (i : Int)) = some (.int (X i), false) := ixL (dX_at h)
theorem next_ix {i c : Nat} (hc : 0 < c) : modD (.int ((i : Int) + 1)) (.int (c : Int)) = some (.int (((i + 1) % c : Nat) : Int), false) := by
  simp only [modD]
  rw [if_pos (by omega)]
  simp
theorem name_n : ∀ i : Nat, i < 6 → ∃ s, strD (.int (i : Int)) = some (.str s, false) ∧ addD (.str s_n) (.str s) = some (.str (nN i), false)
  | 0, _ => ⟨_, rfl, by kernel_rfl⟩
  | 1, _ => ⟨_, rfl, by kernel_rfl⟩
  | 2, _ => ⟨_, rfl, by kernel_rfl⟩
  | 3, _ => ⟨_, rfl, by kernel_rfl⟩
  | 4, _ => ⟨_, rfl, by kernel_rfl⟩
  | 5, _ => ⟨_, rfl, by kernel_rfl⟩
  | n + 6, h => absurd h (by omega)
theorem pairs_n {β : Type} (g : β → D) : ∀ ms : List (Str × β), pairsD (ms.map fun p => .tuple [.str p.1, g p.2]) = some (eM g ms)
  | [] => rfl
  | p :: r => by
    simp only [List.map_cons, pairsD, keyD, pairs_n g r]
    rfl
theorem dict_n {β : Type} (g : β → D) {ms : List (Str × β)} (h : (ms.map (·.1)).Nodup) : dictAD (.list (ms.map fun p => .tuple [.str p.1, g p.2])) = some (.dict (eM g ms), true) := by
  simp only [dictAD, dictD, pairs_n, merge_nil g h]
theorem rngE {n : Nat} : rngL 0 n = (List.range n).map fun i : Nat => PyData.int (i : Int) := by simp [rngL]
abbrev rnE (c : Nat) (W : Nat → Str) (X : Nat → Int) : Ev := [some (.list (dW c W), .sh), some (.list (dX c X), .sh), some (.int c, .sh), none]
abbrev rnE2 (c : Nat) (W : Nat → Str) (X : Nat → Int) (i : Nat) : Ev := [some (.list (dW c W), .sh), some (.list (dX c X), .sh), some (.int c, .sh), some (.int i, .sh)]
theorem rn_e1 {c : Nat} {W : Nat → Str} {X : Nat → Int} {i : Nat} (h0 : 0 < c) (h : c ≤ 6) (hi : i < c) : _law_ring_notes_e1 (rnE2 c W X i) = some (.tuple [.str (nN i), eN (W i, W ((i + 1) % c), X i)], false, rnE2 c W X i) := by
  obtain ⟨s, g1, g2⟩ := name_n i (by omega)
  have g4 : addD (.int (i : Int)) (.int 1) = some (.int ((i : Int) + 1), false) := rfl
  generalize hw : rnE2 c W X i = w
  have a0 : At w 0 (.list (dW c W)) .sh := by rw [← hw]; rfl
  have a1 : At w 1 (.list (dX c X)) .sh := by rw [← hw]; rfl
  have a2 : At w 2 (.int c) .sh := by rw [← hw]; rfl
  have a3 : At w 3 (.int i) .sh := by rw [← hw]; rfl
  have x1 := mk3 (G := tupD) (e2 (ov a0) (ov a3) (ixW hi)) (e2 (ov a0) (oe (e2 (oe (e2 (ov a3) oc g4)) (ov a2) (next_ix h0))) (ixW (Nat.mod_lt _ h0))) (e2 (ov a1) (ov a3) (ixX hi)) (tupD_eq (by simp))
  exact mk2 (G := tupD) (e2 (oc (d := .str s_n)) (oe (e1 (ov a3) g1)) g2) x1 (tupD_eq (by simp))
theorem rn_t {c : Nat} {W : Nat → Str} {X : Nat → Int} {i : Nat} (h0 : 0 < c) (h : c ≤ 6) (hi : i < c) : turnF [3] (nameG 3) yesT _law_ring_notes_e1 (.int (i : Int)) (rnE c W X) = some (some (.tuple [.str (nN i), eN (W i, W ((i + 1) % c), X i)]), (rnE c W X)) := by
  have x4 : nameG 3 (.int (i : Int)) (rnE c W X) = some (rnE2 c W X i) := rfl
  unfold turnF
  simp only [x4, yesT, rn_e1 h0 h hi]
  rfl
theorem rn_l1 {c : Nat} {W : Nat → Str} {X : Nat → Int} (h0 : 0 < c) (h : c ≤ 6) : lcL [3] (nameG 3) yesT _law_ring_notes_e1 (rngL 0 c) (rnE c W X) = some ((rn c W X).map fun p => .tuple [.str p.1, eN p.2], rnE c W X) := by
  rw [rngE]
  refine (lcL_map (fun i : Nat => PyData.int (i : Int)) (fun i => some (.tuple [.str (nN i), eN (W i, W ((i + 1) % c), X i)])) (List.range c) fun i hi => rn_t h0 h (List.mem_range.mp hi)).trans ?_
  rw [filterMap_all, rn, List.map_map]
  rfl
theorem rng_at {e : Ev} {i n : Nat} {o : Ow} (h : At e i (.int (n : Int)) o) (hn : n < 1000) : rngI (consO (varO i) nilO) e = some (rngL 0 n, e) := by
  have := rngI_eq (consO_eq (varO_at h) nilO_eq) (derefs_cons (deref_at h) derefs_nil) (by omega) (by omega)
  rwa [Int.toNat_natCast] at this
theorem rn_l2 {c : Nat} {W : Nat → Str} {X : Nat → Int} (h0 : 0 < c) (h : c ≤ 6) : lcF [3] (rngI (consO (varO 2) nilO)) (nameG 3) yesT _law_ring_notes_e1 (rnE c W X) = some (.list ((rn c W X).map fun p => .tuple [.str p.1, eN p.2]), true, (rnE c W X)) := by
  have := lcF_eq (vs := [3]) (g := nameG 3) (t := yesT) (f := _law_ring_notes_e1) (rng_at (e := rnE c W X) (i := 2) (n := c) (o := .sh) rfl (by omega)) (by rw [rngE, List.length_map, List.length_range]; exact size63 (by omega)) rfl (rn_l1 h0 h)
  exact this
theorem ret_eq {f : EF} {e e1 : Ev} {d : D} {fr : Bool} (h : f e = some (d, fr, e1)) : retF f e = some (.rt d fr, e1) := by simp only [retF, h]
theorem ring_notes_spec {c : Nat} {W : Nat → Str} {X : Nat → Int} (h0 : 0 < c) (h : c ≤ 6) : _law_ring_notes_F [.list (dW c W), .list (dX c X)] = some (eNs (rn c W X), true, .none) := by
  have s1 : setF 2 (opF (consO (varO 0) nilO) (PD.g1 lenD)) [some (.list (dW c W), .sh), some (.list (dX c X), .sh), none, none] = some (.nx, rnE c W X) := by
    simp [seqF, setF, retF, exprF, ifF, asgF, augF, augS, parF, opF, opFA, consO, nilO, ofE, varO, varE, mvE, cF, derefs, deref, PD.g1, PD.g2, setv, tstF, truF, trueD, andT, orT, notT, andE, orE, notE, iteE, getE, newDF, dispF, dispL, seqI, rngI, callF, callM, frzL, pkS, immD, immL, mutF, noSlot, tyD, slF, partF, nameG, tupG, consG, nilG, subG, wipeE, unw, noOwn, yesT, PyData.plain, PyData.plainAll, PyData.depth, PyData.depthAll, bodyFF, argE, fin0, nxF, retN, forF, tupD, lstD, turnF, lc2DF, lc2F, lcDF, dictAt, forDF, dcF, purF, tyP, spreadF, lenD, dW_len]
  have r1 := e1 (G := dictAD) (oe (rn_l2 (W := W) (X := X) h0 h)) (dict_n eN (ms := rn c W X) (by rw [rn_keys]; exact range_nN_nodup))
  unfold _law_ring_notes_F
  refine (bodyFF_rt (e1 := rnE c W X) (d := eNs (rn c W X)) (fr := true) ?_).trans rfl
  unfold _law_ring_notes_B
  have e0 : argE false [.list (dW c W), .list (dX c X)] ++ List.replicate (4 - [PyData.list (dW c W), .list (dX c X)].length) none = [some (.list (dW c W), .sh), some (.list (dX c X), .sh), none, none] := by simp [argE, List.replicate]
  rw [e0, seqF_eq s1]
  exact ret_eq r1
theorem row_is_spec {ns : Ns} (vd : Vd ns) {ps : List (Str × Int)} (h0 : ps ≠ []) (hn : (ps.map (·.1)).Nodup) (h : ∀ n v u m, lk ns n = some (v, u, m) → ∃ a b, lk ps v = some a ∧ lk ps u = some b ∧ a - b ≤ m) : _law_row_is_F [eNs ns, .tuple (ps.map eP)] = some (.bool true, false, .none) := by
  let e : Ev := [some (eNs ns, .sh), some (.tuple (ps.map eP), .sh), some (.dict (eM .int ps), .ow), none]
  have s1 : setF 2 (opF (consO (varO 1) nilO) (PD.g1 dictAD)) [some (eNs ns, .sh), some (.tuple (ps.map eP), .sh), none, none] = some (.nx, e) := by
    simp [-List.map_map, seqF, setF, retF, exprF, ifF, asgF, augF, augS, parF, opF, opFA, consO, nilO, ofE, varO, varE, mvE, cF, derefs, deref, PD.g1, PD.g2, setv, tstF, truF, trueD, andT, orT, notT, andE, orE, notE, iteE, getE, newDF, dispF, dispL, seqI, rngI, callF, callM, frzL, pkS, immD, immL, mutF, noSlot, tyD, slF, partF, nameG, tupG, consG, nilG, subG, wipeE, unw, noOwn, yesT, PyData.plain, PyData.plainAll, PyData.depth, PyData.depthAll, bodyFF, argE, fin0, nxF, retN, forF, tupD, lstD, turnF, lc2DF, lc2F, lcDF, dictAt, forDF, dcF, purF, tyP, spreadF, dict_pairs h0 hn, e]
  have t : ∀ p ∈ ns, turnF [3] (nameG 3) _law_row_is_t1 _law_row_is_e1 (.str p.1) e = some (none, e) := fun p hp => by
    have hk : lk ns p.1 = some p.2 := lk_mem vd.nodup hp
    obtain ⟨n, v, u, m⟩ := p
    obtain ⟨a, b, ha, hb, hm⟩ := h n v u m hk
    let w : Ev := [some (eNs ns, .sh), some (.tuple (ps.map eP), .sh), some (.dict (eM .int ps), .ow), some (.str n, .sh)]
    have a0 : At w 0 (eNs ns) .sh := rfl
    have a2 : At w 2 (.dict (eM .int ps)) .ow := rfl
    have a3 : At w 3 (.str n) .sh := rfl
    have n1 := e2 (ov a0) (ov a3) (ix_e eN hk)
    have k0 := e2 (ov a2) (oe (e2 (oe n1) (oc (d := .int 0)) ixT0)) (ix_e PyData.int ha)
    have k1 := e2 (ov a2) (oe (e2 (oe n1) (oc (d := .int 1)) ixT1)) (ix_e PyData.int hb)
    have g1 : subD (.int a) (.int b) = some (.int (a - b), false) := rfl
    have g2 : gtD (.int (a - b)) (.int m) = some (.bool false, false) := by simp [gtD]; omega
    have x3 : _law_row_is_t1 w = some (false, w) := tst (e2 (oe (e2 (oe k0) (oe k1) g1)) (oe (e2 (oe n1) (oc (d := .int 2)) ixT2)) g2)
    have x4 : nameG 3 (.str n) e = some w := rfl
    unfold turnF
    simp only [x4, x3]
    rfl
  have l1 : lcL [3] (nameG 3) _law_row_is_t1 _law_row_is_e1 (keysOf (eM eN ns)) (wipeE e [3]) = some ([], e) := by
    have : keysOf (eM eN ns) = ns.map fun p => .str p.1 := by simp [keysOf, eM]
    rw [this]
    refine (lcL_map (fun p : Str × Nt Str => PyData.str p.1) (fun _ => none) ns t).trans ?_
    have : ∀ l : Ns, (l.filterMap fun _ => (none : Option D)) = [] := fun l => by induction l with
      | nil => rfl
      | cons _ _ ih => rw [List.filterMap_cons, ih]
    rw [this]
  have zn : ns.length ≤ sizeLine := size63 (Nat.lt_trans vd.len (by decide))
  have l2 : lcDF [3] 0 keysOf (nameG 3) _law_row_is_t1 _law_row_is_e1 e = some (.list [], true, e) := (lcDF_eq (kvs := eM eN ns) (e1 := e) rfl (by rw [eM_length]; exact zn) (by rw [keysOf, List.length_map, eM_length]; exact zn) rfl l1).trans rfl
  have r1 := e2 (G := eqD) (oe l2) (oe (opFA_eq (g := lstD) (nilO_eq (e := e)) rfl derefs_nil (lstD_eq (by simp)))) (d := .bool true) (fr := false) (by simp [eqD, PyData.plain, PyData.plainAll, PyData.depth, PyData.depthAll, PyData.eqv, PyData.eqvAll])
  unfold _law_row_is_F
  refine (bodyFF_rt (e1 := e) (d := .bool true) (fr := false) ?_).trans rfl
  unfold _law_row_is_B
  have e0 : argE false [eNs ns, .tuple (ps.map eP)] ++ List.replicate (4 - [eNs ns, .tuple (ps.map eP)].length) none = [some (eNs ns, .sh), some (.tuple (ps.map eP), .sh), none, none] := rfl
  rw [e0, seqF_eq s1]
  exact ret_eq r1
end K16

/-! K16T: the head of a turn. -/
namespace K16
open PySem PD

structure Ph (e : Ev) (c : Nat) (W : Nat → Str) (X : Nat → Int) : Prop where
  fx : Fx e
  c0 : 0 < c
  c6 : c ≤ 6
  inj : ∀ i j, i < c → j < c → W i = W j → i = j
  lone : ∀ i, i < c → W i ≠ s_lone
  a3 : At e 3 (.list (dW c W)) .sh
  a4 : At e 4 (.list (dX c X)) .sh
  a5 : At e 5 (eNs (rn c W X)) .ow
theorem Ph.keep {e e' : Ev} {c : Nat} {W : Nat → Str} {X : Nat → Int} (h : Ph e c W X) (F : Fx e') {ws : List Nat} (o : Only ws e e') (n3 : 3 ∉ ws) (n4 : 4 ∉ ws) (n5 : 5 ∉ ws) : Ph e' c W X :=
  ⟨F, h.c0, h.c6, h.inj, h.lone, o.at h.a3 n3, o.at h.a4 n4, o.at h.a5 n5⟩
abbrev six : List Str := [s_a, s_b, s_c1, s_dawn, s_e, s_f]
theorem plain_strs' (l : List Str) : PyData.depthAll (l.map .str) = 0 := by
  induction l with
  | nil => rfl
  | cons x r ih => simp [PyData.depthAll, PyData.depth, ih]
theorem cut_to {α : Type} {xs : List α} {j : Nat} (h : j ≤ xs.length) : cutD xs none (some (j : Int)) = xs.take j := by
  unfold cutD
  rw [HT.sIx_none, HT.sIx_nat, Nat.min_eq_left h]
  simp
theorem cut_from {α : Type} {xs : List α} {j : Nat} (h : j ≤ xs.length) : cutD xs (some (j : Int)) none = xs.drop j := by
  unfold cutD
  rw [HT.sIx_none, HT.sIx_nat, Nat.min_eq_left h]
  exact List.take_of_length_le (by simp)
theorem words_of (ws : List Str) (c : Nat) (h : c ≤ ws.length) : (ws.map PyData.str).take c = dW c fun i => (ws[i]?).getD s_ := by
  refine List.ext_getElem (by simp [dW]; omega) fun i h1 h2 => ?_
  have h3 : i < ws.length := by simp at h1; omega
  simp [dW, h3]
theorem stmt2 {e : Ev} (F : Fx e) : ∃ e' c W, law_s2 e = some (.nx, e') ∧ Fx e' ∧ 0 < c ∧ c ≤ 6 ∧ (∀ i j, i < c → j < c → W i = W j → i = j) ∧ (∀ i, i < c → W i ≠ s_lone) ∧ At e' 3 (.list (dW c W)) .ow := by
  have hf : ofE (opFA (consO (ofE (cF (.str s_a))) (consO (ofE (cF (.str s_b))) (consO (ofE (cF (.str s_c1))) (consO (ofE (cF (.str s_dawn))) (consO (ofE (cF (.str s_e))) (consO (ofE (cF (.str s_f))) nilO)))))) lstD) e = some (.val (.list (six.map .str)), e) := by simp [seqF, setF, retF, exprF, ifF, asgF, augF, augS, parF, opF, opFA, consO, nilO, ofE, varO, varE, mvE, cF, derefs, deref, PD.g1, PD.g2, setv, tstF, truF, trueD, andT, orT, notT, andE, orE, notE, iteE, getE, newDF, dispF, dispL, seqI, rngI, callF, callM, frzL, pkS, immD, immL, mutF, noSlot, tyD, slF, partF, nameG, tupG, consG, nilG, subG, wipeE, unw, noOwn, yesT, PyData.plain, PyData.plainAll, PyData.depth, PyData.depthAll, bodyFF, argE, fin0, nxF, retN, forF, tupD, lstD, turnF, lc2DF, lc2F, lcDF, dictAt, forDF, dcF, purF, tyP, spreadF, size63]
  obtain ⟨out, ea, p, h1, F1, o1⟩ := mixed F hf (plain_strs six) (by rw [plain_strs']; omega) (by decide)
  obtain ⟨ws, p2, rfl⟩ := perm_enc p
  obtain ⟨v, eb, v0, v1, h2, F2, o2⟩ := draw F1 (f := ofE (cF (.int 6))) rfl (by decide) (by decide)
  obtain ⟨v, rfl⟩ := Int.eq_ofNat_of_zero_le v0
  have h3 : opF (consO (ofE (cF (.int 1))) (consO (ofE (callM _law_next_F (consO (varO 1) (consO (ofE (cF (.int 6))) nilO)))) nilO)) (PD.g2 addD) ea = some (.int ((v + 1 : Nat) : Int), false, eb) := by
    refine (opF_eq (g := PD.g2 addD) (d := .int (1 + (v : Int))) (fr := false) (consO_eq (ofE_eq cF_eq) (consO_eq (ofE_eq h2) nilO_eq)) (derefs_cons deref_val (derefs_cons deref_val derefs_nil)) rfl).trans ?_
    rw [show 1 + (v : Int) = ((v + 1 : Nat) : Int) by omega]
  have hl : ws.length = 6 := p2.length_eq
  have nd : ws.Nodup := p2.nodup_iff.mpr (by decide)
  have h4 : slF (ofE (callM _law_swapped_F (consO (varO 1) (consO (ofE (opFA (consO (ofE (cF (.str s_a))) (consO (ofE (cF (.str s_b))) (consO (ofE (cF (.str s_c1))) (consO (ofE (cF (.str s_dawn))) (consO (ofE (cF (.str s_e))) (consO (ofE (cF (.str s_f))) nilO)))))) lstD)) nilO)))) none (some (opF (consO (ofE (cF (.int 1))) (consO (ofE (callM _law_next_F (consO (varO 1) (consO (ofE (cF (.int 6))) nilO)))) nilO)) (PD.g2 addD))) sliceD e = some (.list (dW (v + 1) fun i => (ws[i]?).getD s_), true, eb) := by
    simp only [slF, ofE_eq h1, partF, h3, deref_val, sliceD]
    rw [cut_to (by rw [List.length_map, hl]; omega), words_of _ _ (by omega)]
  obtain ⟨e', h5, F5, o5, a5⟩ := set_ow F2 (i := 3) h4 (by decide) (by decide) (by decide)
  refine ⟨e', v + 1, _, h5, F5, by omega, by omega, fun i j hi hj h => ?_, fun i hi h => ?_, a5⟩
  · have hi' : i < ws.length := by omega
    have hj' : j < ws.length := by omega
    simp only [List.getElem?_eq_getElem hi', List.getElem?_eq_getElem hj', Option.getD_some] at h
    exact (List.getElem_inj nd).mp h
  · have hi' : i < ws.length := by omega
    simp only [List.getElem?_eq_getElem hi', Option.getD_some] at h
    have : s_lone ∈ six := p2.mem_iff.mp (h ▸ List.getElem_mem hi')
    exact absurd this (by decide)
theorem ints_of {c : Nat} {ys : List D} (hl : ys.length = c) (h : ∀ y ∈ ys, ∃ x, y = .int x) : ∃ X, ys = dX c X := by
  refine ⟨fun i => match ys[i]? with | some (.int x) => x | _ => 0, List.ext_getElem (by rw [dX_len, hl]) fun i h1 h2 => ?_⟩
  obtain ⟨x, hx⟩ := h _ (List.getElem_mem h1)
  have : ys[i]? = some (.int x) := by rw [List.getElem?_eq_getElem h1, hx]
  simp [dX, this, hx]
theorem draw_less {e : Ev} (F : Fx e) {lim k : Int} (h0 : 0 < lim) (h1 : lim < 1073741824) : ∃ d fr e', opF (consO (ofE (callM _law_next_F (consO (varO 1) (consO (ofE (cF (.int lim))) nilO)))) (consO (ofE (cF (.int k))) nilO)) (PD.g2 subD) e = some (d, fr, e') ∧ (∃ x, d = .int x) ∧ Fx e' ∧ Only [1] e e' := by
  obtain ⟨v, e', _, _, h2, F2, o2⟩ := draw F (f := ofE (cF (.int lim))) rfl h0 h1
  exact ⟨.int (v - k), false, e', opF_eq (consO_eq (ofE_eq h2) (consO_eq (ofE_eq cF_eq) nilO_eq)) (derefs_cons deref_val (derefs_cons deref_val derefs_nil)) rfl, ⟨_, rfl⟩, F2, o2⟩
theorem e1_draw {e : Ev} (F : Fx e) : ∃ d fr e', law_e1 e = some (d, fr, e') ∧ (∃ x, d = .int x) ∧ Fx e' ∧ Only [1] e e' := by
  unfold law_e1
  exact draw_less (lim := 9) (k := 4) F (by decide) (by decide)
theorem stmt3 {e : Ev} (F : Fx e) {c : Nat} {W : Nat → Str} (hc : c ≤ 6) (a3 : At e 3 (.list (dW c W)) .ow) : ∃ e' X, law_s3 e = some (.nx, e') ∧ Fx e' ∧ At e' 3 (.list (dW c W)) .sh ∧ At e' 4 (.list (dX c X)) .ow := by
  have hl3 : 3 < e.length := by rw [F.len]; decide
  have s1 : seqI (varE 3) e = some (dW c W, e.set 3 (some (.list (dW c W), .sh))) := seqI_list (fr := false) (by simp only [varE, a3])
  have F1 : Fx (e.set 3 (some (.list (dW c W), .sh))) := F.put (by decide) (by decide) (fun z => nomatch z)
  have k3 : At (e.set 3 (some (.list (dW c W), .sh))) 3 (.list (dW c W)) .sh := set_at hl3
  obtain ⟨ys, e2, h2, hl, hp, F2, o2⟩ := lc_drawn (v := 23) (by decide) (f := law_e1) (P := fun d => ∃ x, d = .int x) (fun e F => e1_draw F) F1 s1 (by rw [dW_len]; omega)
  rw [dW_len] at hl
  obtain ⟨X, rfl⟩ := ints_of hl hp
  obtain ⟨e', h5, F5, o5, a5⟩ := set_ow F2 (i := 4) h2 (by decide) (by decide) (by decide)
  refine ⟨e', X, ?_, F5, o5.at (o2.at k3 (by decide)) (by decide), a5⟩
  unfold law_s3
  exact h5
theorem callF_frz {F : FF} {dds : List D} {fl : OLF} {e e1 e2 : Ev} {os : List Opd} {ds : List D} {d d0 : D} {fr : Bool} {is : List Nat} (h : fl e = some (os, e1)) (k : derefs e1 os = some ds) (q : F (ds ++ dds) = some (d, fr, d0)) (p : pkS e1 os = is) (p0 : is.isEmpty = false) (im : immD d = false) (f : frzL is e1 = some e2) (p2 : pkS e2 os = []) : callF F dds fl e = some (d, fr, e2) := by
  subst p
  simp only [callF, h, k, q, p0, im, f, p2, List.isEmpty_nil, Bool.false_eq_true, if_false, if_true]

theorem hr4 {c : Nat} {W : Nat → Str} {X : Nat → Int} (h0 : 0 < c) (hc : c ≤ 6) : _law_ring_notes_F ([.list (dW c W), .list (dX c X)] ++ []) = some (eNs (rn c W X), true, .none) := by
  rw [List.append_nil]
  exact ring_notes_spec h0 hc
theorem im4 {ns : Ns} : immD (eNs ns) = false := by unfold eNs; simp only [immD]
theorem h64 {e : Ev} {c : Nat} {W : Nat → Str} {X : Nat → Int} (h0 : 0 < c) (hc : c ≤ 6) (a3 : At e 3 (.list (dW c W)) .sh) (a4 : At e 4 (.list (dX c X)) .ow) (k3 : (e.set 4 (some (PyData.list (dX c X), Ow.sh)))[3]? = some (some (.list (dW c W), .sh))) (k4 : (e.set 4 (some (PyData.list (dX c X), Ow.sh)))[4]? = some (some (.list (dX c X), .sh))) : callF _law_ring_notes_F [] (consO (varO 3) (consO (varO 4) nilO)) e = some (eNs (rn c W X), true, e.set 4 (some (.list (dX c X), .sh))) := by
  have a3' : e[3]? = some (some (.list (dW c W), .sh)) := a3
  have a4' : e[4]? = some (some (.list (dX c X), .ow)) := a4
  have h1 : consO (varO 3) (consO (varO 4) nilO) e = some ([.slot 3, .slot 4], e) := consO_eq (varO_at a3) (consO_eq (varO_at a4) nilO_eq)
  have h2 : derefs e [.slot 3, .slot 4] = some [.list (dW c W), .list (dX c X)] := derefs_cons (deref_at a3) (derefs_cons (deref_at a4) derefs_nil)
  have h3 : pkS e [.slot 3, .slot 4] = [4] := by simp only [pkS, a3', a4']
  have h4 : frzL [4] e = some (e.set 4 (some (.list (dX c X), .sh))) := by simp only [frzL, a4']
  have h5 : pkS (e.set 4 (some (.list (dX c X), .sh))) [.slot 3, .slot 4] = [] := by simp only [pkS, k3, k4]
  have hr := hr4 (W := W) (X := X) h0 hc
  have im := im4 (ns := rn c W X)
  exact callF_frz h1 h2 hr h3 rfl im h4 h5
theorem stmt4 {e : Ev} (F : Fx e) {c : Nat} {W : Nat → Str} {X : Nat → Int} (h0 : 0 < c) (hc : c ≤ 6) (inj : ∀ i j, i < c → j < c → W i = W j → i = j) (lone : ∀ i, i < c → W i ≠ s_lone) (a3 : At e 3 (.list (dW c W)) .sh) (a4 : At e 4 (.list (dX c X)) .ow) : ∃ e', law_s4 e = some (.nx, e') ∧ Ph e' c W X := by
  have hl4 : 4 < e.length := by rw [F.len]; decide
  have F1 : Fx (e.set 4 (some (.list (dX c X), .sh))) := F.put (by decide) (by decide) (fun z => nomatch z)
  have k4 : (e.set 4 (some (PyData.list (dX c X), Ow.sh)))[4]? = some (some (.list (dX c X), .sh)) := set_at hl4
  have k3 : (e.set 4 (some (PyData.list (dX c X), Ow.sh)))[3]? = some (some (.list (dW c W), .sh)) := (set_ne (by decide)).trans a3
  have h6 := h64 h0 hc a3 a4 k3 k4
  obtain ⟨e', h7, F7, o7, a7⟩ := set_ow F1 (i := 5) h6 (by decide) (by decide) (by decide)
  exact ⟨e', h7, F7, h0, hc, inj, lone, o7.at k3 (by decide), o7.at k4 (by decide), a7⟩
/-! ### small laws of data -/
theorem ne_bool (a b : Bool) : neD (.bool a) (.bool b) = some (.bool (!decide (a = b)), false) := by cases a <;> cases b <;> rfl
theorem ne_int (a b : Int) : neD (.int a) (.int b) = some (.bool (!decide (a = b)), false) := by
  simp [neD, PyData.plain, PyData.depth, eqv_int]
theorem ne_str (a b : Str) : neD (.str a) (.str b) = some (.bool (!decide (a = b)), false) := by
  simp [neD, PyData.plain, PyData.depth, eqv_str]
theorem eq_str (a b : Str) : eqD (.str a) (.str b) = some (.bool (decide (a = b)), false) := by
  simp [eqD, PyData.plain, PyData.depth, eqv_str]
theorem ne_strs (a b : List Str) : neD (.list (a.map .str)) (.list (b.map .str)) = some (.bool (!decide (a = b)), false) := by
  unfold neD
  rw [if_pos, eqv_strs]
  simp [-List.map_map, PyData.plain, plain_strs, PyData.depth, plain_strs']
theorem isnt (a b : Bool) : isntD (.bool a) (.bool b) = some (.bool (!decide (a = b)), false) := rfl
theorem ints_sum {α : Type} (f : α → Int) : ∀ l : List α, intsD (l.map fun a => .int (f a)) = some (l.map f)
  | [] => rfl
  | a :: r => by simp only [List.map_cons, intsD, ints_sum f r, Option.map_some]
theorem sum_of {α : Type} (f : α → Int) (l : List α) : sumD (.list (l.map fun a => .int (f a))) = some (.int (l.map f).sum, false) := by
  simp only [sumD, ints_sum, Option.map_some]
theorem imm_eP : ∀ ps : List (Str × Int), immL (ps.map eP) = true
  | [] => rfl
  | p :: r => by simp only [List.map_cons, immL, imm_eP r, Bool.and_true]; rfl
theorem imm_row (ps : List (Str × Int)) : immD (.tuple [.str s_row, .tuple (ps.map eP)]) = true := by simp only [immD, immL, imm_eP, Bool.and_self]
theorem imm_ring (l : List Str) : immD (.tuple [.str s_ring, .tuple (l.map .str)]) = true := by simp only [immD, immL, imm_strs, Bool.and_self]
/-- what spread told -/
inductive Told (c : Nat) (W : Nat → Str) (X : Nat → Int) : D → Prop
  | row (f : Str → Int) : 0 ≤ pre c X 0 c → RowIs (rn c W X) f → Told c W X (.tuple [.str s_row, .tuple ((rw_ (rn c W X) f).map eP)])
  | ring (names : List Str) (b : Str) (t : Int) : pre c X 0 c < 0 → names ≠ [] → names.length < 64 → Path (rn c W X) names b b t → t < 0 → Told c W X (.tuple [.str s_ring, .tuple (names.map .str)])
theorem whole_ring {c : Nat} {W : Nat → Str} {X : Nat → Int} (h0 : 0 < c) : ∃ l, Path (rn c W X) l (W 0) (W 0) (pre c X 0 c) := by
  have := ring_path (W := W) (X := X) h0 0 c
  rw [Nat.zero_mod, Nat.zero_add, Nat.mod_self] at this
  exact ⟨_, this⟩
theorem stmt5 {e : Ev} {c : Nat} {W : Nat → Str} {X : Nat → Int} (P : Ph e c W X) : ∃ e' T, law_s5 e = some (.nx, e') ∧ Ph e' c W X ∧ Told c W X T ∧ At e' 6 T .sh := by
  have ni := rn_nice (W := W) (X := X) P.c0 (by have := P.c6; omega)
  have : ∃ T, Told c W X T ∧ immD T = true ∧ spread_F [eNs (rn c W X)] = some (T, false, .none) := by
    by_cases h : 0 ≤ pre c X 0 c
    · obtain ⟨f, hf, s⟩ := sp_row ni.vd (ring_row P.inj P.c0 h)
      exact ⟨_, .row f h hf, imm_row _, s⟩
    · obtain ⟨l, pl⟩ := whole_ring (W := W) (X := X) P.c0
      obtain ⟨names, b, t, k1, k2, k3, k4, s⟩ := sp_ring ni.vd pl (by omega)
      exact ⟨_, .ring names b t (by omega) k1 k2 k3 k4, imm_ring _, s⟩
  obtain ⟨T, h1, h2, h3⟩ := this
  obtain ⟨e', h5, F5, o5, a5⟩ := set_sh P.fx (i := 6) (c1 (ov P.a5) h3 h2) (by decide) (by decide)
  exact ⟨e', T, h5, P.keep F5 o5 (by decide) (by decide) (by decide), h1, a5⟩
theorem stmt6 {e : Ev} {c : Nat} {W : Nat → Str} {X : Nat → Int} {T : D} (P : Ph e c W X) (a6 : At e 6 T .sh) : ∃ e', law_s6 e = some (.nx, e') ∧ Ph e' c W X ∧ At e' 6 T .sh ∧ At e' 7 (.int (pre c X 0 c)) .sh := by
  have s : sumD (.list (dX c X)) = some (.int (pre c X 0 c), false) := by
    rw [pre_sum c (Nat.le_refl _)]
    exact sum_of X (List.range c)
  obtain ⟨e', h5, F5, o5, a5⟩ := set_sh P.fx (i := 7) (e1 (ov P.a4) s) (by decide) (by decide)
  exact ⟨e', h5, P.keep F5 o5 (by decide) (by decide) (by decide), o5.at a6 (by decide), a5⟩
theorem stmt7 {e : Ev} {c : Nat} {W : Nat → Str} {X : Nat → Int} {T : D} (P : Ph e c W X) (hT : Told c W X T) (a6 : At e 6 T .sh) (a7 : At e 7 (.int (pre c X 0 c)) .sh) : law_s7 e = some (.nx, e) := by
  have ni := rn_nice (W := W) (X := X) P.c0 (by have := P.c6; omega)
  have : ∃ k d, T = .tuple [.str k, d] ∧ decide (k = s_ring) = decide (pre c X 0 c < 0) ∧ judge_spread_F [eNs (rn c W X), T] = some (.bool true, false, .none) := by
    cases hT with
    | row f h hf => exact ⟨_, _, rfl, by rw [decide_eq_false (p := pre c X 0 c < 0) (by omega)]; decide, judge_row_yes ni.vd ni.ne hf⟩
    | ring names b t h k1 k2 k3 k4 => exact ⟨_, _, rfl, by rw [decide_eq_true h]; simp, by rw [judge_ring k2, isRing_of k1 k3 k4]⟩
  obtain ⟨k, d, rfl, h1, h2⟩ := this
  have x1 := e2 (oe (e2 (ov a6) (oc (d := .int 0)) ixT0)) (oc (d := .str s_ring)) (eq_str k s_ring)
  have x2 := e2 (G := ltD) (ov a7) (oc (d := .int 0)) (d := .bool (decide (pre c X 0 c < 0))) (fr := false) rfl
  have x3 := e2 (G := neD) (oe x1) (oe x2) (d := .bool false) (fr := false) (by rw [ne_bool, h1]; simp)
  have x4 := e2 (oe (c2 (ov P.a5) (ov a6) h2 rfl)) (oc (d := .bool true)) (isnt true true)
  exact skip (orT_eq (tst x3) (tst x4))
end K16

/-! K16U: a turn whose ring is no bad one. -/
namespace K16
open PySem PD

theorem name2 {e : Ev} (F : Fx e) (a b : D) : ∃ w : Ev, tupG 2 (consG (nameG 23) (consG (nameG 18) nilG)) (.tuple [a, b]) (wipeE e [23, 18]) = some w ∧ At w 23 a .sh ∧ At w 18 b .sh ∧ (∀ j, j ∉ [23, 18] → w[j]? = e[j]?) ∧ wipeE w [23, 18] = wipeE e [23, 18] := by
  have hl : e.length = 28 := F.len
  have g0 : (wipeE e [23, 18])[23]? = some none := wipe_in (by simp) (by omega)
  have g1 : (wipeE e [23, 18])[18]? = some none := wipe_in (by simp) (by omega)
  generalize hw : wipeE e [23, 18] = W at *
  have wl : W.length = 28 := by rw [← hw, wipeE_length, hl]
  refine ⟨(W.set 23 (some (a, .sh))).set 18 (some (b, .sh)), ?_, ?_, ?_, fun j hj => ?_, ?_⟩
  · have k1 : (W.set 23 (some (a, Ow.sh)))[18]? = some none := by rw [set_ne (by decide), g1]
    simp [tupG, consG, nameG, nilG, PD.setv, g0, k1]
  · show _ = _
    rw [set_ne (by decide), set_at (by omega)]
  · exact set_at (by rw [List.length_set]; omega)
  · simp only [List.mem_cons, List.not_mem_nil, or_false, not_or] at hj
    rw [set_ne hj.2, set_ne hj.1, ← hw, wipeE_out (by simp [hj])]
  · rw [← hw]
    refine wipe_ext (by rw [List.length_set, List.length_set, wipeE_length]) fun j hj => ?_
    have hj' := hj
    simp only [List.mem_cons, List.not_mem_nil, or_false, not_or] at hj
    rw [set_ne hj.2, set_ne hj.1, wipeE_out hj']
section
variable {e : Ev} {c : Nat} {W : Nat → Str} {X : Nat → Int} {f : Str → Int}
theorem Ph.nice (P : Ph e c W X) : Nice (rn c W X) := rn_nice P.c0 (by have := P.c6; omega)
theorem Ph.ndW (P : Ph e c W X) : ((List.range c).map W).Nodup := by
  rw [List.Nodup, List.pairwise_map]
  exact List.nodup_range.imp_of_mem fun ha hb h e => h (P.inj _ _ (List.mem_range.mp ha) (List.mem_range.mp hb) e)
theorem wds_rn {x : Str} (h0 : 0 < c) : x ∈ wds (rn c W X) ↔ x ∈ (List.range c).map W := by
  unfold wds rn
  simp only [List.mem_flatMap, List.mem_map, List.mem_range]
  constructor
  · rintro ⟨p, ⟨i, hi, rfl⟩, h⟩
    simp at h
    rcases h with rfl | rfl
    · exact ⟨i, hi, rfl⟩
    · exact ⟨_, Nat.mod_lt _ h0, rfl⟩
  · rintro ⟨i, hi, rfl⟩
    exact ⟨_, ⟨i, hi, rfl⟩, by simp⟩
theorem Ph.words (P : Ph e c W X) : sortS ((List.range c).map W) = wd (rn c W X) :=
  sortU_eq (sortS_sorted _) ((sortS_perm _).nodup_iff.mpr P.ndW) fun z => by rw [(sortS_perm _).mem_iff, wds_rn P.c0]
theorem Ph.sorted (P : Ph e c W X) : sortAD (.list (dW c W)) = some (.list ((wd (rn c W X)).map .str), true) := by
  have : dW c W = ((List.range c).map W).map .str := by rw [dW, List.map_map]; rfl
  have hc := P.c6
  simp only [sortAD, sortD, this, strsD_map]
  rw [if_pos (by simp; omega), P.words]
abbrev tR (ns : Ns) (f : Str → Int) : D := .tuple [.str s_row, .tuple ((rw_ ns f).map eP)]
theorem wd0 {ns : Ns} (h : Nice ns) : wd ns ≠ [] := fun z => by
  cases hn : ns with
  | nil => exact h.ne hn
  | cons p r =>
    have := (sortU_mem p.2.1 (wds ns)).mpr (by rw [hn]; simp [wds])
    rw [show sortU (wds ns) = [] from z] at this
    cases this
theorem rw0 {ns : Ns} (h : Nice ns) : rw_ ns f ≠ [] := fun z => wd0 h (by simpa using z)
theorem rw_len {ns : Ns} (vd : Vd ns) : (rw_ ns f).length < 64 := by rw [List.length_map]; exact wd63 vd
theorem keys_row {ns : Ns} (F : Fx e) (vd : Vd ns) (a6 : At e 6 (tR ns f) .sh) : EE (lcF [23, 18] (seqI (opF (consO (varO 6) (consO (ofE (cF (.int 1))) nilO)) (PD.g2 ixD))) (tupG 2 (consG (nameG 23) (consG (nameG 18) (nilG)))) (yesT) (law_e2)) e (.list ((wd ns).map .str)) true := by
  have s1 := seqI_tup (e2 (ov a6) (oc (d := .int 1)) ixT1)
  have z := lc_law F (vs := [23, 18]) (g := tupG 2 (consG (nameG 23) (consG (nameG 18) nilG))) (t := yesT) (f := law_e2) (by decide) eP (fun p => some (.str p.1)) s1 (size63 (rw_len vd)) fun p hp => by
    obtain ⟨w, h1, w23, w18, wo, h2⟩ := name2 F (.str p.1) (.int p.2)
    have h3 : law_e2 w = some (.str p.1, false, w) := varE_sh w23
    have h1' : tupG 2 (consG (nameG 23) (consG (nameG 18) nilG)) (eP p) (wipeE e [23, 18]) = some w := h1
    unfold turnF
    simp only [h1', yesT, h3, h2]
  rw [filterMap_all, List.map_map] at z
  exact z
theorem row_is_row {ns : Ns} (h : Nice ns) (hf : RowIs ns f) : _law_row_is_F [eNs ns, .tuple ((rw_ ns f).map eP)] = some (.bool true, false, .none) :=
  row_is_spec h.vd (rw0 h) (by rw [keys_map]; exact wd_nodup) fun n v u m e => by
    obtain ⟨h1, h2⟩ := within_wd n v u m e
    refine ⟨f v, f u, ?_, ?_, hf n v u m e⟩
    · exact lk_mem (by rw [keys_map]; exact wd_nodup) (List.mem_map.mpr ⟨v, h1, rfl⟩)
    · exact lk_mem (by rw [keys_map]; exact wd_nodup) (List.mem_map.mpr ⟨u, h2, rfl⟩)
theorem stmt8 (P : Ph e c W X) (hf : RowIs (rn c W X) f) (a6 : At e 6 (tR (rn c W X) f) .sh) : law_s8 e = some (.nx, e) := by
  have ni := P.nice
  have x1 := e2 (G := neD) (oe (keys_row P.fx ni.vd a6)) (oe (e1 (ov P.a3) P.sorted)) (ne_strs _ _)
  rw [decide_eq_true rfl] at x1
  have r1 := e2 (ov a6) (oc (d := .int 1)) ixT1
  have x2 := notT_eq (tru (c2 (ov P.a5) (oe r1) (row_is_row ni hf) rfl))
  have t1 : EE (opF (consO (ofE (opF (consO (varO 5) nilO) (PD.g1 sortAD))) nilO) (PD.g1 tupleD)) e (.tuple ((nm (rn c W X)).map .str)) false := e1 (oe (e1 (ov P.a5) (sorted_e ni.vd))) rfl
  have t2 := mk2 (G := tupD) (cF_eq (d := .str s_ring)) t1 (tupD_eq (by simp))
  have hl : (nm (rn c W X)).length < 64 := by rw [nm_length]; have := ni.len; omega
  have j := judge_ring (ns := rn c W X) hl
  rw [no_ring hf] at j
  have x3 := e2 (G := isntD) (oe (c2 (ov P.a5) (oe t2) j rfl)) (oc (d := .bool false)) (isnt false false)
  exact skip (or3 (tst x1) x2 (tst x3))
theorem stmt9 (P : Ph e c W X) (a6 : At e 6 (tR (rn c W X) f) .sh) : law_s9 e = some (.nx, e) := by
  have ni := P.nice
  have r1 := e2 (ov a6) (oc (d := .int 1)) ixT1
  have q : sliceD (.tuple ((rw_ (rn c W X) f).map eP)) (some ((1 : Nat) : Int)) none = some (.tuple (((rw_ (rn c W X) f).drop 1).map eP), false) := by
    have hp := List.length_pos_iff.mpr (rw0 (f := f) ni)
    simp only [sliceD]
    rw [cut_from (by rw [List.length_map]; exact hp), List.map_drop]
  have t1 := sl (oe r1) (pint (cF_eq (e := e) (d := .int 1))) pno q
  have t2 := mk2 (G := tupD) (cF_eq (d := .str s_row)) t1 (tupD_eq (by simp))
  have j := judge_row ni.vd ni.ne (ps := (rw_ (rn c W X) f).drop 1) (by rw [List.length_drop]; have := rw_len (f := f) ni.vd; omega)
  have ne : ¬ ((rw_ (rn c W X) f).drop 1).map (·.1) = wd (rn c W X) := fun z => by
    have hp := List.length_pos_iff.mpr (wd0 ni)
    have := congrArg List.length z
    simp at this
    omega
  rw [decide_eq_false ne, Bool.false_and] at j
  have x3 := e2 (G := isntD) (oe (c2 (ov P.a5) (oe t2) j rfl)) (oc (d := .bool false)) (isnt false false)
  exact skip (tst x3)
/-- two places are drawn -/
theorem draw_place (P : Ph e c W X) : ∃ (u : Nat) (e' : Ev), u < c ∧ callM _law_next_F (consO (varO 1) (consO (ofE (opF (consO (varO 3) nilO) (PD.g1 lenD))) nilO)) e = some (.int (u : Int), false, e') ∧ Fx e' ∧ Only [1] e e' := by
  have hl : EE (opF (consO (varO 3) nilO) (PD.g1 lenD)) e (.int (c : Int)) false := e1 (ov P.a3) (by simp only [lenD, dW_len])
  have := P.c0
  have := P.c6
  obtain ⟨v, e', v0, v1, h, F, o⟩ := draw P.fx (ofE_eq hl) (by omega) (by omega)
  exact ⟨v.toNat, e', by omega, by rw [h, show ((v.toNat : Nat) : Int) = v by omega], F, o⟩
structure Pr (e : Ev) (c : Nat) (W : Nat → Str) (X : Nat → Int) (u t : Nat) : Prop where
  ph : Ph e c W X
  hu : u < c
  ht : t < c
  h0 : 0 ≤ pre c X 0 c
  a13 : At e 13 (.int (u : Int)) .sh
  a14 : At e 14 (.int (t : Int)) .sh
theorem Pr.keep {e' : Ev} {u t : Nat} (h : Pr e c W X u t) (F : Fx e') {ws : List Nat} (o : Only ws e e') (n : ∀ j ∈ [3, 4, 5, 13, 14], j ∉ ws) : Pr e' c W X u t :=
  ⟨h.ph.keep F o (n 3 (by simp)) (n 4 (by simp)) (n 5 (by simp)), h.hu, h.ht, h.h0, o.at h.a13 (n 13 (by simp)), o.at h.a14 (n 14 (by simp))⟩
theorem stmt10 (P : Ph e c W X) (h0 : 0 ≤ pre c X 0 c) : ∃ (u t : Nat) (e1 e2 : Ev), law_s10 e = some (.nx, e1) ∧ law_s11 e1 = some (.nx, e2) ∧ Pr e2 c W X u t := by
  obtain ⟨u, ea, hu, h1, F1, o1⟩ := draw_place P
  obtain ⟨eb, h2, F2, o2, a2⟩ := set_sh F1 (i := 13) h1 (by decide) (by decide)
  have P2 := (P.keep F1 o1 (by decide) (by decide) (by decide)).keep F2 o2 (by decide) (by decide) (by decide)
  obtain ⟨t, ec, ht, h3, F3, o3⟩ := draw_place P2
  obtain ⟨ed, h4, F4, o4, a4⟩ := set_sh F3 (i := 14) h3 (by decide) (by decide)
  have P4 := (P2.keep F3 o3 (by decide) (by decide) (by decide)).keep F4 o4 (by decide) (by decide) (by decide)
  exact ⟨u, t, eb, ed, h2, h4, P4, hu, ht, h0, o4.at (o3.at a2 (by decide)) (by decide), a4⟩
variable {u t : Nat}
abbrev due (c : Nat) (X : Nat → Int) (u t : Nat) : Int := pre c X u (stepsTo c u t)
theorem pre_map (u : Nat) : ∀ k : Nat, pre c X u k = ((List.range k).map fun i => X ((u + i) % c)).sum
  | 0 => rfl
  | k + 1 => by
    rw [List.range_succ, List.map_append, List.sum_append, ← pre_map u k]
    simp [pre]
theorem steps_int (P : Pr e c W X u t) : ((t : Int) - (u : Int)) % (c : Int) = ((stepsTo c u t : Nat) : Int) := by
  have := P.hu
  unfold stepsTo
  rw [Int.natCast_emod, Int.natCast_add, Int.natCast_sub (by omega), show (t : Int) + ((c : Int) - (u : Int)) = (t : Int) - u + c by omega, Int.add_emod_right]
theorem stmt12 (P : Pr e c W X u t) : ∃ e', law_s12 e = some (.nx, e') ∧ Pr e' c W X u t ∧ At e' 15 (.int (due c X u t)) .sh := by
  have hu := P.hu
  have hc6 := P.ph.c6
  have hs : stepsTo c u t < c := Nat.mod_lt _ P.ph.c0
  have hlen : ∀ {w : Ev}, At w 3 (.list (dW c W)) .sh → EE (opF (consO (varO 3) nilO) (PD.g1 lenD)) w (.int (c : Int)) false := fun a => e1 (ov a) (by simp only [lenD, dW_len])
  have md : ∀ j : Int, modD (.int j) (.int (c : Int)) = some (.int (j % (c : Int)), false) := fun j => by
    have := P.ph.c0
    simp only [modD]
    rw [if_pos (by omega)]
  have x1 : EE (opF (consO (ofE (opF (consO (varO 14) (consO (varO 13) nilO)) (PD.g2 subD))) (consO (ofE (opF (consO (varO 3) nilO) (PD.g1 lenD))) nilO)) (PD.g2 modD)) e (.int ((stepsTo c u t : Nat) : Int)) false := by
    rw [← steps_int P]
    exact e2 (oe (e2 (G := subD) (ov P.a14) (ov P.a13) (d := .int ((t : Int) - (u : Int))) (fr := false) rfl)) (oe (hlen P.ph.a3)) (md _)
  have r1 : rngI (consO (ofE (opF (consO (ofE (opF (consO (varO 14) (consO (varO 13) nilO)) (PD.g2 subD))) (consO (ofE (opF (consO (varO 3) nilO) (PD.g1 lenD))) nilO)) (PD.g2 modD))) nilO) e = some (rngL 0 (stepsTo c u t), e) := by
    have := rngI_eq (consO_eq (ofE_eq x1) nilO_eq) (derefs_cons deref_val derefs_nil) (by omega) (by omega)
    rwa [Int.toNat_natCast] at this
  rw [rngE] at r1
  have l1 := lc1 P.ph.fx (v := 22) (by decide) (f := law_e3) (fun i : Nat => PyData.int (i : Int)) (fun i => .int (X ((u + i) % c))) r1 (by rw [List.length_range]; exact size63 (by omega)) fun i hi w a22 wo => by
    have b3 : At w 3 (.list (dW c W)) .sh := (wo 3 (by decide)).trans P.ph.a3
    have b4 : At w 4 (.list (dX c X)) .sh := (wo 4 (by decide)).trans P.ph.a4
    have b13 : At w 13 (.int (u : Int)) .sh := (wo 13 (by decide)).trans P.a13
    have y1 := e2 (G := addD) (ov b13) (ov a22) (d := .int ((u : Int) + (i : Int))) (fr := false) rfl
    have y2 := e2 (oe y1) (oe (hlen b3)) (md _)
    rw [show ((u : Int) + (i : Int)) % (c : Int) = (((u + i) % c : Nat) : Int) by rw [Int.natCast_emod, Int.natCast_add]] at y2
    exact ⟨_, e2 (ov b4) (oe y2) (ixX (Nat.mod_lt _ P.ph.c0))⟩
  have s1 := e1 (oe l1) (sum_of (fun i => X ((u + i) % c)) (List.range (stepsTo c u t)))
  rw [← pre_map] at s1
  obtain ⟨e', h5, F5, o5, a5⟩ := set_sh P.ph.fx (i := 15) s1 (by decide) (by decide)
  exact ⟨e', h5, P.keep F5 o5 (by decide), a5⟩
theorem Pr.path (P : Pr e c W X u t) : ∃ L, Path (rn c W X) L (W u) (W t) (due c X u t) ∧ L.length ≤ (wd (rn c W X)).length := by
  have := ring_path (W := W) (X := X) P.ph.c0 u (stepsTo c u t)
  rw [Nat.mod_eq_of_lt P.hu, steps_back P.hu P.ht] at this
  refine ⟨_, this, ?_⟩
  have h1 : stepsTo c u t < c := Nat.mod_lt _ P.ph.c0
  have h2 := ring_words (X := X) P.ph.inj
  rw [List.length_map, List.length_range]
  omega
theorem Pr.row (P : Pr e c W X u t) : RowIs (rn c W X) (rowR c W X u) := ring_row P.ph.inj P.hu P.h0
theorem Pr.diff (P : Pr e c W X u t) : rowR c W X u (W u) - rowR c W X u (W t) = due c X u t := row_diff P.ph.inj P.hu P.ht
theorem Pr.w1 (P : Pr e c W X u t) : EE (opF (consO (varO 3) (consO (varO 13) nilO)) (PD.g2 ixD)) e (.str (W u)) false := e2 (ov P.ph.a3) (ov P.a13) (ixW P.hu)
theorem Pr.w2 (P : Pr e c W X u t) : EE (opF (consO (varO 3) (consO (varO 14) nilO)) (PD.g2 ixD)) e (.str (W t)) false := e2 (ov P.ph.a3) (ov P.a14) (ixW P.ht)
end
end K16

/-! K16V: how far two words of the ring are apart. -/
namespace K16
open PySem PD

section
variable {e : Ev} {c : Nat} {W : Nat → Str} {X : Nat → Int} {u t : Nat}
/-- what most_apart told -/
abbrev tM (ns : Ns) (a b : Str) (k : Int) (l : List Str) (f : Str → Int) : D := .tuple [.str s_most, .int k, .tuple (l.map .str), .tuple ((rw_ (K16.tight ns a b k) f).map eP)]
theorem imm_most {ns : Ns} {a b : Str} {k : Int} {l : List Str} {f : Str → Int} : immD (tM ns a b k l f) = true := by simp only [immD, immL, imm_strs, imm_eP, Bool.and_self]
structure Ms (e : Ev) (c : Nat) (W : Nat → Str) (X : Nat → Int) (u t : Nat) (l : List Str) (f : Str → Int) : Prop where
  pr : Pr e c W X u t
  a15 : At e 15 (.int (due c X u t)) .sh
  path : Path (rn c W X) l (W u) (W t) (due c X u t)
  len : l.length ≤ sizeLine
  row : RowIs (K16.tight (rn c W X) (W u) (W t) (due c X u t)) f
  eq : f (W u) - f (W t) = due c X u t
  a16 : At e 16 (tM (rn c W X) (W u) (W t) (due c X u t) l f) .sh
theorem Ms.keep {e' : Ev} {l : List Str} {f : Str → Int} (h : Ms e c W X u t l f) (F : Fx e') {ws : List Nat} (o : Only ws e e') (n : ∀ j ∈ [3, 4, 5, 13, 14, 15, 16], j ∉ ws) : Ms e' c W X u t l f :=
  ⟨h.pr.keep F o fun j hj => n j (by simp at hj ⊢; omega), o.at h.a15 (n 15 (by simp)), h.path, h.len, h.row, h.eq, o.at h.a16 (n 16 (by simp))⟩
theorem stmt13 (P : Pr e c W X u t) (a15 : At e 15 (.int (due c X u t)) .sh) : ∃ e' l f, law_s13 e = some (.nx, e') ∧ Ms e' c W X u t l f := by
  obtain ⟨L, hL, hl⟩ := P.path
  obtain ⟨l, f, k1, k2, k3, k4, s⟩ := most_row P.ph.nice P.row hL P.diff hl
  obtain ⟨e', h5, F5, o5, a5⟩ := set_sh P.ph.fx (i := 16) (c3 (ov P.ph.a5) (oe P.w1) (oe P.w2) s imm_most) (by decide) (by decide)
  exact ⟨e', l, f, h5, P.keep F5 o5 (by decide), o5.at a15 (by decide), k1, k2, k3, k4, a5⟩
theorem ne_mk (k k' : Str) (i j : Int) : neD (.tuple [.str k, .int i]) (.tuple [.str k', .int j]) = some (.bool (!(decide (k = k') && decide (i = j))), false) := by
  have : PyData.eqv (.tuple [.str k, .int i]) (.tuple [.str k', .int j]) = (decide (k = k') && decide (i = j)) := by
    rw [Bool.eq_iff_iff]
    simp [PyData.eqv, PyData.eqvAll]
  unfold neD
  rw [this, if_pos (by simp [PyData.plain, PyData.plainAll, PyData.depth, PyData.depthAll])]
theorem two_of {a b x y : D} : sliceD (.tuple [a, b, x, y]) none (some 2) = some (.tuple [a, b], false) := by
  simp [sliceD, cutD, HT.sIx]
theorem rest_of {a b x y : D} : sliceD (.tuple [a, b, x, y]) (some 2) none = some (.tuple [x, y], false) := by
  simp [sliceD, cutD, HT.sIx]
variable {l : List Str} {f : Str → Int}
theorem stmt14 (P : Ms e c W X u t l f) : law_s14 e = some (.nx, e) := by
  have q := sl (ov P.a16) pno (pint (cF_eq (e := e) (d := .int 2))) two_of
  have m := mk2 (G := tupD) (cF_eq (e := e) (d := .str s_most)) (varE_sh P.a15) (tupD_eq (by simp))
  have x1 := e2 (G := neD) (oe q) (oe m) (ne_mk _ _ _ _)
  rw [decide_eq_true rfl, decide_eq_true rfl] at x1
  have j := judge_most_yes P.pr.ph.nice P.path P.len P.row P.eq
  have x2 := e2 (G := isntD) (oe (c4 (ov P.pr.ph.a5) (oe P.pr.w1) (oe P.pr.w2) (ov P.a16) j rfl)) (oc (d := .bool true)) (isnt true true)
  exact skip (orT_eq (tst x1) (tst x2))
theorem tight_words {ns : Ns} (h : Nice ns) (a b : Str) (k : Int) : a ∈ wd (K16.tight ns a b k) ∧ b ∈ wd (K16.tight ns a b k) := by
  have := within_wd (ns := K16.tight ns a b k) s_ b a (-k) (by show lk (ns ++ _) _ = _; rw [lk_append, h.nb.1]; simp [lk])
  exact ⟨this.2, this.1⟩
theorem tight_ne {ns : Ns} {a b : Str} {k : Int} : K16.tight ns a b k ≠ [] := by unfold K16.tight; simp
theorem rw_ne {ns : Ns} (h : Nice ns) {a b : Str} {k : Int} : rw_ (K16.tight ns a b k) f ≠ [] := fun z => by
  have := (tight_words h a b k).1
  rw [show wd (K16.tight ns a b k) = [] by simpa using z] at this
  cases this
theorem lk_rw {ns : Ns} {w : Str} (h : w ∈ wd ns) : lk (rw_ ns f) w = some (f w) :=
  lk_mem (by rw [keys_map]; exact wd_nodup) (List.mem_map.mpr ⟨w, h, rfl⟩)
theorem stmt15 (P : Ms e c W X u t l f) : ∃ e', law_s15 e = some (.nx, e') ∧ Ms e' c W X u t l f ∧ At e' 17 (.dict (eM .int (rw_ (K16.tight (rn c W X) (W u) (W t) (due c X u t)) f))) .ow := by
  have d := dict_pairs (rw_ne (f := f) P.pr.ph.nice (a := W u) (b := W t) (k := due c X u t)) (by rw [keys_map]; exact wd_nodup)
  obtain ⟨e', h5, F5, o5, a5⟩ := set_ow P.pr.ph.fx (i := 17) (e1 (oe (e2 (ov P.a16) (oc (d := .int 3)) ixT3)) d) (by decide) (by decide) (by decide)
  exact ⟨e', h5, P.keep F5 o5 (by decide), a5⟩
/-- the number of a name's note -/
def mOf (ns : Ns) (n : Str) : Int := match lk ns n with
  | some (_, _, m) => m
  | none => 0
theorem path_sum {ns : Ns} : ∀ {l : List Str} {a b : Str} {k : Int}, Path ns l a b k → (l.map (mOf ns)).sum = k ∧ ∀ n ∈ l, ∃ v w m, lk ns n = some (v, w, m)
  | [], a, b, k, p => ⟨p.2.symm, fun _ h => by cases h⟩
  | n :: l, a, b, k, p => by
    obtain ⟨w, m, s, h1, h2, rfl⟩ := p
    obtain ⟨k1, k2⟩ := path_sum h2
    refine ⟨?_, fun x hx => ?_⟩
    · rw [List.map_cons, List.sum_cons, k1]
      simp [mOf, h1]
    · rcases List.mem_cons.mp hx with rfl | hx
      · exact ⟨_, _, _, h1⟩
      · exact k2 x hx
/-- the sum of the numbers of these notes -/
theorem sum_notes {ns : Ns} (F : Fx e) {g : EF} {fr : Bool} {l : List Str} {a b : Str} {k : Int} {o5 : Ow} (a5 : At e 5 (eNs ns) o5) (hg : EE g e (.tuple (l.map .str)) fr) (hl : l.length ≤ sizeLine) (p : Path ns l a b k) :
    EE (opF (consO (ofE (lcF [27] (seqI g) (nameG 27) yesT (opF (consO (ofE (opF (consO (varO 5) (consO (varO 27) nilO)) (PD.g2 ixD))) (consO (ofE (cF (.int 2))) nilO)) (PD.g2 ixD)))) nilO) (PD.g1 sumD)) e (.int k) false := by
  obtain ⟨h1, h2⟩ := path_sum p
  have l1 := lc1 F (v := 27) (by decide) (f := opF (consO (ofE (opF (consO (varO 5) (consO (varO 27) nilO)) (PD.g2 ixD))) (consO (ofE (cF (.int 2))) nilO)) (PD.g2 ixD)) PyData.str (fun n => .int (mOf ns n)) (seqI_tup hg) hl fun n hn w a27 wo => by
    obtain ⟨v, x, m, hk⟩ := h2 n hn
    have b5 : At w 5 (eNs ns) o5 := (wo 5 (by decide)).trans a5
    have : mOf ns n = m := by simp [mOf, hk]
    rw [this]
    exact ⟨_, e2 (oe (e2 (ov b5) (ov a27) (ix_e eN hk))) oc ixT2⟩
  have s1 := e1 (oe l1) (sum_of (mOf ns) l)
  rw [h1] at s1
  exact s1
theorem stmt16 (P : Ms e c W X u t l f) (a17 : At e 17 (.dict (eM .int (rw_ (K16.tight (rn c W X) (W u) (W t) (due c X u t)) f))) .ow) : law_s16 e = some (.nx, e) := by
  have ni := P.pr.ph.nice
  obtain ⟨w1, w2⟩ := tight_words ni (W u) (W t) (due c X u t)
  have y1 := e2 (ov a17) (oe P.pr.w1) (ix_e PyData.int (lk_rw (f := f) w1))
  have y2 := e2 (ov a17) (oe P.pr.w2) (ix_e PyData.int (lk_rw (f := f) w2))
  have y3 := e2 (G := subD) (oe y1) (oe y2) (d := .int (f (W u) - f (W t))) (fr := false) rfl
  rw [P.eq] at y3
  have x1 := e2 (G := neD) (oe y3) (ov P.a15) (ne_int _ _)
  rw [decide_eq_true rfl] at x1
  have r := row_is_spec ni.vd (rw_ne (f := f) ni (a := W u) (b := W t) (k := due c X u t)) (by rw [keys_map]; exact wd_nodup) fun n v w m hk => by
    have hk2 := lk_app (ms := [(s_, (W t, W u, -(due c X u t)))]) hk
    obtain ⟨h1, h2⟩ := within_wd (ns := K16.tight (rn c W X) (W u) (W t) (due c X u t)) n v w m hk2
    exact ⟨_, _, lk_rw h1, lk_rw h2, P.row n v w m hk2⟩
  have x2 := notT_eq (tru (c2 (ov P.pr.ph.a5) (oe (e2 (ov P.a16) (oc (d := .int 3)) ixT3)) r rfl))
  have s := sum_notes P.pr.ph.fx P.pr.ph.a5 (e2 (ov P.a16) (oc (d := .int 2)) ixT2) P.len P.path
  have x3 := e2 (G := neD) (oe s) (ov P.a15) (ne_int _ _)
  rw [decide_eq_true rfl] at x3
  exact skip (or3 (tst x1) x2 (tst x3))
theorem stmt17 (P : Ms e c W X u t l f) : law_s17 e = some (.nx, e) := by
  have ni := P.pr.ph.nice
  have y1 := e2 (ov P.a16) (oc (d := .int 0)) ixT0
  have y2 := e2 (G := addD) (ov P.a15) (oc (d := .int 1)) (d := .int (due c X u t + 1)) (fr := false) rfl
  have y3 := mk2 (G := tupD) y1 y2 (tupD_eq (by simp))
  have y4 := sl (ov P.a16) (pint (cF_eq (e := e) (d := .int 2))) pno rest_of
  have y5 := e2 (G := addD) (oe y3) (oe y4) (d := .tuple [.str s_most, .int (due c X u t + 1), .tuple (l.map .str), .tuple ((rw_ (K16.tight (rn c W X) (W u) (W t) (due c X u t)) f).map eP)]) (fr := false) (by
    simp only [addD]
    rw [if_pos (size63 (by simp))]
    rfl)
  have j := judge_most_no ni (k := due c X u t + 1) (ps := rw_ (K16.tight (rn c W X) (W u) (W t) (due c X u t)) f) P.path P.len (rw_len (ni.tight _ _ _)) (by omega)
  have x1 := e2 (G := isntD) (oe (c4 (ov P.pr.ph.a5) (oe P.pr.w1) (oe P.pr.w2) (oe y5) j rfl)) (oc (d := .bool false)) (isnt false false)
  have y6 := mk1 (G := tupD) (cF_eq (e := e) (d := .str s_any)) (tupD_eq (by simp))
  have x2 := e2 (G := isntD) (oe (c4 (ov P.pr.ph.a5) (oe P.pr.w1) (oe P.pr.w2) (oe y6) judge_any rfl)) (oc (d := .bool false)) (isnt false false)
  exact skip (orT_eq (tst x1) (tst x2))
/-! ### what follows -/
theorem imm_N (x : Nt Str) : immD (eN x) = true := rfl
theorem ne_N (x : Nt Str) : neD (eN x) (eN x) = some (.bool false, false) := by
  have : PyData.eqv (eN x) (eN x) = true := by simp [eN, PyData.eqv, PyData.eqvAll]
  unfold neD
  rw [this, if_pos (by simp [eN, PyData.plain, PyData.plainAll, PyData.depth, PyData.depthAll])]
  rfl
theorem den_den (x : Nt Str) : den (den x) = x := by
  obtain ⟨a, b, k⟩ := x
  simp only [den, Prod.mk.injEq, true_and]
  omega
theorem goal_turn (P : Ms e c W X u t l f) {k : Int} (a18 : At e 18 (.int k) .sh) : ∃ e', law_b1 e = some (.nx, e') ∧ Fx e' ∧ Only [12, 24] e e' := by
  have ni := P.pr.ph.nice
  obtain ⟨ea, h1, F1, o1, a24⟩ := set_sh P.pr.ph.fx (i := 24) (mk3 (G := tupD) P.pr.w1 P.pr.w2 (varE_sh a18) (tupD_eq (by simp))) (by decide) (by decide)
  have P1 := P.keep F1 o1 (by decide)
  have a24 : At ea 24 (eN (W u, W t, k)) .sh := a24
  have : ∃ s x, immD (.tuple [.str s, x]) = true ∧ decide (s = s_ring) = decide (due c X u t ≤ k) ∧ follows_F [eNs (rn c W X), eN (W u, W t, k)] = some (.tuple [.str s, x], false, .none) ∧ judge_follows_F [eNs (rn c W X), eN (W u, W t, k), .tuple [.str s, x]] = some (.bool true, false, .none) := by
    by_cases hk : due c X u t ≤ k
    · obtain ⟨names, q1, q2⟩ := follows_yes ni P.path hk
      exact ⟨_, _, imm_ring names, by rw [decide_eq_true hk]; simp, q1, q2⟩
    · obtain ⟨ps, q1, q2⟩ := follows_no ni P.pr.row (one := W u) (other := W t) (k := k) (by rw [P.pr.diff]; omega)
      exact ⟨_, _, imm_row ps, by rw [decide_eq_false hk]; decide, q1, q2⟩
  obtain ⟨s, x, im, q0, q1, q2⟩ := this
  obtain ⟨eb, h2, F2, o2, a12⟩ := set_sh F1 (i := 12) (c2 (ov P1.pr.ph.a5) (ov a24) q1 im) (by decide) (by decide)
  have P2 := P1.keep F2 o2 (by decide)
  have b24 := o2.at a24 (by decide)
  have b18 : At eb 18 (.int k) .sh := o2.at (o1.at a18 (by decide)) (by decide)
  have y1 := e2 (oe (e2 (ov a12) (oc (d := .int 0)) ixT0)) (oc (d := .str s_ring)) (eq_str s s_ring)
  have y2 := e2 (G := geD) (ov b18) (ov P2.a15) (d := .bool (decide (due c X u t ≤ k))) (fr := false) rfl
  have x1 := e2 (G := neD) (oe y1) (oe y2) (ne_bool _ _)
  rw [decide_eq_true q0] at x1
  have x2 := e2 (G := isntD) (oe (c3 (ov P2.pr.ph.a5) (ov b24) (ov a12) q2 rfl)) (oc (d := .bool true)) (isnt true true)
  have h3 : law_s20 eb = some (.nx, eb) := skip (orT_eq (tst x1) (tst x2))
  have d1 := c1 (ov b24) (denied_spec (W u, W t, k)) rfl
  have d2 := c1 (oe d1) (denied_spec (den (W u, W t, k))) rfl
  rw [den_den] at d2
  have x3 := e2 (G := neD) (oe d2) (ov b24) (ne_N _)
  have n1 := e1 (G := negD) (oc (e := eb) (d := .int 1)) (d := .int (-1)) (fr := false) rfl
  have n2 := e2 (G := subD) (oe n1) (ov b18) (d := .int (-1 - k)) (fr := false) rfl
  have n3 := mk3 (G := tupD) P2.pr.w2 P2.pr.w1 n2 (tupD_eq (by simp))
  have x4 := e2 (G := neD) (oe d1) (oe n3) (ne_N (W t, W u, -1 - k))
  have h4 : law_s21 eb = some (.nx, eb) := skip (orT_eq (tst x3) (tst x4))
  refine ⟨eb, ?_, F2, o1.trans o2 (by decide) (by decide)⟩
  unfold law_b1
  rw [seqF_eq (show law_s18 e = _ from h1), seqF_eq (show law_s19 ea = _ from h2), seqF_eq h3]
  exact h4
theorem goals : ∀ (ks : List Int) {e : Ev}, Ms e c W X u t l f → ∃ e', forL (nameG 18) law_b1 (ks.map .int) e = some (.nx, e') ∧ Ms e' c W X u t l f
  | [], e, P => ⟨e, rfl, P⟩
  | k :: ks, e, P => by
    have g1 : nameG 18 (.int k) e = some (e.set 18 (some (.int k, .sh))) := P.pr.ph.fx.setv (.int k) false (by decide)
    have F1 : Fx (e.set 18 (some (.int k, .sh))) := P.pr.ph.fx.put (by decide) (by decide) (fun z => nomatch z)
    have P1 := P.keep F1 only_set (by decide)
    obtain ⟨e2, h2, F2, o2⟩ := goal_turn P1 (set_at (by rw [P.pr.ph.fx.len]; decide))
    have P2 := P1.keep F2 o2 (by decide)
    obtain ⟨e3, h3, P3⟩ := goals ks P2
    exact ⟨e3, by simp only [List.map_cons, forL, g1, h2, h3], P3⟩
theorem stmt22 (P : Ms e c W X u t l f) : ∃ e', law_s22 e = some (.nx, e') ∧ Ms e' c W X u t l f := by
  obtain ⟨e', h, P'⟩ := goals [due c X u t - 1, due c X u t, due c X u t + 2] P
  have y1 := e2 (G := subD) (ov P.a15) (oc (d := .int 1)) (d := .int (due c X u t - 1)) (fr := false) rfl
  have y2 := e2 (G := addD) (ov P.a15) (oc (d := .int 2)) (d := .int (due c X u t + 2)) (fr := false) rfl
  have y3 := mk3 (G := lstD) y1 (varE_sh P.a15) y2 (lstD_eq (by simp))
  exact ⟨e', (forF_eq (seqI_list y3)).trans h, P'⟩
theorem stmt23 (P : Ms e c W X u t l f) : law_s23 e = some (.nx, e) := by
  have ni := P.pr.ph.nice
  have hu := P.pr.hu
  have m := most_any ni P.pr.row (one := W u) (other := s_lone) (X := fun x => x ≠ s_lone) (fun n v w k hk _ => by
    obtain ⟨i, hi, _, _, rfl, _⟩ := rn_inv hk
    exact P.pr.ph.lone _ (Nat.mod_lt _ P.pr.ph.c0)) (P.pr.ph.lone u hu) (fun z => z rfl)
  have y1 := c3 (ov P.pr.ph.a5) (oe P.pr.w1) (oc (d := .str s_lone)) m rfl
  have y2 := mk1 (G := tupD) (cF_eq (e := e) (d := .str s_any)) (tupD_eq (by simp))
  have n : neD (.tuple [.str s_any]) (.tuple [.str s_any]) = some (.bool false, false) := by rfl
  have x1 := e2 (G := neD) (oe y1) (oe y2) n
  let r := rowR c W X u
  have hr : RowIs (rn c W X) (fun x => if x = s_lone then r (W u) - 1000001 else r x) := fun n v w k hk => by
    have h0 := P.pr.row n v w k hk
    obtain ⟨i, hi, _, rfl, rfl, _⟩ := rn_inv hk
    show (if W i = s_lone then _ else _) - (if W ((i + 1) % c) = s_lone then _ else _) ≤ k
    rw [if_neg (P.pr.ph.lone i hi), if_neg (P.pr.ph.lone _ (Nat.mod_lt _ P.pr.ph.c0))]
    exact h0
  obtain ⟨ps, q1, q2⟩ := follows_no ni hr (one := W u) (other := s_lone) (k := 1000000) (by
    show _ < (if W u = s_lone then _ else _) - (if s_lone = s_lone then _ else _)
    rw [if_neg (P.pr.ph.lone u hu), if_pos rfl]
    omega)
  have p6 := e2 (G := powD) (oc (e := e) (d := .int 10)) (oc (d := .int 6)) (d := .int 1000000) (fr := false) (by simp [powD])
  have y3 := mk3 (G := tupD) P.pr.w1 (cF_eq (d := .str s_lone)) p6 (tupD_eq (by simp))
  have y4 := c2 (ov P.pr.ph.a5) (oe y3) q1 (imm_row ps)
  have x2 := e2 (G := neD) (oe (e2 (oe y4) (oc (d := .int 0)) ixT0)) (oc (d := .str s_row)) (ne_str _ _)
  rw [decide_eq_true rfl] at x2
  exact skip (orT_eq (tst x1) (tst x2))
end
end K16

/-! K16X: a turn whose ring is a bad one. -/
namespace K16
open PySem PD

section
variable {e : Ev} {c : Nat} {W : Nat → Str} {X : Nat → Int} {names : List Str} {b : Str} {k : Int}
abbrev tG (l : List Str) : D := .tuple [.str s_ring, .tuple (l.map .str)]
theorem most_ring' {ns : Ns} (h : Nice ns) {one other : Str} {l : List Str} {b : Str} {t : Int} (p : Path ns l b b t) (ht : t < 0) : ∃ d, most_apart_F [eNs ns, .str one, .str other] = some (.tuple [.str s_ring, d], false, .none) ∧ immD (.tuple [.str s_ring, d]) = true := by
  obtain ⟨names, b', t', _, _, _, _, s⟩ := sp_ring (h.plus2 one other) (path_app p) ht
  exact ⟨_, ma_ring h.vd h.nb s, imm_ring names⟩
theorem stmt24 (P : Ph e c W X) (a6 : At e 6 (tG names) .sh) (hl : names.length < 64) (p : Path (rn c W X) names b b k) (hk : k < 0) : law_s24 e = some (.nx, e) := by
  have ni := P.nice
  have s := sum_notes P.fx P.a5 (e2 (ov a6) (oc (d := .int 1)) ixT1) (size63 hl) p
  have x1 := e2 (G := geD) (oe s) (oc (d := .int 0)) (d := .bool (decide (0 ≤ k))) (fr := false) rfl
  rw [decide_eq_false (by omega)] at x1
  have w0 : EE (opF (consO (varO 3) (consO (ofE (cF (.int 0))) nilO)) (PD.g2 ixD)) e (.str (W 0)) false := e2 (ov P.a3) (oc (d := .int 0)) (ixW (i := 0) P.c0)
  obtain ⟨d', hd'⟩ := most_ring' ni (one := W 0) (other := W 0) p hk
  have y := c3 (ov P.a5) (oe w0) (oe w0) hd'.1 hd'.2
  have x2 := e2 (G := neD) (oe (e2 (oe y) (oc (d := .int 0)) ixT0)) (oc (d := .str s_ring)) (ne_str _ _)
  rw [decide_eq_true rfl] at x2
  exact skip (orT_eq (tst x1) (tst x2))
theorem stmt25 (P : Ph e c W X) (p : Path (rn c W X) names b b k) (hk : k < 0) : law_s25 e = some (.nx, e) := by
  have ni := P.nice
  have l1 := lc1 P.fx (v := 23) (by decide) (f := law_e6) PyData.str (fun w => eP (w, 0)) (seqI_list (e1 (ov P.a3) P.sorted)) (size63 (wd63 ni.vd)) fun w _ env a23 _ => ⟨_, mk2 (G := tupD) (varE_sh a23) (cF_eq (d := .int 0)) (tupD_eq (by simp))⟩
  have l2 : EE (opF (consO (ofE (lcF [23] (seqI (opF (consO (varO 3) nilO) (PD.g1 sortAD))) (nameG 23) yesT law_e6)) nilO) (PD.g1 tupleD)) e (.tuple ((rw_ (rn c W X) fun _ => 0).map eP)) false := by
    have := e1 (G := tupleD) (oe l1) rfl
    rw [List.map_map]
    exact this
  have t2 := mk2 (G := tupD) (cF_eq (d := .str s_row)) l2 (tupD_eq (by simp))
  have j := judge_row ni.vd ni.ne (ps := rw_ (rn c W X) fun _ => 0) (rw_len ni.vd)
  have nb : rowB (rn c W X) (rw_ (rn c W X) fun _ => 0) = false := by
    rw [Bool.eq_false_iff]
    intro z
    have := path_le ((rowB_iff ni.vd).mp z) p
    omega
  rw [nb, Bool.and_false] at j
  have x3 := e2 (G := isntD) (oe (c2 (ov P.a5) (oe t2) j rfl)) (oc (d := .bool false)) (isnt false false)
  exact skip (tst x3)
theorem stmt26 (P : Ph e c W X) : ∃ g e', g < c ∧ law_s26 e = some (.nx, e') ∧ Fx e' ∧ Only [1, 19] e e' ∧ At e' 19 (.str (nN g)) .sh := by
  obtain ⟨g, ea, hg, h1, F1, o1⟩ := draw_place P
  have hc := P.c6
  obtain ⟨s, g1, g2⟩ := name_n g (by omega)
  have y1 := opF_eq (g := PD.g1 strD) (consO_eq (ofE_eq h1) nilO_eq) (derefs_cons deref_val derefs_nil) g1
  have y2 := opF_eq (g := PD.g2 addD) (consO_eq (ofE_eq (cF_eq (e := e) (d := .str s_n))) (consO_eq (ofE_eq y1) nilO_eq)) (derefs_cons deref_val (derefs_cons deref_val derefs_nil)) g2
  obtain ⟨eb, h2, F2, o2, a2⟩ := set_sh F1 (i := 19) y2 (by decide) (by decide)
  exact ⟨g, eb, hg, h2, F2, o1.trans o2 (by decide) (by decide), a2⟩
theorem less_turn {g : Nat} (F : Fx e) (a5 : At e 5 (eNs (rn c W X)) .sh) (a19 : At e 19 (.str (nN g)) .sh) : ∀ p ∈ rn c W X, turnF [27] (nameG 27) law_t1 law_e7 (.str p.1) (wipeE e [27]) = some (if decide (p.1 ≠ nN g) = true then some (.tuple [.str p.1, eN p.2]) else none, wipeE e [27]) := fun p hp => by
  have hk : lk (rn c W X) p.1 = some p.2 := lk_mem (by rw [rn_keys]; exact range_nN_nodup) hp
  obtain ⟨w, h1, w27, wo, h2⟩ := name1 F (v := 27) (by decide) (.str p.1)
  have b19 : At w 19 (.str (nN g)) .sh := (wo 19 (by decide)).trans a19
  have b5 : At w 5 (eNs (rn c W X)) .sh := (wo 5 (by decide)).trans a5
  have t1 : law_t1 w = some (!decide (p.1 = nN g), w) := tst (e2 (ov w27) (ov b19) (ne_str _ _))
  have x1 : law_e7 w = some (.tuple [.str p.1, eN p.2], false, w) := mk2 (G := tupD) (varE_sh w27) (e2 (ov b5) (ov w27) (ix_e eN hk)) (tupD_eq (by simp))
  unfold turnF
  by_cases c1 : p.1 = nN g
  · rw [decide_eq_true c1, Bool.not_true] at t1
    rw [if_neg (by simp [c1])]
    simp only [h1, t1, h2]
  · rw [decide_eq_false c1, Bool.not_false] at t1
    rw [if_pos (by simp [c1])]
    simp only [h1, t1, x1, h2]
theorem stmt27 (P : Ph e c W X) {g : Nat} (a19 : At e 19 (.str (nN g)) .sh) : ∃ e', law_s27 e = some (.nx, e') ∧ Fx e' ∧ Only [5, 20] e e' ∧ At e' 20 (eNs (less c W X g)) .ow := by
  have hc := P.c6
  have F1 : Fx (e.set 5 (some (eNs (rn c W X), .sh))) := P.fx.put (by decide) (by decide) (fun z => nomatch z)
  have o1 : Only [5] e (e.set 5 (some (eNs (rn c W X), .sh))) := only_set
  have k5 : At (e.set 5 (some (eNs (rn c W X), .sh))) 5 (eNs (rn c W X)) .sh := set_at (by rw [P.fx.len]; decide)
  have k19 := o1.at a19 (by decide)
  have dA : dictAt 5 e = some (eM eN (rn c W X), e.set 5 (some (eNs (rn c W X), .sh))) := by
    have a5 : e[5]? = some (some (.dict (eM eN (rn c W X)), .ow)) := P.a5
    simp only [dictAt, a5]
    rfl
  generalize e.set 5 (some (eNs (rn c W X), .sh)) = ea at *
  have l1 : lcL [27] (nameG 27) law_t1 law_e7 (keysOf (eM eN (rn c W X))) (wipeE ea [27]) = some ((less c W X g).map fun p => .tuple [.str p.1, eN p.2], wipeE ea [27]) := by
    have : keysOf (eM eN (rn c W X)) = (rn c W X).map fun p => .str p.1 := by simp [keysOf, eM]
    rw [this]
    refine (lcL_map (fun p : Str × Nt Str => PyData.str p.1) (fun p => if decide (p.1 ≠ nN g) = true then some (.tuple [.str p.1, eN p.2]) else none) (rn c W X) (less_turn F1 k5 k19)).trans ?_
    rw [filterMap_if (fun p : Str × Nt Str => decide (p.1 ≠ nN g))]
    rfl
  have z : (eM eN (rn c W X)).length ≤ sizeLine := by rw [eM_length]; simp only [rn, List.length_map, List.length_range]; exact size63 (by omega)
  have l2 := lcDF_eq (vs := [27]) (fk := keysOf) (g := nameG 27) (t := law_t1) (f := law_e7) dA z (by rw [keysOf, List.length_map]; exact z) (no_own F1 (by decide)) l1
  rw [unw_ext (by rw [wipeE_length]) fun j hj => wipeE_out hj] at l2
  have d := opF_eq (g := PD.g1 dictAD) (consO_eq (ofE_eq l2) nilO_eq) (derefs_cons deref_val derefs_nil) (dict_n eN (ms := less c W X g) (less_vd (by omega)).nodup)
  obtain ⟨e', h5, F5, o5, a5⟩ := set_ow F1 (i := 20) d (by decide) (by decide) (by decide)
  exact ⟨e', h5, F5, o1.trans o5 (by decide) (by decide), a5⟩
theorem stmt28 {e0 : Ev} (P : Ph e0 c W X) {g : Nat} (hg : g < c) (a6 : At e 6 (tG names) .sh) (hl : names.length < 64) (a20 : At e 20 (eNs (less c W X g)) .ow) : law_s28 e = some (.nx, e) := by
  have hc := P.c6
  have hr := less_row (W := W) (X := X) P.inj hg
  obtain ⟨f, hf, s⟩ := sp_row (less_vd (W := W) (X := X) (g := g) (by omega)) hr
  have y := c1 (ov a20) s (imm_row _)
  have x1 := e2 (G := neD) (oe (e2 (oe y) (oc (d := .int 0)) ixT0)) (oc (d := .str s_row)) (ne_str _ _)
  rw [decide_eq_true rfl] at x1
  have j := judge_ring (ns := less c W X g) hl
  rw [no_ring hr] at j
  have x2 := e2 (G := isntD) (oe (c2 (ov a20) (ov a6) j rfl)) (oc (d := .bool false)) (isnt false false)
  exact skip (orT_eq (tst x1) (tst x2))
theorem stmt29 {T : D} (P : Ph e c W X) (hT : Told c W X T) (a6 : At e 6 T .sh) (a7 : At e 7 (.int (pre c X 0 c)) .sh) : ∃ e', law_s29 e = some (.nx, e') ∧ Fx e' := by
  have ge := e2 (G := geD) (ov a7) (oc (d := .int 0)) (d := .bool (decide (0 ≤ pre c X 0 c))) (fr := false) rfl
  cases hT with
  | row f h hf =>
    rw [decide_eq_true h] at ge
    obtain ⟨u, t, ea, eb, h10, h11, P11⟩ := stmt10 P h
    obtain ⟨ec, h12, P12, a15⟩ := stmt12 P11
    obtain ⟨ed, l, f', h13, P13⟩ := stmt13 P12 a15
    obtain ⟨ef, h15, P15, a17⟩ := stmt15 P13
    obtain ⟨eg, h22, P22⟩ := stmt22 P15
    refine ⟨eg, ?_, P22.pr.ph.fx⟩
    unfold law_s29
    rw [ifF_yes (tst ge), seqF_eq (stmt8 P hf a6), seqF_eq (stmt9 P a6), seqF_eq h10, seqF_eq h11, seqF_eq h12, seqF_eq h13, seqF_eq (stmt14 P13), seqF_eq h15, seqF_eq (stmt16 P15 a17), seqF_eq (stmt17 P15), seqF_eq h22]
    exact stmt23 P22
  | ring names b t h k1 k2 k3 k4 =>
    rw [decide_eq_false (by omega)] at ge
    obtain ⟨g, ea, hg, h26, F26, o26, a19⟩ := stmt26 P
    have P26 := P.keep F26 o26 (by decide) (by decide) (by decide)
    obtain ⟨eb, h27, F27, o27, a20⟩ := stmt27 P26 a19
    have b6 := o27.at (o26.at a6 (by decide)) (by decide)
    refine ⟨eb, ?_, F27⟩
    unfold law_s29
    rw [ifF_no (tst ge), seqF_eq (stmt24 P a6 k2 k3 k4), seqF_eq (stmt25 P k3 k4), seqF_eq h26, seqF_eq h27]
    exact stmt28 P26 hg b6 k2 a20
end
end K16

/-! K16Y: the ways beside. -/
namespace K16
open PySem PD

theorem dig : ∀ i : Nat, i < 3 → strD (.int (i : Int)) = some (.str ⟨#[48 + i]⟩, false)
  | 0, _ => by kernel_rfl
  | 1, _ => by kernel_rfl
  | 2, _ => by kernel_rfl
  | n + 3, h => absurd h (by omega)
theorem name_w1 : ∀ p : Nat, p < 3 → addD (.str s_w) (.str ⟨#[48 + p]⟩) = some (.str ⟨#[119, 48 + p]⟩, false)
  | 0, _ => by kernel_rfl
  | 1, _ => by kernel_rfl
  | 2, _ => by kernel_rfl
  | n + 3, h => absurd h (by omega)
theorem name_w2 : ∀ p : Nat, p < 3 → addD (.str ⟨#[119, 48 + p]⟩) (.str s_x) = some (.str ⟨#[119, 48 + p, 120]⟩, false)
  | 0, _ => by kernel_rfl
  | 1, _ => by kernel_rfl
  | 2, _ => by kernel_rfl
  | n + 3, h => absurd h (by omega)
theorem name_w3 : ∀ p a : Nat, p < 3 → a < 3 → addD (.str ⟨#[119, 48 + p, 120]⟩) (.str ⟨#[48 + a]⟩) = some (.str (wN p a), false)
  | 0, 0, _, _ => by kernel_rfl
  | 1, 0, _, _ => by kernel_rfl
  | 2, 0, _, _ => by kernel_rfl
  | 0, 1, _, _ => by kernel_rfl
  | 1, 1, _, _ => by kernel_rfl
  | 2, 1, _, _ => by kernel_rfl
  | 0, 2, _, _ => by kernel_rfl
  | 1, 2, _, _ => by kernel_rfl
  | 2, 2, _, _ => by kernel_rfl
  | n + 3, _, h, _ => absurd h (by omega)
  | 0, n + 3, _, h => absurd h (by omega)
  | 1, n + 3, _, h => absurd h (by omega)
  | 2, n + 3, _, h => absurd h (by omega)
theorem name_k1 : ∀ p : Nat, p < 3 → addD (.str s_k) (.str ⟨#[48 + p]⟩) = some (.str ⟨#[107, 48 + p]⟩, false)
  | 0, _ => by kernel_rfl
  | 1, _ => by kernel_rfl
  | 2, _ => by kernel_rfl
  | n + 3, h => absurd h (by omega)
theorem name_k2 : ∀ p : Nat, p < 3 → addD (.str ⟨#[107, 48 + p]⟩) (.str s_y) = some (.str ⟨#[107, 48 + p, 121]⟩, false)
  | 0, _ => by kernel_rfl
  | 1, _ => by kernel_rfl
  | 2, _ => by kernel_rfl
  | n + 3, h => absurd h (by omega)
theorem name_k3 : ∀ p a : Nat, p < 3 → a < 3 → addD (.str ⟨#[107, 48 + p, 121]⟩) (.str ⟨#[48 + a]⟩) = some (.str (kN p a), false)
  | 0, 0, _, _ => by kernel_rfl
  | 1, 0, _, _ => by kernel_rfl
  | 2, 0, _, _ => by kernel_rfl
  | 0, 1, _, _ => by kernel_rfl
  | 1, 1, _, _ => by kernel_rfl
  | 2, 1, _, _ => by kernel_rfl
  | 0, 2, _, _ => by kernel_rfl
  | 1, 2, _, _ => by kernel_rfl
  | 2, 2, _, _ => by kernel_rfl
  | n + 3, _, h, _ => absurd h (by omega)
  | 0, n + 3, _, h => absurd h (by omega)
  | 1, n + 3, _, h => absurd h (by omega)
  | 2, n + 3, _, h => absurd h (by omega)
/-! ### drawing them -/
theorem drawn_rng {e : Ev} (F : Fx e) : ∃ (n : Nat) (e' : Ev), 1 ≤ n ∧ n ≤ 3 ∧ rngI (consO (ofE (opF (consO (ofE (cF (.int 1))) (consO (ofE (callM _law_next_F (consO (varO 1) (consO (ofE (cF (.int 3))) nilO)))) nilO)) (PD.g2 addD))) nilO) e = some (rngL 0 n, e') ∧ Fx e' ∧ Only [1] e e' := by
  obtain ⟨v, ea, v0, v1, h1, F1, o1⟩ := draw F (f := ofE (cF (.int 3))) rfl (by decide) (by decide)
  have h2 := opF_eq (g := PD.g2 addD) (d := .int (1 + v)) (fr := false) (consO_eq (ofE_eq (cF_eq (e := e) (d := .int 1))) (consO_eq (ofE_eq h1) nilO_eq)) (derefs_cons deref_val (derefs_cons deref_val derefs_nil)) rfl
  have h3 := rngI_eq (consO_eq (ofE_eq h2) nilO_eq) (derefs_cons deref_val derefs_nil) (by omega) (by omega)
  exact ⟨(1 + v).toNat, ea, by omega, by omega, h3, F1, o1⟩
abbrev dL (w : List Int) : D := .list (w.map .int)
theorem all_of {α : Type} {c : α → D} {P : α → Prop} : ∀ {ys : List D}, (∀ y ∈ ys, ∃ x, P x ∧ y = c x) → ∃ xs : List α, ys = xs.map c ∧ ∀ x ∈ xs, P x
  | [], _ => ⟨[], rfl, fun _ h => by cases h⟩
  | y :: ys, h => by
    obtain ⟨x, hx, rfl⟩ := h y List.mem_cons_self
    obtain ⟨xs, rfl, h2⟩ := all_of fun z hz => h z (List.mem_cons_of_mem _ hz)
    exact ⟨x :: xs, rfl, fun z hz => by
      rcases List.mem_cons.mp hz with rfl | hz
      · exact hx
      · exact h2 z hz⟩
theorem e8_draw {e : Ev} (F : Fx e) : ∃ d fr e', law_e8 e = some (d, fr, e') ∧ (∃ x, True ∧ d = .int x) ∧ Fx e' ∧ Only [1] e e' := by
  obtain ⟨d, fr, e', h, ⟨x, hx⟩, F2, o2⟩ := draw_less (lim := 9) (k := 3) F (by decide) (by decide)
  exact ⟨d, fr, e', h, ⟨x, trivial, hx⟩, F2, o2⟩
theorem e9_draw {e : Ev} (F : Fx e) : ∃ d fr e', law_e9 e = some (d, fr, e') ∧ (∃ w : List Int, (w ≠ [] ∧ w.length ≤ 3) ∧ d = dL w) ∧ Fx e' ∧ Only [1] e e' := by
  obtain ⟨n, ea, n1, n3, h1, F1, o1⟩ := drawn_rng F
  obtain ⟨ys, eb, h2, hl, hp, F2, o2⟩ := lc_drawn (v := 22) (by decide) (f := law_e8) (P := fun d => ∃ x, True ∧ d = .int x) (fun e F => e8_draw F) F1 h1 (by rw [rngE, List.length_map, List.length_range]; omega)
  obtain ⟨w, rfl, _⟩ := all_of (c := PyData.int) hp
  rw [rngE, List.length_map, List.length_map, List.length_range] at hl
  exact ⟨_, _, eb, h2, ⟨w, ⟨fun z => by rw [z] at hl; simp at hl; omega, by omega⟩, rfl⟩, F2, o1.trans o2 (by decide) (by decide)⟩
theorem stmt30 {e : Ev} (F : Fx e) : ∃ e' ways, law_s30 e = some (.nx, e') ∧ Fx e' ∧ ways ≠ [] ∧ ways.length ≤ 3 ∧ (∀ w ∈ ways, w ≠ [] ∧ w.length ≤ 3) ∧ At e' 8 (.list (ways.map dL)) .ow := by
  obtain ⟨n, ea, n1, n3, h1, F1, o1⟩ := drawn_rng F
  obtain ⟨ys, eb, h2, hl, hp, F2, o2⟩ := lc_drawn (v := 25) (by decide) (f := law_e9) (P := fun d => ∃ w : List Int, (w ≠ [] ∧ w.length ≤ 3) ∧ d = dL w) (fun e F => e9_draw F) F1 h1 (by rw [rngE, List.length_map, List.length_range]; omega)
  obtain ⟨ways, rfl, hw⟩ := all_of (c := dL) hp
  rw [rngE, List.length_map, List.length_map, List.length_range] at hl
  obtain ⟨e', h5, F5, o5, a5⟩ := set_ow F2 (i := 8) h2 (by decide) (by decide) (by decide)
  exact ⟨e', ways, h5, F5, fun z => by rw [z] at hl; simp at hl; omega, by omega, hw, a5⟩
/-! ### building them -/
theorem inner_is {p n : Nat} (h : 0 < n) : [PyData.str s_s] ++ (List.range (n - 1)).map (fun i => PyData.str (wN p i)) ++ [PyData.str s_t] = (List.range (n + 1)).map fun i => PyData.str (nd p n i) := by
  obtain ⟨m, rfl⟩ : ∃ m, n = m + 1 := ⟨n - 1, by omega⟩
  rw [List.range_succ_eq_map, List.map_cons, List.map_map, List.range_succ, List.map_append, Nat.add_sub_cancel, List.append_assoc, List.singleton_append]
  refine congr (congrArg List.cons (by simp [nd])) ?_
  refine congr (congrArg HAppend.hAppend (List.map_congr_left fun i hi => ?_)) ?_
  · have hi := List.mem_range.mp hi
    show PyData.str (wN p i) = .str (nd p (m + 1) (i + 1))
    unfold nd
    rw [if_neg (by omega), if_neg (by omega)]
    rfl
  · simp [nd]
abbrev dI (p n : Nat) : D := .list ((List.range (n + 1)).map fun i => .str (nd p n i))
theorem range_at {n a : Nat} (g : Nat → D) (h : a < n) : ((List.range n).map g)[a]? = some (g a) := by simp [h]
section
variable {e : Ev} {ways : List (List Int)} {p : Nat} {w : List Int} {acc : Ns}
structure Wp (e : Ev) (ways : List (List Int)) (acc : Ns) : Prop where
  fx : Fx e
  hw : ∀ w ∈ ways, w ≠ [] ∧ w.length ≤ 3
  hl : ways.length ≤ 3
  a8 : At e 8 (.list (ways.map dL)) .ow
  a9 : At e 9 (eNs acc) .ow
theorem Wp.keep {e' : Ev} (h : Wp e ways acc) (F : Fx e') {ws : List Nat} (o : Only ws e e') (n8 : 8 ∉ ws) (n9 : 9 ∉ ws) : Wp e' ways acc := ⟨F, h.hw, h.hl, o.at h.a8 n8, o.at h.a9 n9⟩
theorem way_at {o8 o10 : Ow} (a8 : At e 8 (.list (ways.map dL)) o8) (a10 : At e 10 (.int (p : Int)) o10) (hp : ways[p]? = some w) : EE (opF (consO (varO 8) (consO (varO 10) nilO)) (PD.g2 ixD)) e (dL w) false :=
  e2 (ov a8) (ov a10) (ixL (by rw [List.getElem?_map, hp]; rfl))
theorem len_at {o8 o10 : Ow} (a8 : At e 8 (.list (ways.map dL)) o8) (a10 : At e 10 (.int (p : Int)) o10) (hp : ways[p]? = some w) : EE (opF (consO (ofE (opF (consO (varO 8) (consO (varO 10) nilO)) (PD.g2 ixD))) nilO) (PD.g1 lenD)) e (.int (w.length : Int)) false :=
  e1 (oe (way_at a8 a10 hp)) (by simp only [lenD, List.length_map])
theorem lt_of_at (hp : ways[p]? = some w) : p < ways.length := by
  by_cases h : p < ways.length
  · exact h
  · rw [List.getElem?_eq_none (by omega)] at hp
    cases hp
theorem stmt32 (P : Wp e ways acc) (a10 : At e 10 (.int (p : Int)) .sh) (hp : ways[p]? = some w) : ∃ e', law_s32 e = some (.nx, e') ∧ Wp e' ways acc ∧ At e' 10 (.int (p : Int)) .sh ∧ At e' 21 (dI p w.length) .ow := by
  have hp3 : p < 3 := by have := lt_of_at hp; have := P.hl; omega
  obtain ⟨w0, w3⟩ := P.hw w (List.mem_of_getElem? hp)
  have wl := List.length_pos_iff.mpr w0
  have y1 := e2 (G := subD) (oe (len_at P.a8 a10 hp)) (oc (d := .int 1)) (d := .int ((w.length : Int) - 1)) (fr := false) rfl
  have r1 := rngI_eq (consO_eq (ofE_eq y1) nilO_eq) (derefs_cons deref_val derefs_nil) (by omega) (by omega)
  rw [show ((w.length : Int) - 1).toNat = w.length - 1 by omega, rngE] at r1
  have l1 := lc1 P.fx (v := 22) (by decide) (f := law_e10) (fun i : Nat => PyData.int (i : Int)) (fun i => .str (wN p i)) r1 (by rw [List.length_range]; exact size63 (by omega)) fun i hi env a22 wo => by
    have hi := List.mem_range.mp hi
    have b10 : At env 10 (.int (p : Int)) .sh := (wo 10 (by decide)).trans a10
    have z1 := e2 (G := addD) (oc (e := env) (d := .str s_w)) (oe (e1 (G := strD) (ov b10) (dig p hp3))) (name_w1 p hp3)
    have z2 := e2 (G := addD) (oe z1) (oc (d := .str s_x)) (name_w2 p hp3)
    exact ⟨_, e2 (G := addD) (oe z2) (oe (e1 (G := strD) (ov a22) (dig i (by omega)))) (name_w3 p i hp3 (by omega))⟩
  have m1 := mk1 (G := lstD) (cF_eq (e := e) (d := .str s_s)) (lstD_eq (by simp))
  have m2 := mk1 (G := lstD) (cF_eq (e := e) (d := .str s_t)) (lstD_eq (by simp))
  have addL : ∀ {xs ys : List D}, xs.length + ys.length < 64 → addD (.list xs) (.list ys) = some (.list (xs ++ ys), true) := fun h => by simp only [addD, if_pos (size63 h)]
  have x1 := e2 (G := addD) (oe m1) (oe l1) (addL (by simp; omega))
  have x2 := e2 (G := addD) (oe x1) (oe m2) (addL (by simp; omega))
  rw [inner_is wl] at x2
  obtain ⟨e', h5, F5, o5, a5⟩ := set_ow P.fx (i := 21) x2 (by decide) (by decide) (by decide)
  exact ⟨e', h5, P.keep F5 o5 (by decide) (by decide), o5.at a10 (by decide), a5⟩
theorem put9 (P : Wp e ways acc) {k : Str} {x : Nt Str} {fk : OF} {f : EF} {fr : Bool} (h : EE f e (eN x) fr) (hk : OV fk e (.str k)) (hn : lk acc k = none) (hz : acc.length < 60) : ∃ e', asgF f (subG 9 fk) e = some (.nx, e') ∧ Wp e' ways (acc ++ [(k, x)]) ∧ Only [9] e e' := by
  obtain ⟨o, k1, k2⟩ := hk
  have a9 : e[9]? = some (some (.dict (eM eN acc), .ow)) := P.a9
  have z : (eM eN acc).length < sizeLine := by rw [eM_length]; exact size63' (by omega)
  have pt : putP (eM eN acc) (.str k) (eN x) = eM eN (acc ++ [(k, x)]) := by rw [put_e, put_new hn]
  have pd : putD (.dict (eM eN acc)) (.str k) (eN x) = some (eNs (acc ++ [(k, x)])) := by
    simp only [putD, keyD, if_pos z, pt]
    rfl
  have s1 : subG 9 fk (eN x) e = some (e.set 9 (some (eNs (acc ++ [(k, x)]), .ow))) := by
    have no : ¬ (Ow.ow = Ow.sh) := fun z => nomatch z
    simp only [subG, a9, if_neg no, k1, k2, pd]
  have hl9 : 9 < e.length := by rw [P.fx.len]; decide
  refine ⟨_, asgF_eq h s1, ⟨P.fx.put (by decide) (by decide) (fun _ => by decide), P.hw, P.hl, (only_set (e := e) (i := 9)).at P.a8 (by decide), set_at hl9⟩, only_set⟩
theorem cell (P : Wp e ways acc) (a10 : At e 10 (.int (p : Int)) .sh) (hp : ways[p]? = some w) (a21 : At e 21 (dI p w.length) .ow) {a : Nat} (ha : a < w.length) (a22 : At e 22 (.int (a : Int)) .sh) (hn : lk acc (kN p a) = none) (hz : acc.length < 60) :
    ∃ e', law_b2 e = some (.nx, e') ∧ Wp e' ways (acc ++ [(kN p a, (nd p w.length a, nd p w.length (a + 1), w.getD a 0))]) ∧ Only [9] e e' := by
  have hp3 : p < 3 := by have := lt_of_at hp; have := P.hl; omega
  obtain ⟨w0, w3⟩ := P.hw w (List.mem_of_getElem? hp)
  have i1 := e2 (G := ixD) (ov a21) (ov a22) (ixL (i := a) (x := .str (nd p w.length a)) (range_at (fun i => PyData.str (nd p w.length i)) (by omega)))
  have y1 := e2 (G := addD) (ov a22) (oc (d := .int 1)) (d := .int ((a + 1 : Nat) : Int)) (fr := false) rfl
  have i2 := e2 (G := ixD) (ov a21) (oe y1) (ixL (i := a + 1) (x := .str (nd p w.length (a + 1))) (range_at (fun i => PyData.str (nd p w.length i)) (by omega)))
  have i3 := e2 (G := ixD) (oe (way_at P.a8 a10 hp)) (ov a22) (ixL (i := a) (x := .int (w.getD a 0)) (by
    rw [List.getElem?_map, List.getElem?_eq_getElem ha, List.getD_eq_getElem?_getD, List.getElem?_eq_getElem ha]
    rfl))
  have m := mk3 (G := tupD) i1 i2 i3 (tupD_eq (by simp))
  have k1 := e2 (G := addD) (oc (e := e) (d := .str s_k)) (oe (e1 (G := strD) (ov a10) (dig p hp3))) (name_k1 p hp3)
  have k2 := e2 (G := addD) (oe k1) (oc (d := .str s_y)) (name_k2 p hp3)
  have k3 := e2 (G := addD) (oe k2) (oe (e1 (G := strD) (ov a22) (dig a (by omega)))) (name_k3 p a hp3 (by omega))
  exact put9 P (x := (nd p w.length a, nd p w.length (a + 1), w.getD a 0)) m (oe k3) hn hz
theorem cells (hp : ways[p]? = some w) : ∀ (as : List Nat) {e : Ev} {acc : Ns}, Wp e ways acc → At e 10 (.int (p : Int)) .sh → At e 21 (dI p w.length) .ow → (∀ a ∈ as, a < w.length) → ((acc.map (·.1)) ++ as.map (kN p)).Nodup → acc.length + as.length < 60 →
    ∃ e', forL (nameG 22) law_b2 (as.map fun a : Nat => .int (a : Int)) e = some (.nx, e') ∧ Wp e' ways (acc ++ as.map fun a => (kN p a, (nd p w.length a, nd p w.length (a + 1), w.getD a 0)))
  | [], e, acc, P, _, _, _, _, _ => ⟨e, rfl, by simpa using P⟩
  | a :: as, e, acc, P, a10, a21, ha, hn, hz => by
    have g1 : nameG 22 (.int (a : Int)) e = some (e.set 22 (some (.int (a : Int), .sh))) := P.fx.setv _ false (by decide)
    have F1 : Fx (e.set 22 (some (.int (a : Int), .sh))) := P.fx.put (by decide) (by decide) (fun z => nomatch z)
    have o1 : Only [22] e (e.set 22 (some (.int (a : Int), .sh))) := only_set
    have hna : lk acc (kN p a) = none := lk_none.mpr fun z => by
      rw [List.map_cons, List.nodup_append] at hn
      exact hn.2.2 _ z _ List.mem_cons_self rfl
    have hz' : acc.length + (as.length + 1) < 60 := hz
    obtain ⟨e2, h2, P2, o2⟩ := cell (P.keep F1 o1 (by decide) (by decide)) (o1.at a10 (by decide)) hp (o1.at a21 (by decide)) (ha a List.mem_cons_self) (set_at (by rw [P.fx.len]; decide)) hna (by omega)
    obtain ⟨e3, h3, P3⟩ := cells hp as P2 (o2.at (o1.at a10 (by decide)) (by decide)) (o2.at (o1.at a21 (by decide)) (by decide)) (fun b hb => ha b (List.mem_cons_of_mem _ hb)) (by simpa using hn) (by rw [List.length_append, List.length_singleton]; omega)
    refine ⟨e3, by simp only [List.map_cons, forL, g1, h2, h3], ?_⟩
    rw [List.append_assoc] at P3
    exact P3
theorem place_turn (P : Wp e ways acc) (a10 : At e 10 (.int (p : Int)) .sh) (hp : ways[p]? = some w) (hn : ((acc.map (·.1)) ++ (wayN p w).map (·.1)).Nodup) (hz : acc.length < 50) : ∃ e', law_b3 e = some (.nx, e') ∧ Wp e' ways (acc ++ wayN p w) := by
  obtain ⟨w0, w3⟩ := P.hw w (List.mem_of_getElem? hp)
  obtain ⟨ea, h1, P1, b10, b21⟩ := stmt32 P a10 hp
  rw [wayN_keys] at hn
  obtain ⟨eb, h2, P2⟩ := cells hp (List.range w.length) P1 b10 b21 (fun a ha => List.mem_range.mp ha) hn (by rw [List.length_range]; omega)
  have r1 := rngI_eq (consO_eq (ofE_eq (len_at P1.a8 b10 hp)) nilO_eq) (derefs_cons deref_val derefs_nil) (by omega) (by omega)
  rw [Int.toNat_natCast, rngE] at r1
  have h3 : law_s34 ea = some (.nx, eb) := (forF_eq r1).trans h2
  refine ⟨eb, ?_, P2⟩
  unfold law_b3
  rw [seqF_eq h1]
  exact h3
theorem places : ∀ (rest : List (List Int)) (p : Nat) {e : Ev} {acc : Ns}, Wp e ways acc → ways.drop p = rest → ((acc.map (·.1)) ++ (bsF p rest).map (·.1)).Nodup → acc.length + 3 * rest.length < 40 →
    ∃ e', forL (nameG 10) law_b3 ((List.range rest.length).map fun i : Nat => .int ((p + i : Nat) : Int)) e = some (.nx, e') ∧ Wp e' ways (acc ++ bsF p rest)
  | [], p, e, acc, P, _, _, _ => ⟨e, rfl, by simpa [bsF] using P⟩
  | w :: rest, p, e, acc, P, hd, hn, hz => by
    have hp : ways[p]? = some w := by
      have := congrArg (fun l => l[0]?) hd
      simpa using this
    have hz : acc.length + 3 * (rest.length + 1) < 40 := hz
    have g1 : nameG 10 (.int (p : Int)) e = some (e.set 10 (some (.int (p : Int), .sh))) := P.fx.setv _ false (by decide)
    have F1 : Fx (e.set 10 (some (.int (p : Int), .sh))) := P.fx.put (by decide) (by decide) (fun z => nomatch z)
    have o1 : Only [10] e (e.set 10 (some (.int (p : Int), .sh))) := only_set
    have hn2 : ((acc ++ wayN p w).map (·.1) ++ (bsF (p + 1) rest).map (·.1)).Nodup := by
      rw [bsF, List.map_append, ← List.append_assoc, ← List.map_append] at hn
      exact hn
    obtain ⟨w0, w3⟩ := P.hw w (List.mem_of_getElem? hp)
    obtain ⟨e2, h2, P2⟩ := place_turn (P.keep F1 o1 (by decide) (by decide)) (set_at (by rw [P.fx.len]; decide)) hp (by
      have := (List.nodup_append.mp hn2).1
      rwa [List.map_append] at this) (by omega)
    have wl : (wayN p w).length = w.length := by simp [wayN]
    obtain ⟨e3, h3, P3⟩ := places rest (p + 1) P2 (by
      have := congrArg List.tail hd
      simpa using this) hn2 (by rw [List.length_append, wl]; omega)
    refine ⟨e3, ?_, by rw [List.append_assoc] at P3; exact P3⟩
    rw [List.length_cons, List.range_succ_eq_map, List.map_cons, List.map_map]
    have e0 : (fun i : Nat => PyData.int ((p + i : Nat) : Int)) ∘ Nat.succ = fun i : Nat => PyData.int ((p + 1 + i : Nat) : Int) := by
      funext i
      show PyData.int ((p + (i + 1) : Nat) : Int) = _
      rw [show p + (i + 1) = p + 1 + i by omega]
    rw [e0, Nat.add_zero]
    simp only [forL, g1, h2, h3]
theorem stmt35 (P : Wp e ways []) : ∃ e', law_s35 e = some (.nx, e') ∧ Wp e' ways (bsF 0 ways) := by
  have hl := P.hl
  obtain ⟨e', h, P'⟩ := places ways 0 P rfl (by simpa using bs_nodup ways 0) (by simp; omega)
  have y : EE (opF (consO (varO 8) nilO) (PD.g1 lenD)) e (.int (ways.length : Int)) false := e1 (ov P.a8) (by simp only [lenD, List.length_map])
  have r1 := rngI_eq (consO_eq (ofE_eq y) nilO_eq) (derefs_cons deref_val derefs_nil) (by omega) (by omega)
  rw [Int.toNat_natCast, rngE] at r1
  have h' : forL (nameG 10) law_b3 ((List.range ways.length).map fun i : Nat => .int (i : Int)) e = some (.nx, e') := by
    have e0 : (fun i : Nat => PyData.int ((0 + i : Nat) : Int)) = fun i : Nat => PyData.int (i : Int) := by
      funext i
      rw [Nat.zero_add]
    rw [e0] at h
    exact h
  exact ⟨e', (forF_eq r1).trans h', by simpa using P'⟩
end
end K16

/-! K16Z: what the ways tell; the law. -/
namespace K16
open PySem PD

section
variable {e : Ev} {ways : List (List Int)} {least : Int}
theorem sums_nonempty (h : ways ≠ []) : ∃ m r, ways.map List.sum = m :: r := by
  cases ways with
  | nil => exact absurd rfl h
  | cons w r => exact ⟨_, _, rfl⟩
theorem stmt36 (P : Wp e ways (bsF 0 ways)) (h0 : ways ≠ []) : ∃ e' least, law_s36 e = some (.nx, e') ∧ Fx e' ∧ least ∈ ways.map List.sum ∧ (∀ w ∈ ways, least ≤ w.sum) ∧ At e' 9 (eNs (bsF 0 ways)) .ow ∧ At e' 11 (.int least) .sh := by
  have hl8 : 8 < e.length := by rw [P.fx.len]; decide
  have a8 : e[8]? = some (some (.list (ways.map dL), .ow)) := P.a8
  have F1 : Fx (e.set 8 (some (.list (ways.map dL), .sh))) := P.fx.put (by decide) (by decide) (fun z => nomatch z)
  have o1 : Only [8] e (e.set 8 (some (.list (ways.map dL), .sh))) := only_set
  have s1 : seqI (varE 8) e = some (ways.map dL, e.set 8 (some (.list (ways.map dL), .sh))) := seqI_list (fr := false) (by simp only [varE, a8])
  generalize e.set 8 (some (.list (ways.map dL), .sh)) = ea at *
  have sm : ∀ w : List Int, sumD (dL w) = some (.int w.sum, false) := fun w => by
    have := sum_of (fun i : Int => i) w
    rw [List.map_id'] at this
    exact this
  have l1 := lc1 F1 (v := 26) (by decide) (f := law_e11) dL (fun w => .int w.sum) s1 (by have := P.hl; exact size63 (by omega)) fun w _ env a26 _ => ⟨_, e1 (ov a26) (sm w)⟩
  obtain ⟨m, r, hm⟩ := sums_nonempty h0
  have mn : minLD (.list (ways.map fun w => .int w.sum)) = some (.int (minI m r), false) := by
    have := ints_sum List.sum ways
    rw [hm] at this
    simp only [minLD, this]
  have y := opF_eq (g := PD.g1 minLD) (consO_eq (ofE_eq l1) nilO_eq) (derefs_cons deref_val derefs_nil) mn
  obtain ⟨k1, k2⟩ := minI_spec m r
  obtain ⟨e', h5, F5, o5, a5⟩ := set_sh F1 (i := 11) y (by decide) (by decide)
  refine ⟨e', minI m r, h5, F5, by rw [hm]; exact k1, fun w hw => k2 _ ?_, o5.at (o1.at P.a9 (by decide)) (by decide), a5⟩
  rw [← hm]
  exact List.mem_map.mpr ⟨w, hw, rfl⟩
theorem ways_end (F : Fx e) (h0 : ways ≠ []) (hl : ways.length ≤ 3) (hw : ∀ w ∈ ways, w ≠ [] ∧ w.length ≤ 3) (h1 : least ∈ ways.map List.sum) (h2 : ∀ w ∈ ways, least ≤ w.sum) (a9 : At e 9 (eNs (bsF 0 ways)) .ow) (a11 : At e 11 (.int least) .sh) :
    ∃ e', law_s37 e = some (.nx, e') ∧ Fx e' ∧ law_s38 e' = some (.nx, e') ∧ law_s39 e' = some (.nx, e') := by
  have ni := bs_nice h0 hl (fun w h => (hw w h).1) (fun w h => (hw w h).2)
  have hr := bs_row h2
  obtain ⟨w, hwm, hws⟩ := List.mem_map.mp h1
  obtain ⟨i, hi, hiw⟩ := List.getElem_of_mem hwm
  have hi' : ways[i]? = some w := by rw [List.getElem?_eq_getElem hi, hiw]
  have p := way_whole hi' (hw w hwm).1
  rw [hws] at p
  have df : rowW ways least s_s - rowW ways least s_t = least := by rw [rowW_s, rowW_t]; omega
  obtain ⟨l, f, k1, k2, k3, k4, s⟩ := most_row ni hr p df (by rw [List.length_map, List.length_range]; exact way_words hi')
  obtain ⟨e', h5, F5, o5, a12⟩ := set_sh F (i := 12) (c3 (ov a9) (oc (d := .str s_s)) (oc (d := .str s_t)) s imm_most) (by decide) (by decide)
  have b9 := o5.at a9 (by decide)
  have b11 := o5.at a11 (by decide)
  refine ⟨e', h5, F5, ?_, ?_⟩
  · have q := sl (ov a12) pno (pint (cF_eq (e := e') (d := .int 2))) two_of
    have m := mk2 (G := tupD) (cF_eq (e := e') (d := .str s_most)) (varE_sh b11) (tupD_eq (by simp))
    have x1 := e2 (G := neD) (oe q) (oe m) (ne_mk _ _ _ _)
    rw [decide_eq_true rfl, decide_eq_true rfl] at x1
    have j := judge_most_yes ni k1 k2 k3 k4
    have x2 := e2 (G := isntD) (oe (c4 (ov b9) (oc (d := .str s_s)) (oc (d := .str s_t)) (ov a12) j rfl)) (oc (d := .bool true)) (isnt true true)
    have ma := most_any ni hr (one := s_t) (other := s_s) (X := fun x => x = s_t) (fun n v u k hk e => by
      subst e
      exact (bs_t hk).elim) rfl (by decide)
    have y1 := c3 (ov b9) (oc (d := .str s_t)) (oc (d := .str s_s)) ma rfl
    have y2 := mk1 (G := tupD) (cF_eq (e := e') (d := .str s_any)) (tupD_eq (by simp))
    have n : neD (.tuple [.str s_any]) (.tuple [.str s_any]) = some (.bool false, false) := by rfl
    have x3 := e2 (G := neD) (oe y1) (oe y2) n
    exact skip (or3 (tst x1) (tst x2) (tst x3))
  · obtain ⟨names, q1, q2⟩ := follows_yes ni p (Int.le_refl least)
    obtain ⟨ps, r1, r2⟩ := follows_no ni hr (one := s_s) (other := s_t) (k := least - 1) (by omega)
    have m1 := mk3 (G := tupD) (cF_eq (e := e') (d := .str s_s)) (cF_eq (e := e') (d := .str s_t)) (varE_sh b11) (tupD_eq (by simp))
    have y1 := e2 (G := subD) (ov b11) (oc (d := .int 1)) (d := .int (least - 1)) (fr := false) rfl
    have m2 := mk3 (G := tupD) (cF_eq (e := e') (d := .str s_s)) (cF_eq (e := e') (d := .str s_t)) y1 (tupD_eq (by simp))
    have x1 := e2 (G := neD) (oe (e2 (oe (c2 (ov b9) (oe m1) q1 (imm_ring names))) (oc (d := .int 0)) ixT0)) (oc (d := .str s_ring)) (ne_str _ _)
    rw [decide_eq_true rfl] at x1
    have x2 := e2 (G := neD) (oe (e2 (oe (c2 (ov b9) (oe m2) r1 (imm_row ps))) (oc (d := .int 0)) ixT0)) (oc (d := .str s_row)) (ne_str _ _)
    rw [decide_eq_true rfl] at x2
    exact skip (orT_eq (tst x1) (tst x2))
/-- a turn -/
theorem turn_ok (F : Fx e) : ∃ e', law_b4 e = some (.nx, e') ∧ Fx e' := by
  obtain ⟨a1, c, W, h1, F1, c0, c6, inj, lone, k3⟩ := stmt2 F
  obtain ⟨a2, X, h2, F2, b3, b4⟩ := stmt3 F1 c6 k3
  obtain ⟨a3, h3, P3⟩ := stmt4 F2 c0 c6 inj lone b3 b4
  obtain ⟨a4, T, h4, P4, hT, k6⟩ := stmt5 P3
  obtain ⟨a5, h5, P5, b6, b7⟩ := stmt6 P4 k6
  have h6 := stmt7 P5 hT b6 b7
  obtain ⟨a7, h7, F7⟩ := stmt29 P5 hT b6 b7
  obtain ⟨a8, ways, h8, F8, w0, wl, hw, k8⟩ := stmt30 F7
  obtain ⟨a9, h9, F9, o9, k9⟩ := set_ow F8 (i := 9) (f := newDF) (d := .dict []) (e := a8) rfl (by decide) (by decide) (by decide)
  have P9 : Wp a9 ways [] := ⟨F9, hw, wl, o9.at k8 (by decide), k9⟩
  obtain ⟨a10, h10, P10⟩ := stmt35 P9
  obtain ⟨a11, least, h11, F11, m1, m2, c9, c11⟩ := stmt36 P10 w0
  obtain ⟨a12, h12, F12, h13, h14⟩ := ways_end F11 w0 wl hw m1 m2 c9 c11
  refine ⟨a12, ?_, F12⟩
  have h9' : law_s31 a8 = some (.nx, a9) := h9
  unfold law_b4
  rw [seqF_eq h1, seqF_eq h2, seqF_eq h3, seqF_eq h4, seqF_eq h5, seqF_eq h6, seqF_eq h7, seqF_eq h8, seqF_eq h9', seqF_eq h10, seqF_eq h11, seqF_eq h12, seqF_eq h13]
  exact h14
theorem turns_ok : ∀ (ks : List Int) {e : Ev}, Fx e → ∃ e', forL (nameG 2) law_b4 (ks.map .int) e = some (.nx, e') ∧ Fx e'
  | [], e, F => ⟨e, rfl, F⟩
  | k :: ks, e, F => by
    have g1 : nameG 2 (.int k) e = some (e.set 2 (some (.int k, .sh))) := F.setv _ false (by decide)
    have F1 : Fx (e.set 2 (some (.int k, .sh))) := F.put (by decide) (by decide) (fun z => nomatch z)
    obtain ⟨e2, h2, F2⟩ := turn_ok F1
    obtain ⟨e3, h3, F3⟩ := turns_ok ks F2
    exact ⟨e3, by simp only [List.map_cons, forL, g1, h2, h3], F3⟩
end
theorem spread_none : spread_F [.dict []] = some (.tuple [.str s_row, .tuple []], false, .none) := by kernel_rfl
theorem most_none : ∃ x y, most_apart_F [.dict [], .str s_a, .str s_a] = some (.tuple [.str s_most, .int 0, x, y], false, .none) ∧ immD (.tuple [.str s_most, .int 0, x, y]) = true := ⟨.tuple [], .tuple [.tuple [.str s_a, .int 0]], by kernel_rfl, by rfl⟩
theorem last {e : Ev} : law_s41 e = some (.rt (.bool true) false, e) := by
  obtain ⟨x, y, h, im⟩ := most_none
  have n0 : EE newDF e (.dict []) true := rfl
  have a1 := c1 (oe n0) spread_none rfl
  have t0 : EE (opFA nilO tupD) e (.tuple []) false := opFA_eq nilO_eq rfl derefs_nil (tupD_eq (by simp))
  have m1 := mk2 (G := tupD) (cF_eq (e := e) (d := .str s_row)) t0 (tupD_eq (by simp))
  have q1 := e2 (G := eqD) (oe a1) (oe m1) (d := .bool true) (fr := false) (by rfl)
  have a2 := c3 (oe n0) (oc (d := .str s_a)) (oc (d := .str s_a)) h im
  have a3 := sl (oe a2) pno (pint (cF_eq (e := e) (d := .int 2))) two_of
  have m2 := mk2 (G := tupD) (cF_eq (e := e) (d := .str s_most)) (cF_eq (e := e) (d := .int 0)) (tupD_eq (by simp))
  have q2 := e2 (G := eqD) (oe a3) (oe m2) (d := .bool true) (fr := false) (by rfl)
  unfold law_s41
  refine ret_eq ?_
  simp only [EE] at q1 q2
  simp only [andE, q1, q2]
theorem nones_at : ∀ (n i : Nat) (x : D × Ow), (List.replicate n (none : Option (D × Ow)))[i]? ≠ some (some x) := fun n i x z => by
  have := List.mem_of_getElem? z
  have := List.eq_of_mem_replicate this
  cases this
theorem first (ns : List Int) : ∃ e, law_s1 [some (.list (ns.map .int), .sh), none, none, none, none, none, none, none, none, none, none, none, none, none, none, none, none, none, none, none, none, none, none, none, none, none, none, none] = some (.nx, e) ∧ Fx e := by
  refine ⟨[some (.list (ns.map .int), .sh), some (encS ns 0 0 1, .ow), none, none, none, none, none, none, none, none, none, none, none, none, none, none, none, none, none, none, none, none, none, none, none, none, none, none], ?_, ⟨rfl, ?_, ?_, ns, 0, 0, 1, rfl⟩⟩
  · simp [law_s1, seqF, setF, retF, exprF, ifF, asgF, augF, augS, parF, opF, opFA, consO, nilO, ofE, varO, varE, mvE, cF, derefs, deref, PD.g1, PD.g2, setv, tstF, truF, trueD, andT, orT, notT, andE, orE, notE, iteE, getE, newDF, dispF, dispL, seqI, rngI, callF, callM, frzL, pkS, immD, immL, mutF, noSlot, tyD, slF, partF, nameG, tupG, consG, nilG, subG, wipeE, unw, noOwn, yesT, PyData.plain, PyData.plainAll, PyData.depth, PyData.depthAll, bodyFF, argE, fin0, nxF, retN, forF, tupD, lstD, turnF, lc2DF, lc2F, lcDF, dictAt, forDF, dcF, purF, tyP, spreadF, listD, size63, encS]
  · intro i d z
    match i, z with
    | 0, z => cases z
    | 1, z => cases z
    | n + 2, z =>
      simp only [List.getElem?_cons_succ] at z
      exact nones_at 26 _ _ z
  · intro i d hi z
    match i, z with
    | 0, z => simp at hi
    | 1, z => simp at hi
    | n + 2, z =>
      simp only [List.getElem?_cons_succ] at z
      exact nones_at 26 _ _ z
theorem law_true (ns : List Int) (hl : ns.length ≤ 63) : law_F [.list (ns.map .int)] = some (.bool true, false, .none) := by
  obtain ⟨e1, h1, F1⟩ := first ns
  obtain ⟨e2, h2, F2⟩ := turns_ok [0, 1, 2] F1
  have r : rngI (consO (ofE (cF (.int 3))) nilO) e1 = some (rngL 0 3, e1) := rngI_eq (consO_eq (ofE_eq cF_eq) nilO_eq) (derefs_cons deref_val derefs_nil) (by decide) (by decide)
  have h3 : law_s40 e1 = some (.nx, e2) := (forF_eq r).trans h2
  unfold law_F
  refine (bodyFF_rt (e1 := e2) (d := .bool true) (fr := false) ?_).trans rfl
  unfold law_B
  have e0 : argE false [.list (ns.map .int)] ++ List.replicate (28 - [PyData.list (ns.map .int)].length) none = [some (PyData.list (ns.map .int), Ow.sh), none, none, none, none, none, none, none, none, none, none, none, none, none, none, none, none, none, none, none, none, none, none, none, none, none, none, none] := rfl
  rw [e0, seqF_eq h1, seqF_eq h3]
  exact last
end K16

/-! K16: what the top has written, the law's own head (printed by gen.py). -/
namespace K16
open PySem PySem.Spec PyProof.Rows L2 PD
set_option maxHeartbeats 4000000 in
theorem all_mk {l : PySem.W.OpenLaw} {w : World} {K : PySem.W.Frag} {h : Heap} {mg : Str → Option Value} {fa f1 f2 f3 f4 f5 f6 f7 f8 f9 f10 f11 f12 f13 f14 f15 f16 f17 : Addr} (X : K.In h) (G : h.Ns mainGlobals mg) (hfa : mg "law" = some (.ref fa))
    {od1 an1 od2 an2 od3 an3 od4 an4 od5 an5 od6 an6 od7 an7 od8 an8 od9 an9 od10 an10 od11 an11 od12 an12 od13 an13 od14 an14 od15 an15 od16 an16 od17 an17 : Option Addr} {sl1 sl2 sl3 sl4 sl5 sl6 sl7 sl8 sl9 sl10 sl11 sl12 sl13 sl14 sl15 sl16 sl17 : Array (Option Value)} {oc1 kV1 dc1 pm1 cd1 ct1 oc2 kV2 dc2 pm2 cd2 ct2 oc3 kV3 dc3 pm3 cd3 ct3 oc4 kV4 dc4 pm4 cd4 ct4 oc5 kV5 dc5 pm5 cd5 ct5 oc6 kV6 dc6 pm6 cd6 ct6 oc7 kV7 dc7 pm7 cd7 ct7 oc8 kV8 dc8 pm8 cd8 ct8 oc9 kV9 dc9 pm9 cd9 ct9 oc10 kV10 dc10 pm10 cd10 ct10 oc11 kV11 dc11 pm11 cd11 ct11 oc12 kV12 dc12 pm12 cd12 ct12 oc13 kV13 dc13 pm13 cd13 ct13 oc14 kV14 dc14 pm14 cd14 ct14 oc15 kV15 dc15 pm15 cd15 ct15 oc16 kV16 dc16 pm16 cd16 ct16 oc17 kV17 dc17 pm17 cd17 ct17 : Value}
    (a1 : PySem.W.nsIn K mainGlobals "words_of" = some (some (.ref f1))) (l1 : K.lookup f1 = some ⟨oc1, od1, .func (PySem.W.fnOf "words_of" "words_of" (defArgs st_words_of) (defBody st_words_of) (defScope st_words_of) .none kV1 dc1 pm1 an1 cd1 ct1), sl1⟩) (c1 : PySem.W.codeIn K cd1 "words_of" = true) (k1 : PySem.W.keepIn K (.ref f1) = true)
    (a2 : PySem.W.nsIn K mainGlobals "denied" = some (some (.ref f2))) (l2 : K.lookup f2 = some ⟨oc2, od2, .func (PySem.W.fnOf "denied" "denied" (defArgs st_denied) (defBody st_denied) (defScope st_denied) .none kV2 dc2 pm2 an2 cd2 ct2), sl2⟩) (c2 : PySem.W.codeIn K cd2 "denied" = true) (k2 : PySem.W.keepIn K (.ref f2) = true)
    (a3 : PySem.W.nsIn K mainGlobals "ring" = some (some (.ref f3))) (l3 : K.lookup f3 = some ⟨oc3, od3, .func (PySem.W.fnOf "ring" "ring" (defArgs st_ring) (defBody st_ring) (defScope st_ring) .none kV3 dc3 pm3 an3 cd3 ct3), sl3⟩) (c3 : PySem.W.codeIn K cd3 "ring" = true) (k3 : PySem.W.keepIn K (.ref f3) = true)
    (a4 : PySem.W.nsIn K mainGlobals "spread" = some (some (.ref f4))) (l4 : K.lookup f4 = some ⟨oc4, od4, .func (PySem.W.fnOf "spread" "spread" (defArgs st_spread) (defBody st_spread) (defScope st_spread) .none kV4 dc4 pm4 an4 cd4 ct4), sl4⟩) (c4 : PySem.W.codeIn K cd4 "spread" = true) (k4 : PySem.W.keepIn K (.ref f4) = true)
    (a5 : PySem.W.nsIn K mainGlobals "is_row" = some (some (.ref f5))) (l5 : K.lookup f5 = some ⟨oc5, od5, .func (PySem.W.fnOf "is_row" "is_row" (defArgs st_is_row) (defBody st_is_row) (defScope st_is_row) .none kV5 dc5 pm5 an5 cd5 ct5), sl5⟩) (c5 : PySem.W.codeIn K cd5 "is_row" = true) (k5 : PySem.W.keepIn K (.ref f5) = true)
    (a6 : PySem.W.nsIn K mainGlobals "is_path" = some (some (.ref f6))) (l6 : K.lookup f6 = some ⟨oc6, od6, .func (PySem.W.fnOf "is_path" "is_path" (defArgs st_is_path) (defBody st_is_path) (defScope st_is_path) .none kV6 dc6 pm6 an6 cd6 ct6), sl6⟩) (c6 : PySem.W.codeIn K cd6 "is_path" = true) (k6 : PySem.W.keepIn K (.ref f6) = true)
    (a7 : PySem.W.nsIn K mainGlobals "judge_spread" = some (some (.ref f7))) (l7 : K.lookup f7 = some ⟨oc7, od7, .func (PySem.W.fnOf "judge_spread" "judge_spread" (defArgs st_judge_spread) (defBody st_judge_spread) (defScope st_judge_spread) .none kV7 dc7 pm7 an7 cd7 ct7), sl7⟩) (c7 : PySem.W.codeIn K cd7 "judge_spread" = true) (k7 : PySem.W.keepIn K (.ref f7) = true)
    (a8 : PySem.W.nsIn K mainGlobals "with_more" = some (some (.ref f8))) (l8 : K.lookup f8 = some ⟨oc8, od8, .func (PySem.W.fnOf "with_more" "with_more" (defArgs st_with_more) (defBody st_with_more) (defScope st_with_more) .none kV8 dc8 pm8 an8 cd8 ct8), sl8⟩) (c8 : PySem.W.codeIn K cd8 "with_more" = true) (k8 : PySem.W.keepIn K (.ref f8) = true)
    (a9 : PySem.W.nsIn K mainGlobals "most_apart" = some (some (.ref f9))) (l9 : K.lookup f9 = some ⟨oc9, od9, .func (PySem.W.fnOf "most_apart" "most_apart" (defArgs st_most_apart) (defBody st_most_apart) (defScope st_most_apart) .none kV9 dc9 pm9 an9 cd9 ct9), sl9⟩) (c9 : PySem.W.codeIn K cd9 "most_apart" = true) (k9 : PySem.W.keepIn K (.ref f9) = true)
    (a10 : PySem.W.nsIn K mainGlobals "judge_most" = some (some (.ref f10))) (l10 : K.lookup f10 = some ⟨oc10, od10, .func (PySem.W.fnOf "judge_most" "judge_most" (defArgs st_judge_most) (defBody st_judge_most) (defScope st_judge_most) .none kV10 dc10 pm10 an10 cd10 ct10), sl10⟩) (c10 : PySem.W.codeIn K cd10 "judge_most" = true) (k10 : PySem.W.keepIn K (.ref f10) = true)
    (a11 : PySem.W.nsIn K mainGlobals "follows" = some (some (.ref f11))) (l11 : K.lookup f11 = some ⟨oc11, od11, .func (PySem.W.fnOf "follows" "follows" (defArgs st_follows) (defBody st_follows) (defScope st_follows) .none kV11 dc11 pm11 an11 cd11 ct11), sl11⟩) (c11 : PySem.W.codeIn K cd11 "follows" = true) (k11 : PySem.W.keepIn K (.ref f11) = true)
    (a12 : PySem.W.nsIn K mainGlobals "judge_follows" = some (some (.ref f12))) (l12 : K.lookup f12 = some ⟨oc12, od12, .func (PySem.W.fnOf "judge_follows" "judge_follows" (defArgs st_judge_follows) (defBody st_judge_follows) (defScope st_judge_follows) .none kV12 dc12 pm12 an12 cd12 ct12), sl12⟩) (c12 : PySem.W.codeIn K cd12 "judge_follows" = true) (k12 : PySem.W.keepIn K (.ref f12) = true)
    (a13 : PySem.W.nsIn K mainGlobals "_law_next" = some (some (.ref f13))) (l13 : K.lookup f13 = some ⟨oc13, od13, .func (PySem.W.fnOf "_law_next" "_law_next" (defArgs st__law_next) (defBody st__law_next) (defScope st__law_next) .none kV13 dc13 pm13 an13 cd13 ct13), sl13⟩) (c13 : PySem.W.codeIn K cd13 "_law_next" = true) (k13 : PySem.W.keepIn K (.ref f13) = true)
    (a14 : PySem.W.nsIn K mainGlobals "_law_swapped" = some (some (.ref f14))) (l14 : K.lookup f14 = some ⟨oc14, od14, .func (PySem.W.fnOf "_law_swapped" "_law_swapped" (defArgs st__law_swapped) (defBody st__law_swapped) (defScope st__law_swapped) .none kV14 dc14 pm14 an14 cd14 ct14), sl14⟩) (c14 : PySem.W.codeIn K cd14 "_law_swapped" = true) (k14 : PySem.W.keepIn K (.ref f14) = true)
    (a15 : PySem.W.nsIn K mainGlobals "_law_ring_notes" = some (some (.ref f15))) (l15 : K.lookup f15 = some ⟨oc15, od15, .func (PySem.W.fnOf "_law_ring_notes" "_law_ring_notes" (defArgs st__law_ring_notes) (defBody st__law_ring_notes) (defScope st__law_ring_notes) .none kV15 dc15 pm15 an15 cd15 ct15), sl15⟩) (c15 : PySem.W.codeIn K cd15 "_law_ring_notes" = true) (k15 : PySem.W.keepIn K (.ref f15) = true)
    (a16 : PySem.W.nsIn K mainGlobals "_law_row_is" = some (some (.ref f16))) (l16 : K.lookup f16 = some ⟨oc16, od16, .func (PySem.W.fnOf "_law_row_is" "_law_row_is" (defArgs st__law_row_is) (defBody st__law_row_is) (defScope st__law_row_is) .none kV16 dc16 pm16 an16 cd16 ct16), sl16⟩) (c16 : PySem.W.codeIn K cd16 "_law_row_is" = true) (k16 : PySem.W.keepIn K (.ref f16) = true)
    (a17 : PySem.W.nsIn K mainGlobals "law" = some (some (.ref f17))) (l17 : K.lookup f17 = some ⟨oc17, od17, .func (PySem.W.fnOf "law" "law" (defArgs st_law) (defBody st_law) (defScope st_law) .none kV17 dc17 pm17 an17 cd17 ct17), sl17⟩) (c17 : PySem.W.codeIn K cd17 "law" = true) (k17 : PySem.W.keepIn K (.ref f17) = true) (z_bool : PySem.W.nsIn K mainGlobals "bool" = some none) (z_dict : PySem.W.nsIn K mainGlobals "dict" = some none) (z_int : PySem.W.nsIn K mainGlobals "int" = some none) (z_isinstance : PySem.W.nsIn K mainGlobals "isinstance" = some none) (z_len : PySem.W.nsIn K mainGlobals "len" = some none) (z_list : PySem.W.nsIn K mainGlobals "list" = some none) (z_min : PySem.W.nsIn K mainGlobals "min" = some none) (z_range : PySem.W.nsIn K mainGlobals "range" = some none) (z_set : PySem.W.nsIn K mainGlobals "set" = some none) (z_sorted : PySem.W.nsIn K mainGlobals "sorted" = some none) (z_str : PySem.W.nsIn K mainGlobals "str" = some none) (z_sum : PySem.W.nsIn K mainGlobals "sum" = some none) (z_tuple : PySem.W.nsIn K mainGlobals "tuple" = some none) :
    ∃ fd : FuncData, (∀ (s : Shared) (v : Value), BindsTo s fd ⟨[v], []⟩ [("script", v)]) ∧ ∀ base : Heap, K.In base → base.Ns mainGlobals mg → FnOk l.prog w K mg base CX0 5 fa fd ["script"] (spF K false 1 law_F) := by
  have e := hfa.symm.trans (PySem.W.mg_of X G a17)
  cases e
  have F1 := fun_mk (st := st_words_of) l1 c1 k1
  have b1 := F1.binds (ps := ["notes"]) fun _ _ _ _ _ _ us hl => match us, hl with | [_], _ => rfl
  have F2 := fun_mk (st := st_denied) l2 c2 k2
  have b2 := F2.binds (ps := ["note"]) fun _ _ _ _ _ _ us hl => match us, hl with | [_], _ => rfl
  have F3 := fun_mk (st := st_ring) l3 c3 k3
  have b3 := F3.binds (ps := ["notes", "why", "word"]) fun _ _ _ _ _ _ us hl => match us, hl with | [_, _, _], _ => rfl
  have F4 := fun_mk (st := st_spread) l4 c4 k4
  have b4 := F4.binds (ps := ["notes"]) fun _ _ _ _ _ _ us hl => match us, hl with | [_], _ => rfl
  have F5 := fun_mk (st := st_is_row) l5 c5 k5
  have b5 := F5.binds (ps := ["notes", "pairs"]) fun _ _ _ _ _ _ us hl => match us, hl with | [_, _], _ => rfl
  have F6 := fun_mk (st := st_is_path) l6 c6 k6
  have b6 := F6.binds (ps := ["notes", "names", "start", "end"]) fun _ _ _ _ _ _ us hl => match us, hl with | [_, _, _, _], _ => rfl
  have F7 := fun_mk (st := st_judge_spread) l7 c7 k7
  have b7 := F7.binds (ps := ["notes", "told"]) fun _ _ _ _ _ _ us hl => match us, hl with | [_, _], _ => rfl
  have F8 := fun_mk (st := st_with_more) l8 c8 k8
  have b8 := F8.binds (ps := ["notes", "more"]) fun _ _ _ _ _ _ us hl => match us, hl with | [_, _], _ => rfl
  have F9 := fun_mk (st := st_most_apart) l9 c9 k9
  have b9 := F9.binds (ps := ["notes", "one", "other"]) fun _ _ _ _ _ _ us hl => match us, hl with | [_, _, _], _ => rfl
  have F10 := fun_mk (st := st_judge_most) l10 c10 k10
  have b10 := F10.binds (ps := ["notes", "one", "other", "told"]) fun _ _ _ _ _ _ us hl => match us, hl with | [_, _, _, _], _ => rfl
  have F11 := fun_mk (st := st_follows) l11 c11 k11
  have b11 := F11.binds (ps := ["notes", "goal"]) fun _ _ _ _ _ _ us hl => match us, hl with | [_, _], _ => rfl
  have F12 := fun_mk (st := st_judge_follows) l12 c12 k12
  have b12 := F12.binds (ps := ["notes", "goal", "told"]) fun _ _ _ _ _ _ us hl => match us, hl with | [_, _, _], _ => rfl
  have F13 := fun_mk (st := st__law_next) l13 c13 k13
  have b13 := F13.binds (ps := ["state", "limit"]) fun _ _ _ _ _ _ us hl => match us, hl with | [_, _], _ => rfl
  have F14 := fun_mk (st := st__law_swapped) l14 c14 k14
  have b14 := F14.binds (ps := ["state", "rows"]) fun _ _ _ _ _ _ us hl => match us, hl with | [_, _], _ => rfl
  have F15 := fun_mk (st := st__law_ring_notes) l15 c15 k15
  have b15 := F15.binds (ps := ["words", "numbers"]) fun _ _ _ _ _ _ us hl => match us, hl with | [_, _], _ => rfl
  have F16 := fun_mk (st := st__law_row_is) l16 c16 k16
  have b16 := F16.binds (ps := ["notes", "row"]) fun _ _ _ _ _ _ us hl => match us, hl with | [_, _], _ => rfl
  have F17 := fun_mk (st := st_law) l17 c17 k17
  have m_bool : mg "bool" = none := PySem.W.mg_none_of X G z_bool
  have m_dict : mg "dict" = none := PySem.W.mg_none_of X G z_dict
  have m_int : mg "int" = none := PySem.W.mg_none_of X G z_int
  have m_isinstance : mg "isinstance" = none := PySem.W.mg_none_of X G z_isinstance
  have m_len : mg "len" = none := PySem.W.mg_none_of X G z_len
  have m_list : mg "list" = none := PySem.W.mg_none_of X G z_list
  have m_min : mg "min" = none := PySem.W.mg_none_of X G z_min
  have m_range : mg "range" = none := PySem.W.mg_none_of X G z_range
  have m_set : mg "set" = none := PySem.W.mg_none_of X G z_set
  have m_sorted : mg "sorted" = none := PySem.W.mg_none_of X G z_sorted
  have m_str : mg "str" = none := PySem.W.mg_none_of X G z_str
  have m_sum : mg "sum" = none := PySem.W.mg_none_of X G z_sum
  have m_tuple : mg "tuple" = none := PySem.W.mg_none_of X G z_tuple
  refine ⟨PySem.W.fnOf "law" "law" (defArgs st_law) (defBody st_law) (defScope st_law) .none kV17 dc17 pm17 an17 cd17 ct17, fun s v => .of_eq rfl, fun base _ _ => ?_⟩
  have h_words_of : Fn l.prog w K mg base 1 "words_of" false 1 words_of_F := ⟨f1, _, _, ok_words_of F1 m_set m_sorted, PySem.W.mg_of X G a1, F1.kp, b1⟩
  have h_denied : Fn l.prog w K mg base 1 "denied" false 1 denied_F := ⟨f2, _, _, ok_denied F2, PySem.W.mg_of X G a2, F2.kp, b2⟩
  have h_ring : Fn l.prog w K mg base 1 "ring" false 3 ring_F := ⟨f3, _, _, ok_ring F3 m_tuple, PySem.W.mg_of X G a3, F3.kp, b3⟩
  have h_spread : Fn l.prog w K mg base 2 "spread" false 1 spread_F := ⟨f4, _, _, ok_spread F4 h_words_of h_ring m_len m_range m_sorted m_tuple, PySem.W.mg_of X G a4, F4.kp, b4⟩
  have h_is_row : Fn l.prog w K mg base 2 "is_row" false 2 is_row_F := ⟨f5, _, _, ok_is_row F5 h_words_of m_bool m_dict m_int m_isinstance m_len m_tuple, PySem.W.mg_of X G a5, F5.kp, b5⟩
  have h_is_path : Fn l.prog w K mg base 1 "is_path" false 4 is_path_F := ⟨f6, _, _, ok_is_path F6 m_isinstance m_str m_tuple, PySem.W.mg_of X G a6, F6.kp, b6⟩
  have h_judge_spread : Fn l.prog w K mg base 3 "judge_spread" false 2 judge_spread_F := ⟨f7, _, _, ok_judge_spread F7 h_is_row h_is_path m_isinstance m_len m_str m_tuple, PySem.W.mg_of X G a7, F7.kp, b7⟩
  have h_with_more : Fn l.prog w K mg base 1 "with_more" false 2 with_more_F := ⟨f8, _, _, ok_with_more F8 m_dict, PySem.W.mg_of X G a8, F8.kp, b8⟩
  have h_most_apart : Fn l.prog w K mg base 3 "most_apart" false 3 most_apart_F := ⟨f9, _, _, ok_most_apart F9 h_spread h_with_more h_words_of m_sorted, PySem.W.mg_of X G a9, F9.kp, b9⟩
  have h_judge_most : Fn l.prog w K mg base 3 "judge_most" false 4 judge_most_F := ⟨f10, _, _, ok_judge_most F10 h_with_more h_is_path h_is_row m_bool m_dict m_int m_isinstance m_len m_tuple, PySem.W.mg_of X G a10, F10.kp, b10⟩
  have h_follows : Fn l.prog w K mg base 3 "follows" false 2 follows_F := ⟨f11, _, _, ok_follows F11 h_spread h_denied, PySem.W.mg_of X G a11, F11.kp, b11⟩
  have h_judge_follows : Fn l.prog w K mg base 4 "judge_follows" false 3 judge_follows_F := ⟨f12, _, _, ok_judge_follows F12 h_judge_spread h_denied, PySem.W.mg_of X G a12, F12.kp, b12⟩
  have h__law_next : Fn l.prog w K mg base 1 "_law_next" true 2 _law_next_F := ⟨f13, _, _, ok__law_next F13 m_int m_len, PySem.W.mg_of X G a13, F13.kp, b13⟩
  have h__law_swapped : Fn l.prog w K mg base 2 "_law_swapped" true 2 _law_swapped_F := ⟨f14, _, _, ok__law_swapped F14 h__law_next m_len m_list, PySem.W.mg_of X G a14, F14.kp, b14⟩
  have h__law_ring_notes : Fn l.prog w K mg base 1 "_law_ring_notes" false 2 _law_ring_notes_F := ⟨f15, _, _, ok__law_ring_notes F15 m_dict m_len m_range m_str, PySem.W.mg_of X G a15, F15.kp, b15⟩
  have h__law_row_is : Fn l.prog w K mg base 1 "_law_row_is" false 2 _law_row_is_F := ⟨f16, _, _, ok__law_row_is F16 m_dict, PySem.W.mg_of X G a16, F16.kp, b16⟩
  exact ok_law F17 h__law_swapped h__law_next h__law_ring_notes h_spread h_judge_spread h__law_row_is h_most_apart h_judge_most h_follows h_judge_follows h_denied m_dict m_len m_list m_min m_range m_sorted m_str m_sum m_tuple
end K16
open PySem PySem.W PyProof.Rows
set_option maxHeartbeats 0 in
theorem PySem.Challenge.cw_chiplore_k16_how_far_apart_rings_and_way_holds : PySem.Challenge.rw_chiplore_k16_how_far_apart_rings_and_way.Holds := by
  w_on; o_law; k_head; (case hw => w_witness2)
  k_fill
  refine L2.walk_of (l := PySem.Challenge.rw_chiplore_k16_how_far_apart_rings_and_way) (n := 63) (k := 5) (x := "script") (CX := fun _ => L2.CX0) (sp := fun w => PD.spF _ false 1 K16.law_F) rfl (by decide) rfl ⟨rfl, by decide, by decide⟩ (fun w h Y => PySem.W.kIn_of Y) ?F (fun _ _ a ns hl _ hS => PD.law_end hS (K16.law_true ns hl) (fun v H' B z => z)) (fun _ _ _ _ _ h => h)
  case F =>
    intro w mg fa h KX G hmg
    refine' K16.all_mk KX G hmg ?a1 ?l1 ?c1 ?k1 ?a2 ?l2 ?c2 ?k2 ?a3 ?l3 ?c3 ?k3 ?a4 ?l4 ?c4 ?k4 ?a5 ?l5 ?c5 ?k5 ?a6 ?l6 ?c6 ?k6 ?a7 ?l7 ?c7 ?k7 ?a8 ?l8 ?c8 ?k8 ?a9 ?l9 ?c9 ?k9 ?a10 ?l10 ?c10 ?k10 ?a11 ?l11 ?c11 ?k11 ?a12 ?l12 ?c12 ?k12 ?a13 ?l13 ?c13 ?k13 ?a14 ?l14 ?c14 ?k14 ?a15 ?l15 ?c15 ?k15 ?a16 ?l16 ?c16 ?k16 ?a17 ?l17 ?c17 ?k17 ?z_bool ?z_dict ?z_int ?z_isinstance ?z_len ?z_list ?z_min ?z_range ?z_set ?z_sorted ?z_str ?z_sum ?z_tuple
    (case a1 => k_is); (case l1 => k_is); (case c1 => k_is); (case k1 => k_is); (case a2 => k_is); (case l2 => k_is); (case c2 => k_is); (case k2 => k_is); (case a3 => k_is); (case l3 => k_is); (case c3 => k_is); (case k3 => k_is); (case a4 => k_is); (case l4 => k_is); (case c4 => k_is); (case k4 => k_is); (case a5 => k_is); (case l5 => k_is); (case c5 => k_is); (case k5 => k_is); (case a6 => k_is); (case l6 => k_is); (case c6 => k_is); (case k6 => k_is); (case a7 => k_is); (case l7 => k_is); (case c7 => k_is); (case k7 => k_is); (case a8 => k_is); (case l8 => k_is); (case c8 => k_is); (case k8 => k_is); (case a9 => k_is); (case l9 => k_is); (case c9 => k_is); (case k9 => k_is); (case a10 => k_is); (case l10 => k_is); (case c10 => k_is); (case k10 => k_is); (case a11 => k_is); (case l11 => k_is); (case c11 => k_is); (case k11 => k_is); (case a12 => k_is); (case l12 => k_is); (case c12 => k_is); (case k12 => k_is); (case a13 => k_is); (case l13 => k_is); (case c13 => k_is); (case k13 => k_is); (case a14 => k_is); (case l14 => k_is); (case c14 => k_is); (case k14 => k_is); (case a15 => k_is); (case l15 => k_is); (case c15 => k_is); (case k15 => k_is); (case a16 => k_is); (case l16 => k_is); (case c16 => k_is); (case k16 => k_is); (case a17 => k_is); (case l17 => k_is); (case c17 => k_is); (case k17 => k_is); (case z_bool => k_is); (case z_dict => k_is); (case z_int => k_is); (case z_isinstance => k_is); (case z_len => k_is); (case z_list => k_is); (case z_min => k_is); (case z_range => k_is); (case z_set => k_is); (case z_sorted => k_is); (case z_str => k_is); (case z_sum => k_is); (case z_tuple => k_is)
