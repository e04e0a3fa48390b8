import PyProof.Rows.All
import PySem.Challenge.RW_bylevels_k10_texts_written
import HandS.ForMost
import HandS.Exc
import HandS.ExcOwn
import HandS.CallSlots
import HandS.WordsExc
import HandS.TupAny
import PyProof.Rows.IntBool
import HandS.Deep
import HandS.RaiseMore
import HandS.IsInst
import HandS.Style
import HandS.Zip
import HandS.Text
import HandS.FStr
import HandS.Star
import HandS.TupMul
import HandS.Conv
import HandS.More
import HandS.Ends
import HandS.EndBits
import PyProof.StrLawsRepr
import PyProof.FitsInt
set_option Elab.async false
set_option linter.all false
set_option maxRecDepth 100000
/-! Ev: a small language of checked syntax, its evaluator, and that the model does what it says. Part 1: values, owners, what stands for what. -/
namespace Ev
open PySem PySem.Spec PyProof.Rows L2

/-- a value: data that never changes again; a list that one holder alone may change; a shared cell -/
inductive Vl where
  | d (x : PyData)
  | own (xs : List Vl)
  | ref (l : Nat)

/-- the slots of a def, the shared cells -/
structure S where
  ρ : List (Option Vl)
  st : List Vl

/-- who holds a list that may change -/
inductive Rt where
  | slot (i : Nat) | cell (l : Nat) | tmp (n : Nat) | out (n : Nat)
  deriving DecidableEq

abbrev Ow := Addr → Option (Rt × List Nat)

/-- a list, a tuple of the written part -/
def KL (K : PySem.W.Frag) (a : Addr) (vs : List V) : Prop :=
  ∃ (its : List Value) (n : Nat), K.lookup a = some { cls := .type "list", data := .seq its.toArray n } ∧ vs.length ≤ sizeLine ∧ Vals vs its
def KT (K : PySem.W.Frag) (a : Addr) (vs : List V) : Prop :=
  ∃ (o : Obj) (its : Array Value) (n : Nat), K.lookup a = some o ∧ o.cls = .type "tuple" ∧ o.data = .seq its n ∧ its.size ≤ sizeLine ∧ Vals vs its.toList

/-- a list, a tuple that stays as it is -/
def StL (K : PySem.W.Frag) (O : Ow) (H : Hp) (a : Addr) (vs : List V) : Prop := (Rd H a (.lst vs) ∧ O a = none) ∨ KL K a vs
def StT (K : PySem.W.Frag) (O : Ow) (H : Hp) (a : Addr) (vs : List V) : Prop := (Rd H a (.tup vs) ∧ O a = none) ∨ KT K a vs
theorem StL.sq {K : PySem.W.Frag} {O : Ow} {H : Hp} {a : Addr} {vs : List V} (h : StL K O H a vs) : SqL K H a vs := h.elim (fun q => .inl q.1) fun ⟨its, n, e, hz, hv⟩ =>
  .inr ⟨_, its.toArray, n, e, rfl, rfl, rfl, by rw [List.size_toArray, ← hv.length]; exact hz, by simpa using hv⟩
/-- .. the very object -/
theorem StL.obj {X : Cx} {pins : List (Addr × Obj)} {σ : L2.St} {s : Shared} {O : Ow} {H : Hp} {a : Addr} {vs : List V} (I : Inv X pins σ H s) (h : StL X.K O H a vs) :
    vs.length ≤ sizeLine ∧ ∃ (its : List Value) (n : Nat), Vals vs its ∧ vs.length = its.length ∧ s.heap.get? a = some { cls := .type "list", data := .seq its.toArray n } := by
  rcases h with ⟨h, _⟩ | ⟨its, n, e, hz, hv⟩
  · obtain ⟨z, its, n, r, e⟩ := h.ok I.hok
    exact ⟨z, its, n, r, r.length, e⟩
  · exact ⟨hz, its, n, hv, hv.length, I.kIn a _ e⟩
theorem StT.sq {K : PySem.W.Frag} {O : Ow} {H : Hp} {a : Addr} {vs : List V} (h : StT K O H a vs) : SqT K H a vs := h.elim (fun q => .inl q.1) fun q => .inr q

mutual
inductive Cold (K : PySem.W.Frag) (O : Ow) (H : Hp) : V → PyData → Prop
  | non : Cold K O H .non .none
  | bl (b : Bool) : Cold K O H (.bl b) (.bool b)
  | int (i : Int) : Cold K O H (.int i) (.int i)
  | str (x : Str) : Cold K O H (.str x) (.str x)
  | lst {a : Addr} {vs : List V} {xs : List PyData} : StL K O H a vs → ColdA K O H vs xs → Cold K O H (.ref a) (.list xs)
  | tup {a : Addr} {vs : List V} {xs : List PyData} : StT K O H a vs → ColdA K O H vs xs → Cold K O H (.ref a) (.tuple xs)
inductive ColdA (K : PySem.W.Frag) (O : Ow) (H : Hp) : List V → List PyData → Prop
  | nil : ColdA K O H [] []
  | cons {v : V} {vs : List V} {x : PyData} {xs : List PyData} : Cold K O H v x → ColdA K O H vs xs → ColdA K O H (v :: vs) (x :: xs)
end

mutual
inductive Rep (K : PySem.W.Frag) (O : Ow) (θ : List Addr) (H : Hp) : Rt → List Nat → V → Vl → Prop
  | d {r : Rt} {p : List Nat} {v : V} {x : PyData} : Cold K O H v x → Rep K O θ H r p v (.d x)
  | ref {r : Rt} {p : List Nat} {l : Nat} {a : Addr} : θ[l]? = some a → Rep K O θ H r p (.ref a) (.ref l)
  | own {r : Rt} {p : List Nat} {a : Addr} {vs : List V} {xs : List Vl} : H a = some (.lst vs) → O a = some (r, p) → RepA K O θ H r p 0 vs xs → Rep K O θ H r p (.ref a) (.own xs)
inductive RepA (K : PySem.W.Frag) (O : Ow) (θ : List Addr) (H : Hp) : Rt → List Nat → Nat → List V → List Vl → Prop
  | nil {r : Rt} {p : List Nat} {k : Nat} : RepA K O θ H r p k [] []
  | cons {r : Rt} {p : List Nat} {k : Nat} {v : V} {vs : List V} {x : Vl} {xs : List Vl} : Rep K O θ H r (k :: p) v x → RepA K O θ H r p (k + 1) vs xs → RepA K O θ H r p k (v :: vs) (x :: xs)
end

/-- roots that a step at depth n leaves alone -/
def keepR (n : Nat) : Rt → Prop
  | .tmp m => m < n
  | .out _ => True
  | _ => False
theorem keepR_mono {n m : Nat} (h : n ≤ m) : ∀ {r : Rt}, keepR n r → keepR m r
  | .tmp _, k => Nat.lt_of_lt_of_le k h
  | .out _, _ => True.intro
  | .slot _, k => k
  | .cell _, k => k

/-- what a step at depth n leaves as it was -/
structure Fr (n : Nat) (O : Ow) (H : Hp) (O' : Ow) (H' : Hp) : Prop where
  keep : ∀ a r p, O a = some (r, p) → keepR n r → O' a = O a ∧ H' a = H a
  cold : ∀ a o, O a = none → H a = some o → O' a = none ∧ H' a = some o

def Ext (θ θ' : List Addr) : Prop := ∀ (l : Nat) (a : Addr), θ[l]? = some a → θ'[l]? = some a

theorem Ext.refl (θ : List Addr) : Ext θ θ := fun _ _ h => h
theorem Ext.trans {θ θ1 θ2 : List Addr} (a : Ext θ θ1) (b : Ext θ1 θ2) : Ext θ θ2 := fun l x h => b l x (a l x h)
theorem Ext.app (θ more : List Addr) : Ext θ (θ ++ more) := fun l a h => by
  obtain ⟨hl, _⟩ := List.getElem?_eq_some_iff.mp h
  rw [List.getElem?_append_left hl]
  exact h

/-- what is cold stays so -/
def Keeps (O : Ow) (H : Hp) (O' : Ow) (H' : Hp) : Prop := ∀ a o, O a = none → H a = some o → O' a = none ∧ H' a = some o

section
variable {K : PySem.W.Frag} {O O' O1 : Ow} {H H' H1 : Hp} {n m : Nat} {θ θ' : List Addr} {r r' : Rt} {p p' : List Nat}

theorem Fr.refl : Fr n O H O H := ⟨fun _ _ _ _ _ => ⟨rfl, rfl⟩, fun _ _ h1 h2 => ⟨h1, h2⟩⟩
theorem Fr.trans (a : Fr n O H O1 H1) (b : Fr m O1 H1 O' H') (h : n ≤ m) : Fr n O H O' H' where
  keep := fun x r p e k => by
    obtain ⟨e1, e2⟩ := a.keep x r p e k
    obtain ⟨e3, e4⟩ := b.keep x r p (e1.trans e) (keepR_mono h k)
    exact ⟨e3.trans e1, e4.trans e2⟩
  cold := fun x o e1 e2 => by
    obtain ⟨q1, q2⟩ := a.cold x o e1 e2
    exact b.cold x o q1 q2
theorem Fr.keeps (a : Fr n O H O' H') : Keeps O H O' H' := a.cold
theorem Fr.weak (a : Fr m O H O' H') (h : n ≤ m) : Fr n O H O' H' := ⟨fun x r p e k => a.keep x r p e (keepR_mono h k), a.cold⟩

/-- the owner of one address set -/
def put (O : Ow) (a : Addr) (t : Option (Rt × List Nat)) : Ow := fun b => if b = a then t else O b
theorem put_same {a : Addr} {t : Option (Rt × List Nat)} : put O a t a = t := if_pos rfl
theorem put_ne {a b : Addr} {t : Option (Rt × List Nat)} (h : b ≠ a) : put O a t b = O b := if_neg h

theorem StL.mono {a : Addr} {vs : List V} (h : StL K O H a vs) (hc : Keeps O H O' H') : StL K O' H' a vs := by
  rcases h with ⟨h1, h2⟩ | h
  · rcases h1 with h1 | ⟨o, h1⟩
    · obtain ⟨q1, q2⟩ := hc a _ h2 h1
      exact .inl ⟨.inl q2, q1⟩
    · obtain ⟨q1, q2⟩ := hc a _ h2 h1
      exact .inl ⟨.inr ⟨o, q2⟩, q1⟩
  · exact .inr h
theorem StT.mono {a : Addr} {vs : List V} (h : StT K O H a vs) (hc : Keeps O H O' H') : StT K O' H' a vs := by
  rcases h with ⟨h1, h2⟩ | h
  · rcases h1 with h1 | ⟨o, h1⟩
    · obtain ⟨q1, q2⟩ := hc a _ h2 h1
      exact .inl ⟨.inl q2, q1⟩
    · obtain ⟨q1, q2⟩ := hc a _ h2 h1
      exact .inl ⟨.inr ⟨o, q2⟩, q1⟩
  · exact .inr h

mutual
theorem Cold.mono (hc : Keeps O H O' H') : ∀ {v : V} {x : PyData}, Cold K O H v x → Cold K O' H' v x
  | _, _, .non => .non
  | _, _, .bl b => .bl b
  | _, _, .int i => .int i
  | _, _, .str x => .str x
  | _, _, .lst h q => .lst (h.mono hc) (ColdA.mono hc q)
  | _, _, .tup h q => .tup (h.mono hc) (ColdA.mono hc q)
theorem ColdA.mono (hc : Keeps O H O' H') : ∀ {vs : List V} {xs : List PyData}, ColdA K O H vs xs → ColdA K O' H' vs xs
  | _, _, .nil => .nil
  | _, _, .cons h q => .cons (Cold.mono hc h) (ColdA.mono hc q)
end

mutual
/-- over to another root, all else that the reading leans on kept -/
theorem Rep.moveP (P : List Nat → Prop) (hP : ∀ k q, P q → P (k :: q)) (hc : Keeps O H O' H') (hθ : Ext θ θ') (g : List Nat → List Nat) (hg : ∀ k q, g (k :: q) = k :: g q)
    (hm : ∀ a q vs, P q → O a = some (r, q) → H a = some (.lst vs) → O' a = some (r', g q) ∧ H' a = some (.lst vs)) :
    ∀ {p : List Nat} {v : V} {x : Vl}, P p → Rep K O θ H r p v x → Rep K O' θ' H' r' (g p) v x
  | _, _, _, _, .d h => .d (h.mono hc)
  | _, _, _, _, .ref h => .ref (hθ _ _ h)
  | _, _, _, hp, .own h1 h2 q => by
    obtain ⟨e1, e2⟩ := hm _ _ _ hp h2 h1
    exact .own e2 e1 (RepA.moveP P hP hc hθ g hg hm hp q)
theorem RepA.moveP (P : List Nat → Prop) (hP : ∀ k q, P q → P (k :: q)) (hc : Keeps O H O' H') (hθ : Ext θ θ') (g : List Nat → List Nat) (hg : ∀ k q, g (k :: q) = k :: g q)
    (hm : ∀ a q vs, P q → O a = some (r, q) → H a = some (.lst vs) → O' a = some (r', g q) ∧ H' a = some (.lst vs)) :
    ∀ {p : List Nat} {k : Nat} {vs : List V} {xs : List Vl}, P p → RepA K O θ H r p k vs xs → RepA K O' θ' H' r' (g p) k vs xs
  | _, _, _, _, _, .nil => .nil
  | _, _, _, _, hp, .cons h q => .cons (by rw [← hg]; exact Rep.moveP P hP hc hθ g hg hm (hP _ _ hp) h) (RepA.moveP P hP hc hθ g hg hm hp q)
end
theorem Rep.move (hc : Keeps O H O' H') (hθ : Ext θ θ') (g : List Nat → List Nat) (hg : ∀ k q, g (k :: q) = k :: g q)
    (hm : ∀ a q vs, O a = some (r, q) → H a = some (.lst vs) → O' a = some (r', g q) ∧ H' a = some (.lst vs)) {p : List Nat} {v : V} {x : Vl} (h : Rep K O θ H r p v x) : Rep K O' θ' H' r' (g p) v x :=
  h.moveP (fun _ => True) (fun _ _ _ => True.intro) hc hθ g hg (fun a q vs _ => hm a q vs) True.intro
/-- the items of a list that itself may change -/
theorem RepA.items (hc : Keeps O H O' H') (hθ : Ext θ θ') (hm : ∀ a q vs, q ≠ [] → O a = some (r, q) → H a = some (.lst vs) → O' a = some (r, q) ∧ H' a = some (.lst vs)) :
    ∀ {p : List Nat} {k : Nat} {vs : List V} {xs : List Vl}, RepA K O θ H r p k vs xs → RepA K O' θ' H' r p k vs xs
  | _, _, _, _, .nil => .nil
  | _, _, _, _, .cons h q => .cons (Rep.moveP (fun q => q ≠ []) (fun _ _ _ z => nomatch z) hc hθ id (fun _ _ => rfl) hm (fun z => nomatch z) h) (RepA.items hc hθ hm q)
theorem RepA.snoc {v : V} {x : Vl} : ∀ {k : Nat} {vs : List V} {xs : List Vl}, RepA K O θ H r p k vs xs → Rep K O θ H r ((k + vs.length) :: p) v x → RepA K O θ H r p k (vs ++ [v]) (xs ++ [x])
  | _, _, _, .nil, h => .cons h .nil
  | k, v' :: vs, x' :: xs, .cons h q, h2 => .cons h (RepA.snoc q (by
    have e : k + (v' :: vs).length = k + 1 + vs.length := by rw [List.length_cons]; omega
    rw [← e]
    exact h2))
/-- a root that is left alone -/
theorem Rep.stay {v : V} {x : Vl} (h : Rep K O θ H r p v x) (hc : Keeps O H O' H') (hθ : Ext θ θ') (hm : ∀ a q, O a = some (r, q) → O' a = O a ∧ H' a = H a) : Rep K O' θ' H' r p v x :=
  Rep.move (g := id) hc hθ (fun _ _ => rfl) (fun a q vs e1 e2 => ⟨(hm a q e1).1.trans e1, (hm a q e1).2.trans e2⟩) h
theorem Rep.fr {v : V} {x : Vl} (h : Rep K O θ H r p v x) (f : Fr n O H O' H') (hθ : Ext θ θ') (hr : keepR n r) : Rep K O' θ' H' r p v x :=
  h.stay f.keeps hθ fun a q e => f.keep a r q e hr

/-- data, as it will stay -/
def coldA (c : Vl → Option PyData) : List Vl → Option (List PyData)
  | [] => some []
  | x :: xs => match c x, coldA c xs with
    | some y, some ys => some (y :: ys)
    | _, _ => none
mutual
def cold : Vl → Option PyData
  | .d x => some x
  | .own xs => match coldL xs with
    | some ys => some (.list ys)
    | none => none
  | .ref _ => none
def coldL : List Vl → Option (List PyData)
  | [] => some []
  | x :: xs => match cold x, coldL xs with
    | some y, some ys => some (y :: ys)
    | _, _ => none
end

mutual
/-- a root's lists change no more -/
theorem Rep.cold (hc : Keeps O H O' H') (hm : ∀ a q vs, O a = some (r, q) → H a = some (.lst vs) → O' a = none ∧ H' a = some (.lst vs)) :
    ∀ {p : List Nat} {v : V} {x : Vl} {y : PyData}, Rep K O θ H r p v x → Ev.cold x = some y → Cold K O' H' v y
  | _, _, _, _, .d h, e => by
    rw [Ev.cold] at e
    cases e
    exact h.mono hc
  | _, _, _, _, .ref _, e => by rw [Ev.cold] at e; cases e
  | _, _, _, _, .own (xs := xs) h1 h2 q, e => by
    rw [Ev.cold] at e
    cases e1 : coldL xs with
    | none => rw [e1] at e; cases e
    | some ys =>
      rw [e1] at e
      cases e
      obtain ⟨q1, q2⟩ := hm _ _ _ h2 h1
      exact .lst (.inl ⟨.inl q2, q1⟩) (RepA.cold hc hm q e1)
theorem RepA.cold (hc : Keeps O H O' H') (hm : ∀ a q vs, O a = some (r, q) → H a = some (.lst vs) → O' a = none ∧ H' a = some (.lst vs)) :
    ∀ {p : List Nat} {k : Nat} {vs : List V} {xs : List Vl} {ys : List PyData}, RepA K O θ H r p k vs xs → coldL xs = some ys → ColdA K O' H' vs ys
  | _, _, _, _, _, .nil, e => by
    rw [coldL] at e
    cases e
    exact .nil
  | _, _, _, _, _, .cons (x := x) (xs := xs) h q, e => by
    rw [coldL] at e
    cases e1 : Ev.cold x with
    | none => rw [e1] at e; cases e
    | some y =>
      cases e2 : coldL xs with
      | none => rw [e1, e2] at e; cases e
      | some zs =>
        rw [e1, e2] at e
        cases e
        exact .cons (Rep.cold hc hm h e1) (RepA.cold hc hm q e2)
end
end
end Ev

/-! Part 2: states, results, readings by an evaluator. -/
namespace Ev
open PySem PySem.Spec PyProof.Rows L2

/-- a raised error: its class (by place in the table), its fields -/
structure Xc where
  c : Nat
  fs : List (Str × PyData)

inductive R (α : Type) where
  | err
  | ok (a : α) (s : S)
  | exc (x : Xc) (s : S)

def R.bind {α β : Type} (r : R α) (f : α → S → R β) : R β :=
  match r with
  | .err => .err
  | .ok a s => f a s
  | .exc x s => .exc x s
def R.of {α : Type} (o : Option α) (s : S) : R α :=
  match o with
  | some a => .ok a s
  | none => .err
@[simp] theorem R.bind_ok {α β : Type} (a : α) (s : S) (f : α → S → R β) : (R.ok a s).bind f = f a s := rfl
@[simp] theorem R.bind_err {α β : Type} (f : α → S → R β) : (R.err : R α).bind f = .err := rfl
@[simp] theorem R.bind_exc {α β : Type} (x : Xc) (s : S) (f : α → S → R β) : (R.exc x s : R α).bind f = .exc x s := rfl
@[simp] theorem R.of_some {α : Type} (a : α) (s : S) : R.of (some a) s = .ok a s := rfl

structure Rel (K : PySem.W.Frag) (O : Ow) (θ : List Addr) (H : Hp) (σ : L2.St) (s : S) : Prop where
  len : σ.length = s.ρ.length
  tl : θ.length = s.st.length
  env : ∀ (i : Nat) (x : Vl), s.ρ[i]? = some (some x) → ∃ v, σ[i]? = some (some v) ∧ Rep K O θ H (.slot i) [] v x
  sto : ∀ (l : Nat) (x : Vl), s.st[l]? = some x → ∃ a, θ[l]? = some a ∧ Rep K O θ H (.cell l) [] (.ref a) x
  wf : ∀ a t, O a = some t → ∃ o, H a = some o

/-- how a raised error lies in the heap -/
abbrev XRt := Xc → Value → Option Addr → Ow → Hp → Prop

/-- what holds behind a result; an error that was raised is wished for -/
def AfG {α : Type} (K : PySem.W.Frag) (X : XRt) (W : WX) (O : Ow) (θ : List Addr) (n : Nat) (σ : L2.St) (H : Hp) (r : R α) (P : α → S → Prop) : Prop :=
  match r with
  | .err => False
  | .ok x s' => P x s'
  | .exc x s' => ∀ cls d O' θ' H', Fr n O H O' H' → Ext θ θ' → Rel K O' θ' H' σ s' → X x cls d O' H' → W cls d σ H'
abbrev Af (K : PySem.W.Frag) (X : XRt) (W : WX) (O : Ow) (θ : List Addr) (n : Nat) (σ : L2.St) (H : Hp) (r : R Vl) (Q : VK) : Prop :=
  AfG K X W O θ n σ H r fun x s' => ∀ v O' θ' H', Fr n O H O' H' → Ext θ θ' → Rel K O' θ' H' σ s' → Rep K O' θ' H' (.tmp n) [] v x → Q v H'
abbrev AfT (K : PySem.W.Frag) (X : XRt) (W : WX) (O : Ow) (θ : List Addr) (n : Nat) (σ : L2.St) (H : Hp) (r : R Bool) (Q : Bool → Hp → Prop) : Prop :=
  AfG K X W O θ n σ H r fun x s' => ∀ O' θ' H', Fr n O H O' H' → Ext θ θ' → Rel K O' θ' H' σ s' → Q x H'
/-- values in a row, each at its own root -/
inductive Row (K : PySem.W.Frag) (O : Ow) (θ : List Addr) (H : Hp) : Nat → List V → List Vl → Prop
  | nil {n : Nat} : Row K O θ H n [] []
  | cons {n : Nat} {v : V} {vs : List V} {x : Vl} {xs : List Vl} : Rep K O θ H (.tmp n) [] v x → Row K O θ H (n + 1) vs xs → Row K O θ H n (v :: vs) (x :: xs)
abbrev AfA (K : PySem.W.Frag) (X : XRt) (W : WX) (O : Ow) (θ : List Addr) (n : Nat) (σ : L2.St) (H : Hp) (r : R (List Vl)) (Q : List V → Hp → Prop) : Prop :=
  AfG K X W O θ n σ H r fun xs s' => ∀ vs O' θ' H', Fr n O H O' H' → Ext θ θ' → Rel K O' θ' H' σ s' → Row K O' θ' H' n vs xs → Q vs H'

theorem afg_bind {α β : Type} {K : PySem.W.Frag} {X : XRt} {W : WX} {O : Ow} {θ : List Addr} {n m : Nat} {σ : L2.St} {H : Hp} {r : R α} {g : α → S → R β} {P : β → S → Prop} {P' : α → S → Prop}
    (hm : n ≤ m) (h : AfG K X W O θ n σ H (r.bind g) P) (next : ∀ a s1, AfG K X W O θ n σ H (g a s1) P → P' a s1) : AfG K X W O θ m σ H r P' := by
  cases r with
  | err => exact h
  | exc x s' => exact fun cls d O' θ' H' f e R q => h cls d O' θ' H' (f.weak hm) e R q
  | ok a s1 => exact next a s1 h
section
variable {K : PySem.W.Frag} {X : XRt} {W : WX} {O O1 : Ow} {θ θ1 : List Addr} {n m : Nat} {σ : L2.St} {H H1 : Hp}
theorem af_move {r : R Vl} {Q : VK} (h : Af K X W O θ n σ H r Q) (f : Fr n O H O1 H1) (e : Ext θ θ1) : Af K X W O1 θ1 n σ H1 r Q := by
  cases r with
  | err => exact h
  | exc x s' => exact fun cls d O' θ' H' f2 e2 R q => h cls d O' θ' H' (f.trans f2 (Nat.le_refl _)) (e.trans e2) R q
  | ok a s1 => exact fun v O' θ' H' f2 e2 R q => h v O' θ' H' (f.trans f2 (Nat.le_refl _)) (e.trans e2) R q
theorem aft_move {r : R Bool} {Q : Bool → Hp → Prop} (h : AfT K X W O θ n σ H r Q) (f : Fr n O H O1 H1) (e : Ext θ θ1) : AfT K X W O1 θ1 n σ H1 r Q := by
  cases r with
  | err => exact h
  | exc x s' => exact fun cls d O' θ' H' f2 e2 R q => h cls d O' θ' H' (f.trans f2 (Nat.le_refl _)) (e.trans e2) R q
  | ok a s1 => exact fun O' θ' H' f2 e2 R => h O' θ' H' (f.trans f2 (Nat.le_refl _)) (e.trans e2) R
theorem afa_move {r : R (List Vl)} {Q : List V → Hp → Prop} (h : AfA K X W O θ n σ H r Q) (f : Fr n O H O1 H1) (e : Ext θ θ1) : AfA K X W O1 θ1 n σ H1 r Q := by
  cases r with
  | err => exact h
  | exc x s' => exact fun cls d O' θ' H' f2 e2 R q => h cls d O' θ' H' (f.trans f2 (Nat.le_refl _)) (e.trans e2) R q
  | ok a s1 => exact fun v O' θ' H' f2 e2 R q => h v O' θ' H' (f.trans f2 (Nat.le_refl _)) (e.trans e2) R q
end

def Wp (K : PySem.W.Frag) (X : XRt) (W : WX) (f : S → R Vl) : TE := fun σ H Q => ∃ (s : S) (O : Ow) (θ : List Addr) (n : Nat), Rel K O θ H σ s ∧ Af K X W O θ n σ H (f s) Q
def WpT (K : PySem.W.Frag) (X : XRt) (W : WX) (f : S → R Bool) : TT := fun σ H Q => ∃ (s : S) (O : Ow) (θ : List Addr) (n : Nat), Rel K O θ H σ s ∧ AfT K X W O θ n σ H (f s) Q
def WpA (K : PySem.W.Frag) (X : XRt) (W : WX) (f : S → R (List Vl)) : TA := fun σ H Q => ∃ (s : S) (O : Ow) (θ : List Addr) (n : Nat), Rel K O θ H σ s ∧ AfA K X W O θ n σ H (f s) Q

theorem pe_imp {X : Cx} {e : Expr} {t t' : TE} (h : PE X e t) (i : ∀ σ H Q, t' σ H Q → t σ H Q) : PE X e t' := ⟨fun pins s σ H Q I q => h.run pins s σ H Q I (i σ H Q q)⟩
theorem pt_imp {X : Cx} {e : Expr} {t t' : TT} (h : PT X e t) (i : ∀ σ H Q, t' σ H Q → t σ H Q) : PT X e t' := ⟨fun pins s σ H Q I q => h.run pins s σ H Q I (i σ H Q q)⟩
theorem pw_imp {X : Cx} {e : Expr} {t t' : TT} (h : PW X e t) (i : ∀ σ H Q, t' σ H Q → t σ H Q) : PW X e t' := ⟨fun wh pins s σ H Q I q => h.run wh pins s σ H Q I (i σ H Q q)⟩
theorem pa_imp {X : Cx} {e : List Expr} {t t' : TA} (h : PA X e t) (i : ∀ σ H Q, t' σ H Q → t σ H Q) : PA X e t' := ⟨fun pos pins s σ H Q I q => h.run pos pins s σ H Q I (i σ H Q q)⟩
theorem ps_imp {X : Cx} {e : Stmt} {t t' : TS} (h : PS X e t) (i : ∀ D σ H, t' D σ H → t D σ H) : PS X e t' := ⟨fun pins s σ H D I q => h.run pins s σ H D I (i D σ H q)⟩
theorem pss_imp {X : Cx} {e : List Stmt} {t t' : TS} (h : PSs X e t) (i : ∀ D σ H, t' D σ H → t D σ H) : PSs X e t' := ⟨fun pins s σ H D I q => h.run pins s σ H D I (i D σ H q)⟩

section
variable {K : PySem.W.Frag} {XR : XRt} {W : WX} {O O' O1 : Ow} {H H' H1 : Hp} {n m : Nat} {θ θ' θ1 : List Addr} {σ : L2.St} {s s1 : S}

/-- all roots from n on go cold -/
def coldFrom (n : Nat) (O : Ow) : Ow := fun a => match O a with
  | some (.tmp m, q) => if n ≤ m then none else some (.tmp m, q)
  | t => t
theorem coldFrom_keep {a : Addr} {r : Rt} {p : List Nat} (e : O a = some (r, p)) (k : keepR n r) : coldFrom n O a = O a := by
  unfold coldFrom
  rw [e]
  cases r with
  | tmp m => exact if_neg (Nat.not_le_of_lt k)
  | slot i => rfl
  | cell l => rfl
  | out m => rfl
theorem coldFrom_slot {a : Addr} {i : Nat} {p : List Nat} (e : O a = some (.slot i, p)) : coldFrom n O a = O a := by
  unfold coldFrom
  rw [e]
theorem coldFrom_cell {a : Addr} {i : Nat} {p : List Nat} (e : O a = some (.cell i, p)) : coldFrom n O a = O a := by
  unfold coldFrom
  rw [e]
theorem coldFrom_none {a : Addr} (e : O a = none) : coldFrom n O a = none := by
  unfold coldFrom
  rw [e]
theorem coldFrom_tmp {a : Addr} {p : List Nat} (h : n ≤ m) (e : O a = some (.tmp m, p)) : coldFrom n O a = none := by
  unfold coldFrom
  rw [e]
  exact if_pos h
theorem coldFrom_some {a : Addr} {t : Rt × List Nat} (e : coldFrom n O a = some t) : O a = some t := by
  unfold coldFrom at e
  split at e
  · split at e
    · cases e
    · rename_i h _
      rw [h, ← e]
  · exact e
theorem fr_coldFrom : Fr n O H (coldFrom n O) H := ⟨fun _ _ _ e k => ⟨coldFrom_keep e k, rfl⟩, fun _ _ e1 e2 => ⟨coldFrom_none e1, e2⟩⟩
theorem Rel.coldFrom (R : Rel K O θ H σ s) (n : Nat) : Rel K (Ev.coldFrom n O) θ H σ s where
  len := R.len
  tl := R.tl
  env := fun i x e => by
    obtain ⟨v, h1, h2⟩ := R.env i x e
    exact ⟨v, h1, h2.stay (fr_coldFrom (n := n)).keeps (.refl _) fun a q e => ⟨coldFrom_slot e, rfl⟩⟩
  sto := fun l x e => by
    obtain ⟨v, h1, h2⟩ := R.sto l x e
    exact ⟨v, h1, h2.stay (fr_coldFrom (n := n)).keeps (.refl _) fun a q e => ⟨coldFrom_cell e, rfl⟩⟩
  wf := fun a t e => R.wf a t (coldFrom_some e)
theorem Rep.coldFrom {v : V} {x : Vl} {y : PyData} {p : List Nat} (h : Rep K O θ H (.tmp m) p v x) (hm : n ≤ m) (e : Ev.cold x = some y) : Cold K (Ev.coldFrom n O) H v y :=
  Rep.cold (fr_coldFrom (n := n)).keeps (fun _ _ _ e1 e2 => ⟨coldFrom_tmp hm e1, e2⟩) h e
theorem Row.coldFrom : ∀ {m : Nat} {vs : List V} {xs : List Vl} {ys : List PyData}, n ≤ m → Row K O θ H m vs xs → coldL xs = some ys → ColdA K (Ev.coldFrom n O) H vs ys
  | _, _, _, _, _, .nil, e => by
    rw [coldL] at e
    cases e
    exact .nil
  | _, _, _, _, hm, .cons (x := x) (xs := xs) h q, e => by
    rw [coldL] at e
    cases e1 : cold x with
    | none => rw [e1] at e; cases e
    | some y =>
      cases e2 : coldL xs with
      | none => rw [e1, e2] at e; cases e
      | some zs =>
        rw [e1, e2] at e
        cases e
        exact .cons (h.coldFrom hm e1) (Row.coldFrom (Nat.le_succ_of_le hm) q e2)

theorem Rel.fresh (R : Rel K O θ H σ s) {a : Addr} (h : H a = none) : O a = none := by
  cases e : O a with
  | none => rfl
  | some t =>
    obtain ⟨o, q⟩ := R.wf a t e
    rw [h] at q
    cases q
/-- a new object that is cold -/
theorem Rel.newC (R : Rel K O θ H σ s) {a : Addr} {o : HO} (h : H a = none) : Rel K O θ (upd H a o) σ s := by
  have ho := R.fresh h
  have hc : Keeps O H O (upd H a o) := fun b u e1 e2 => ⟨e1, by rw [upd_ne (ne_of_none e2 h)]; exact e2⟩
  have ha : ∀ b t, O b = some t → upd H a o b = H b := fun b t e => upd_ne fun z => by rw [z, ho] at e; cases e
  exact {
    len := R.len
    tl := R.tl
    env := fun i x e => by
      obtain ⟨v, h1, h2⟩ := R.env i x e
      exact ⟨v, h1, h2.stay hc (.refl _) fun b q e => ⟨rfl, ha b _ e⟩⟩
    sto := fun l x e => by
      obtain ⟨v, h1, h2⟩ := R.sto l x e
      exact ⟨v, h1, h2.stay hc (.refl _) fun b q e => ⟨rfl, ha b _ e⟩⟩
    wf := fun b t e => by
      obtain ⟨u, q⟩ := R.wf b t e
      exact ⟨u, (ha b t e).trans q⟩ }
theorem fr_newC (R : Rel K O θ H σ s) {a : Addr} {o : HO} (h : H a = none) : Fr n O H O (upd H a o) := by
  have ho := R.fresh h
  exact ⟨fun b r p e _ => ⟨rfl, upd_ne fun z => by rw [z, ho] at e; cases e⟩, fun b u e1 e2 => ⟨e1, by rw [upd_ne (ne_of_none e2 h)]; exact e2⟩⟩
/-- a new list with an owner -/
theorem Rel.newO (R : Rel K O θ H σ s) {a : Addr} {o : HO} (h : H a = none) (t : Rt × List Nat) : Rel K (put O a (some t)) θ (upd H a o) σ s := by
  have ho := R.fresh h
  have hc : Keeps O H (put O a (some t)) (upd H a o) := fun b u e1 e2 => ⟨by rw [put_ne (ne_of_none e2 h)]; exact e1, by rw [upd_ne (ne_of_none e2 h)]; exact e2⟩
  have ne : ∀ b u, O b = some u → b ≠ a := fun b u e z => by rw [z, ho] at e; cases e
  exact {
    len := R.len
    tl := R.tl
    env := fun i x e => by
      obtain ⟨v, h1, h2⟩ := R.env i x e
      exact ⟨v, h1, h2.stay hc (.refl _) fun b q e => ⟨put_ne (ne b _ e), upd_ne (ne b _ e)⟩⟩
    sto := fun l x e => by
      obtain ⟨v, h1, h2⟩ := R.sto l x e
      exact ⟨v, h1, h2.stay hc (.refl _) fun b q e => ⟨put_ne (ne b _ e), upd_ne (ne b _ e)⟩⟩
    wf := fun b u e => by
      by_cases hb : b = a
      · rw [hb]
        exact ⟨o, upd_same⟩
      · rw [put_ne hb] at e
        obtain ⟨w, q⟩ := R.wf b u e
        exact ⟨w, (upd_ne hb).trans q⟩ }
theorem fr_newO (R : Rel K O θ H σ s) {a : Addr} {o : HO} (h : H a = none) (t : Rt × List Nat) : Fr n O H (put O a (some t)) (upd H a o) := by
  have ho := R.fresh h
  have ne : ∀ b u, O b = some u → b ≠ a := fun b u e z => by rw [z, ho] at e; cases e
  exact ⟨fun b r p e _ => ⟨put_ne (ne b _ e), upd_ne (ne b _ e)⟩, fun b u e1 e2 => ⟨by rw [put_ne (ne_of_none e2 h)]; exact e1, by rw [upd_ne (ne_of_none e2 h)]; exact e2⟩⟩

/-- data is what the kit's deep rules read -/
theorem StL.rd {a : Addr} {vs : List V} (h : StL K O H a vs) : SqL K H a vs := h.sq
mutual
theorem Cold.dp : ∀ {v : V} {x : PyData}, Cold K O H v x → Dp K H v x
  | _, _, .non => .non
  | _, _, .bl b => .bl b
  | _, _, .int i => .int i
  | _, _, .str x => .str x
  | _, _, .lst h q => .lst h.sq (ColdA.dp q)
  | _, _, .tup h q => .tup h.sq (ColdA.dp q)
theorem ColdA.dp : ∀ {vs : List V} {xs : List PyData}, ColdA K O H vs xs → DpAll K H vs xs
  | _, _, .nil => .nil
  | _, _, .cons h q => .cons (Cold.dp h) (ColdA.dp q)
end
theorem ColdA.len : ∀ {vs : List V} {xs : List PyData}, ColdA K O H vs xs → vs.length = xs.length
  | _, _, .nil => rfl
  | _, _, .cons _ q => congrArg (· + 1) (ColdA.len q)
theorem ColdA.get : ∀ {vs : List V} {xs : List PyData} {i : Nat} {x : PyData}, ColdA K O H vs xs → xs[i]? = some x → ∃ v, vs[i]? = some v ∧ Cold K O H v x
  | _, _, _, _, .nil, e => by simp at e
  | _, _, 0, _, .cons h _, e => by
    simp at e
    subst e
    exact ⟨_, rfl, h⟩
  | _, _, i + 1, x, .cons _ q, e => by
    obtain ⟨v, h1, h2⟩ := ColdA.get (i := i) (x := x) q (by simpa using e)
    exact ⟨v, by simpa using h1, h2⟩
theorem ColdA.app : ∀ {vs ws : List V} {xs ys : List PyData}, ColdA K O H vs xs → ColdA K O H ws ys → ColdA K O H (vs ++ ws) (xs ++ ys)
  | _, _, _, _, .nil, h => h
  | _, _, _, _, .cons a b, h => .cons a (ColdA.app b h)
theorem RepA.ofCold {r : Rt} {p : List Nat} : ∀ {k : Nat} {vs : List V} {xs : List PyData}, ColdA K O H vs xs → RepA K O θ H r p k vs (xs.map Vl.d)
  | _, _, _, .nil => .nil
  | _, _, _, .cons h q => .cons (.d h) (RepA.ofCold q)
theorem RepA.len {r : Rt} {p : List Nat} : ∀ {k : Nat} {vs : List V} {xs : List Vl}, RepA K O θ H r p k vs xs → vs.length = xs.length
  | _, _, _, .nil => rfl
  | _, _, _, .cons _ q => congrArg (· + 1) (RepA.len q)
theorem Row.len : ∀ {n : Nat} {vs : List V} {xs : List Vl}, Row K O θ H n vs xs → vs.length = xs.length
  | _, _, _, .nil => rfl
  | _, _, _, .cons _ q => congrArg (· + 1) (Row.len q)
theorem Row.fr : ∀ {j : Nat} {vs : List V} {xs : List Vl}, Row K O θ H j vs xs → (j + vs.length ≤ m) → Fr m O H O' H' → Ext θ θ' → Row K O' θ' H' j vs xs
  | _, _, _, .nil, _, _, _ => .nil
  | j, v :: vs, _, .cons h q, hl, f, e => by
    rw [List.length_cons] at hl
    exact .cons (h.fr f e (show j < m by omega)) (Row.fr q (by omega) f e)
end
end Ev

/-! Part 3: operations on data. -/
namespace Ev
open PySem PySem.Spec PyProof.Rows L2

/-- the evaluator's own line for sizes -/
abbrev LIM : Nat := 1000000
theorem lim_le {n : Nat} (h : n ≤ LIM) : n ≤ sizeLine := Nat.le_trans h (by decide)
theorem lim_lt {n : Nat} (h : n < LIM) : n < sizeLine := Nat.lt_of_lt_of_le h (by decide)

def dL (xs : List PyData) : Vl := .own (xs.map Vl.d)

def addD : PyData → PyData → Option Vl
  | .int i, .int j => some (.d (.int (i + j)))
  | .bool b, .int j => some (.d (.int ((if b = true then 1 else 0) + j)))
  | .int i, .bool b => some (.d (.int (i + if b = true then 1 else 0)))
  | .str x, .str y => if x.length + y.length ≤ LIM then some (.d (.str (x ++ y))) else none
  | .tuple xs, .tuple ys => if xs.length + ys.length ≤ LIM then some (.d (.tuple (xs ++ ys))) else none
  | .list xs, .list ys => if xs.length + ys.length ≤ LIM then some (dL (xs ++ ys)) else none
  | _, _ => none
def subD : PyData → PyData → Option Vl
  | .int i, .int j => some (.d (.int (i - j)))
  | _, _ => none
def mulD : PyData → PyData → Option Vl
  | .int i, .int j => if (-(2 ^ 64) < i ∧ i < 2 ^ 64) ∨ (-(2 ^ 64) < j ∧ j < 2 ^ 64) then some (.d (.int (i * j))) else none
  | .list xs, .int k => if xs.length ≤ 1000 ∧ -1000 ≤ k ∧ k ≤ 1000 then some (dL (List.replicate k.toNat xs).flatten) else none
  | _, _ => none
def fdivD : PyData → PyData → Option Vl
  | .int i, .int j => if 0 < j ∧ j < 1073741824 then some (.d (.int (i / j))) else none
  | _, _ => none
def modD : PyData → PyData → Option Vl
  | .int i, .int j => if 0 < j then some (.d (.int (i % j))) else none
  | _, _ => none
def powD : PyData → PyData → Option Vl
  | .int i, .int j => if 0 ≤ j ∧ j ≤ 1000000 ∧ i.natAbs < 2 ^ 64 then some (.d (.int (i ^ j.toNat))) else none
  | _, _ => none

/-- an operation on data as a reading on values -/
def rG (K : PySem.W.Frag) (g : PyData → PyData → Option Vl) : R2 := fun x y H Q => ∃ (n : Nat) (O : Ow) (θ : List Addr) (σ : L2.St) (s : S) (a b : PyData) (z : Vl),
  Rel K O θ H σ s ∧ Cold K O H x a ∧ Cold K O H y b ∧ g a b = some z ∧ ∀ u O' H', Fr n O H O' H' → Rel K O' θ H' σ s → Rep K O' θ H' (.tmp n) [] u z → Q u H'
def rG1 (K : PySem.W.Frag) (g : PyData → Option Vl) : V → Hp → VK → Prop := fun x H Q => ∃ (n : Nat) (O : Ow) (θ : List Addr) (σ : L2.St) (s : S) (a : PyData) (z : Vl),
  Rel K O θ H σ s ∧ Cold K O H x a ∧ g a = some z ∧ ∀ u O' H', Fr n O H O' H' → Rel K O' θ H' σ s → Rep K O' θ H' (.tmp n) [] u z → Q u H'
def rGA (K : PySem.W.Frag) (g : List PyData → Option Vl) : List V → Hp → VK → Prop := fun xs H Q => ∃ (n : Nat) (O : Ow) (θ : List Addr) (σ : L2.St) (s : S) (as : List PyData) (z : Vl),
  Rel K O θ H σ s ∧ ColdA K O H xs as ∧ g as = some z ∧ ∀ u O' H', Fr n O H O' H' → Rel K O' θ H' σ s → Rep K O' θ H' (.tmp n) [] u z → Q u H'
def rGM (K : PySem.W.Frag) (g : PyData → List PyData → Option Vl) : V → List V → Hp → VK → Prop := fun x xs H Q => ∃ (n : Nat) (O : Ow) (θ : List Addr) (σ : L2.St) (s : S) (a : PyData) (as : List PyData) (z : Vl),
  Rel K O θ H σ s ∧ Cold K O H x a ∧ ColdA K O H xs as ∧ g a as = some z ∧ ∀ u O' H', Fr n O H O' H' → Rel K O' θ H' σ s → Rep K O' θ H' (.tmp n) [] u z → Q u H'

section
variable {K : PySem.W.Frag} {O : Ow} {θ : List Addr} {H : Hp} {σ : L2.St} {s : S} {n : Nat} {z : Vl} {Q : VK}

/-- ends: plain data; a new tuple; a new list -/
theorem end_d (R : Rel K O θ H σ s) {v : V} {x : PyData} (q : ∀ u O' H', Fr n O H O' H' → Rel K O' θ H' σ s → Rep K O' θ H' (.tmp n) [] u (.d x) → Q u H') (h : Cold K O H v x) : Q v H :=
  q v O H Fr.refl R (.d h)
theorem end_tup (R : Rel K O θ H σ s) {vs : List V} {xs : List PyData} (q : ∀ u O' H', Fr n O H O' H' → Rel K O' θ H' σ s → Rep K O' θ H' (.tmp n) [] u (.d (.tuple xs)) → Q u H') (h : ColdA K O H vs xs) :
    ∀ p, H p = none → Q (.ref p) (upd H p (.tup vs)) := fun p hp => by
  have f : Fr n O H O (upd H p (.tup vs)) := fr_newC R hp
  exact q _ _ _ f (R.newC hp) (.d (.tup (.inl ⟨.inl upd_same, R.fresh hp⟩) (h.mono f.keeps)))
theorem end_lst (R : Rel K O θ H σ s) {vs : List V} {xs : List PyData} (q : ∀ u O' H', Fr n O H O' H' → Rel K O' θ H' σ s → Rep K O' θ H' (.tmp n) [] u (dL xs) → Q u H') (h : ColdA K O H vs xs) :
    ∀ p, H p = none → Q (.ref p) (upd H p (.lst vs)) := fun p hp => by
  have f : Fr n O H (put O p (some (.tmp n, []))) (upd H p (.lst vs)) := fr_newO R hp _
  exact q _ _ _ f (R.newO hp _) (.own upd_same put_same (RepA.ofCold (h.mono f.keeps)))

theorem ColdA.rep {vs : List V} {xs : List PyData} (h : ColdA K O H vs xs) : ∀ k : Nat, ColdA K O H (List.replicate k vs).flatten (List.replicate k xs).flatten
  | 0 => .nil
  | k + 1 => by
    rw [List.replicate_succ, List.replicate_succ, List.flatten_cons, List.flatten_cons]
    exact h.app (ColdA.rep h k)
theorem ColdA.drop : ∀ {vs : List V} {xs : List PyData} (n : Nat), ColdA K O H vs xs → ColdA K O H (vs.drop n) (xs.drop n)
  | _, _, 0, h => h
  | _, _, _ + 1, .nil => .nil
  | _, _, n + 1, .cons _ q => ColdA.drop n q
theorem ColdA.take : ∀ {vs : List V} {xs : List PyData} (n : Nat), ColdA K O H vs xs → ColdA K O H (vs.take n) (xs.take n)
  | _, _, 0, _ => .nil
  | _, _, _ + 1, .nil => .nil
  | _, _, n + 1, .cons h q => .cons h (ColdA.take n q)
theorem ColdA.rev : ∀ {vs : List V} {xs : List PyData}, ColdA K O H vs xs → ColdA K O H vs.reverse xs.reverse
  | _, _, .nil => .nil
  | _, _, .cons h q => by
    rw [List.reverse_cons, List.reverse_cons]
    exact (ColdA.rev q).app (.cons h .nil)
end

section
variable {X : Cx}
theorem g_add : OpR X (binaryOp .Add) (rG X.K addD) := by
  rintro pins s σ H x y v u Q I rx ry ⟨n, O, θ, σ', s', a, b, z, R, ca, cb, e, q⟩
  cases a <;> cases b <;> first
    | (cases e; done)
    | skip
  · cases e
    cases ca
    cases cb
    cases rx
    obtain ⟨t, rfl⟩ := ry
    exact IntBool.add_bool_int ⟨.int _, H, I.tok _, ⟨_, rfl⟩, end_d R q (.int _)⟩
  · cases e
    cases ca
    cases cb
    exact op_add_ib pins s σ H _ _ v u Q I rx ry ⟨_, _, rfl, rfl, end_d R q (.int _)⟩
  · cases e
    cases ca
    cases cb
    exact op_add pins s σ H _ _ v u Q I rx ry ⟨_, _, rfl, rfl, end_d R q (.int _)⟩
  · rename_i x1 y1
    rw [addD] at e
    split at e
    · rename_i hz
      cases e
      cases ca
      cases cb
      exact op_add_str pins s σ H _ _ v u Q I rx ry ⟨_, _, rfl, rfl, lim_le hz, end_d R q (.str _)⟩
    · cases e
  · rw [addD] at e
    split at e
    · rename_i hz
      cases e
      cases ca with
      | lst h1 c1 =>
        cases cb with
        | lst h2 c2 =>
          cases rx
          cases ry
          obtain ⟨z1, its, n1, r1, hl1, e1⟩ := h1.obj I
          obtain ⟨z2, its2, n2, r2, hl2, e2⟩ := h2.obj I
          have l1 := c1.len
          have l2 := c2.len
          have hs : its.length + its2.length ≤ sizeLine := lim_le (by omega)
          refine PySem.P.add_list e1 e2 ?_ (by rw [List.size_toArray, List.size_toArray]; exact hs)
          have ea : its.toArray ++ its2.toArray = (its ++ its2).toArray := by simp
          rw [ea]
          exact ⟨.ref _, _, I.lnew (t' := s.toks) (r1.append r2) (by rw [List.length_append]; omega), rfl, end_lst R q (c1.app c2) _ I.fresh⟩
    · cases e
  · rw [addD] at e
    split at e
    · rename_i hz
      cases e
      cases ca with
      | tup h1 c1 =>
        cases cb with
        | tup h2 c2 =>
          have l1 := c1.len
          have l2 := c2.len
          refine op_catA pins s σ H _ _ v u Q I rx ry ⟨_, _, _, _, rfl, rfl, h1.sq, h2.sq, lim_le (by omega), fun z1 => ?_, fun _ z2 => ?_, fun _ _ => end_tup R q (c1.app c2)⟩
          · subst z1
            cases c1
            exact end_d R q (.tup h2 c2)
          · subst z2
            cases c2
            rw [List.append_nil] at q
            exact end_d R q (.tup h1 c1)
    · cases e
theorem g_sub : OpR X (binaryOp .Sub) (rG X.K subD) := by
  rintro pins s σ H x y v u Q I rx ry ⟨n, O, θ, σ', s', a, b, z, R, ca, cb, e, q⟩
  cases a <;> cases b <;> first
    | (cases e; done)
    | skip
  cases e
  cases ca
  cases cb
  exact op_sub pins s σ H _ _ v u Q I rx ry ⟨_, _, rfl, rfl, end_d R q (.int _)⟩
theorem g_mul : OpR X (binaryOp .Mult) (rG X.K mulD) := by
  rintro pins s σ H x y v u Q I rx ry ⟨n, O, θ, σ', s', a, b, z, R, ca, cb, e, q⟩
  cases a <;> cases b <;> first
    | (cases e; done)
    | skip
  · rw [mulD] at e
    split at e
    · rename_i hz
      cases e
      cases ca
      cases cb
      exact op_mul pins s σ H _ _ v u Q I rx ry ⟨_, _, rfl, rfl, hz, end_d R q (.int _)⟩
    · cases e
  · rename_i xs k
    rw [mulD] at e
    split at e
    · rename_i hz
      cases e
      cases ca with
      | lst h1 c1 =>
        cases cb
        cases rx
        obtain ⟨t, rfl⟩ := ry
        obtain ⟨z1, its, n1, r1, hl1, e1⟩ := h1.obj I
        have l1 := c1.len
        have kb : k.toNat ≤ 1000 := by omega
        have tot : its.length * k.toNat ≤ 1000 * 1000 := Nat.mul_le_mul (by omega) kb
        have totS : its.toArray.size * k.toNat ≤ sizeLine := by
          rw [List.size_toArray]
          exact lim_le tot
        have cap : ¬ its.toArray.size * k.toNat > (2 ^ 63 - 1) / 8 := fun z => by
          have c1 : (sizeLine : Nat) ≤ (2 ^ 63 - 1) / 8 := by decide
          omega
        have fit : ¬ (!Builtin.List.listFitsIndex k) = true := fun z => by
          rw [fitsIndex_both (show -(2 ^ 63) ≤ k by omega) (show k < 2 ^ 63 by omega)] at z
          cases z
        have lng : ¬ Builtin.List.listTooLong (its.toArray.size * k.toNat) = true := fun z => by
          rw [notLongL totS] at z
          cases z
        have made : List.foldl (fun x1 x2 => x1 ++ x2) #[] (List.replicate (if its.toArray.isEmpty = true then 0 else k.toNat) its.toArray) = (List.replicate k.toNat its).flatten.toArray := by
          have g (j : Nat) := foldl_rep its j []
          simp only [List.nil_append] at g
          rw [g]
          cases its with
          | nil => simp
          | cons w ws => rw [if_neg (by simp)]
        refine wpAny_binaryOp_repeat_ref (T := "list") (U := "int") (by decide) ⟨_, e1, rfl⟩ (fun s' => typeIs_int s' k t)
          noFill_list_mul F.fills_int_mul F.slot_int_rmul repeat_list F.slot_int_index.lookup ?_
        refine call_meets F.slot_int_rmul (typeIs_int s k t) F.entry_int_rmul
          (F.args_int_rmul_2 _ _) (int___rmul___int_list k t _ its.toArray n1) ⟨e1, rfl, ⟨_, e1, rfl⟩, ?_⟩
        refine call_meets F.slot_list_mul ⟨_, e1, rfl⟩ F.entry_list_mul (F.args_list_mul_2 _ _)
          (AutoListH.list___mul___list_int_3 _ its.toArray n1 k t fit cap lng) ⟨e1, ?_⟩
        rw [made]
        refine ⟨.ref _, _, I.lnew (t' := s.toks) (r1.rep k.toNat) ?_, rfl, end_lst R q (c1.rep k.toNat) _ I.fresh⟩
        rw [PyProof.Rows.lm_len_rep_flat, Nat.mul_comm, hl1]
        exact lim_le tot
    · cases e
theorem g_fdiv : OpR X (binaryOp .FloorDiv) (rG X.K fdivD) := by
  rintro pins s σ H x y v u Q I rx ry ⟨n, O, θ, σ', s', a, b, z, R, ca, cb, e, q⟩
  cases a <;> cases b <;> first
    | (cases e; done)
    | skip
  rw [fdivD] at e
  split at e
  · rename_i hz
    cases e
    cases ca
    cases cb
    exact op_fdiv pins s σ H _ _ v u Q I rx ry ⟨_, _, rfl, rfl, hz, end_d R q (.int _)⟩
  · cases e
theorem g_mod : OpR X (binaryOp .Mod) (rG X.K modD) := by
  rintro pins s σ H x y v u Q I rx ry ⟨n, O, θ, σ', s', a, b, z, R, ca, cb, e, q⟩
  cases a <;> cases b <;> first
    | (cases e; done)
    | skip
  rw [modD] at e
  split at e
  · rename_i hz
    cases e
    cases ca
    cases cb
    exact op_mod pins s σ H _ _ v u Q I rx ry ⟨_, _, rfl, rfl, hz, end_d R q (.int _)⟩
  · cases e
theorem g_pow : OpR X (binaryOp .Pow) (rG X.K powD) := by
  rintro pins s σ H x y v u Q I rx ry ⟨n, O, θ, σ', s', a, b, z, R, ca, cb, e, q⟩
  cases a <;> cases b <;> first
    | (cases e; done)
    | skip
  rw [powD] at e
  split at e
  · rename_i hz
    cases e
    cases ca
    cases cb
    exact op_pow pins s σ H _ _ v u Q I rx ry ⟨_, _, rfl, rfl, hz, end_d R q (.int _)⟩
  · cases e
end
end Ev

/-! Part 4: expressions as functions of states. -/
namespace Ev
open PySem PySem.Spec PyProof.Rows L2

section
variable {K : PySem.W.Frag} {XR : XRt} {W : WX} {O O' O1 : Ow} {H H' H1 : Hp} {n m : Nat} {θ θ' θ1 : List Addr} {σ : L2.St} {s s1 : S}

/-- one root goes cold -/
def coldR (r : Rt) (O : Ow) : Ow := fun a => match O a with
  | some (r', q) => if r' = r then none else some (r', q)
  | none => none
theorem coldR_ne {r r' : Rt} {a : Addr} {q : List Nat} (e : O a = some (r', q)) (h : r' ≠ r) : coldR r O a = O a := by
  unfold coldR
  rw [e]
  exact if_neg h
theorem coldR_at {r : Rt} {a : Addr} {q : List Nat} (e : O a = some (r, q)) : coldR r O a = none := by
  unfold coldR
  rw [e]
  exact if_pos rfl
theorem coldR_none {r : Rt} {a : Addr} (e : O a = none) : coldR r O a = none := by
  unfold coldR
  rw [e]
theorem coldR_some {r : Rt} {a : Addr} {t : Rt × List Nat} (e : coldR r O a = some t) : O a = some t := by
  unfold coldR at e
  split at e
  · split at e
    · cases e
    · rename_i h _
      rw [h, ← e]
  · cases e
theorem fr_coldR {r : Rt} (h : ¬ keepR n r) : Fr n O H (coldR r O) H := ⟨fun _ r' _ e k => ⟨coldR_ne e fun z => h (z ▸ k), rfl⟩, fun _ _ e1 e2 => ⟨coldR_none e1, e2⟩⟩
theorem keeps_coldR {r : Rt} : Keeps O H (coldR r O) H := fun _ _ e1 e2 => ⟨coldR_none e1, e2⟩
theorem Rep.coldRoot {r : Rt} {p : List Nat} {v : V} {x : Vl} {y : PyData} (h : Rep K O θ H r p v x) (e : Ev.cold x = some y) : Cold K (coldR r O) H v y :=
  Rep.cold keeps_coldR (fun _ _ _ e1 e2 => ⟨coldR_at e1, e2⟩) h e

/-- a slot set -/
theorem Rel.slot {i : Nat} {v : V} {x : Vl} (R : Rel K O θ H σ s) (hc : Keeps O H O' H') (he : Ext θ θ)
    (hs : ∀ a j q, O a = some (.slot j, q) → j ≠ i → O' a = O a ∧ H' a = H a) (hl : ∀ a j q, O a = some (.cell j, q) → O' a = O a ∧ H' a = H a)
    (wf : ∀ a t, O' a = some t → ∃ o, H' a = some o) (new : Rep K O' θ H' (.slot i) [] v x) : Rel K O' θ H' (σ.set i (some v)) ⟨s.ρ.set i (some x), s.st⟩ where
  len := by rw [List.length_set, List.length_set]; exact R.len
  tl := R.tl
  env := fun j y e => by
    by_cases hj : j = i
    · subst hj
      have hlt : j < s.ρ.length := by
        obtain ⟨h1, _⟩ := List.getElem?_eq_some_iff.mp e
        rw [List.length_set] at h1
        exact h1
      rw [List.getElem?_set_self hlt] at e
      cases e
      exact ⟨v, by rw [List.getElem?_set_self (by rw [R.len]; exact hlt)], new⟩
    · rw [List.getElem?_set_ne (Ne.symm hj)] at e
      obtain ⟨w, h1, h2⟩ := R.env j y e
      exact ⟨w, by rw [List.getElem?_set_ne (Ne.symm hj)]; exact h1, h2.stay hc he fun a q e => hs a j q e hj⟩
  sto := fun l y e => by
    obtain ⟨a, h1, h2⟩ := R.sto l y e
    exact ⟨a, he _ _ h1, h2.stay hc he fun b q e => hl b l q e⟩
  wf := wf
theorem set_same {α : Type} {l : List α} {i : Nat} {x : α} (h : l[i]? = some x) : l.set i x = l := by
  obtain ⟨h1, h2⟩ := List.getElem?_eq_some_iff.mp h
  subst h2
  exact List.set_getElem_self h1
theorem Rel.coldSlot {i : Nat} {x : Vl} {y : PyData} (R : Rel K O θ H σ s) (e : s.ρ[i]? = some (some x)) (c : Ev.cold x = some y) : Rel K (coldR (.slot i) O) θ H σ ⟨s.ρ.set i (some (.d y)), s.st⟩ := by
  obtain ⟨v, h1, h2⟩ := R.env i x e
  have q := R.slot (i := i) (O' := coldR (.slot i) O) (H' := H) (x := .d y) (v := v) keeps_coldR (.refl _) (fun a j q e hj => ⟨coldR_ne e fun z => hj (by cases z; rfl), rfl⟩) (fun a j q e => ⟨coldR_ne e (by intro z; cases z), rfl⟩)
    (fun a t e => R.wf a t (coldR_some e)) (.d (h2.coldRoot c))
  rwa [set_same h1] at q

/-! ### the functions -/
abbrev F := S → R Vl
def cCon (x : PyData) : F := fun s => .ok (.d x) s
def cVar (i : Nat) : F := fun s => match s.ρ[i]? with
  | some (some (.d x)) => .ok (.d x) s
  | some (some (.ref l)) => .ok (.ref l) s
  | some (some (.own xs)) => match coldL xs with
    | some ys => .ok (.d (.list ys)) ⟨s.ρ.set i (some (.d (.list ys))), s.st⟩
    | none => .err
  | _ => .err
def cT (f : F) : S → R Bool := fun s => (f s).bind fun x s1 => match x with
  | .d (.bool b) => .ok b s1
  | _ => .err
/-- two operands, as data -/
def cBin (g : PyData → PyData → Option Vl) (fa fb : F) : F := fun s => (fa s).bind fun x s1 => (fb s1).bind fun y s2 => match cold x, cold y with
  | some a, some b => R.of (g a b) s2
  | _, _ => .err
def cUn (g : PyData → Option Vl) (fa : F) : F := fun s => (fa s).bind fun x s1 => match cold x with
  | some a => R.of (g a) s1
  | none => .err
def cAnd (fa fb : F) : F := fun s => (cT fa s).bind fun c s1 => if c = true then fb s1 else .ok (.d (.bool false)) s1
def cOr (fa fb : F) : F := fun s => (cT fa s).bind fun c s1 => if c = true then .ok (.d (.bool true)) s1 else fb s1
def cNot (fa : F) : F := fun s => (cT fa s).bind fun c s1 => .ok (.d (.bool (!c))) s1
def cIf (fc fa fb : F) : F := fun s => (cT fc s).bind fun c s1 => if c = true then fa s1 else fb s1
def cNil : S → R (List Vl) := fun s => .ok [] s
def cCons (fa : F) (fr : S → R (List Vl)) : S → R (List Vl) := fun s => (fa s).bind fun x s1 => (fr s1).bind fun xs s2 => .ok (x :: xs) s2
/-- arguments, as data -/
def cArgs (g : List PyData → Option Vl) (fr : S → R (List Vl)) : F := fun s => (fr s).bind fun xs s1 => match coldL xs with
  | some ys => R.of (g ys) s1
  | none => .err
def cMeth (g : PyData → List PyData → Option Vl) (fa : F) (fr : S → R (List Vl)) : F := fun s => (fa s).bind fun x s1 => (fr s1).bind fun xs s2 => match cold x, coldL xs with
  | some a, some ys => R.of (g a ys) s2
  | _, _ => .err
def tupD (xs : List PyData) : Option Vl := if xs.length ≤ LIM then some (.d (.tuple xs)) else none
def lstD (xs : List PyData) : Option Vl := if xs.length ≤ LIM then some (dL xs) else none

/-! ### readings -/
theorem wp_con {X : Cx} {e : Expr} {v : V} {x : PyData} (h : PE X e (tC v)) (c : ∀ O H, Cold X.K O H v x) : PE X e (Wp X.K XR W (cCon x)) :=
  pe_imp h fun σ H Q ⟨s, O, θ, n, R, q⟩ => q v O θ H Fr.refl (.refl _) R (.d (c O H))
theorem wp_var {X : Cx} {e : Expr} {i : Nat} (h : PE X e (tVar i)) : PE X e (Wp X.K XR W (cVar i)) := by
  refine pe_imp h fun σ H Q ⟨s, O, θ, n, R, q⟩ => ?_
  unfold cVar at q
  cases e : s.ρ[i]? with
  | none => rw [e] at q; exact q.elim
  | some o =>
    cases o with
    | none => rw [e] at q; exact q.elim
    | some x =>
      obtain ⟨v, h1, h2⟩ := R.env i x e
      refine ⟨v, h1, ?_⟩
      rw [e] at q
      cases x with
      | d y =>
        cases h2 with
        | d c => exact q v O θ H Fr.refl (.refl _) R (.d c)
      | ref l =>
        cases h2 with
        | ref c => exact q _ O θ H Fr.refl (.refl _) R (.ref c)
      | own xs =>
        simp only at q
        cases ec : coldL xs with
        | none => rw [ec] at q; exact q.elim
        | some ys =>
          rw [ec] at q
          have hc : Ev.cold (.own xs) = some (.list ys) := by rw [Ev.cold, ec]
          exact q v (coldR (.slot i) O) θ H (fr_coldR (fun z => z)) (.refl _) (R.coldSlot e hc) (.d (h2.coldRoot hc))

theorem wpT_of {X : Cx} {e : Expr} {f : F} {t : TE} (h : PT X e (fun σ H Q => t σ H fun x H' => ∃ k, x = .bl k ∧ Q k H')) (i : ∀ σ H Q, Wp X.K XR W f σ H Q → t σ H Q) : PT X e (WpT X.K XR W (cT f)) := by
  refine pt_imp h fun σ H Q ⟨s, O, θ, n, R, q⟩ => i _ _ _ ⟨s, O, θ, n, R, ?_⟩
  refine afg_bind (Nat.le_refl _) q fun x s1 h1 v O' θ' H' f e R' P => ?_
  cases P with
  | d c =>
    cases c with
    | bl b => exact ⟨b, rfl, h1 O' θ' H' f e R'⟩
    | _ => exact h1.elim
  | ref c => exact h1.elim
  | own c _ _ => exact h1.elim
/-- a value that is True or False, as a test -/
theorem wpT_val {X : Cx} {e : Expr} {f : F} (h : PE X e (Wp X.K XR W f)) (he : ∀ whole, isTrue e X.env whole = (do let v ← whole; standAt e.pos; holding [v] (truthy v))) : PT X e (WpT X.K XR W (cT f)) :=
  wpT_of (t := Wp X.K XR W f) (pt_val h he) fun _ _ _ q => q

theorem i_bin {fa fb : F} {g : PyData → PyData → Option Vl} {Q : VK} (h : Wp K XR W (cBin g fa fb) σ H Q) : tOp (rG K g) (Wp K XR W fa) (Wp K XR W fb) σ H Q := by
  obtain ⟨s, O, θ, n, R, q⟩ := h
  refine ⟨s, O, θ, n, R, afg_bind (Nat.le_refl _) q fun x s1 h1 v O1 θ1 H1 f1 e1 R1 P1 => ?_⟩
  refine ⟨s1, O1, θ1, n + 1, R1, afg_bind (Nat.le_succ _) (af_move h1 f1 e1) fun y s2 h2 w O2 θ2 H2 f2 e2 R2 P2 => ?_⟩
  have P1' := P1.fr f2 e2 (show n < n + 1 by omega)
  cases ex : Ev.cold x with
  | none => rw [ex] at h2; exact h2.elim
  | some a =>
    cases ey : Ev.cold y with
    | none => rw [ex, ey] at h2; exact h2.elim
    | some b =>
      rw [ex, ey] at h2
      cases ez : g a b with
      | none => simp only [ez] at h2; exact h2.elim
      | some z =>
        simp only [ez] at h2
        have fc : Fr n O2 H2 (coldFrom n O2) H2 := fr_coldFrom
        refine ⟨n, coldFrom n O2, θ2, σ, s2, a, b, z, R2.coldFrom n, P1'.coldFrom (Nat.le_refl _) ex, P2.coldFrom (Nat.le_succ _) ey, ez, fun u O' H' f3 R3 P3 => ?_⟩
        exact h2 u O' θ2 H' (((f2.weak (Nat.le_succ _)).trans fc (Nat.le_refl _)).trans f3 (Nat.le_refl _)) e2 R3 P3
theorem wp_bin {X : Cx} {a b : Expr} {op : Operator} {pos : Pos} {fa fb : F} {g : PyData → PyData → Option Vl} (ha : PE X a (Wp X.K XR W fa)) (hb : PE X b (Wp X.K XR W fb)) (ho : OpR X (binaryOp op) (rG X.K g)) :
    PE X (.BinOp a op b pos) (Wp X.K XR W (cBin g fa fb)) := pe_imp (pe_op ho ha hb) fun _ _ _ q => i_bin q
theorem wp_cmp {X : Cx} {a b : Expr} {op : CmpOp} {pos : Pos} {fa fb : F} {g : PyData → PyData → Option Vl} (ha : PE X a (Wp X.K XR W fa)) (hb : PE X b (Wp X.K XR W fb)) (ho : OpR X (compareOp op) (rG X.K g)) (hm : behindInMarks op b = false) :
    PE X (.Compare a [op] [b] pos) (Wp X.K XR W (cBin g fa fb)) := pe_imp (pe_cmpR ho ha hb hm) fun _ _ _ q => i_bin q
theorem wpT_cmp {X : Cx} {a b : Expr} {op : CmpOp} {pos : Pos} {fa fb : F} {g : PyData → PyData → Option Vl} (ha : PE X a (Wp X.K XR W fa)) (hb : PE X b (Wp X.K XR W fb)) (ho : OpR X (compareOp op) (rG X.K g)) (hm : behindInMarks op b = false) :
    PT X (.Compare a [op] [b] pos) (WpT X.K XR W (cT (cBin g fa fb))) := wpT_of (pt_cmpR ho ha hb hm) fun _ _ _ q => i_bin q
theorem wp_un {X : Cx} {a : Expr} {op : UnaryOp} {pos : Pos} {fa : F} {g : PyData → Option Vl} (ha : PE X a (Wp X.K XR W fa)) (ho : UnR X (unaryOp op) (rG1 X.K g)) :
    PE X (.UnaryOp op a pos) (Wp X.K XR W (cUn g fa)) := pe_imp (pe_un ho ha) fun σ H Q ⟨s, O, θ, n, R, q⟩ => by
  refine ⟨s, O, θ, n, R, afg_bind (Nat.le_refl _) q fun x s1 h1 v O1 θ1 H1 f1 e1 R1 P1 => ?_⟩
  cases ex : Ev.cold x with
  | none => rw [ex] at h1; exact h1.elim
  | some a =>
    rw [ex] at h1
    cases ez : g a with
    | none => simp only [ez] at h1; exact h1.elim
    | some z =>
      simp only [ez] at h1
      have fc : Fr n O1 H1 (coldFrom n O1) H1 := fr_coldFrom
      exact ⟨n, coldFrom n O1, θ1, σ, s1, a, z, R1.coldFrom n, P1.coldFrom (Nat.le_refl _) ex, ez, fun u O' H' f3 R3 P3 => h1 u O' θ1 H' ((f1.trans fc (Nat.le_refl _)).trans f3 (Nat.le_refl _)) e1 R3 P3⟩

/-! and, or, not, if -/
theorem i_bool {f : F} {Q : VK} {g : Bool → S → R Vl} (q : Af K XR W O θ n σ H ((cT f s).bind g) Q) {Q' : VK}
    (next : ∀ c s1 O1 θ1 H1, Fr n O H O1 H1 → Ext θ θ1 → Rel K O1 θ1 H1 σ s1 → Af K XR W O1 θ1 n σ H1 (g c s1) Q → Q' (.bl c) H1) : Af K XR W O θ n σ H (f s) Q' := by
  have q' : Af K XR W O θ n σ H ((f s).bind fun x s1 => (match x with | .d (.bool b) => R.ok b s1 | _ => R.err).bind g) Q := by
    unfold cT at q
    cases e : f s with
    | err => rw [e] at q; exact q
    | exc x s' => rw [e] at q; exact q
    | ok x s' => rw [e] at q; exact q
  refine afg_bind (Nat.le_refl _) q' fun x s1 h1 v O1 θ1 H1 f1 e1 R1 P1 => ?_
  cases P1 with
  | d c =>
    cases c with
    | bl b => exact next b s1 O1 θ1 H1 f1 e1 R1 (af_move h1 f1 e1)
    | _ => exact h1.elim
  | ref c => exact h1.elim
  | own c _ _ => exact h1.elim
theorem wp_and {X : Cx} {a b : Expr} {rest : List Expr} {pos : Pos} {fa fb : F} (ha : PE X a (Wp X.K XR W fa)) (hb : PE X (.BoolOp .And (b :: rest) pos) (Wp X.K XR W fb)) :
    PE X (.BoolOp .And (a :: b :: rest) pos) (Wp X.K XR W (cAnd fa fb)) := pe_imp (pe_and ha hb) fun σ H Q ⟨s, O, θ, n, R, q⟩ => by
  refine ⟨s, O, θ, n, R, i_bool q fun c s1 O1 θ1 H1 f1 e1 R1 h1 => ⟨c, rfl, ?_⟩⟩
  cases c with
  | true => exact ⟨s1, O1, θ1, n, R1, h1⟩
  | false => exact h1 _ O1 θ1 H1 Fr.refl (.refl _) R1 (.d (.bl false))
theorem wp_or {X : Cx} {a b : Expr} {rest : List Expr} {pos : Pos} {fa fb : F} (ha : PE X a (Wp X.K XR W fa)) (hb : PE X (.BoolOp .Or (b :: rest) pos) (Wp X.K XR W fb)) :
    PE X (.BoolOp .Or (a :: b :: rest) pos) (Wp X.K XR W (cOr fa fb)) := pe_imp (pe_or ha hb) fun σ H Q ⟨s, O, θ, n, R, q⟩ => by
  refine ⟨s, O, θ, n, R, i_bool q fun c s1 O1 θ1 H1 f1 e1 R1 h1 => ⟨c, rfl, ?_⟩⟩
  cases c with
  | false => exact ⟨s1, O1, θ1, n, R1, h1⟩
  | true => exact h1 _ O1 θ1 H1 Fr.refl (.refl _) R1 (.d (.bl true))
theorem wp_not {X : Cx} {a : Expr} {pos : Pos} {fa : F} (ha : PE X a (Wp X.K XR W fa)) : PE X (.UnaryOp .Not a pos) (Wp X.K XR W (cNot fa)) := pe_imp (pe_not ha) fun σ H Q ⟨s, O, θ, n, R, q⟩ => by
  refine ⟨s, O, θ, n, R, i_bool q fun c s1 O1 θ1 H1 f1 e1 R1 h1 => ⟨c, rfl, ?_⟩⟩
  exact h1 _ O1 θ1 H1 Fr.refl (.refl _) R1 (.d (.bl (!c)))
theorem wp_if {X : Cx} {c a b : Expr} {pos : Pos} {fc fa fb : F} (hc : PT X c (WpT X.K XR W (cT fc))) (ha : PE X a (Wp X.K XR W fa)) (hb : PE X b (Wp X.K XR W fb)) : PE X (.IfExp c a b pos) (Wp X.K XR W (cIf fc fa fb)) :=
  pe_imp (pe_ifExp hc ha hb) fun σ H Q ⟨s, O, θ, n, R, q⟩ => by
  refine ⟨s, O, θ, n, R, afg_bind (Nat.le_refl _) q fun k s1 h1 O1 θ1 H1 f1 e1 R1 => ?_⟩
  cases k with
  | true => exact ⟨s1, O1, θ1, n, R1, af_move h1 f1 e1⟩
  | false => exact ⟨s1, O1, θ1, n, R1, af_move h1 f1 e1⟩
/-- .. as tests -/
theorem t_and {fa fb : F} (s : S) : cT (cAnd fa fb) s = (cT fa s).bind fun c s1 => if c = true then cT fb s1 else .ok false s1 := by
  unfold cAnd
  show ((cT fa s).bind _).bind _ = _
  cases cT fa s with
  | err => rfl
  | exc x s' => rfl
  | ok c s1 => cases c <;> rfl
theorem t_or {fa fb : F} (s : S) : cT (cOr fa fb) s = (cT fa s).bind fun c s1 => if c = true then .ok true s1 else cT fb s1 := by
  unfold cOr
  show ((cT fa s).bind _).bind _ = _
  cases cT fa s with
  | err => rfl
  | exc x s' => rfl
  | ok c s1 => cases c <;> rfl
theorem t_not {fa : F} (s : S) : cT (cNot fa) s = (cT fa s).bind fun c s1 => .ok (!c) s1 := by
  unfold cNot
  show ((cT fa s).bind _).bind _ = _
  cases cT fa s <;> rfl
theorem wpW_and {X : Cx} {a b : Expr} {rest : List Expr} {pos : Pos} {fa fb : F} (ha : PT X a (WpT X.K XR W (cT fa))) (hb : PW X (.BoolOp .And (b :: rest) pos) (WpT X.K XR W (cT fb))) :
    PW X (.BoolOp .And (a :: b :: rest) pos) (WpT X.K XR W (cT (cAnd fa fb))) := pw_imp (pw_and ha hb) fun σ H Q ⟨s, O, θ, n, R, q⟩ => by
  rw [t_and] at q
  refine ⟨s, O, θ, n, R, afg_bind (Nat.le_refl _) q fun k s1 h1 O1 θ1 H1 f1 e1 R1 => ?_⟩
  cases k with
  | true => exact ⟨s1, O1, θ1, n, R1, aft_move h1 f1 e1⟩
  | false => exact h1 O1 θ1 H1 f1 e1 R1
theorem wpW_or {X : Cx} {a b : Expr} {rest : List Expr} {pos : Pos} {fa fb : F} (ha : PT X a (WpT X.K XR W (cT fa))) (hb : PW X (.BoolOp .Or (b :: rest) pos) (WpT X.K XR W (cT fb))) :
    PW X (.BoolOp .Or (a :: b :: rest) pos) (WpT X.K XR W (cT (cOr fa fb))) := pw_imp (pw_or ha hb) fun σ H Q ⟨s, O, θ, n, R, q⟩ => by
  rw [t_or] at q
  refine ⟨s, O, θ, n, R, afg_bind (Nat.le_refl _) q fun k s1 h1 O1 θ1 H1 f1 e1 R1 => ?_⟩
  cases k with
  | false => exact ⟨s1, O1, θ1, n, R1, aft_move h1 f1 e1⟩
  | true => exact h1 O1 θ1 H1 f1 e1 R1
theorem wpT_not {X : Cx} {a : Expr} {pos : Pos} {fa : F} (ha : PT X a (WpT X.K XR W (cT fa))) : PT X (.UnaryOp .Not a pos) (WpT X.K XR W (cT (cNot fa))) := pt_imp (pt_not ha) fun σ H Q ⟨s, O, θ, n, R, q⟩ => by
  rw [t_not] at q
  exact ⟨s, O, θ, n, R, afg_bind (Nat.le_refl _) q fun k s1 h1 O1 θ1 H1 f1 e1 R1 => h1 O1 θ1 H1 f1 e1 R1⟩

/-! rows of arguments -/
theorem wa_nil {X : Cx} : PA X [] (WpA X.K XR W cNil) := pa_imp pa_nil fun σ H Q ⟨s, O, θ, n, R, q⟩ => q [] O θ H Fr.refl (.refl _) R .nil
theorem wa_cons {X : Cx} {a : Expr} {es : List Expr} {fa : F} {fr : S → R (List Vl)} (ha : PE X a (Wp X.K XR W fa)) (hr : PA X es (WpA X.K XR W fr)) (hs : starEach (a :: es) X.env = (false, eval a X.env) :: starEach es X.env) :
    PA X (a :: es) (WpA X.K XR W (cCons fa fr)) := pa_imp (pa_cons ha hr hs) fun σ H Q ⟨s, O, θ, n, R, q⟩ => by
  refine ⟨s, O, θ, n, R, afg_bind (Nat.le_refl _) q fun x s1 h1 v O1 θ1 H1 f1 e1 R1 P1 => ?_⟩
  refine ⟨s1, O1, θ1, n + 1, R1, afg_bind (Nat.le_succ _) (afa_move h1 f1 e1) fun xs s2 h2 vs O2 θ2 H2 f2 e2 R2 P2 => ?_⟩
  exact h2 (v :: vs) O2 θ2 H2 (f2.weak (Nat.le_succ _)) e2 R2 (.cons (P1.fr f2 e2 (show n < n + 1 by omega)) P2)
theorem i_args {fr : S → R (List Vl)} {g : List PyData → Option Vl} {Q : VK} (h : Wp K XR W (cArgs g fr) σ H Q) : tCB (rGA K g) (WpA K XR W fr) σ H Q := by
  obtain ⟨s, O, θ, n, R, q⟩ := h
  refine ⟨s, O, θ, n, R, afg_bind (Nat.le_refl _) q fun xs s1 h1 vs O1 θ1 H1 f1 e1 R1 P1 => ?_⟩
  cases ex : coldL xs with
  | none => rw [ex] at h1; exact h1.elim
  | some ys =>
    rw [ex] at h1
    cases ez : g ys with
    | none => simp only [ez] at h1; exact h1.elim
    | some z =>
      simp only [ez] at h1
      have fc : Fr n O1 H1 (coldFrom n O1) H1 := fr_coldFrom
      exact ⟨n, coldFrom n O1, θ1, σ, s1, ys, z, R1.coldFrom n, P1.coldFrom (Nat.le_refl _) ex, ez, fun u O' H' f3 R3 P3 => h1 u O' θ1 H' ((f1.trans fc (Nat.le_refl _)).trans f3 (Nat.le_refl _)) e1 R3 P3⟩
theorem wp_tup {X : Cx} {es : List Expr} {k : Nat} {pos : Pos} {fr : S → R (List Vl)} (h : PA X es (WpA X.K XR W fr)) : PE X (.Tuple es k pos) (Wp X.K XR W (cArgs tupD fr)) :=
  pe_imp (pe_tup h) fun σ H Q q => by
  obtain ⟨s, O, θ, n, R, q⟩ := i_args q
  refine ⟨s, O, θ, n, R, ?_⟩
  refine (show AfA X.K XR W O θ n σ H (fr s) _ from ?_)
  revert q
  cases fr s with
  | err => exact fun q => q
  | exc x s' => exact fun q => q
  | ok xs s' =>
    intro q vs O' θ' H' f e R' P
    obtain ⟨n1, O1, θ1, σ1, s1, as, z, R1, c1, e1, q1⟩ := q vs O' θ' H' f e R' P
    unfold tupD at e1
    split at e1
    · rename_i hz
      cases e1
      exact ⟨lim_le (by rw [c1.len]; exact hz), end_tup R1 q1 c1⟩
    · cases e1
theorem wp_lst {X : Cx} {es : List Expr} {pos : Pos} {fr : S → R (List Vl)} (h : PA X es (WpA X.K XR W fr)) : PE X (.List es pos) (Wp X.K XR W (cArgs lstD fr)) :=
  pe_imp (pe_lst h) fun σ H Q q => by
  obtain ⟨s, O, θ, n, R, q⟩ := i_args q
  refine ⟨s, O, θ, n, R, ?_⟩
  refine (show AfA X.K XR W O θ n σ H (fr s) _ from ?_)
  revert q
  cases fr s with
  | err => exact fun q => q
  | exc x s' => exact fun q => q
  | ok xs s' =>
    intro q vs O' θ' H' f e R' P
    obtain ⟨n1, O1, θ1, σ1, s1, as, z, R1, c1, e1, q1⟩ := q vs O' θ' H' f e R' P
    unfold lstD at e1
    split at e1
    · rename_i hz
      cases e1
      exact ⟨lim_le (by rw [c1.len]; exact hz), end_lst R1 q1 c1⟩
    · cases e1
end
end Ev

/-! Part 5: comparisons, built-in functions. -/
namespace Ev
open PySem PySem.Spec PyProof.Rows L2

def bD (b : Bool) : Option Vl := some (.d (.bool b))
def eqOk : PyData → PyData → Bool
  | .str _, .str _ => true
  | a, b => SeqAt.shaped a && SeqAt.shaped b
def eqD (a b : PyData) : Option Vl := if eqOk a b = true then bD (PyData.eqv a b) else none
def neD (a b : PyData) : Option Vl := if eqOk a b = true then bD (!PyData.eqv a b) else none
def asInts : List PyData → Option (List Int)
  | [] => some []
  | .int i :: r => match asInts r with
    | some is => some (i :: is)
    | none => none
  | _ :: _ => none
def asBools : List PyData → Option (List Bool)
  | [] => some []
  | .bool i :: r => match asBools r with
    | some is => some (i :: is)
    | none => none
  | _ :: _ => none
def asStrs : List PyData → Option (List Str)
  | [] => some []
  | .str i :: r => match asStrs r with
    | some is => some (i :: is)
    | none => none
  | _ :: _ => none
theorem asInts_eq : ∀ {xs : List PyData} {is : List Int}, asInts xs = some is → xs = is.map .int
  | [], _, e => by
    rw [asInts] at e
    cases e
    rfl
  | x :: r, is, e => by
    cases x with
    | int i =>
      rw [asInts] at e
      cases q : asInts r with
      | none => rw [q] at e; cases e
      | some js =>
        rw [q] at e
        cases e
        rw [List.map_cons, ← asInts_eq q]
    | _ => cases e
theorem asBools_eq : ∀ {xs : List PyData} {is : List Bool}, asBools xs = some is → xs = is.map .bool
  | [], _, e => by
    rw [asBools] at e
    cases e
    rfl
  | x :: r, is, e => by
    cases x with
    | bool i =>
      rw [asBools] at e
      cases q : asBools r with
      | none => rw [q] at e; cases e
      | some js =>
        rw [q] at e
        cases e
        rw [List.map_cons, ← asBools_eq q]
    | _ => cases e
theorem asStrs_eq : ∀ {xs : List PyData} {is : List Str}, asStrs xs = some is → xs = is.map .str
  | [], _, e => by
    rw [asStrs] at e
    cases e
    rfl
  | x :: r, is, e => by
    cases x with
    | str i =>
      rw [asStrs] at e
      cases q : asStrs r with
      | none => rw [q] at e; cases e
      | some js =>
        rw [q] at e
        cases e
        rw [List.map_cons, ← asStrs_eq q]
    | _ => cases e
def strLt (i j : Str) : Bool := decide (i.cps.toList < j.cps.toList)
def ltD : PyData → PyData → Option Vl
  | .int i, .int j => bD (decide (i < j))
  | .str i, .str j => bD (strLt i j)
  | .tuple xs, .tuple ys => match asInts xs, asInts ys with
    | some is, some js => bD (HT.lexLt is js)
    | _, _ => none
  | _, _ => none
def gtD : PyData → PyData → Option Vl
  | .int i, .int j => bD (decide (j < i))
  | _, _ => none
def leD : PyData → PyData → Option Vl
  | .int i, .int j => bD (decide (i ≤ j))
  | .str i, .str j => bD (!strLt j i)
  | _, _ => none
def geD : PyData → PyData → Option Vl
  | .int i, .int j => bD (decide (j ≤ i))
  | _, _ => none
def isNone : PyData → Bool
  | .none => true
  | _ => false
def isD : PyData → PyData → Option Vl
  | a, .none => bD (isNone a)
  | .bool a, .bool b => bD (decide (a = b))
  | _, _ => none
def isnotD : PyData → PyData → Option Vl
  | a, .none => bD (!isNone a)
  | .bool a, .bool b => bD (!decide (a = b))
  | _, _ => none
def inStr (i j : Str) : Bool := !(Builtin.Str.occurrences j i 0 j.length 1).isEmpty
def inD : PyData → PyData → Option Vl
  | .str i, .str j => bD (inStr i j)
  | x, .list ys => if (SeqAt.shaped x && SeqAt.shaped (.list ys)) = true then bD (ys.any fun z => PyData.eqv z x) else none
  | x, .tuple ys => if (SeqAt.shaped x && SeqAt.shaped (.tuple ys)) = true then bD (ys.any fun z => PyData.eqv z x) else none
  | _, _ => none
def notinD : PyData → PyData → Option Vl
  | .str i, .str j => bD (!inStr i j)
  | x, .list ys => if (SeqAt.shaped x && SeqAt.shaped (.list ys)) = true then bD (!ys.any fun z => PyData.eqv z x) else none
  | x, .tuple ys => if (SeqAt.shaped x && SeqAt.shaped (.tuple ys)) = true then bD (!ys.any fun z => PyData.eqv z x) else none
  | _, _ => none

section
variable {K : PySem.W.Frag} {O : Ow} {H : Hp}
theorem ColdA.ints : ∀ {is : List Int} {vs : List V}, ColdA K O H vs (is.map .int) → vs = is.map V.int
  | [], _, h => by
    cases h
    rfl
  | i :: r, _, h => by
    cases h with
    | cons a b =>
      cases a
      rw [List.map_cons, ColdA.ints b]
theorem ColdA.bools : ∀ {is : List Bool} {vs : List V}, ColdA K O H vs (is.map .bool) → vs = is.map V.bl
  | [], _, h => by
    cases h
    rfl
  | i :: r, _, h => by
    cases h with
    | cons a b =>
      cases a
      rw [List.map_cons, ColdA.bools b]
theorem ColdA.strs : ∀ {is : List Str} {vs : List V}, ColdA K O H vs (is.map .str) → vs = is.map V.str
  | [], _, h => by
    cases h
    rfl
  | i :: r, _, h => by
    cases h with
    | cons a b =>
      cases a
      rw [List.map_cons, ColdA.strs b]
theorem cold_ints (is : List Int) : ColdA K O H (is.map V.int) (is.map .int) := by
  induction is with
  | nil => exact .nil
  | cons i r ih => exact .cons (.int i) ih
theorem cold_strs (is : List Str) : ColdA K O H (is.map V.str) (is.map .str) := by
  induction is with
  | nil => exact .nil
  | cons i r ih => exact .cons (.str i) ih
theorem Cold.isN {v : V} {x : PyData} (h : Cold K O H v x) : decide (v = .non) = isNone x := by
  cases h <;> rfl
end

section
variable {X : Cx}
theorem g_eq (hu : X.A.units + 64 < cLine) : OpR X (compareOp .Eq) (rG X.K eqD) := by
  rintro pins s σ H x y v u Q I rx ry ⟨n, O, θ, σ', s', a, b, z, R, ca, cb, e, q⟩
  rw [eqD] at e
  split at e
  · rename_i ok
    cases e
    by_cases hs : (∃ i, a = .str i) ∧ ∃ j, b = .str j
    · obtain ⟨⟨i, rfl⟩, ⟨j, rfl⟩⟩ := hs
      cases ca
      cases cb
      refine op_eq pins s σ H _ _ v u Q I rx ry ⟨rfl, ?_⟩
      have : PyData.eqv (.str i) (.str j) = decide (V.str i = V.str j) := by rw [dec_str]; rfl
      rw [← this]
      exact end_d R q (.bl _)
    · have sh : (SeqAt.shaped a && SeqAt.shaped b) = true := by
        unfold eqOk at ok
        split at ok
        · exact absurd ⟨⟨_, rfl⟩, _, rfl⟩ hs
        · exact ok
      obtain ⟨s1, s2⟩ := Bool.and_eq_true_iff.mp sh
      exact op_eqD hu pins s σ H _ _ v u Q I rx ry ⟨a, b, ca.dp, cb.dp, s1, s2, end_d R q (.bl _)⟩
  · cases e
theorem g_ne (hu : X.A.units + 64 < cLine) : OpR X (compareOp .NotEq) (rG X.K neD) := by
  rintro pins s σ H x y v u Q I rx ry ⟨n, O, θ, σ', s', a, b, z, R, ca, cb, e, q⟩
  rw [neD] at e
  split at e
  · rename_i ok
    cases e
    by_cases hs : (∃ i, a = .str i) ∧ ∃ j, b = .str j
    · obtain ⟨⟨i, rfl⟩, ⟨j, rfl⟩⟩ := hs
      cases ca
      cases cb
      refine op_ne pins s σ H _ _ v u Q I rx ry ⟨rfl, ?_⟩
      have : PyData.eqv (.str i) (.str j) = decide (V.str i = V.str j) := by rw [dec_str]; rfl
      rw [← this]
      exact end_d R q (.bl _)
    · have sh : (SeqAt.shaped a && SeqAt.shaped b) = true := by
        unfold eqOk at ok
        split at ok
        · exact absurd ⟨⟨_, rfl⟩, _, rfl⟩ hs
        · exact ok
      obtain ⟨s1, s2⟩ := Bool.and_eq_true_iff.mp sh
      exact op_neD hu pins s σ H _ _ v u Q I rx ry ⟨a, b, ca.dp, cb.dp, s1, s2, end_d R q (.bl _)⟩
  · cases e
theorem g_lt (hu : X.A.units < cLine) : OpR X (compareOp .Lt) (rG X.K ltD) := by
  rintro pins s σ H x y v u Q I rx ry ⟨n, O, θ, σ', s', a, b, z, R, ca, cb, e, q⟩
  cases a <;> cases b <;> first
    | (cases e; done)
    | skip
  · cases e
    cases ca
    cases cb
    exact op_lt pins s σ H _ _ v u Q I rx ry ⟨_, _, rfl, rfl, end_d R q (.bl _)⟩
  · cases e
    cases ca
    cases cb
    exact op_lt_str pins s σ H _ _ v u Q I rx ry ⟨_, _, rfl, rfl, end_d R q (.bl _)⟩
  · rename_i xs ys
    rw [ltD] at e
    cases e1 : asInts xs with
    | none => rw [e1] at e; cases e
    | some is =>
      cases e2 : asInts ys with
      | none => rw [e1, e2] at e; cases e
      | some js =>
        rw [e1, e2] at e
        cases e
        have p1 := asInts_eq e1
        have p2 := asInts_eq e2
        subst p1
        subst p2
        cases ca with
        | tup h1 c1 =>
          cases cb with
          | tup h2 c2 =>
            have p1 := c1.ints
            have p2 := c2.ints
            subst p1
            subst p2
            exact op_ltT hu pins s σ H _ _ v u Q I rx ry ⟨_, _, is, js, rfl, rfl, h1.sq, h2.sq, end_d R q (.bl _)⟩
theorem g_gt : OpR X (compareOp .Gt) (rG X.K gtD) := by
  rintro pins s σ H x y v u Q I rx ry ⟨n, O, θ, σ', s', a, b, z, R, ca, cb, e, q⟩
  cases a <;> cases b <;> first
    | (cases e; done)
    | skip
  cases e
  cases ca
  cases cb
  exact op_gt pins s σ H _ _ v u Q I rx ry ⟨_, _, rfl, rfl, end_d R q (.bl _)⟩
theorem g_ge : OpR X (compareOp .GtE) (rG X.K geD) := by
  rintro pins s σ H x y v u Q I rx ry ⟨n, O, θ, σ', s', a, b, z, R, ca, cb, e, q⟩
  cases a <;> cases b <;> first
    | (cases e; done)
    | skip
  cases e
  cases ca
  cases cb
  exact op_ge pins s σ H _ _ v u Q I rx ry ⟨_, _, rfl, rfl, end_d R q (.bl _)⟩
theorem g_le : OpR X (compareOp .LtE) (rG X.K leD) := by
  rintro pins s σ H x y v u Q I rx ry ⟨n, O, θ, σ', s', a, b, z, R, ca, cb, e, q⟩
  cases a <;> cases b <;> first
    | (cases e; done)
    | skip
  · cases e
    cases ca
    cases cb
    exact op_le pins s σ H _ _ v u Q I rx ry ⟨_, _, rfl, rfl, end_d R q (.bl _)⟩
  · cases e
    cases ca
    cases cb
    obtain ⟨t, rfl⟩ := rx
    obtain ⟨t', rfl⟩ := ry
    exact PySem.P.le_str (fin_bl I (end_d R q (.bl _)) rfl)
theorem g_is : OpR X (compareOp .Is) (rG X.K isD) := by
  rintro pins s σ H x y v u Q I rx ry ⟨n, O, θ, σ', s', a, b, z, R, ca, cb, e, q⟩
  cases b with
  | none =>
    have e' : bD (isNone a) = some z := by cases a <;> exact e
    cases e'
    have n1 := ca.isN
    cases cb
    refine op_isN pins s σ H _ _ v u Q I rx ry ⟨rfl, ?_⟩
    rw [n1]
    exact end_d R q (.bl _)
  | bool j =>
    cases a with
    | bool i =>
      cases e
      cases ca
      cases cb
      exact op_isBl pins s σ H _ _ v u Q I rx ry ⟨_, _, rfl, rfl, end_d R q (.bl _)⟩
    | _ => cases e
  | _ => cases a <;> cases e
theorem g_isnot : OpR X (compareOp .IsNot) (rG X.K isnotD) := by
  rintro pins s σ H x y v u Q I rx ry ⟨n, O, θ, σ', s', a, b, z, R, ca, cb, e, q⟩
  cases b with
  | none =>
    have e' : bD (!isNone a) = some z := by cases a <;> exact e
    cases e'
    have n1 := ca.isN
    cases cb
    refine op_notN pins s σ H _ _ v u Q I rx ry ⟨rfl, ?_⟩
    rw [n1]
    exact end_d R q (.bl _)
  | bool j =>
    cases a with
    | bool i =>
      cases e
      cases ca
      cases cb
      exact op_notBl pins s σ H _ _ v u Q I rx ry ⟨_, _, rfl, rfl, end_d R q (.bl _)⟩
    | _ => cases e
  | _ => cases a <;> cases e
theorem g_in (hu : X.A.units + 65 < cLine) : OpR X (compareOp .In) (rG X.K inD) := by
  rintro pins s σ H x y v u Q I rx ry ⟨n, O, θ, σ', s', a, b, z, R, ca, cb, e, q⟩
  cases b with
  | str j =>
    cases a with
    | str i =>
      cases e
      cases ca
      cases cb
      exact op_in_str pins s σ H _ _ v u Q I rx ry ⟨_, _, rfl, rfl, end_d R q (.bl _)⟩
    | _ => cases e
  | list ys =>
    have e' : (if (SeqAt.shaped a && SeqAt.shaped (.list ys)) = true then bD (ys.any fun z => PyData.eqv z a) else none) = some z := by cases a <;> exact e
    split at e'
    · rename_i sh
      obtain ⟨s1, s2⟩ := Bool.and_eq_true_iff.mp sh
      cases e'
      exact op_inD hu pins s σ H _ _ v u Q I rx ry ⟨a, ys, ca.dp, cb.dp, s1, s2, end_d R q (.bl _)⟩
    · cases e'
  | tuple ys =>
    have e' : (if (SeqAt.shaped a && SeqAt.shaped (.tuple ys)) = true then bD (ys.any fun z => PyData.eqv z a) else none) = some z := by cases a <;> exact e
    split at e'
    · rename_i sh
      obtain ⟨s1, s2⟩ := Bool.and_eq_true_iff.mp sh
      cases e'
      obtain ⟨as, r1⟩ := Dp.reads I a x v ca.dp rx
      obtain ⟨bs, r2⟩ := Dp.reads I (.tuple ys) y u cb.dp ry
      exact SeqAt.in_tuple_reads r2 r1 (SeqAt.canLay_of_shaped s2) (SeqAt.canLay_of_shaped s1) (room_in_shaped s1 hu) (fin_bl I (end_d R q (.bl _)) rfl)
    · cases e'
  | _ => cases a <;> cases e
theorem g_notin (hu : X.A.units + 65 < cLine) : OpR X (compareOp .NotIn) (rG X.K notinD) := by
  rintro pins s σ H x y v u Q I rx ry ⟨n, O, θ, σ', s', a, b, z, R, ca, cb, e, q⟩
  cases b with
  | str j =>
    cases a with
    | str i =>
      cases e
      cases ca
      cases cb
      exact L2.op_notin_str pins s σ H _ _ v u Q I rx ry ⟨_, _, rfl, rfl, end_d R q (.bl _)⟩
    | _ => cases e
  | list ys =>
    have e' : (if (SeqAt.shaped a && SeqAt.shaped (.list ys)) = true then bD (!ys.any fun z => PyData.eqv z a) else none) = some z := by cases a <;> exact e
    split at e'
    · rename_i sh
      obtain ⟨s1, s2⟩ := Bool.and_eq_true_iff.mp sh
      cases e'
      exact op_notInD hu pins s σ H _ _ v u Q I rx ry ⟨a, ys, ca.dp, cb.dp, s1, s2, end_d R q (.bl _)⟩
    · cases e'
  | tuple ys =>
    have e' : (if (SeqAt.shaped a && SeqAt.shaped (.tuple ys)) = true then bD (!ys.any fun z => PyData.eqv z a) else none) = some z := by cases a <;> exact e
    split at e'
    · rename_i sh
      obtain ⟨s1, s2⟩ := Bool.and_eq_true_iff.mp sh
      cases e'
      obtain ⟨as, r1⟩ := Dp.reads I a x v ca.dp rx
      obtain ⟨bs, r2⟩ := Dp.reads I (.tuple ys) y u cb.dp ry
      exact SeqAt.notIn_tuple_reads r2 r1 (SeqAt.canLay_of_shaped s2) (SeqAt.canLay_of_shaped s1) (room_in_shaped s1 hu) (fin_bl I (end_d R q (.bl _)) rfl)
    · cases e'
  | _ => cases a <;> cases e

/-! ### built-in functions -/
def lenD : List PyData → Option Vl
  | [.str x] => if x.length ≤ LIM then some (.d (.int x.length)) else none
  | [.list xs] => some (.d (.int xs.length))
  | [.tuple xs] => some (.d (.int xs.length))
  | _ => none
def reprD : List PyData → Option Vl
  | [x] => if (x.showable && !x.hasDict && decide (x.shown.length ≤ LIM) && decide (x.depth ≤ 60)) = true then some (.d (.str x.shown)) else none
  | _ => none
def intD : List PyData → Option Vl
  | [.int i] => some (.d (.int i))
  | [.bool b] => some (.d (.int (if b then 1 else 0)))
  | _ => none
def strD : List PyData → Option Vl
  | [.int i] => if i.natAbs.log2 < 1920 then some (.d (.str (toString i))) else none
  | [.str x] => some (.d (.str x))
  | _ => none
def tupleD : List PyData → Option Vl
  | [.list xs] => some (.d (.tuple xs))
  | [.tuple xs] => some (.d (.tuple xs))
  | _ => none
def listD : List PyData → Option Vl
  | [.list xs] => some (dL xs)
  | [.tuple xs] => some (dL xs)
  | _ => none
def allD : List PyData → Option Vl
  | [.list xs] => match asBools xs with
    | some bs => bD (bs.all id)
    | none => none
  | _ => none
def anyD : List PyData → Option Vl
  | [.list xs] => match asBools xs with
    | some bs => bD (bs.any id)
    | none => none
  | _ => none
/-- the greatest, the least -/
def maxI : List Int → Option Int
  | [] => none
  | x :: r => match maxI r with
    | some y => some (if x < y then y else x)
    | none => some x
def minI : List Int → Option Int
  | [] => none
  | x :: r => match minI r with
    | some y => some (if y < x then y else x)
    | none => some x
theorem maxI_mem : ∀ {xs : List Int} {m : Int}, maxI xs = some m → m ∈ xs ∧ ∀ y ∈ xs, y ≤ m
  | [], _, e => by cases e
  | x :: r, m, e => by
    rw [maxI] at e
    cases q : maxI r with
    | none =>
      rw [q] at e
      cases e
      cases r with
      | nil => exact ⟨List.mem_cons_self, fun y hy => by simp at hy; omega⟩
      | cons a b => rw [maxI] at q; split at q <;> cases q
    | some y =>
      rw [q] at e
      obtain ⟨h1, h2⟩ := maxI_mem q
      cases e
      by_cases hl : x < y
      · rw [if_pos hl]
        exact ⟨List.mem_cons_of_mem _ h1, fun z hz => by
          rcases List.mem_cons.mp hz with e | hz
          · omega
          · exact h2 z hz⟩
      · rw [if_neg hl]
        exact ⟨List.mem_cons_self, fun z hz => by
          rcases List.mem_cons.mp hz with e | hz
          · omega
          · have := h2 z hz
            omega⟩
theorem minI_mem : ∀ {xs : List Int} {m : Int}, minI xs = some m → m ∈ xs ∧ ∀ y ∈ xs, m ≤ y
  | [], _, e => by cases e
  | x :: r, m, e => by
    rw [minI] at e
    cases q : minI r with
    | none =>
      rw [q] at e
      cases e
      cases r with
      | nil => exact ⟨List.mem_cons_self, fun y hy => by simp at hy; omega⟩
      | cons a b => rw [minI] at q; split at q <;> cases q
    | some y =>
      rw [q] at e
      obtain ⟨h1, h2⟩ := minI_mem q
      cases e
      by_cases hl : y < x
      · rw [if_pos hl]
        exact ⟨List.mem_cons_of_mem _ h1, fun z hz => by
          rcases List.mem_cons.mp hz with e | hz
          · omega
          · exact h2 z hz⟩
      · rw [if_neg hl]
        exact ⟨List.mem_cons_self, fun z hz => by
          rcases List.mem_cons.mp hz with e | hz
          · omega
          · have := h2 z hz
            omega⟩
def maxD : List PyData → Option Vl
  | [.list xs] => match asInts xs with
    | some is => match maxI is with
      | some m => some (.d (.int m))
      | none => none
    | none => none
  | [.int i, .int j] => some (.d (.int (if j > i then j else i)))
  | _ => none
def minD : List PyData → Option Vl
  | [.list xs] => match asInts xs with
    | some is => match minI is with
      | some m => some (.d (.int m))
      | none => none
    | none => none
  | [.int i, .int j] => some (.d (.int (if j < i then j else i)))
  | _ => none
def sumD : List PyData → Option Vl
  | [.list xs] => match asInts xs with
    | some is => some (.d (.int is.sum))
    | none => none
  | _ => none
def absD : List PyData → Option Vl
  | [.int i] => some (.d (.int (if i < 0 then -i else i)))
  | _ => none

section
variable {K : PySem.W.Frag} {O : Ow} {H : Hp}
theorem ColdA.one {xs : List V} {x : PyData} (h : ColdA K O H xs [x]) : ∃ v, xs = [v] ∧ Cold K O H v x := by
  cases h with
  | cons a b => cases b; exact ⟨_, rfl, a⟩
theorem ColdA.two {xs : List V} {x y : PyData} (h : ColdA K O H xs [x, y]) : ∃ v w, xs = [v, w] ∧ Cold K O H v x ∧ Cold K O H w y := by
  cases h with
  | cons a b =>
    cases b with
    | cons c d => cases d; exact ⟨_, _, rfl, a, c⟩
end

theorem g_len : CallR X (.builtin "len") (rGA X.K lenD) := by
  rintro pins s σ H xs us Q I r ⟨n, O, θ, σ', s', as, z, R, ca, e, q⟩
  match as, ca, e with
  | [.str x], ca, e =>
    rw [lenD] at e
    split at e
    · rename_i hz
      cases e
      obtain ⟨v, rfl, c⟩ := ca.one
      cases c
      exact call_len pins s σ H _ us Q I r ⟨_, _, rfl, ⟨lim_le hz, rfl⟩, end_d R q (.int _)⟩
    · cases e
  | [.list ys], ca, e =>
    cases e
    obtain ⟨v, rfl, c⟩ := ca.one
    cases c with
    | lst h c =>
      exact call_len pins s σ H _ us Q I r ⟨_, ys.length, rfl, .inl ⟨_, h.sq, c.len.symm⟩, end_d R q (.int _)⟩
  | [.tuple ys], ca, e =>
    cases e
    obtain ⟨v, rfl, c⟩ := ca.one
    cases c with
    | tup h c =>
      exact call_len pins s σ H _ us Q I r ⟨_, ys.length, rfl, .inr ⟨_, h.sq, c.len.symm⟩, end_d R q (.int _)⟩
theorem g_int : CallR X (.type "int") (rGA X.K intD) := by
  rintro pins s σ H xs us Q I r ⟨n, O, θ, σ', s', as, z, R, ca, e, q⟩
  match as, ca, e with
  | [.int i], ca, e =>
    cases e
    obtain ⟨v, rfl, c⟩ := ca.one
    cases c
    exact call_int1 pins s σ H _ us Q I r (.inl ⟨_, rfl, end_d R q (.int _)⟩)
  | [.bool i], ca, e =>
    cases e
    obtain ⟨v, rfl, c⟩ := ca.one
    cases c
    exact call_int1 pins s σ H _ us Q I r (.inr ⟨_, rfl, end_d R q (.int _)⟩)
theorem g_str : CallR X (.type "str") (rGA X.K strD) := by
  rintro pins s σ H xs us Q I r ⟨n, O, θ, σ', s', as, z, R, ca, e, q⟩
  match as, ca, e with
  | [.int i], ca, e =>
    rw [strD] at e
    split at e
    · rename_i hz
      cases e
      obtain ⟨v, rfl, c⟩ := ca.one
      cases c
      exact call_str_int pins s σ H _ us Q I r ⟨_, rfl, hz, end_d R q (.str _)⟩
    · cases e
  | [.str i], ca, e =>
    cases e
    obtain ⟨v, rfl, c⟩ := ca.one
    cases c
    exact SkE.call_str_str pins s σ H _ us Q I r ⟨_, rfl, end_d R q (.str _)⟩
theorem g_tuple : CallR X (.type "tuple") (rGA X.K tupleD) := by
  rintro pins s σ H xs us Q I r ⟨n, O, θ, σ', s', as, z, R, ca, e, q⟩
  match as, ca, e with
  | [.list ys], ca, e =>
    cases e
    obtain ⟨v, rfl, c⟩ := ca.one
    cases c with
    | lst h c => exact call_tuple_of pins s σ H _ us Q I r ⟨_, _, rfl, .inl ⟨h.sq, end_tup R q c⟩⟩
  | [.tuple ys], ca, e =>
    cases e
    obtain ⟨v, rfl, c⟩ := ca.one
    cases c with
    | tup h c => exact call_tuple_of pins s σ H _ us Q I r ⟨_, _, rfl, .inr ⟨h.sq, end_d R q (.tup h c)⟩⟩
theorem g_list : CallR X (.type "list") (rGA X.K listD) := by
  rintro pins s σ H xs us Q I r ⟨n, O, θ, σ', s', as, z, R, ca, e, q⟩
  match as, ca, e with
  | [.list ys], ca, e =>
    cases e
    obtain ⟨v, rfl, c⟩ := ca.one
    cases c with
    | lst h c => exact call_list_of pins s σ H _ us Q I r ⟨_, _, rfl, .inl h.sq, end_lst R q c⟩
  | [.tuple ys], ca, e =>
    cases e
    obtain ⟨v, rfl, c⟩ := ca.one
    cases c with
    | tup h c => exact call_list_of pins s σ H _ us Q I r ⟨_, _, rfl, .inr h.sq, end_lst R q c⟩
theorem g_all (hc : X.calm = true) : CallR X (.builtin "all") (rGA X.K allD) := by
  rintro pins s σ H xs us Q I r ⟨n, O, θ, σ', s', as, z, R, ca, e, q⟩
  match as, ca, e with
  | [.list ys], ca, e =>
    rw [allD] at e
    cases e1 : asBools ys with
    | none => rw [e1] at e; cases e
    | some bs =>
      rw [e1] at e
      cases e
      have p := asBools_eq e1
      subst p
      obtain ⟨v, rfl, c⟩ := ca.one
      cases c with
      | lst h c =>
        have p := c.bools
        subst p
        exact cr_all hc pins s σ H _ us Q I r ⟨_, bs, rfl, h.sq, end_d R q (.bl _)⟩
theorem g_any (hc : X.calm = true) : CallR X (.builtin "any") (rGA X.K anyD) := by
  rintro pins s σ H xs us Q I r ⟨n, O, θ, σ', s', as, z, R, ca, e, q⟩
  match as, ca, e with
  | [.list ys], ca, e =>
    rw [anyD] at e
    cases e1 : asBools ys with
    | none => rw [e1] at e; cases e
    | some bs =>
      rw [e1] at e
      cases e
      have p := asBools_eq e1
      subst p
      obtain ⟨v, rfl, c⟩ := ca.one
      cases c with
      | lst h c =>
        have p := c.bools
        subst p
        exact cr_any hc pins s σ H _ us Q I r ⟨_, bs, rfl, h.sq, end_d R q (.bl _)⟩
theorem g_max (hc : X.calm = true) : CallR X (.builtin "max") (rGA X.K maxD) := by
  rintro pins s σ H xs us Q I r ⟨n, O, θ, σ', s', as, z, R, ca, e, q⟩
  match as, ca, e with
  | [.list ys], ca, e =>
    rw [maxD] at e
    cases e1 : asInts ys with
    | none => rw [e1] at e; cases e
    | some bs =>
      rw [e1] at e
      cases e2 : maxI bs with
      | none => simp only [e2] at e; cases e
      | some m =>
        simp only [e2] at e
        cases e
        have p := asInts_eq e1
        subst p
        obtain ⟨v, rfl, c⟩ := ca.one
        obtain ⟨m1, m2⟩ := maxI_mem e2
        cases c with
        | lst h c =>
          have p := c.ints
          subst p
          refine cr_max hc pins s σ H _ us Q I r ⟨_, bs, rfl, h.sq, List.length_pos_of_mem m1, fun m' h1 h2 => ?_⟩
          have : m' = m := Int.le_antisymm (m2 m' h1) (h2 m m1)
          subst this
          exact end_d R q (.int _)
  | [.int i, .int j], ca, e =>
    cases e
    obtain ⟨v, w, rfl, c, d⟩ := ca.two
    cases c
    cases d
    exact call_max2 hc pins s σ H _ us Q I r ⟨_, _, rfl, end_d R q (.int _)⟩
theorem g_min (hc : X.calm = true) : CallR X (.builtin "min") (rGA X.K minD) := by
  rintro pins s σ H xs us Q I r ⟨n, O, θ, σ', s', as, z, R, ca, e, q⟩
  match as, ca, e with
  | [.list ys], ca, e =>
    rw [minD] at e
    cases e1 : asInts ys with
    | none => rw [e1] at e; cases e
    | some bs =>
      rw [e1] at e
      cases e2 : minI bs with
      | none => simp only [e2] at e; cases e
      | some m =>
        simp only [e2] at e
        cases e
        have p := asInts_eq e1
        subst p
        obtain ⟨v, rfl, c⟩ := ca.one
        obtain ⟨m1, m2⟩ := minI_mem e2
        cases c with
        | lst h c =>
          have p := c.ints
          subst p
          refine cr_min hc pins s σ H _ us Q I r ⟨_, bs, rfl, h.sq, List.length_pos_of_mem m1, fun m' h1 h2 => ?_⟩
          have : m' = m := Int.le_antisymm (h2 m m1) (m2 m' h1)
          subst this
          exact end_d R q (.int _)
  | [.int i, .int j], ca, e =>
    cases e
    obtain ⟨v, w, rfl, c, d⟩ := ca.two
    cases c
    cases d
    exact call_min2 hc pins s σ H _ us Q I r ⟨_, _, rfl, end_d R q (.int _)⟩
theorem g_sum (hc : X.calm = true) : CallR X (.builtin "sum") (rGA X.K sumD) := by
  rintro pins s σ H xs us Q I r ⟨n, O, θ, σ', s', as, z, R, ca, e, q⟩
  match as, ca, e with
  | [.list ys], ca, e =>
    rw [sumD] at e
    cases e1 : asInts ys with
    | none => rw [e1] at e; cases e
    | some bs =>
      rw [e1] at e
      cases e
      have p := asInts_eq e1
      subst p
      obtain ⟨v, rfl, c⟩ := ca.one
      cases c with
      | lst h c =>
        have p := c.ints
        subst p
        exact cr_sum hc pins s σ H _ us Q I r ⟨_, bs, rfl, h.sq, end_d R q (.int _)⟩
theorem g_abs : CallR X (.builtin "abs") (rGA X.K absD) := by
  rintro pins s σ H xs us Q I r ⟨n, O, θ, σ', s', as, z, R, ca, e, q⟩
  match as, ca, e with
  | [.int i], ca, e =>
    cases e
    obtain ⟨v, rfl, c⟩ := ca.one
    cases c
    exact call_abs pins s σ H _ us Q I r ⟨_, rfl, end_d R q (.int _)⟩
theorem g_repr (hg : X.A.guards = some []) (hu : X.A.units + 64 < cLine) : CallR X (.builtin "repr") (rGA X.K reprD) := by
  rintro pins s σ H xs us Q I r ⟨n, O, θ, σ', s', as, z, R, ca, e, q⟩
  match as, ca, e with
  | [x], ca, e =>
    rw [reprD] at e
    split at e
    · rename_i hz
      simp only [Bool.and_eq_true, decide_eq_true_eq, Bool.not_eq_true'] at hz
      obtain ⟨⟨⟨h1, h2⟩, h3⟩, h4⟩ := hz
      cases e
      obtain ⟨v, rfl, c⟩ := ca.one
      obtain ⟨u, rfl, ru⟩ := vals1 r
      obtain ⟨as, rd⟩ := Dp.reads I x v u c.dp ru
      have fin : ∀ {s' : Shared} {t : Tok}, Inv X pins σ H s' → EP X pins σ Q (.str x.shown t) s' := fun J => ⟨.str x.shown, H, J, ⟨_, rfl⟩, end_d R q (.str _)⟩
      cases c with
      | non => cases ru; exact PySem.P.repr_of_none (fin (I.tok _))
      | bl b => cases ru; exact PySem.P.repr_of_bool (fin (I.tok _))
      | int i =>
        obtain ⟨t, rfl⟩ := ru
        exact PySem.P.repr_of_int (by simpa [PyData.showable] using h1) (fin (I.tok _))
      | str y =>
        obtain ⟨t, rfl⟩ := ru
        exact PySem.P.repr_of_str (fin (I.tok _)) (lim_le h3)
      | lst a b =>
        cases ru
        exact repr_of_reads' rd h1 (fun z => by rw [h2] at z; cases z) hg (by omega) (fun _ _ z => z) (fun h' t tk k => fin (I.kept k)) (lim_le h3)
      | tup a b =>
        cases ru
        exact repr_of_reads' rd h1 (fun z => by rw [h2] at z; cases z) hg (by omega) (fun _ _ z => z) (fun h' t tk k => fin (I.kept k)) (lim_le h3)
    · cases e
end
end Ev

/-! Part 6: what loops walk; targets; list comprehensions. -/
namespace Ev
open PySem PySem.Spec PyProof.Rows L2

/-- all that is tracked is kept -/
def Grow (H H' : Hp) : Prop := ∀ a o, H a = some o → H' a = some o
theorem Grow.refl (H : Hp) : Grow H H := fun _ _ h => h
theorem Grow.upd {H : Hp} {p : Addr} {o : HO} (h : H p = none) : Grow H (upd H p o) := fun a u e => by rw [upd_ne (ne_of_none e h)]; exact e
section
variable {K : PySem.W.Frag} {XR : XRt} {W : WX} {O O' O1 : Ow} {H H' H1 : Hp} {n m : Nat} {θ θ' θ1 : List Addr} {σ : L2.St} {s s1 : S}
theorem Grow.keeps (g : Grow H H') : Keeps O H O H' := fun a o e1 e2 => ⟨e1, g a o e2⟩
theorem Rel.grow (R : Rel K O θ H σ s) (g : Grow H H') : Rel K O θ H' σ s := by
  have ha : ∀ b t, O b = some t → H' b = H b := fun b t e => by
    obtain ⟨o, q⟩ := R.wf b t e
    rw [q, g b o q]
  exact {
    len := R.len
    tl := R.tl
    env := fun i x e => by
      obtain ⟨v, h1, h2⟩ := R.env i x e
      exact ⟨v, h1, h2.stay g.keeps (.refl _) fun b q e => ⟨rfl, ha b _ e⟩⟩
    sto := fun l x e => by
      obtain ⟨v, h1, h2⟩ := R.sto l x e
      exact ⟨v, h1, h2.stay g.keeps (.refl _) fun b q e => ⟨rfl, ha b _ e⟩⟩
    wf := fun b t e => by
      obtain ⟨o, q⟩ := R.wf b t e
      exact ⟨o, g b o q⟩ }
theorem Rel.frGrow (R : Rel K O θ H σ s) (g : Grow H H') : Fr n O H O H' := ⟨fun a r p e _ => ⟨rfl, by
  obtain ⟨o, q⟩ := R.wf a _ e
  rw [q, g a o q]⟩, fun a o e1 e2 => ⟨e1, g a o e2⟩⟩

/-- a walk hands out the items of xs, one after the other -/
def ItOk (K : PySem.W.Frag) (O : Ow) (H : Hp) (J : It) (xs : List PyData) : Prop := ∀ O' H', Keeps O H O' H' → ∀ i : Nat,
  (xs.length ≤ i → J.stop i H') ∧ ∀ x, xs[i]? = some x → J.go i H' ∧ ∀ v H'', J.yld i H' v H'' → Grow H' H'' ∧ ((∀ a t, O' a = some t → ∃ o, H' a = some o) → Cold K O' H'' v x)
theorem ItOk.mono {J : It} {xs : List PyData} (h : ItOk K O H J xs) (k : Keeps O H O' H') : ItOk K O' H' J xs := fun O2 H2 k2 => h O2 H2 fun a o e1 e2 => by
  obtain ⟨q1, q2⟩ := k a o e1 e2
  exact k2 a o q1 q2

abbrev FI := S → R (List PyData)
def WpI (K : PySem.W.Frag) (X : XRt) (W : WX) (f : FI) : TI := fun σ H Q => ∃ (s : S) (O : Ow) (θ : List Addr) (n : Nat), Rel K O θ H σ s ∧
  AfG K X W O θ n σ H (f s) fun xs s' => ∀ J O' θ' H', Fr n O H O' H' → Ext θ θ' → Rel K O' θ' H' σ s' → ItOk K O' H' J xs → Q J H'

def charsD (x : Str) : List PyData := x.cps.toList.map fun c => .str ⟨#[c]⟩
def itemsOf : PyData → Option (List PyData)
  | .list xs => some xs
  | .tuple xs => some xs
  | .str x => some (charsD x)
  | _ => none
def iSeq (f : F) : FI := fun s => (f s).bind fun x s1 => match cold x with
  | some y => match itemsOf y with
    | some xs => .ok xs s1
    | none => .err
  | none => .err

theorem itok_list {a : Addr} {vs : List V} {xs : List PyData} (h : StL K O H a vs) (c : ColdA K O H vs xs) : ItOk K O H (Itl K a) xs := fun O' H' k i => by
  have h' := h.mono k
  have c' := c.mono k
  refine ⟨fun hl => ⟨vs, h'.sq, by rw [c.len]; exact hl⟩, fun x e => ?_⟩
  obtain ⟨v, e1, _⟩ := c'.get e
  refine ⟨⟨vs, v, h'.sq, e1⟩, fun w H2 y => ?_⟩
  obtain ⟨rfl, y⟩ := y
  have e2 := y vs h'.sq
  rw [e1] at e2
  cases e2
  obtain ⟨v', e1', c1⟩ := c'.get e
  rw [e1] at e1'
  cases e1'
  exact ⟨Grow.refl _, fun _ => c1⟩
theorem itok_tup {a : Addr} {vs : List V} {xs : List PyData} (h : StT K O H a vs) (c : ColdA K O H vs xs) : ItOk K O H (Itt K a) xs := fun O' H' k i => by
  have h' := h.mono k
  have c' := c.mono k
  refine ⟨fun hl => ⟨vs, h'.sq, by rw [c.len]; exact hl⟩, fun x e => ?_⟩
  obtain ⟨v, e1, _⟩ := c'.get e
  refine ⟨⟨vs, v, h'.sq, e1⟩, fun w H2 y => ?_⟩
  obtain ⟨rfl, y⟩ := y
  have e2 := y vs h'.sq
  rw [e1] at e2
  cases e2
  obtain ⟨v', e1', c1⟩ := c'.get e
  rw [e1] at e1'
  cases e1'
  exact ⟨Grow.refl _, fun _ => c1⟩
theorem itok_str {x : Str} : ItOk K O H (Its x) (charsD x) := fun O' H' k i => by
  refine ⟨fun hl => ?_, fun y e => ?_⟩
  · show x.cps.size ≤ i
    unfold charsD at hl
    rw [List.length_map, Array.length_toList] at hl
    exact hl
  · unfold charsD at e
    rw [List.getElem?_map] at e
    cases e1 : x.cps.toList[i]? with
    | none => rw [e1] at e; cases e
    | some c =>
      rw [e1] at e
      cases e
      have e2 : x.cps[i]? = some c := by rw [← Array.getElem?_toList]; exact e1
      refine ⟨(Array.getElem?_eq_some_iff.mp e2).1, fun v H2 q => ?_⟩
      obtain ⟨rfl, c', e3, rfl⟩ := q
      rw [e2] at e3
      cases e3
      exact ⟨Grow.refl _, fun _ => .str _⟩
theorem wi_seq {X : Cx} {tg e : Expr} {f : F} (h : PE X e (Wp X.K XR W f)) : PI X tg e (WpI X.K XR W (iSeq f)) := by
  refine ⟨fun pins sh σ H Q I ⟨s, O, θ, n, hR, q⟩ => ?_⟩
  cases e1 : f s with
  | err =>
    unfold iSeq at q
    rw [e1] at q
    exact q.elim
  | exc x s' =>
    unfold iSeq at q
    rw [e1] at q
    exact (pi_list h).run pins sh σ H Q I ⟨s, O, θ, n, hR, by rw [e1]; exact q⟩
  | ok x s' =>
    unfold iSeq at q
    rw [e1] at q
    have q : AfG X.K XR W O θ n σ H (match cold x with | some y => (match itemsOf y with | some xs => R.ok xs s' | none => R.err) | none => R.err) (fun xs s' => ∀ J O' θ' H', Fr n O H O' H' → Ext θ θ' → Rel X.K O' θ' H' σ s' → ItOk X.K O' H' J xs → Q J H') := q
    cases e2 : cold x with
    | none => rw [e2] at q; exact q.elim
    | some y =>
      rw [e2] at q
      have fin : ∀ v O' θ' H', Fr n O H O' H' → Ext θ θ' → Rel X.K O' θ' H' σ s' → Rep X.K O' θ' H' (.tmp n) [] v x → Fr n O H (coldFrom n O') H' ∧ Rel X.K (coldFrom n O') θ' H' σ s' ∧ Cold X.K (coldFrom n O') H' v y :=
        fun v O' θ' H' f e R' P => ⟨f.trans fr_coldFrom (Nat.le_refl _), R'.coldFrom n, P.coldFrom (Nat.le_refl _) e2⟩
      cases y with
      | list xs =>
        have q : AfG X.K XR W O θ n σ H (R.ok xs s') _ := q
        refine (pi_list h).run pins sh σ H Q I ⟨s, O, θ, n, hR, ?_⟩
        rw [e1]
        intro v O' θ' H' f e R' P
        obtain ⟨f2, R2, c⟩ := fin v O' θ' H' f e R' P
        cases c with
        | lst h1 c1 => exact ⟨_, rfl, ⟨_, h1.sq⟩, q _ _ _ _ f2 e R2 (itok_list h1 c1)⟩
      | tuple xs =>
        have q : AfG X.K XR W O θ n σ H (R.ok xs s') _ := q
        refine (pi_tup h).run pins sh σ H Q I ⟨s, O, θ, n, hR, ?_⟩
        rw [e1]
        intro v O' θ' H' f e R' P
        obtain ⟨f2, R2, c⟩ := fin v O' θ' H' f e R' P
        cases c with
        | tup h1 c1 => exact ⟨_, rfl, ⟨_, h1.sq⟩, q _ _ _ _ f2 e R2 (itok_tup h1 c1)⟩
      | str z =>
        have q : AfG X.K XR W O θ n σ H (R.ok (charsD z) s') _ := q
        refine (pi_str h).run pins sh σ H Q I ⟨s, O, θ, n, hR, ?_⟩
        rw [e1]
        intro v O' θ' H' f e R' P
        obtain ⟨f2, R2, c⟩ := fin v O' θ' H' f e R' P
        cases c with
        | str _ => exact ⟨_, rfl, q _ _ _ _ f2 e R2 itok_str⟩
      | none => exact q.elim
      | bool b => exact q.elim
      | int i => exact q.elim
      | dict kvs => exact q.elim

/-! ranges -/
def rangeD (lo : Int) (k : Nat) : List PyData := (List.range k).map fun i => .int (lo + (i : Nat))
def rangeC (lo c : Int) (k : Nat) : List PyData := (List.range k).map fun i => .int (lo + (i : Nat) * c)
def rng1 : List PyData → Option (List PyData)
  | [.int j] => if j ≤ 1000000 ∧ -1000000 ≤ j then some (rangeD 0 j.toNat) else none
  | _ => none
def rng2 : List PyData → Option (List PyData)
  | [.int i, .int j] => if (j ≤ 1000000 ∧ -1000000 ≤ j) ∧ i ≤ 1000000 ∧ -1000000 ≤ i then some (rangeD i (j - i).toNat) else none
  | _ => none
/-- what is walked is made of data -/
def iArgs (g : List PyData → Option (List PyData)) (fr : S → R (List Vl)) : FI := fun s => (fr s).bind fun xs s1 => match coldL xs with
  | some ys => match g ys with
    | some zs => .ok zs s1
    | none => .err
  | none => .err
theorem itok_range {lo : Int} {k : Nat} : ItOk K O H (Itr lo k) (rangeD lo k) := fun O' H' _ i => by
  refine ⟨fun hl => ?_, fun x e => ?_⟩
  · show k ≤ i
    unfold rangeD at hl
    rw [List.length_map, List.length_range] at hl
    exact hl
  · unfold rangeD at e
    rw [List.getElem?_map] at e
    cases e1 : (List.range k)[i]? with
    | none => rw [e1] at e; cases e
    | some j =>
      rw [e1] at e
      cases e
      obtain ⟨h1, h2⟩ := List.getElem?_eq_some_iff.mp e1
      rw [List.length_range] at h1
      rw [List.getElem_range] at h2
      subst h2
      refine ⟨h1, fun v H2 q => ?_⟩
      obtain ⟨rfl, rfl⟩ := q
      exact ⟨Grow.refl _, fun _ => .int _⟩
theorem i_iargs {fr : S → R (List Vl)} {g : List PyData → Option (List PyData)} {Q : It → Hp → Prop} {T : List V → Hp → Prop} (h : WpI K XR W (iArgs g fr) σ H Q)
    (next : ∀ (n : Nat) vs O1 θ1 H1 s1 ys zs, Rel K O1 θ1 H1 σ s1 → ColdA K O1 H1 vs ys → g ys = some zs → (∀ J, ItOk K O1 H1 J zs → Q J H1) → T vs H1) : WpA K XR W fr σ H T := by
  obtain ⟨s, O, θ, n, R, q⟩ := h
  refine ⟨s, O, θ, n, R, afg_bind (Nat.le_refl _) q fun xs s1 h1 vs O1 θ1 H1 f1 e1 R1 P1 => ?_⟩
  cases ex : coldL xs with
  | none => rw [ex] at h1; exact h1.elim
  | some ys =>
    rw [ex] at h1
    cases ez : g ys with
    | none => simp only [ez] at h1; exact h1.elim
    | some z =>
      simp only [ez] at h1
      have fc : Fr n O1 H1 (coldFrom n O1) H1 := fr_coldFrom
      exact next n vs (coldFrom n O1) θ1 H1 s1 ys z (R1.coldFrom n) (P1.coldFrom (Nat.le_refl _) ex) ez fun J j => h1 J _ _ _ (f1.trans fc (Nat.le_refl _)) e1 (R1.coldFrom n) j
theorem wi_range1 {X : Cx} {tg a : Expr} {p pos : Pos} {fr : S → R (List Vl)} (hg : Gl X "range") (hm : X.mg "range" = none) (ha : PA X [a] (WpA X.K XR W fr)) (hs : starEach [a] X.env = [(false, eval a X.env)]) :
    PI X tg (.Call (.Name "range" p) [a] [] pos) (WpI X.K XR W (iArgs rng1 fr)) := ⟨fun pins sh σ H Q I q => (pi_range1 hg hm ha hs).run pins sh σ H Q I (i_iargs q fun n vs O1 θ1 H1 s1 ys zs R1 c e q => by
  match ys, c, e with
  | [.int j], c, e =>
    rw [rng1] at e
    split at e
    · rename_i hz
      cases e
      obtain ⟨v, rfl, d⟩ := c.one
      cases d with
      | int _ => exact ⟨j, rfl, by omega, by omega, q _ itok_range⟩
    · cases e)⟩
theorem wi_range2 {X : Cx} {tg a b : Expr} {p pos : Pos} {fr : S → R (List Vl)} (hg : Gl X "range") (hm : X.mg "range" = none) (ha : PA X [a, b] (WpA X.K XR W fr))
    (hs : starEach [a, b] X.env = [(false, eval a X.env), (false, eval b X.env)]) (hs2 : starEach [b] X.env = [(false, eval b X.env)]) :
    PI X tg (.Call (.Name "range" p) [a, b] [] pos) (WpI X.K XR W (iArgs rng2 fr)) := ⟨fun pins sh σ H Q I q => (pi_range2 hg hm ha hs hs2).run pins sh σ H Q I (i_iargs q fun n vs O1 θ1 H1 s1 ys zs R1 c e q => by
  match ys, c, e with
  | [.int i, .int j], c, e =>
    rw [rng2] at e
    split at e
    · rename_i hz
      cases e
      obtain ⟨v, w, rfl, c, d⟩ := c.two
      cases c
      cases d
      exact ⟨i, j, rfl, ⟨by omega, by omega, by omega, by omega⟩, q _ itok_range⟩
    · cases e)⟩
/-! zip of two lists, two tuples -/
def zipL : List PyData → List PyData → List PyData
  | x :: xs, y :: ys => .tuple [x, y] :: zipL xs ys
  | _, _ => []
def zipD : List PyData → Option (List PyData)
  | [.list xs, .list ys] => some (zipL xs ys)
  | [.tuple xs, .tuple ys] => some (zipL xs ys)
  | _ => none
theorem zipL_get : ∀ {xs ys : List PyData} {i : Nat} {z : PyData}, (zipL xs ys)[i]? = some z → ∃ x y, xs[i]? = some x ∧ ys[i]? = some y ∧ z = .tuple [x, y]
  | [], _, i, z, e => by
    rw [zipL] at e
    · simp at e
    · intros; contradiction
  | x :: xs, [], i, z, e => by
    rw [zipL] at e
    · simp at e
    · intros; contradiction
  | x :: xs, y :: ys, 0, z, e => by
    rw [zipL] at e
    cases e
    exact ⟨x, y, rfl, rfl, rfl⟩
  | x :: xs, y :: ys, i + 1, z, e => by
    rw [zipL] at e
    exact zipL_get (xs := xs) (ys := ys) (i := i) (z := z) e
theorem zipL_len : ∀ (xs ys : List PyData), (zipL xs ys).length = min xs.length ys.length
  | [], ys => by rw [zipL]; simp; intros; contradiction
  | x :: xs, [] => by rw [zipL]; simp; intros; contradiction
  | x :: xs, y :: ys => by
    rw [zipL, List.length_cons, List.length_cons, List.length_cons, zipL_len xs ys]
    omega
theorem pair_cold {v w : V} {x y : PyData} {T : Addr} (hT : H T = none) (wf : ∀ a t, O a = some t → ∃ o, H a = some o) (c : Cold K O H v x) (d : Cold K O H w y) : Cold K O (upd H T (.tup [v, w])) (.ref T) (.tuple [x, y]) := by
  have k : Keeps O H O (upd H T (.tup [v, w])) := (Grow.upd hT).keeps
  refine .tup (.inl ⟨.inl upd_same, ?_⟩) (.cons (c.mono k) (.cons (d.mono k) .nil))
  cases e : O T with
  | none => rfl
  | some t =>
    obtain ⟨o, q⟩ := wf T t e
    rw [hT] at q
    cases q
theorem itok_zip {a b : Addr} {vs ws : List V} {xs ys : List PyData} (h1 : StL K O H a vs) (c1 : ColdA K O H vs xs) (h2 : StL K O H b ws) (c2 : ColdA K O H ws ys) : ItOk K O H (Itz K a b) (zipL xs ys) := fun O' H' k i => by
  have h1' := h1.mono k
  have c1' := c1.mono k
  have h2' := h2.mono k
  have c2' := c2.mono k
  refine ⟨fun hl => ⟨vs, ws, h1'.sq, h2'.sq, ?_⟩, fun z e => ?_⟩
  · rw [zipL_len] at hl
    rw [c1.len, c2.len]
    omega
  · obtain ⟨x, y, e1, e2, rfl⟩ := zipL_get e
    obtain ⟨v, g1, d1⟩ := c1'.get e1
    obtain ⟨w, g2, d2⟩ := c2'.get e2
    refine ⟨⟨vs, ws, v, w, h1'.sq, h2'.sq, g1, g2⟩, fun u H2 q => ?_⟩
    obtain ⟨T, v', w', rfl, hT, rfl, q1, q2⟩ := q
    have p1 := q1 vs h1'.sq
    have p2 := q2 ws h2'.sq
    rw [g1] at p1
    rw [g2] at p2
    cases p1
    cases p2
    exact ⟨Grow.upd hT, fun wf => pair_cold hT wf d1 d2⟩
theorem itok_zipT {a b : Addr} {vs ws : List V} {xs ys : List PyData} (h1 : StT K O H a vs) (c1 : ColdA K O H vs xs) (h2 : StT K O H b ws) (c2 : ColdA K O H ws ys) : ItOk K O H (RZ.ItzT K a b) (zipL xs ys) := fun O' H' k i => by
  have h1' := h1.mono k
  have c1' := c1.mono k
  have h2' := h2.mono k
  have c2' := c2.mono k
  refine ⟨fun hl => ⟨vs, ws, h1'.sq, h2'.sq, ?_⟩, fun z e => ?_⟩
  · rw [zipL_len] at hl
    rw [c1.len, c2.len]
    omega
  · obtain ⟨x, y, e1, e2, rfl⟩ := zipL_get e
    obtain ⟨v, g1, d1⟩ := c1'.get e1
    obtain ⟨w, g2, d2⟩ := c2'.get e2
    refine ⟨⟨vs, ws, v, w, h1'.sq, h2'.sq, g1, g2⟩, fun u H2 q => ?_⟩
    obtain ⟨T, v', w', rfl, hT, rfl, q1, q2⟩ := q
    have p1 := q1 vs h1'.sq
    have p2 := q2 ws h2'.sq
    rw [g1] at p1
    rw [g2] at p2
    cases p1
    cases p2
    exact ⟨Grow.upd hT, fun wf => pair_cold hT wf d1 d2⟩
theorem wi_zip {X : Cx} {a b : Expr} {p pos tpos : Pos} {elts : List Expr} {kk : Nat} {fr : S → R (List Vl)} (hg : Gl X "zip") (hm : X.mg "zip" = none) (ha : PA X [a, b] (WpA X.K XR W fr))
    (hs : starEach [a, b] X.env = (false, eval a X.env) :: starEach [b] X.env) (hpl : (backTo pos (starEach [b] X.env)).any (·.1) = false) :
    PI X (.Tuple elts kk tpos) (.Call (.Name "zip" p) [a, b] [] pos) (WpI X.K XR W (iArgs zipD fr)) := ⟨fun pins sh σ H Q I q => (RZ.pi_zipA hg hm ha hs hpl).run pins sh σ H Q I (i_iargs q fun n vs O1 θ1 H1 s1 ys zs R1 c e q => by
  match ys, c, e with
  | [.list xs, .list ys], c, e =>
    cases e
    obtain ⟨v, w, rfl, c, d⟩ := c.two
    cases c with
    | lst h1 c1 =>
      cases d with
      | lst h2 c2 => exact ⟨_, _, _, _, rfl, .inl ⟨h1.sq, h2.sq, q _ (itok_zip h1 c1 h2 c2)⟩⟩
  | [.tuple xs, .tuple ys], c, e =>
    cases e
    obtain ⟨v, w, rfl, c, d⟩ := c.two
    cases c with
    | tup h1 c1 =>
      cases d with
      | tup h2 c2 => exact ⟨_, _, _, _, rfl, .inr ⟨h1.sq, h2.sq, q _ (itok_zipT h1 c1 h2 c2)⟩⟩)⟩

/-! ### targets -/
mutual
inductive Tg where
  | nm (i : Nat)
  | tp (ts : Tgs)
inductive Tgs where
  | nil
  | cons (t : Tg) (ts : Tgs)
end
mutual
def Tg.set : Tg → PyData → S → Option S
  | .nm i, x, s => some ⟨s.ρ.set i (some (.d x)), s.st⟩
  | .tp ts, .tuple xs, s => ts.set xs s
  | .tp _, _, _ => none
def Tgs.set : Tgs → List PyData → S → Option S
  | .nil, [], s => some s
  | .cons t ts, x :: xs, s => match t.set x s with
    | some s' => ts.set xs s'
    | none => none
  | _, _, _ => none
end
mutual
def Tg.slots : Tg → List Nat
  | .nm i => [i]
  | .tp ts => ts.slots
def Tgs.slots : Tgs → List Nat
  | .nil => []
  | .cons t ts => t.slots ++ ts.slots
end
/-- slots but those at vs are as they were -/
def SameBut (vs : List Nat) (σ σ' : L2.St) : Prop := ∀ ws : List Nat, (∀ i, i ∈ vs → i ∈ ws) → wipe σ' ws = wipe σ ws
def WpG (K : PySem.W.Frag) (t : Tg) : TG := fun v σ H Q => ∃ (s s' : S) (O : Ow) (θ : List Addr) (x : PyData), Rel K O θ H σ s ∧ Cold K O H v x ∧ t.set x s = some s' ∧ ∀ σ', SameBut t.slots σ σ' → Rel K O θ H σ' s' → Q σ' H
def WpGs (K : PySem.W.Frag) (t : Tgs) : TGs := fun vs σ H Q => ∃ (s s' : S) (O : Ow) (θ : List Addr) (xs : List PyData), Rel K O θ H σ s ∧ ColdA K O H vs xs ∧ t.set xs s = some s' ∧ ∀ σ', SameBut t.slots σ σ' → Rel K O θ H σ' s' → Q σ' H
theorem wipe_get {σ : L2.St} {j : Nat} : ∀ {vs : List Nat}, (wipe σ vs)[j]? = if j ∈ vs ∧ j < σ.length then some none else σ[j]?
  | [] => by
    rw [if_neg (fun h => by simp at h)]
    rfl
  | v :: vs => by
    unfold wipe
    by_cases hj : v = j
    · subst hj
      by_cases hl : v < σ.length
      · rw [List.getElem?_set_self (by rw [wipe_length]; exact hl), if_pos ⟨List.mem_cons_self, hl⟩]
      · rw [List.getElem?_eq_none (by rw [List.length_set, wipe_length]; omega), if_neg (fun h => hl h.2), List.getElem?_eq_none (by omega)]
    · rw [List.getElem?_set_ne hj, wipe_get]
      by_cases hm : j ∈ vs
      · by_cases hl : j < σ.length
        · rw [if_pos ⟨hm, hl⟩, if_pos ⟨List.mem_cons_of_mem _ hm, hl⟩]
        · rw [if_neg (fun h => hl h.2), if_neg (fun h => hl h.2)]
      · rw [if_neg (fun h => hm h.1), if_neg (fun h => (List.mem_cons.mp h.1).elim (fun z => hj z.symm) hm)]
theorem wipe_set {σ : L2.St} {i : Nat} {x : Option V} {vs : List Nat} (h : i ∈ vs) : wipe (σ.set i x) vs = wipe σ vs := by
  refine List.ext_getElem? fun j => ?_
  rw [wipe_get, wipe_get, List.length_set]
  by_cases hj : j ∈ vs ∧ j < σ.length
  · rw [if_pos hj, if_pos hj]
  · rw [if_neg hj, if_neg hj]
    by_cases e : i = j
    · subst e
      have hl : ¬ i < σ.length := fun z => hj ⟨h, z⟩
      rw [List.getElem?_eq_none (by rw [List.length_set]; omega), List.getElem?_eq_none (by omega)]
    · rw [List.getElem?_set_ne e]
theorem SameBut.refl (vs : List Nat) (σ : L2.St) : SameBut vs σ σ := fun _ _ => rfl
theorem SameBut.set {i : Nat} {σ : L2.St} {x : Option V} : SameBut [i] σ (σ.set i x) := fun ws h => wipe_set (h i List.mem_cons_self)
theorem SameBut.trans {us vs : List Nat} {σ σ1 σ2 : L2.St} (a : SameBut us σ σ1) (b : SameBut vs σ1 σ2) : SameBut (us ++ vs) σ σ2 := fun ws h =>
  (b ws fun i hi => h i (List.mem_append_right _ hi)).trans (a ws fun i hi => h i (List.mem_append_left _ hi))
theorem pg_imp {X : Cx} {e : Expr} {t t' : TG} (h : PG X e t) (i : ∀ v σ H Q, t' v σ H Q → t v σ H Q) : PG X e t' := ⟨fun pins s σ H v u Q I r q => h.run pins s σ H v u Q I r (i v σ H Q q)⟩
theorem pgs_imp {X : Cx} {e : List Expr} {t t' : TGs} (h : PGs X e t) (i : ∀ v σ H Q, t' v σ H Q → t v σ H Q) : PGs X e t' := ⟨fun pins s σ H v u Q I r q => h.run pins s σ H v u Q I r (i v σ H Q q)⟩
theorem Rel.setD {i : Nat} {v : V} {x : PyData} (R : Rel K O θ H σ s) (c : Cold K O H v x) : Rel K O θ H (σ.set i (some v)) ⟨s.ρ.set i (some (.d x)), s.st⟩ :=
  R.slot (fun _ _ h1 h2 => ⟨h1, h2⟩) (.refl _) (fun _ _ _ _ _ => ⟨rfl, rfl⟩) (fun _ _ _ _ => ⟨rfl, rfl⟩) R.wf (.d c)
theorem wg_nm {X : Cx} {e : Expr} {i : Nat} (h : PG X e (gName i)) : PG X e (WpG X.K (.nm i)) := pg_imp h fun v σ H Q ⟨s, s', O, θ, x, R, c, e, q⟩ => by
  rw [Tg.set] at e
  cases e
  rw [Tg.slots] at q
  exact q _ .set (R.setD c)
theorem wgs_nil {X : Cx} : PGs X [] (WpGs X.K .nil) := pgs_imp pgs_nil fun v σ H Q ⟨s, s', O, θ, xs, R, c, e, q⟩ => by
  cases c with
  | nil =>
    rw [Tgs.set] at e
    cases e
    exact ⟨rfl, q _ (.refl _ _) R⟩
  | cons a b => rw [Tgs.set] at e; cases e; intros; contradiction; intros; contradiction
theorem wgs_cons {X : Cx} {e : Expr} {es : List Expr} {t : Tg} {ts : Tgs} (h1 : PG X e (WpG X.K t)) (h2 : PGs X es (WpGs X.K ts)) (hs : (assignEach (e :: es) X.env).map (·.2) = assign e X.env :: (assignEach es X.env).map (·.2)) :
    PGs X (e :: es) (WpGs X.K (.cons t ts)) := pgs_imp (pgs_cons h1 h2 hs) fun vs σ H Q ⟨s, s', O, θ, xs, R, c, e, q⟩ => by
  cases c with
  | nil => rw [Tgs.set] at e; cases e; intros; contradiction; intros; contradiction
  | cons a b =>
    rw [Tgs.set] at e
    split at e
    · rename_i s1 e1
      rw [Tgs.slots] at q
      exact ⟨_, _, rfl, s, s1, O, θ, _, R, a, e1, fun σ1 d1 R1 => ⟨s1, s', O, θ, _, R1, b, e, fun σ2 d2 R2 => q σ2 (d1.trans d2) R2⟩⟩
    · cases e
def Tgs.len : Tgs → Nat
  | .nil => 0
  | .cons _ ts => ts.len + 1
theorem Tgs.set_length : ∀ {ts : Tgs} {xs : List PyData} {s s' : S}, ts.set xs s = some s' → xs.length = ts.len
  | .nil, [], _, _, _ => rfl
  | .nil, x :: xs, _, _, e => by rw [Tgs.set] at e; cases e; intros; contradiction; intros; contradiction
  | .cons t ts, [], _, _, e => by rw [Tgs.set] at e; cases e; intros; contradiction; intros; contradiction
  | .cons t ts, x :: xs, s, s', e => by
    rw [Tgs.set] at e
    split at e
    · rw [List.length_cons, Tgs.len, Tgs.set_length e]
    · cases e
theorem wg_tp {X : Cx} {es : List Expr} {k : Nat} {pos : Pos} {ts : Tgs} (hc : X.calm = true) (h : PGs X es (WpGs X.K ts)) (hn : (assignEach es X.env).length = ts.len) (hst : (assignEach es X.env).findIdx? (·.1) = none) :
    PG X (.Tuple es k pos) (WpG X.K (.tp ts)) := pg_imp (pg_tup hc h hn hst) fun v σ H Q ⟨s, s', O, θ, x, R, c, e, q⟩ => by
  cases c with
  | tup h1 c1 =>
    rw [Tg.set] at e
    rw [Tg.slots] at q
    exact ⟨_, _, rfl, h1.sq, by rw [c1.len]; exact Tgs.set_length e, s, s', O, θ, _, R, c1, e, q⟩
  | _ => rw [Tg.set] at e; cases e; intros; contradiction
end
end Ev

/-! Part 7: list comprehensions. -/
namespace Ev
open PySem PySem.Spec PyProof.Rows L2

def wipeR : List Nat → List (Option Vl) → List (Option Vl)
  | [], ρ => ρ
  | v :: vs, ρ => (wipeR vs ρ).set v none
def wipeS (vs : List Nat) (s : S) : S := ⟨wipeR vs s.ρ, s.st⟩
/-- the slots at vs as they were -/
def backR : List Nat → List (Option Vl) → List (Option Vl) → List (Option Vl)
  | [], _, ρ => ρ
  | v :: vs, ρ1, ρ => (backR vs ρ1 ρ).set v (match ρ1[v]? with | some o => o | none => none)
def notOwn (s : S) : List Nat → Bool
  | [] => true
  | v :: vs => (match s.ρ[v]? with | some (some (.own _)) => false | _ => true) && notOwn s vs
def noX {α : Type} : R α → R α
  | .exc _ _ => .err
  | r => r

/-- the turns of a comprehension with one clause -/
def lcLoop (own : List Nat) (t : Tg) (c : S → R Bool) (f : F) : List PyData → List Vl → S → R (List Vl)
  | [], acc, s => .ok acc s
  | x :: r, acc, s => match t.set x (wipeS own s) with
    | none => .err
    | some s1 => match noX (c s1) with
      | .ok true s2 => match noX (f s2) with
        | .ok y s3 => if acc.length < LIM then lcLoop own t c f r (acc ++ [y]) s3 else .err
        | _ => .err
      | .ok false s2 => lcLoop own t c f r acc s2
      | _ => .err
def cLc (own : List Nat) (fi : FI) (t : Tg) (c : S → R Bool) (f : F) : F := fun s => (fi s).bind fun xs s1 =>
  if notOwn s1 own = true then
    match lcLoop own t c f xs [] s1 with
    | .ok acc s2 => .ok (.own acc) ⟨backR own s1.ρ s2.ρ, s2.st⟩
    | _ => .err
  else .err
/-- .. with two clauses -/
def lcOut (own own1 : List Nat) (t : Tg) (c : S → R Bool) (fi1 : FI) (t1 : Tg) (c1 : S → R Bool) (f : F) : List PyData → List Vl → S → R (List Vl)
  | [], acc, s => .ok acc s
  | x :: r, acc, s => match t.set x (wipeS own s) with
    | none => .err
    | some s1 => match noX (c s1) with
      | .ok true s2 => match noX (fi1 s2) with
        | .ok ys s3 => match lcLoop own1 t1 c1 f ys acc s3 with
          | .ok acc' s4 => lcOut own own1 t c fi1 t1 c1 f r acc' s4
          | _ => .err
        | _ => .err
      | .ok false s2 => lcOut own own1 t c fi1 t1 c1 f r acc s2
      | _ => .err
def cLc2 (own own1 : List Nat) (fi : FI) (t : Tg) (c : S → R Bool) (fi1 : FI) (t1 : Tg) (c1 : S → R Bool) (f : F) : F := fun s => (fi s).bind fun xs s1 =>
  if notOwn s1 own = true then
    match lcOut own own1 t c fi1 t1 c1 f xs [] s1 with
    | .ok acc s2 => .ok (.own acc) ⟨backR own s1.ρ s2.ρ, s2.st⟩
    | _ => .err
  else .err
def cYes : S → R Bool := fun s => .ok true s

section
variable {K : PySem.W.Frag} {XR : XRt} {W : WX} {O O' O1 : Ow} {H H' H1 : Hp} {n m : Nat} {θ θ' θ1 : List Addr} {σ : L2.St} {s s1 : S}
theorem wipeR_length : ∀ {vs : List Nat} {ρ : List (Option Vl)}, (wipeR vs ρ).length = ρ.length
  | [], _ => rfl
  | v :: vs, ρ => by unfold wipeR; rw [List.length_set, wipeR_length]
theorem wipeR_some {i : Nat} {x : Vl} : ∀ {vs : List Nat} {ρ : List (Option Vl)}, (wipeR vs ρ)[i]? = some (some x) → ρ[i]? = some (some x) ∧ i ∉ vs
  | [], _, h => ⟨h, by simp⟩
  | v :: vs, ρ, h => by
    unfold wipeR at h
    by_cases hi : v = i
    · subst hi
      by_cases hv : v < (wipeR vs ρ).length
      · rw [List.getElem?_set_self hv] at h
        cases h
      · rw [List.getElem?_eq_none (by rw [List.length_set]; omega)] at h
        cases h
    · rw [List.getElem?_set_ne hi] at h
      obtain ⟨h1, h2⟩ := wipeR_some h
      exact ⟨h1, fun z => (List.mem_cons.mp z).elim (fun e => hi e.symm) h2⟩
theorem wipeR_out {i : Nat} : ∀ {vs : List Nat} {ρ : List (Option Vl)}, i ∉ vs → (wipeR vs ρ)[i]? = ρ[i]?
  | [], _, _ => rfl
  | v :: vs, ρ, h => by
    unfold wipeR
    rw [List.getElem?_set_ne (fun e => h (by rw [e]; exact List.mem_cons_self)), wipeR_out fun z => h (List.mem_cons_of_mem _ z)]
theorem backR_length : ∀ {vs : List Nat} {ρ1 ρ : List (Option Vl)}, (backR vs ρ1 ρ).length = ρ.length
  | [], _, _ => rfl
  | v :: vs, ρ1, ρ => by unfold backR; rw [List.length_set, backR_length]
theorem backR_some {i : Nat} {x : Vl} : ∀ {vs : List Nat} {ρ1 ρ : List (Option Vl)}, (backR vs ρ1 ρ)[i]? = some (some x) → (i ∈ vs ∧ ρ1[i]? = some (some x)) ∨ (i ∉ vs ∧ ρ[i]? = some (some x))
  | [], _, _, h => .inr ⟨by simp, h⟩
  | v :: vs, ρ1, ρ, h => by
    unfold backR at h
    by_cases hi : v = i
    · subst hi
      by_cases hv : v < (backR vs ρ1 ρ).length
      · rw [List.getElem?_set_self hv] at h
        refine .inl ⟨List.mem_cons_self, ?_⟩
        cases e : ρ1[v]? with
        | none => rw [e] at h; cases h
        | some o => rw [e] at h; exact h
      · rw [List.getElem?_eq_none (by rw [List.length_set]; omega)] at h
        cases h
    · rw [List.getElem?_set_ne hi] at h
      rcases backR_some h with ⟨a, b⟩ | ⟨a, b⟩
      · exact .inl ⟨List.mem_cons_of_mem _ a, b⟩
      · exact .inr ⟨fun z => (List.mem_cons.mp z).elim (fun e => hi e.symm) a, b⟩
theorem notOwn_at : ∀ {vs : List Nat} {i : Nat} {xs : List Vl}, notOwn s vs = true → i ∈ vs → s.ρ[i]? ≠ some (some (.own xs))
  | [], _, _, _, h => by simp at h
  | v :: vs, i, xs, e, h => by
    rw [notOwn] at e
    obtain ⟨e1, e2⟩ := Bool.and_eq_true_iff.mp e
    rcases List.mem_cons.mp h with z | z
    · subst z
      intro q
      rw [q] at e1
      cases e1
    · exact notOwn_at e2 z

theorem Rel.wipe {vs : List Nat} (R : Rel K O θ H σ s) : Rel K O θ H (L2.wipe σ vs) (wipeS vs s) where
  len := by
    show _ = (wipeR vs s.ρ).length
    rw [wipe_length, wipeR_length]
    exact R.len
  tl := R.tl
  env := fun i x e => by
    obtain ⟨h1, h2⟩ := wipeR_some e
    obtain ⟨v, h3, h4⟩ := R.env i x h1
    exact ⟨v, by rw [wipe_out h2]; exact h3, h4⟩
  sto := R.sto
  wf := R.wf
/-- wiped once more: nothing new -/
theorem wipe_idem {vs : List Nat} : L2.wipe (L2.wipe σ vs) vs = L2.wipe σ vs := by
  refine List.ext_getElem? fun j => ?_
  rw [wipe_get, wipe_get, wipe_length]
  split <;> rfl
/-- from a block back to the def -/
theorem Rel.back {vs : List Nat} {sF : S} (R : Rel K O θ H σ s) (no : notOwn s vs = true) (R2 : Rel K O' θ' H' (L2.wipe σ vs) (wipeS vs sF)) (k : Keeps O H O' H') (e : Ext θ θ') : Rel K O' θ' H' σ ⟨backR vs s.ρ sF.ρ, sF.st⟩ where
  len := by
    show _ = (backR vs s.ρ sF.ρ).length
    have := R2.len
    rw [wipe_length] at this
    rw [backR_length, this]
    show (wipeR vs sF.ρ).length = _
    rw [wipeR_length]
  tl := R2.tl
  env := fun i x h => by
    rcases backR_some h with ⟨h1, h2⟩ | ⟨h1, h2⟩
    · obtain ⟨v, h3, h4⟩ := R.env i x h2
      refine ⟨v, h3, ?_⟩
      cases h4 with
      | d c => exact .d (c.mono k)
      | ref c => exact .ref (e _ _ c)
      | own _ _ _ => exact absurd h2 (notOwn_at no h1)
    · obtain ⟨v, h3, h4⟩ := R2.env i x (by show (wipeR vs sF.ρ)[i]? = _; rw [wipeR_out h1]; exact h2)
      rw [wipe_out h1] at h3
      exact ⟨v, h3, h4⟩
  sto := R2.sto
  wf := R2.wf

/-- the made list at D, one item more -/
def retag (n k : Nat) (O : Ow) : Ow := fun a => match O a with
  | some (.tmp m, q) => if m = n + 1 then some (.tmp n, q ++ [k]) else some (.tmp m, q)
  | t => t
theorem retag_ne {k : Nat} {a : Addr} {r : Rt} {q : List Nat} (e : O a = some (r, q)) (h : r ≠ .tmp (n + 1)) : retag n k O a = O a := by
  unfold retag
  rw [e]
  cases r with
  | tmp m => exact if_neg fun z => h (by rw [z])
  | slot i => rfl
  | cell i => rfl
  | out i => rfl
theorem retag_at {k : Nat} {a : Addr} {q : List Nat} (e : O a = some (.tmp (n + 1), q)) : retag n k O a = some (.tmp n, q ++ [k]) := by
  unfold retag
  rw [e]
  exact if_pos rfl
theorem retag_none {k : Nat} {a : Addr} (e : O a = none) : retag n k O a = none := by
  unfold retag
  rw [e]
theorem retag_some {k : Nat} {a : Addr} {t : Rt × List Nat} (e : retag n k O a = some t) : ∃ u, O a = some u := by
  cases h : O a with
  | none => rw [retag_none h] at e; cases e
  | some u => exact ⟨u, rfl⟩
structure Made (K : PySem.W.Frag) (O : Ow) (θ : List Addr) (H : Hp) (n : Nat) (D : Addr) (acc : List Vl) : Prop where
  ex : ∃ vs, H D = some (.lst vs) ∧ O D = some (.tmp n, []) ∧ RepA K O θ H (.tmp n) [] 0 vs acc
theorem Made.rep {D : Addr} {acc : List Vl} (h : Made K O θ H n D acc) : Rep K O θ H (.tmp n) [] (.ref D) (.own acc) := by
  obtain ⟨vs, h1, h2, h3⟩ := h.ex
  exact .own h1 h2 h3
theorem Made.fr {D : Addr} {acc : List Vl} (h : Made K O θ H n D acc) (f : Fr (n + 1) O H O' H') (e : Ext θ θ') : Made K O' θ' H' n D acc := by
  cases h.rep.fr f e (show n < n + 1 by omega) with
  | own h1 h2 h3 => exact ⟨_, h1, h2, h3⟩
theorem Made.push {D : Addr} {acc : List Vl} {v : V} {y : Vl} (h : Made K O θ H n D acc) (R : Rel K O θ H σ s) (P : Rep K O θ H (.tmp (n + 1)) [] v y) :
    ∃ vs, H D = some (.lst vs) ∧ vs.length = acc.length ∧ Made K (retag n acc.length O) θ (upd H D (.lst (vs ++ [v]))) n D (acc ++ [y]) ∧ Rel K (retag n acc.length O) θ (upd H D (.lst (vs ++ [v]))) σ s ∧
      Fr n O H (retag n acc.length O) (upd H D (.lst (vs ++ [v]))) := by
  obtain ⟨vs, h1, h2, h3⟩ := h.ex
  have kp : Keeps O H (retag n acc.length O) (upd H D (.lst (vs ++ [v]))) := fun a o e1 e2 => ⟨retag_none e1, by rw [upd_ne fun z => by rw [z, h2] at e1; cases e1]; exact e2⟩
  have oth : ∀ a r q, O a = some (r, q) → r ≠ .tmp (n + 1) → (r, q) ≠ (.tmp n, []) → retag n acc.length O a = O a ∧ upd H D (.lst (vs ++ [v])) a = H a := fun a r q e h1 hd =>
    ⟨retag_ne e h1, upd_ne fun z => hd (by rw [z, h2] at e; cases e; rfl)⟩
  have hl : vs.length = acc.length := h3.len
  refine ⟨vs, h1, hl, ⟨_, upd_same, by rw [retag_ne h2 (by intro z; injection z with z; omega)]; exact h2, ?_⟩, ?_, ⟨fun a r q e k => ?_, fun a o e1 e2 => kp a o e1 e2⟩⟩
  · refine RepA.snoc (RepA.items kp (.refl _) (fun a q ws hq e1 e2 => ?_) h3) ?_
    · obtain ⟨q1, q2⟩ := oth a _ q e1 (by intro z; injection z with z; omega) (fun z => hq (congrArg Prod.snd z))
      exact ⟨q1.trans e1, q2.trans e2⟩
    · rw [Nat.zero_add, hl]
      refine Rep.move (r := .tmp (n + 1)) (g := fun q => q ++ [acc.length]) kp (.refl _) (fun _ _ => rfl) (fun a q ws e1 e2 => ⟨retag_at e1, ?_⟩) P
      rw [upd_ne fun z => by rw [z, h2] at e1; injection e1 with e1; injection e1 with e1; injection e1 with e1; omega]
      exact e2
  · exact {
      len := R.len
      tl := R.tl
      env := fun i x e => by
        obtain ⟨w, g1, g2⟩ := R.env i x e
        exact ⟨w, g1, g2.stay kp (.refl _) fun a q e => oth a _ q e (by intro z; cases z) (by intro z; cases z)⟩
      sto := fun i x e => by
        obtain ⟨w, g1, g2⟩ := R.sto i x e
        exact ⟨w, g1, g2.stay kp (.refl _) fun a q e => oth a _ q e (by intro z; cases z) (by intro z; cases z)⟩
      wf := fun a t e => by
        obtain ⟨u, hu⟩ := retag_some e
        obtain ⟨o, q⟩ := R.wf a u hu
        by_cases ha : a = D
        · rw [ha]
          exact ⟨_, upd_same⟩
        · exact ⟨o, by rw [upd_ne ha]; exact q⟩ }
  · refine oth a r q e (fun z => ?_) (fun z => ?_)
    · rw [z] at k
      have : n + 1 < n := k
      omega
    · cases z
      have : n < n := k
      omega
theorem Made.new {D : Addr} (R : Rel K O θ H σ s) (hD : H D = none) : Made K (put O D (some (.tmp n, []))) θ (upd H D (.lst [])) n D [] := ⟨[], upd_same, put_same, .nil⟩

/-- a wish that no error is raised -/
abbrev W0 : WX := fun _ _ _ _ => False
theorem afg_noX {α : Type} {r : R α} {a : α} {s2 : S} {P : α → S → Prop} (e : noX r = .ok a s2) (h : P a s2) : AfG K XR W0 O θ n σ H r P := by
  cases r with
  | err => cases e
  | exc x s' => cases e
  | ok b s3 =>
    cases e
    exact h

theorem i_lc {vs : List Nat} {fi : FI} {t : Tg} {fc : S → R Bool} {f : F} (hs : ∀ i, i ∈ t.slots → i ∈ vs) {Q : VK} (q : Wp K XR W (cLc vs fi t fc f) σ H Q) :
    tLc (WpI K XR W fi) (WpG K t) (WpT K XR W0 fc) (Wp K XR W0 f) vs σ H Q := by
  obtain ⟨s, O, θ, n, hR, q⟩ := q
  refine ⟨s, O, θ, n, hR, afg_bind (Nat.le_refl _) q fun xs s1 h1 J O1 θ1 H1 f1 e1 R1 j1 D hD => ?_⟩
  by_cases no : notOwn s1 vs = true
  · rw [if_pos no] at h1
    cases el : lcLoop vs t fc f xs [] s1 with
    | err => rw [el] at h1; exact h1.elim
    | exc _ _ => rw [el] at h1; exact h1.elim
    | ok accF sF =>
      rw [el] at h1
      have f2 : Fr n O1 H1 (put O1 D (some (.tmp n, []))) (upd H1 D (.lst [])) := fr_newO R1 hD _
      have R2 := R1.newO (o := .lst []) hD (.tmp n, [])
      refine ⟨fun i m H' => ∃ (s' : S) (O' : Ow) (θ' : List Addr) (acc : List Vl), m = xs.length - i ∧ i ≤ xs.length ∧ Rel K O' θ' H' (L2.wipe σ vs) (wipeS vs s') ∧ Made K O' θ' H' n D acc ∧
        Fr n O1 H1 O' H' ∧ Ext θ1 θ' ∧ lcLoop vs t fc f (xs.drop i) acc s' = .ok accF sF, ⟨xs.length, s1, _, θ1, [], by simp, Nat.zero_le _, R2.wipe, Made.new R1 hD, f2, .refl _, el⟩, ?_⟩
      rintro i m H' ⟨s', O', θ', acc, rfl, hi, R', mk, fr', ex', lp⟩
      obtain ⟨st, go⟩ := j1 O' H' fr'.keeps i
      by_cases hlt : i < xs.length
      · obtain ⟨x, hx⟩ : ∃ x, xs[i]? = some x := ⟨_, List.getElem?_eq_getElem hlt⟩
        obtain ⟨g1, yl⟩ := go x hx
        have hd : xs.drop i = x :: xs.drop (i + 1) := by
          obtain ⟨h1, h2⟩ := List.getElem?_eq_some_iff.mp hx
          rw [← h2]
          exact List.drop_eq_getElem_cons h1
        rw [hd, lcLoop] at lp
        refine .inr ⟨g1, fun H'' => ∃ (s' : S) (O' : Ow) (θ' : List Addr) (acc : List Vl), Rel K O' θ' H'' (L2.wipe σ vs) (wipeS vs s') ∧ Made K O' θ' H'' n D acc ∧
          Fr n O1 H1 O' H'' ∧ Ext θ1 θ' ∧ lcLoop vs t fc f (xs.drop (i + 1)) acc s' = .ok accF sF, fun H'' ⟨s', O', θ', acc, a, b, c, d, e⟩ => ⟨xs.length - (i + 1), by omega, s', O', θ', acc, rfl, hlt, a, b, c, d, e⟩, fun v H2 y => ?_⟩
        obtain ⟨gr, cx⟩ := yl v H2 y
        cases et : t.set x (wipeS vs s') with
        | none => rw [et] at lp; cases lp
        | some s2 =>
          rw [et] at lp
          have R3 := R'.grow gr
          have frg := R'.frGrow (n := n + 1) gr
          have mk3 := mk.fr frg (.refl _)
          refine ⟨wipeS vs s', s2, O', θ', x, R3, cx R'.wf, et, fun σ2 sb R4 => ⟨?_, s2, O', θ', n + 1, R4, ?_⟩⟩
          · rw [sb vs hs, wipe_idem]
          · have ws : L2.wipe σ2 vs = L2.wipe σ vs := by rw [sb vs hs, wipe_idem]
            have fr3 : Fr n O1 H1 O' H2 := fr'.trans (frg.weak (Nat.le_succ _)) (Nat.le_refl _)
            simp only at lp
            cases ec : noX (fc s2) with
            | err => rw [ec] at lp; cases lp
            | exc _ _ => rw [ec] at lp; cases lp
            | ok b s3 =>
              rw [ec] at lp
              refine afg_noX ec fun O4 θ4 H4 f4 e4 R5 => ?_
              have mk4 := mk3.fr f4 e4
              have fr4 := fr3.trans (f4.weak (Nat.le_succ _)) (Nat.le_refl _)
              cases b with
              | false =>
                refine L2.iteF ?_
                exact ⟨s3, O4, θ4, acc, ws ▸ R5.wipe, mk4, fr4, ex'.trans e4, lp⟩
              | true =>
                refine L2.iteT ?_
                simp only at lp
                refine ⟨s3, O4, θ4, n + 1, R5, ?_⟩
                cases ef : noX (f s3) with
                | err => rw [ef] at lp; cases lp
                | exc _ _ => rw [ef] at lp; cases lp
                | ok z s4 =>
                  rw [ef] at lp
                  refine afg_noX ef fun w O5 θ5 H5 f5 e5 R6 P => ?_
                  have mk5 := mk4.fr f5 e5
                  obtain ⟨ws', hD5, hl, mk6, R7, f6⟩ := mk5.push R6 P
                  simp only at lp
                  split at lp
                  · rename_i hz
                    exact ⟨ws', hD5, by rw [hl]; exact lim_lt hz, s4, _, θ5, _, ws ▸ R7.wipe, mk6, (fr4.trans (f5.weak (Nat.le_succ _)) (Nat.le_refl _)).trans f6 (Nat.le_refl _), (ex'.trans e4).trans e5, lp⟩
                  · cases lp
      · have hi' : i = xs.length := by omega
        subst hi'
        rw [List.drop_length, lcLoop] at lp
        cases lp
        refine .inl ⟨st (Nat.le_refl _), ?_⟩
        exact h1 _ _ _ _ (f1.trans fr' (Nat.le_refl _)) (e1.trans ex') (R1.back no R' fr'.keeps ex') mk.rep
  · rw [if_neg no] at h1
    exact h1.elim
theorem wipe_sub {us vs : List Nat} (h : ∀ i, i ∈ us → i ∈ vs) : L2.wipe (L2.wipe σ us) vs = L2.wipe σ vs := by
  refine List.ext_getElem? fun j => ?_
  rw [wipe_get, wipe_get, wipe_get, wipe_length]
  by_cases hj : j ∈ vs ∧ j < σ.length
  · rw [if_pos hj, if_pos hj]
  · rw [if_neg hj, if_neg hj]
    by_cases hu : j ∈ us ∧ j < σ.length
    · exact absurd ⟨h j hu.1, hu.2⟩ hj
    · rw [if_neg hu]
theorem wipeR_get {ρ : List (Option Vl)} {j : Nat} : ∀ {vs : List Nat}, (wipeR vs ρ)[j]? = if j ∈ vs ∧ j < ρ.length then some none else ρ[j]?
  | [] => by
    rw [if_neg (fun h => by simp at h)]
    rfl
  | v :: vs => by
    unfold wipeR
    by_cases hj : v = j
    · subst hj
      by_cases hl : v < ρ.length
      · rw [List.getElem?_set_self (by rw [wipeR_length]; exact hl), if_pos ⟨List.mem_cons_self, hl⟩]
      · rw [List.getElem?_eq_none (by rw [List.length_set, wipeR_length]; omega), if_neg (fun h => hl h.2), List.getElem?_eq_none (by omega)]
    · rw [List.getElem?_set_ne hj, wipeR_get]
      by_cases hm : j ∈ vs
      · by_cases hl : j < ρ.length
        · rw [if_pos ⟨hm, hl⟩, if_pos ⟨List.mem_cons_of_mem _ hm, hl⟩]
        · rw [if_neg (fun h => hl h.2), if_neg (fun h => hl h.2)]
      · rw [if_neg (fun h => hm h.1), if_neg (fun h => (List.mem_cons.mp h.1).elim (fun z => hj z.symm) hm)]
theorem wipeS_sub {us vs : List Nat} (h : ∀ i, i ∈ us → i ∈ vs) : wipeS vs (wipeS us s) = wipeS vs s := by
  show (⟨wipeR vs (wipeR us s.ρ), s.st⟩ : S) = ⟨wipeR vs s.ρ, s.st⟩
  congr 1
  refine List.ext_getElem? fun j => ?_
  rw [wipeR_get, wipeR_get, wipeR_get, wipeR_length]
  by_cases hj : j ∈ vs ∧ j < s.ρ.length
  · rw [if_pos hj, if_pos hj]
  · rw [if_neg hj, if_neg hj]
    by_cases hu : j ∈ us ∧ j < s.ρ.length
    · exact absurd ⟨h j hu.1, hu.2⟩ hj
    · rw [if_neg hu]

theorem i_lc2 {vs vs1 : List Nat} {fi fi1 : FI} {t t1 : Tg} {fc fc1 : S → R Bool} {f : F} (hs : ∀ i, i ∈ t.slots → i ∈ vs) (hs1 : ∀ i, i ∈ t1.slots → i ∈ vs1) (hv : ∀ i, i ∈ vs1 → i ∈ vs) {Q : VK}
    (q : Wp K XR W (cLc2 vs vs1 fi t fc fi1 t1 fc1 f) σ H Q) : tLc2 (WpI K XR W fi) (WpG K t) (WpT K XR W0 fc) (WpI K XR W0 fi1) (WpG K t1) (WpT K XR W0 fc1) (Wp K XR W0 f) vs vs1 σ H Q := by
  obtain ⟨s, O, θ, n, hR, q⟩ := q
  refine ⟨s, O, θ, n, hR, afg_bind (Nat.le_refl _) q fun xs s1 h1 J O1 θ1 H1 f1 e1 R1 j1 D hD => ?_⟩
  by_cases no : notOwn s1 vs = true
  · rw [if_pos no] at h1
    cases el : lcOut vs vs1 t fc fi1 t1 fc1 f xs [] s1 with
    | err => rw [el] at h1; exact h1.elim
    | exc _ _ => rw [el] at h1; exact h1.elim
    | ok accF sF =>
      rw [el] at h1
      have f2 : Fr n O1 H1 (put O1 D (some (.tmp n, []))) (upd H1 D (.lst [])) := fr_newO R1 hD _
      have R2 := R1.newO (o := .lst []) hD (.tmp n, [])
      refine ⟨fun i m H' => ∃ (s' : S) (O' : Ow) (θ' : List Addr) (acc : List Vl), m = xs.length - i ∧ i ≤ xs.length ∧ Rel K O' θ' H' (L2.wipe σ vs) (wipeS vs s') ∧ Made K O' θ' H' n D acc ∧
        Fr n O1 H1 O' H' ∧ Ext θ1 θ' ∧ lcOut vs vs1 t fc fi1 t1 fc1 f (xs.drop i) acc s' = .ok accF sF, ⟨xs.length, s1, _, θ1, [], by simp, Nat.zero_le _, R2.wipe, Made.new R1 hD, f2, .refl _, el⟩, ?_⟩
      rintro i m H' ⟨s', O', θ', acc, rfl, hi, R', mk, fr', ex', lp⟩
      obtain ⟨st, go⟩ := j1 O' H' fr'.keeps i
      by_cases hlt : i < xs.length
      · obtain ⟨x, hx⟩ : ∃ x, xs[i]? = some x := ⟨_, List.getElem?_eq_getElem hlt⟩
        obtain ⟨g1, yl⟩ := go x hx
        have hd : xs.drop i = x :: xs.drop (i + 1) := by
          obtain ⟨h1, h2⟩ := List.getElem?_eq_some_iff.mp hx
          rw [← h2]
          exact List.drop_eq_getElem_cons h1
        rw [hd, lcOut] at lp
        refine .inr ⟨g1, fun H'' => ∃ (s' : S) (O' : Ow) (θ' : List Addr) (acc : List Vl), Rel K O' θ' H'' (L2.wipe σ vs) (wipeS vs s') ∧ Made K O' θ' H'' n D acc ∧
          Fr n O1 H1 O' H'' ∧ Ext θ1 θ' ∧ lcOut vs vs1 t fc fi1 t1 fc1 f (xs.drop (i + 1)) acc s' = .ok accF sF, fun H'' ⟨s', O', θ', acc, a, b, c, d, e⟩ => ⟨xs.length - (i + 1), by omega, s', O', θ', acc, rfl, hlt, a, b, c, d, e⟩, fun v H2 y => ?_⟩
        obtain ⟨gr, cx⟩ := yl v H2 y
        cases et : t.set x (wipeS vs s') with
        | none => rw [et] at lp; cases lp
        | some s2 =>
          rw [et] at lp
          have R3 := R'.grow gr
          have frg := R'.frGrow (n := n + 1) gr
          have mk3 := mk.fr frg (.refl _)
          refine ⟨wipeS vs s', s2, O', θ', x, R3, cx R'.wf, et, fun σ2 sb R4 => ⟨?_, s2, O', θ', n + 1, R4, ?_⟩⟩
          · rw [sb vs hs, wipe_idem]
          · have ws : L2.wipe σ2 vs = L2.wipe σ vs := by rw [sb vs hs, wipe_idem]
            have fr3 : Fr n O1 H1 O' H2 := fr'.trans (frg.weak (Nat.le_succ _)) (Nat.le_refl _)
            simp only at lp
            cases ec : noX (fc s2) with
            | err => rw [ec] at lp; cases lp
            | exc _ _ => rw [ec] at lp; cases lp
            | ok b s3 =>
              rw [ec] at lp
              refine afg_noX ec fun O4 θ4 H4 f4 e4 R5 => ?_
              have mk4 := mk3.fr f4 e4
              have fr4 := fr3.trans (f4.weak (Nat.le_succ _)) (Nat.le_refl _)
              cases b with
              | false =>
                refine L2.iteF ?_
                exact ⟨s3, O4, θ4, acc, ws ▸ R5.wipe, mk4, fr4, ex'.trans e4, lp⟩
              | true =>
                refine L2.iteT ?_
                simp only at lp
                refine ⟨s3, O4, θ4, n + 1, R5, ?_⟩
                cases ei : noX (fi1 s3) with
                | err => rw [ei] at lp; cases lp
                | exc _ _ => rw [ei] at lp; cases lp
                | ok ys s4 =>
                  rw [ei] at lp
                  simp only at lp
                  refine afg_noX ei fun J1 O5 θ5 H5 f5 e5 R6 j2 => ?_
                  have mk5 := mk4.fr f5 e5
                  have fr5 := fr4.trans (f5.weak (Nat.le_succ _)) (Nat.le_refl _)
                  cases il : lcLoop vs1 t1 fc1 f ys acc s4 with
                  | err => rw [il] at lp; cases lp
                  | exc _ _ => rw [il] at lp; cases lp
                  | ok accI sI =>
                    rw [il] at lp
                    simp only at lp
                    refine ⟨fun j k H' => ∃ (s' : S) (O' : Ow) (θ' : List Addr) (acc : List Vl), k = ys.length - j ∧ j ≤ ys.length ∧ Rel K O' θ' H' (L2.wipe σ2 vs1) (wipeS vs1 s') ∧ Made K O' θ' H' n D acc ∧
                      Fr n O5 H5 O' H' ∧ Ext θ5 θ' ∧ lcLoop vs1 t1 fc1 f (ys.drop j) acc s' = .ok accI sI, ⟨ys.length, s4, O5, θ5, acc, by simp, Nat.zero_le _, R6.wipe, mk5, .refl, .refl _, il⟩, ?_⟩
                    rintro j k H' ⟨t', O', θ', acc', rfl, hj, R', mk', fr', ex6, lp1⟩
                    obtain ⟨st1, go1⟩ := j2 O' H' fr'.keeps j
                    by_cases hlt1 : j < ys.length
                    · obtain ⟨x1, hx1⟩ : ∃ x, ys[j]? = some x := ⟨_, List.getElem?_eq_getElem hlt1⟩
                      obtain ⟨g2, yl1⟩ := go1 x1 hx1
                      have hd1 : ys.drop j = x1 :: ys.drop (j + 1) := by
                        obtain ⟨h1, h2⟩ := List.getElem?_eq_some_iff.mp hx1
                        rw [← h2]
                        exact List.drop_eq_getElem_cons h1
                      rw [hd1, lcLoop] at lp1
                      refine .inr ⟨g2, fun H'' => ∃ (s' : S) (O' : Ow) (θ' : List Addr) (acc : List Vl), Rel K O' θ' H'' (L2.wipe σ2 vs1) (wipeS vs1 s') ∧ Made K O' θ' H'' n D acc ∧
                        Fr n O5 H5 O' H'' ∧ Ext θ5 θ' ∧ lcLoop vs1 t1 fc1 f (ys.drop (j + 1)) acc s' = .ok accI sI, fun H'' ⟨s', O', θ', acc, a, b, c, d, e⟩ => ⟨ys.length - (j + 1), by omega, s', O', θ', acc, rfl, hlt1, a, b, c, d, e⟩, fun v H6 y => ?_⟩
                      obtain ⟨gr1, cx1⟩ := yl1 v H6 y
                      cases et1 : t1.set x1 (wipeS vs1 t') with
                      | none => rw [et1] at lp1; cases lp1
                      | some s5 =>
                        rw [et1] at lp1
                        have R7 := R'.grow gr1
                        have frg1 := R'.frGrow (n := n + 1) gr1
                        have mk7 := mk'.fr frg1 (.refl _)
                        refine ⟨wipeS vs1 t', s5, O', θ', x1, R7, cx1 R'.wf, et1, fun σ3 sb1 R8 => ⟨?_, s5, O', θ', n + 1, R8, ?_⟩⟩
                        · rw [sb1 vs1 hs1, wipe_idem]
                        · have ws1 : L2.wipe σ3 vs1 = L2.wipe σ2 vs1 := by rw [sb1 vs1 hs1, wipe_idem]
                          have fr7 : Fr n O5 H5 O' H6 := fr'.trans (frg1.weak (Nat.le_succ _)) (Nat.le_refl _)
                          simp only at lp1
                          cases ec1 : noX (fc1 s5) with
                          | err => rw [ec1] at lp1; cases lp1
                          | exc _ _ => rw [ec1] at lp1; cases lp1
                          | ok b1 s6 =>
                            rw [ec1] at lp1
                            refine afg_noX ec1 fun O7 θ7 H7 f7 e7 R9 => ?_
                            have mk8 := mk7.fr f7 e7
                            have fr8 := fr7.trans (f7.weak (Nat.le_succ _)) (Nat.le_refl _)
                            cases b1 with
                            | false =>
                              refine L2.iteF ?_
                              exact ⟨s6, O7, θ7, acc', ws1 ▸ R9.wipe, mk8, fr8, ex6.trans e7, lp1⟩
                            | true =>
                              refine L2.iteT ?_
                              simp only at lp1
                              refine ⟨s6, O7, θ7, n + 1, R9, ?_⟩
                              cases ef : noX (f s6) with
                              | err => rw [ef] at lp1; cases lp1
                              | exc _ _ => rw [ef] at lp1; cases lp1
                              | ok z s7 =>
                                rw [ef] at lp1
                                refine afg_noX ef fun w O8 θ8 H8 f8 e8 R10 P => ?_
                                have mk9 := mk8.fr f8 e8
                                obtain ⟨ws', hD5, hl, mk10, R11, f9⟩ := mk9.push R10 P
                                simp only at lp1
                                split at lp1
                                · rename_i hz
                                  exact ⟨ws', hD5, by rw [hl]; exact lim_lt hz, s7, _, θ8, _, ws1 ▸ R11.wipe, mk10, (fr8.trans (f8.weak (Nat.le_succ _)) (Nat.le_refl _)).trans f9 (Nat.le_refl _), (ex6.trans e7).trans e8, lp1⟩
                                · cases lp1
                    · have hj' : j = ys.length := by omega
                      subst hj'
                      rw [List.drop_length, lcLoop] at lp1
                      cases lp1
                      refine .inl ⟨st1 (Nat.le_refl _), _, O', θ', _, ?_, mk', fr5.trans fr' (Nat.le_refl _), ((ex'.trans e4).trans e5).trans ex6, lp⟩
                      have q := R'.wipe (vs := vs)
                      rw [wipe_sub hv, ws, wipeS_sub hv] at q
                      exact q
      · have hi' : i = xs.length := by omega
        subst hi'
        rw [List.drop_length, lcOut] at lp
        cases lp
        refine .inl ⟨st (Nat.le_refl _), ?_⟩
        exact h1 _ _ _ _ (f1.trans fr' (Nat.le_refl _)) (e1.trans ex') (R1.back no R' fr'.keeps ex') mk.rep
  · rw [if_neg no] at h1
    exact h1.elim
end
end Ev

/-! Part 8: subscripts, slices, lists that are changed; statements. -/
namespace Ev
open PySem PySem.Spec PyProof.Rows L2

def ixD : PyData → PyData → Option Vl
  | .list xs, .int i => (atI xs i).map .d
  | .tuple xs, .int i => (atI xs i).map .d
  | .str z, .int i => if z.length ≤ LIM then (atI z.cps.toList i).map fun c => .d (.str ⟨#[c]⟩) else none
  | _, _ => none
def cutD (xs : List PyData) (lo hi : Option Int) : List PyData := (xs.drop (HT.sIx xs.length 0 lo)).take (HT.sIx xs.length xs.length hi - HT.sIx xs.length 0 lo)
def slcD : PyData → Option Int → Option Int → Option Vl
  | .list xs, lo, hi => some (dL (cutD xs lo hi))
  | .tuple xs, lo, hi => some (.d (.tuple (cutD xs lo hi)))
  | .str z, lo, hi => if z.length ≤ LIM then some (.d (.str (cutS z lo hi))) else none
  | _, _, _ => none
def cPart (f : Option F) : S → R (Option Int) := fun s => match f with
  | none => .ok none s
  | some f => (f s).bind fun x s1 => match x with
    | .d (.int i) => .ok (some i) s1
    | _ => .err
def cSlc (fa : F) (lo hi : Option F) : F := fun s => (fa s).bind fun x s1 => (cPart lo s1).bind fun l s2 => (cPart hi s2).bind fun h s3 => match cold x with
  | some a => R.of (slcD a l h) s3
  | none => .err
def revD : List PyData → Option Vl
  | [.list xs] => some (dL xs.reverse)
  | _ => none

section
variable {K : PySem.W.Frag} {XR : XRt} {W : WX} {O O' O1 : Ow} {H H' H1 : Hp} {n m : Nat} {θ θ' θ1 : List Addr} {σ : L2.St} {s s1 : S}
theorem ColdA.atI {vs : List V} {xs : List PyData} {i : Int} {x : PyData} (c : ColdA K O H vs xs) (e : L2.atI xs i = some x) : ∃ v, L2.atI vs i = some v ∧ Cold K O H v x := by
  unfold L2.atI at e ⊢
  rw [c.len]
  cases h : ixN xs.length i with
  | none => rw [h] at e; cases e
  | some j =>
    rw [h] at e
    exact c.get e
theorem ix_sub {X : Cx} : IxR X (rG X.K ixD) := by
  rintro value slice pins s σ H x y v u Q I rx ry ⟨n, O, θ, σ', s', a, b, z, R, ca, cb, e, q⟩ hs
  cases b with
  | int i =>
    cases cb
    cases a with
    | list xs =>
      rw [ixD] at e
      cases h : L2.atI xs i with
      | none => rw [h] at e; cases e
      | some y =>
        rw [h] at e
        cases e
        cases ca with
        | lst h1 c1 =>
          obtain ⟨w, e1, c⟩ := c1.atI h
          exact ix_list value slice pins s σ H _ _ v u Q I rx ry ⟨_, _, i, w, rfl, rfl, h1.sq, e1, end_d R q c⟩ hs
    | tuple xs =>
      rw [ixD] at e
      cases h : L2.atI xs i with
      | none => rw [h] at e; cases e
      | some y =>
        rw [h] at e
        cases e
        cases ca with
        | tup h1 c1 =>
          obtain ⟨w, e1, c⟩ := c1.atI h
          exact ix_tup value slice pins s σ H _ _ v u Q I rx ry ⟨_, _, i, w, rfl, rfl, h1.sq, e1, end_d R q c⟩ hs
    | str z =>
      rw [ixD] at e
      split at e
      · rename_i hz
        cases h : L2.atI z.cps.toList i with
        | none => rw [h] at e; cases e
        | some y =>
          rw [h] at e
          cases e
          cases ca
          exact ix_str value slice pins s σ H _ _ v u Q I rx ry ⟨z, i, y, rfl, rfl, lim_le hz, h, end_d R q (.str _)⟩ hs
      · cases e
    | _ => cases e
  | _ => cases a <;> cases e
theorem wp_sub {X : Cx} {a b : Expr} {pos : Pos} {fa fb : F} (ha : PE X a (Wp X.K XR W fa)) (hb : PE X b (Wp X.K XR W fb)) (hs : PlainIx b) : PE X (.Subscript a b pos) (Wp X.K XR W (cBin ixD fa fb)) :=
  pe_imp (pe_ix ix_sub ha hb hs) fun _ _ _ q => i_bin q

/-! slices -/
def WpO (K : PySem.W.Frag) (X : XRt) (W : WX) (f : S → R (Option Int)) : TO := fun σ H Q => ∃ (s : S) (O : Ow) (θ : List Addr) (n : Nat), Rel K O θ H σ s ∧
  AfG K X W O θ n σ H (f s) fun x s' => ∀ O' θ' H', Fr n O H O' H' → Ext θ θ' → Rel K O' θ' H' σ s' → Q x H'
theorem po_imp {X : Cx} {e : Option Expr} {t t' : TO} (h : PO X e t) (i : ∀ σ H Q, t' σ H Q → t σ H Q) : PO X e t' := ⟨fun pins s σ H Q I q => h.run pins s σ H Q I (i σ H Q q)⟩
theorem wo_none {X : Cx} : PO X none (WpO X.K XR W (cPart none)) := po_imp po_none fun σ H Q ⟨s, O, θ, n, R, q⟩ => q O θ H Fr.refl (.refl _) R
theorem wo_some {X : Cx} {e : Expr} {f : F} (h : PE X e (Wp X.K XR W f)) : PO X (some e) (WpO X.K XR W (cPart (some f))) := po_imp (po_some h) fun σ H Q ⟨s, O, θ, n, R, q⟩ => by
  refine ⟨s, O, θ, n, R, afg_bind (Nat.le_refl _) q fun x s1 h1 v O1 θ1 H1 f1 e1 R1 P1 => ?_⟩
  cases P1 with
  | d c =>
    cases c with
    | int i => exact ⟨i, rfl, h1 O1 θ1 H1 f1 e1 R1⟩
    | _ => exact h1.elim
  | ref _ => exact h1.elim
  | own _ _ _ => exact h1.elim
def rSlc (K : PySem.W.Frag) : V → Option Int → Option Int → Hp → VK → Prop := fun x lo hi H Q => ∃ (n : Nat) (O : Ow) (θ : List Addr) (σ : L2.St) (s : S) (a : PyData) (z : Vl),
  Rel K O θ H σ s ∧ Cold K O H x a ∧ slcD a lo hi = some z ∧ ∀ u O' H', Fr n O H O' H' → Rel K O' θ H' σ s → Rep K O' θ H' (.tmp n) [] u z → Q u H'
theorem ColdA.cut {vs : List V} {xs : List PyData} (c : ColdA K O H vs xs) (lo hi : Option Int) : ColdA K O H (cutV vs lo hi) (cutD xs lo hi) := by
  unfold cutV cutD
  rw [c.len]
  exact (c.drop _).take _
theorem cut_all {xs : List PyData} {lo hi : Option Int} (h : HT.sIx xs.length 0 lo = 0 ∧ HT.sIx xs.length xs.length hi = xs.length) : cutD xs lo hi = xs := by
  unfold cutD
  rw [h.1, h.2]
  simp
theorem sl_slc {X : Cx} : SlR X (rSlc X.K) := by
  rintro pins s σ H x v vl vu lo hi sl Q I rx hs pl pu ⟨n, O, θ, σ', s', a, z, R, ca, e, q⟩
  cases a with
  | list xs =>
    cases e
    cases ca with
    | lst h1 c1 => exact sl_list pins s σ H _ v vl vu lo hi sl Q I rx hs pl pu ⟨_, _, rfl, h1.sq, end_lst R q (c1.cut lo hi)⟩
  | tuple xs =>
    cases e
    cases ca with
    | tup h1 c1 =>
      refine sl_tupA pins s σ H _ v vl vu lo hi sl Q I rx hs pl pu ⟨_, _, rfl, h1.sq, fun hw => ?_, fun _ => end_tup R q (c1.cut lo hi)⟩
      rw [c1.len] at hw
      rw [cut_all hw] at q
      exact end_d R q (.tup h1 c1)
  | str z =>
    rw [slcD] at e
    split at e
    · rename_i hz
      cases e
      cases ca
      exact sl_str pins s σ H _ v vl vu lo hi sl Q I rx hs pl pu ⟨z, rfl, lim_le hz, end_d R q (.str _)⟩
    · cases e
  | _ => cases e
theorem afo_move {r : R (Option Int)} {Q : Option Int → Hp → Prop} (h : AfG K XR W O θ n σ H r fun x s' => ∀ O' θ' H', Fr n O H O' H' → Ext θ θ' → Rel K O' θ' H' σ s' → Q x H') (f : Fr n O H O1 H1) (e : Ext θ θ1) :
    AfG K XR W O1 θ1 n σ H1 r fun x s' => ∀ O' θ' H', Fr n O1 H1 O' H' → Ext θ1 θ' → Rel K O' θ' H' σ s' → Q x H' := by
  cases r with
  | err => exact h
  | exc x s' => exact fun cls d O' θ' H' f2 e2 R q => h cls d O' θ' H' (f.trans f2 (Nat.le_refl _)) (e.trans e2) R q
  | ok a s1 => exact fun O' θ' H' f2 e2 R => h O' θ' H' (f.trans f2 (Nat.le_refl _)) (e.trans e2) R
theorem wp_slc {X : Cx} {a : Expr} {lo hi : Option Expr} {p2 pos : Pos} {fa : F} {fl fh : Option F} (ha : PE X a (Wp X.K XR W fa)) (hl : PO X lo (WpO X.K XR W (cPart fl))) (hh : PO X hi (WpO X.K XR W (cPart fh))) :
    PE X (.Subscript a (.Slice lo hi none p2) pos) (Wp X.K XR W (cSlc fa fl fh)) := pe_imp (pe_slice sl_slc ha hl hh) fun σ H Q ⟨s, O, θ, n, R, q⟩ => by
  refine ⟨s, O, θ, n, R, afg_bind (Nat.le_refl _) q fun x s1 h1 v O1 θ1 H1 f1 e1 R1 P1 => ?_⟩
  refine ⟨s1, O1, θ1, n + 1, R1, afg_bind (Nat.le_succ _) (af_move h1 f1 e1) fun l s2 h2 O2 θ2 H2 f2 e2 R2 => ?_⟩
  refine ⟨s2, O2, θ2, n + 1, R2, afg_bind (Nat.le_succ _) (af_move h2 (f2.weak (Nat.le_succ _)) e2) fun u s3 h3 O3 θ3 H3 f3 e3 R3 => ?_⟩
  have P2 := (P1.fr f2 e2 (show n < n + 1 by omega)).fr f3 e3 (show n < n + 1 by omega)
  cases ex : Ev.cold x with
  | none => rw [ex] at h3; exact h3.elim
  | some a =>
    rw [ex] at h3
    cases ez : slcD a l u with
    | none => simp only [ez] at h3; exact h3.elim
    | some z =>
      simp only [ez] at h3
      have fc : Fr n O3 H3 (coldFrom n O3) H3 := fr_coldFrom
      exact ⟨n, coldFrom n O3, θ3, σ, s3, a, z, R3.coldFrom n, P2.coldFrom (Nat.le_refl _) ex, ez, fun w O' H' f4 R4 P4 => h3 w O' θ3 H' (((f3.weak (Nat.le_succ _)).trans fc (Nat.le_refl _)).trans f4 (Nat.le_refl _)) e3 R4 P4⟩
theorem wp_rev {X : Cx} {a : Expr} {k : Nat} {p1 p2 p3 pos : Pos} {fa : F}
    (h : PE X (.Subscript a (.Slice none none (some (.UnaryOp .USub (.Constant (.int 1) k p1) p2)) p3) pos) (fun σ H Q => Wp X.K XR W fa σ H fun x H1 => ∃ a xs, x = .ref a ∧ SqL X.K H1 a xs ∧ ∀ p, H1 p = none → Q (.ref p) (upd H1 p (.lst xs.reverse)))) :
    PE X (.Subscript a (.Slice none none (some (.UnaryOp .USub (.Constant (.int 1) k p1) p2)) p3) pos) (Wp X.K XR W (cUn (fun x => revD [x]) fa)) := pe_imp h fun σ H Q ⟨s, O, θ, n, hR, q⟩ => by
  refine ⟨s, O, θ, n, hR, afg_bind (Nat.le_refl _) q fun x s1 h1 v O1 θ1 H1 f1 e1 R1 P1 => ?_⟩
  cases ex : Ev.cold x with
  | none => rw [ex] at h1; exact h1.elim
  | some a =>
    rw [ex] at h1
    cases a with
    | list xs =>
      have h1 : AfG X.K XR W O θ n σ H (R.ok (dL xs.reverse) s1) (fun x s' => ∀ v O' θ' H', Fr n O H O' H' → Ext θ θ' → Rel X.K O' θ' H' σ s' → Rep X.K O' θ' H' (.tmp n) [] v x → Q v H') := h1
      cases P1.coldFrom (Nat.le_refl _) ex with
      | lst h2 c => exact ⟨_, _, rfl, h2.sq, end_lst (R1.coldFrom n) (fun u O' H' f3 R3 P3 => h1 u O' θ1 H' ((f1.trans fr_coldFrom (Nat.le_refl _)).trans f3 (Nat.le_refl _)) e1 R3 P3) c.rev⟩
    | _ => exact h1.elim

/-! ### places: a slot's own list, the shared list that a slot names -/
def plcGet (s : S) (i : Nat) : Option (List Vl) := match s.ρ[i]? with
  | some (some (.own xs)) => some xs
  | some (some (.ref l)) => match s.st[l]? with
    | some (.own xs) => some xs
    | _ => none
  | _ => none
def plcSet (s : S) (i : Nat) (xs : List Vl) : S := match s.ρ[i]? with
  | some (some (.ref l)) => ⟨s.ρ, s.st.set l (.own xs)⟩
  | _ => ⟨s.ρ.set i (some (.own xs)), s.st⟩

theorem RepA.under {r : Rt} {a : Addr} {o : HO} (ha : ∀ q, q ≠ [] → O a ≠ some (r, q)) (hn : O a ≠ none) : ∀ {p : List Nat} {k : Nat} {vs : List V} {xs : List Vl}, RepA K O θ H r p k vs xs → RepA K O θ (upd H a o) r p k vs xs :=
  fun h => RepA.items (fun b u e1 e2 => ⟨e1, by rw [upd_ne fun z => hn (by rw [← z]; exact e1)]; exact e2⟩) (.refl _) (fun b q vs hq e1 e2 => ⟨e1, by rw [upd_ne fun z => ha q hq (by rw [← z]; exact e1)]; exact e2⟩) h
theorem Rep.other {r r' : Rt} {p q : List Nat} {a : Addr} {o : HO} {v : V} {x : Vl} (h : Rep K O θ H r p v x) (ha : O a = some (r', q)) (hr : r ≠ r') : Rep K O θ (upd H a o) r p v x :=
  h.stay (fun b u e1 e2 => ⟨e1, by rw [upd_ne fun z => by rw [z, ha] at e1; cases e1]; exact e2⟩) (.refl _) fun b u e => ⟨rfl, upd_ne fun z => by rw [z, ha] at e; cases e; exact hr rfl⟩
theorem fr_at {r : Rt} {q : List Nat} {a : Addr} {o : HO} (ha : O a = some (r, q)) (hr : ¬ keepR n r) : Fr n O H O (upd H a o) :=
  ⟨fun b r' p e k => ⟨rfl, upd_ne fun z => by rw [z, ha] at e; cases e; exact hr k⟩, fun b u e1 e2 => ⟨e1, by rw [upd_ne fun z => by rw [z, ha] at e1; cases e1]; exact e2⟩⟩
/-- the place that a slot names: it is read, and it may be changed -/
theorem Rel.plc {i : Nat} {xs : List Vl} (R : Rel K O θ H σ s) (e : plcGet s i = some xs) : ∃ (a : Addr) (vs : List V) (r : Rt), σ[i]? = some (some (.ref a)) ∧ H a = some (.lst vs) ∧ O a = some (r, []) ∧ (∀ n, ¬ keepR n r) ∧ RepA K O θ H r [] 0 vs xs ∧
    ∀ b vs' o xs', (∃ q, O b = some (r, q)) → o = HO.lst vs' → Rep K O θ (upd H b o) r [] (.ref a) (.own xs') → Rel K O θ (upd H b o) σ (plcSet s i xs') := by
  unfold plcGet at e
  cases e1 : s.ρ[i]? with
  | none => rw [e1] at e; cases e
  | some o =>
    cases o with
    | none => rw [e1] at e; cases e
    | some x =>
      rw [e1] at e
      obtain ⟨v, g1, g2⟩ := R.env i x e1
      cases x with
      | d y => cases e
      | own ys =>
        cases e
        cases g2 with
        | own h1 h2 h3 =>
          rename_i a vs
          refine ⟨a, vs, .slot i, g1, h1, h2, fun _ z => z, h3, fun b vs' o xs' ⟨q, hb⟩ ho new => ?_⟩
          unfold plcSet
          rw [e1]
          have R' := R.slot (i := i) (O' := O) (H' := upd H b o) (x := .own xs') (v := .ref a) (fun c u e1 e2 => ⟨e1, by rw [upd_ne fun z => by rw [z, hb] at e1; cases e1]; exact e2⟩) (.refl _)
            (fun c j q e hj => ⟨rfl, upd_ne fun z => by rw [z, hb] at e; cases e; exact hj rfl⟩) (fun c j q e => ⟨rfl, upd_ne fun z => by rw [z, hb] at e; cases e⟩)
            (fun c t e => by
              by_cases hc : c = b
              · rw [hc]; exact ⟨_, upd_same⟩
              · obtain ⟨u, hu⟩ := R.wf c t e
                exact ⟨u, by rw [upd_ne hc]; exact hu⟩) new
          rwa [set_same g1] at R'
      | ref l =>
        simp only at e
        cases e2 : s.st[l]? with
        | none => rw [e2] at e; cases e
        | some y =>
          rw [e2] at e
          cases y with
          | d _ => cases e
          | ref _ => cases e
          | own ys =>
            cases e
            obtain ⟨a, t1, t2⟩ := R.sto l _ e2
            cases g2 with
            | ref t3 =>
              rw [t1] at t3
              cases t3
              cases t2 with
              | own h1 h2 h3 =>
                rename_i vs
                refine ⟨a, vs, .cell l, g1, h1, h2, fun _ z => z, h3, fun b vs' o xs' ⟨q, hb⟩ ho new => ?_⟩
                unfold plcSet
                rw [e1]
                have kp : Keeps O H O (upd H b o) := fun c u e1 e2 => ⟨e1, by rw [upd_ne fun z => by rw [z, hb] at e1; cases e1]; exact e2⟩
                exact {
                  len := R.len
                  tl := by rw [List.length_set]; exact R.tl
                  env := fun j x e => by
                    obtain ⟨w, w1, w2⟩ := R.env j x e
                    exact ⟨w, w1, w2.stay kp (.refl _) fun c q e => ⟨rfl, upd_ne fun z => by rw [z, hb] at e; cases e⟩⟩
                  sto := fun j x e => by
                    by_cases hj : j = l
                    · subst hj
                      have hlt : j < s.st.length := (List.getElem?_eq_some_iff.mp e2).1
                      rw [List.getElem?_set_self hlt] at e
                      cases e
                      exact ⟨a, t1, new⟩
                    · rw [List.getElem?_set_ne (Ne.symm hj)] at e
                      obtain ⟨w, w1, w2⟩ := R.sto j x e
                      exact ⟨w, w1, w2.stay kp (.refl _) fun c q e => ⟨rfl, upd_ne fun z => by rw [z, hb] at e; cases e; exact hj rfl⟩⟩
                  wf := fun c t e => by
                    by_cases hc : c = b
                    · rw [hc]; exact ⟨_, upd_same⟩
                    · obtain ⟨u, hu⟩ := R.wf c t e
                      exact ⟨u, by rw [upd_ne hc]; exact hu⟩ }
/-- the place's own list changed -/
theorem Rel.plc1 {i : Nat} {xs : List Vl} (R : Rel K O θ H σ s) (e : plcGet s i = some xs) : ∃ (a : Addr) (vs : List V) (r : Rt), σ[i]? = some (some (.ref a)) ∧ H a = some (.lst vs) ∧ RepA K O θ H r [] 0 vs xs ∧ O a = some (r, []) ∧ vs.length = xs.length ∧
    ∀ vs' xs', (∀ o, RepA K O θ (upd H a o) r [] 0 vs xs → RepA K O θ (upd H a o) r [] 0 vs' xs') → Rel K O θ (upd H a (.lst vs')) σ (plcSet s i xs') ∧ ∀ n, Fr n O H O (upd H a (.lst vs')) := by
  obtain ⟨a, vs, r, g1, h1, h2, hr, h3, f⟩ := R.plc e
  refine ⟨a, vs, r, g1, h1, h3, h2, h3.len, fun vs' xs' h => ⟨f a vs' _ xs' ⟨[], h2⟩ rfl (.own upd_same h2 (h _ (RepA.under (fun q hq z => ?_) (by rw [h2]; exact fun z => nomatch z) h3))), fun n => fr_at h2 (hr n)⟩⟩
  rw [h2] at z
  cases z
  exact hq rfl
theorem RepA.get {r : Rt} {p : List Nat} : ∀ {k : Nat} {vs : List V} {xs : List Vl} {i : Nat} {x : Vl}, RepA K O θ H r p k vs xs → xs[i]? = some x → ∃ v, vs[i]? = some v ∧ Rep K O θ H r ((k + i) :: p) v x
  | _, _, _, _, _, .nil, e => by simp at e
  | k, _, _, 0, _, .cons h _, e => by
    simp at e
    subst e
    exact ⟨_, rfl, h⟩
  | k, _, _, i + 1, x, .cons _ q, e => by
    obtain ⟨v, h1, h2⟩ := RepA.get (i := i) (x := x) q (by simpa using e)
    refine ⟨v, by simpa using h1, ?_⟩
    have e2 : k + (i + 1) = k + 1 + i := by omega
    rw [e2]
    exact h2
theorem RepA.set {r : Rt} {p : List Nat} {w : V} {y : Vl} : ∀ {k : Nat} {vs : List V} {xs : List Vl} {i : Nat}, RepA K O θ H r p k vs xs → Rep K O θ H r ((k + i) :: p) w y → RepA K O θ H r p k (vs.set i w) (xs.set i y)
  | _, _, _, _, .nil, _ => .nil
  | _, _, _, 0, .cons _ q, h => .cons h q
  | k, _, _, i + 1, .cons a q, h => .cons a (RepA.set q (by
    have e2 : k + (i + 1) = k + 1 + i := by omega
    rw [← e2]
    exact h))
theorem RepA.app {r : Rt} {p : List Nat} : ∀ {k : Nat} {vs : List V} {xs : List Vl} {ws : List V} {ys : List Vl}, RepA K O θ H r p k vs xs → RepA K O θ H r p (k + vs.length) ws ys → RepA K O θ H r p k (vs ++ ws) (xs ++ ys)
  | _, _, _, _, _, .nil, h => h
  | k, v :: vs, _, _, _, .cons a q, h => .cons a (RepA.app q (by
    have e2 : k + (v :: vs).length = k + 1 + vs.length := by rw [List.length_cons]; omega
    rw [← e2]
    exact h))

/-! ### reading a place -/
def isSet (s : S) (i : Nat) : Bool := match s.ρ[i]? with
  | some (some _) => true
  | _ => false
def cRd (i : Nat) (fx : F) : F := fun s => if isSet s i = true then (fx s).bind fun y s1 => match cold y with
  | some (.int j) => match plcGet s1 i with
    | some xs => match atI xs j with
      | some (.d z) => .ok (.d z) s1
      | _ => .err
    | none => match s1.ρ[i]? with
      | some (some (.d a)) => R.of (ixD a (.int j)) s1
      | _ => .err
  | _ => .err
  else .err
theorem isSet_at {i : Nat} (R : Rel K O θ H σ s) (h : isSet s i = true) : ∃ v, σ[i]? = some (some v) := by
  unfold isSet at h
  cases e : s.ρ[i]? with
  | none => rw [e] at h; cases h
  | some o =>
    cases o with
    | none => rw [e] at h; cases h
    | some x =>
      obtain ⟨v, h1, _⟩ := R.env i x e
      exact ⟨v, h1⟩
theorem atI_of {α β : Type} {xs : List α} {ys : List β} {i : Int} (hl : xs.length = ys.length) : ∀ {y : β}, L2.atI ys i = some y → ∃ j, ys[j]? = some y ∧ L2.atI xs i = xs[j]? ∧ ixN xs.length i = some j := fun {y} h => by
  unfold L2.atI at h
  cases e : ixN ys.length i with
  | none => rw [e] at h; cases h
  | some j =>
    rw [e] at h
    refine ⟨j, h, ?_, by rw [hl]; exact e⟩
    unfold L2.atI
    rw [hl, e]
    rfl
theorem wp_rd {X : Cx} {a b : Expr} {pos : Pos} {i : Nat} {fx : F} (ha : PE X a (tVar i)) (hb : PE X b (Wp X.K XR W fx)) (hs : PlainIx b) : PE X (.Subscript a b pos) (Wp X.K XR W (cRd i fx)) := by
  have hr : IxR X (fun x y H Q => rIxL X.K x y H Q ∨ rG X.K ixD x y H Q) := ix_list.or ix_sub
  refine pe_imp (pe_ix hr ha hb hs) fun σ H Q ⟨s, O, θ, n, hR, q⟩ => ?_
  unfold cRd at q
  split at q
  · rename_i hi
    obtain ⟨v, hv⟩ := isSet_at hR hi
    refine ⟨v, hv, s, O, θ, n, hR, afg_bind (Nat.le_refl _) q fun y s1 h1 w O1 θ1 H1 f1 e1 R1 P1 => ?_⟩
    cases ey : Ev.cold y with
    | none => rw [ey] at h1; exact h1.elim
    | some yd =>
      rw [ey] at h1
      cases yd with
      | int j =>
        simp only at h1
        have fc : Fr n O1 H1 (coldFrom n O1) H1 := fr_coldFrom
        have R2 := R1.coldFrom n
        have cj : Cold X.K (coldFrom n O1) H1 w (.int j) := P1.coldFrom (Nat.le_refl _) ey
        cases ep : plcGet s1 i with
        | some xs =>
          rw [ep] at h1
          simp only at h1
          obtain ⟨p, vs, r, g1, g2, g3, g4, gl, _⟩ := R2.plc1 ep
          rw [hv] at g1
          cases g1
          cases ea : L2.atI xs j with
          | none => rw [ea] at h1; exact h1.elim
          | some x =>
            rw [ea] at h1
            cases x with
            | d z =>
              obtain ⟨k, k1, k2, _⟩ := atI_of gl ea
              obtain ⟨u, u1, u2⟩ := g3.get k1
              cases cj
              cases u2 with
              | d c =>
                have h1 : AfG X.K XR W O θ n σ H (R.ok (Vl.d z) s1) (fun x s' => ∀ v O' θ' H', Fr n O H O' H' → Ext θ θ' → Rel X.K O' θ' H' σ s' → Rep X.K O' θ' H' (.tmp n) [] v x → Q v H') := h1
                exact .inl ⟨p, vs, j, u, rfl, rfl, .inl (.inl g2), k2.trans u1, h1 u _ θ1 H1 (f1.trans fc (Nat.le_refl _)) e1 R2 (.d c)⟩
            | own _ => exact h1.elim
            | ref _ => exact h1.elim
        | none =>
          rw [ep] at h1
          simp only at h1
          cases eo : s1.ρ[i]? with
          | none => rw [eo] at h1; exact h1.elim
          | some o =>
            rw [eo] at h1
            cases o with
            | none => exact h1.elim
            | some x =>
              cases x with
              | d a =>
                simp only at h1
                obtain ⟨v', g1, g2⟩ := R2.env i _ eo
                rw [hv] at g1
                cases g1
                cases g2 with
                | d c =>
                  cases ez : ixD a (.int j) with
                  | none => rw [ez] at h1; exact h1.elim
                  | some z =>
                    rw [ez] at h1
                    exact .inr ⟨n, coldFrom n O1, θ1, σ, s1, a, .int j, z, R2, c, cj, ez, fun u O' H' f3 R3 P3 => h1 u O' θ1 H' ((f1.trans fc (Nat.le_refl _)).trans f3 (Nat.le_refl _)) e1 R3 P3⟩
              | own _ => exact h1.elim
              | ref _ => exact h1.elim
      | _ => exact h1.elim
  · exact q.elim
/-- len of a place -/
def cLen (i : Nat) : F := fun s => match plcGet s i with
  | some xs => .ok (.d (.int xs.length)) s
  | none => match s.ρ[i]? with
    | some (some (.d a)) => R.of (lenD [a]) s
    | _ => .err
def rLenP (K : PySem.W.Frag) : List V → Hp → VK → Prop := fun xs H Q => (∃ x n, xs = [x] ∧ LenV K x H n ∧ Q (.int n) H) ∨ rGA K lenD xs H Q
theorem g_lenP {X : Cx} : CallR X (.builtin "len") (rLenP X.K) := by
  intro pins s σ H xs us Q I r h
  rcases h with h | h
  · exact call_len pins s σ H xs us Q I r h
  · exact g_len pins s σ H xs us Q I r h
theorem wp_len {X : Cx} {e : Expr} {i : Nat} (h : PE X e (tCB (rLenP X.K) (tCons (tVar i) tNil))) : PE X e (Wp X.K XR W (cLen i)) := pe_imp h fun σ H Q ⟨s, O, θ, n, R, q⟩ => by
  unfold cLen at q
  cases ep : plcGet s i with
  | some xs =>
    rw [ep] at q
    obtain ⟨p, vs, r, g1, g2, g3, g4, gl, _⟩ := R.plc1 ep
    refine ⟨_, g1, .inl ⟨_, xs.length, rfl, .inl ⟨vs, .inl (.inl g2), gl.symm⟩, ?_⟩⟩
    exact q (.int _) O θ H Fr.refl (.refl _) R (.d (.int _))
  | none =>
    rw [ep] at q
    simp only at q
    cases eo : s.ρ[i]? with
    | none => rw [eo] at q; exact q.elim
    | some o =>
      rw [eo] at q
      cases o with
      | none => exact q.elim
      | some x =>
        cases x with
        | d a =>
          simp only at q
          obtain ⟨v', g1, g2⟩ := R.env i _ eo
          cases g2 with
          | d c =>
            cases ez : lenD [a] with
            | none => rw [ez] at q; exact q.elim
            | some z =>
              rw [ez] at q
              exact ⟨_, g1, .inr ⟨n, O, θ, σ, s, [a], z, R, .cons c .nil, ez, fun u O' H' f3 R3 P3 => q u O' θ H' f3 (.refl _) R3 P3⟩⟩
        | own _ => exact q.elim
        | ref _ => exact q.elim
end
end Ev

/-! Part 9: statements. -/
namespace Ev
open PySem PySem.Spec PyProof.Rows L2

inductive Fl where
  | nx | ret (x : Vl) | brk | cnt

def AfS (K : PySem.W.Frag) (X : XRt) (W : WX) (O : Ow) (θ : List Addr) (H : Hp) (r : R Fl) (D : Ends) : Prop :=
  match r with
  | .err => False
  | .ok .nx s' => ∀ O' θ' σ' H', Fr 0 O H O' H' → Ext θ θ' → Rel K O' θ' H' σ' s' → D.nx σ' H'
  | .ok (.ret x) s' => ∀ v O' θ' σ' H', Fr 0 O H O' H' → Ext θ θ' → Rel K O' θ' H' σ' s' → Rep K O' θ' H' (.tmp 0) [] v x → D.rt v H'
  | .ok .brk s' => ∀ O' θ' σ' H', Fr 0 O H O' H' → Ext θ θ' → Rel K O' θ' H' σ' s' → D.bk σ' H'
  | .ok .cnt s' => ∀ O' θ' σ' H', Fr 0 O H O' H' → Ext θ θ' → Rel K O' θ' H' σ' s' → D.ct σ' H'
  | .exc x s' => ∀ cls d O' θ' σ' H', Fr 0 O H O' H' → Ext θ θ' → Rel K O' θ' H' σ' s' → X x cls d O' H' → W cls d σ' H'
abbrev FS := S → R Fl
def WpS (K : PySem.W.Frag) (X : XRt) (W : WX) (f : FS) : TS := fun D σ H => ∃ (s : S) (O : Ow) (θ : List Addr), Rel K O θ H σ s ∧ AfS K X W O θ H (f s) D

section
variable {K : PySem.W.Frag} {XR : XRt} {W : WX} {O O' O1 : Ow} {H H' H1 : Hp} {θ θ' θ1 : List Addr} {σ : L2.St} {s s1 : S} {D : Ends}
theorem afs_move {r : R Fl} (h : AfS K XR W O θ H r D) (f : Fr 0 O H O1 H1) (e : Ext θ θ1) : AfS K XR W O1 θ1 H1 r D := by
  cases r with
  | err => exact h
  | exc x s' => exact fun cls d O' θ' σ' H' f2 e2 R q => h cls d O' θ' σ' H' (f.trans f2 (Nat.le_refl _)) (e.trans e2) R q
  | ok a s1 =>
    cases a with
    | nx => exact fun O' θ' σ' H' f2 e2 R => h O' θ' σ' H' (f.trans f2 (Nat.le_refl _)) (e.trans e2) R
    | ret x => exact fun v O' θ' σ' H' f2 e2 R P => h v O' θ' σ' H' (f.trans f2 (Nat.le_refl _)) (e.trans e2) R P
    | brk => exact fun O' θ' σ' H' f2 e2 R => h O' θ' σ' H' (f.trans f2 (Nat.le_refl _)) (e.trans e2) R
    | cnt => exact fun O' θ' σ' H' f2 e2 R => h O' θ' σ' H' (f.trans f2 (Nat.le_refl _)) (e.trans e2) R
theorem afs_bind {α : Type} {r : R α} {g : α → S → R Fl} {P' : α → S → Prop} (h : AfS K XR W O θ H (r.bind g) D) (next : ∀ a s1, AfS K XR W O θ H (g a s1) D → P' a s1) : AfG K XR W O θ 0 σ H r P' := by
  cases r with
  | err => exact h
  | exc x s' => exact fun cls d O' θ' H' f e R q => h cls d O' θ' σ H' f e R q
  | ok a s1 => exact next a s1 h

/-! blocks -/
def sNil : FS := fun s => .ok .nx s
def sSeq (f g : FS) : FS := fun s => match f s with
  | .ok .nx s1 => g s1
  | r => r
theorem ws_nil {X : Cx} : PSs X [] (WpS X.K XR W sNil) := pss_imp pss_nil fun D σ H ⟨s, O, θ, R, q⟩ => q O θ σ H Fr.refl (.refl _) R
theorem ws_cons {X : Cx} {st : Stmt} {rest : List Stmt} {f g : FS} (h1 : PS X st (WpS X.K XR W f)) (h2 : PSs X rest (WpS X.K XR W g)) : PSs X (st :: rest) (WpS X.K XR W (sSeq f g)) :=
  pss_imp (pss_cons h1 h2) fun D σ H ⟨s, O, θ, R, q⟩ => by
  refine ⟨s, O, θ, R, ?_⟩
  unfold sSeq at q
  cases e : f s with
  | err => rw [e] at q; exact q
  | exc x s' => rw [e] at q; exact q
  | ok a s1 =>
    rw [e] at q
    cases a with
    | nx => exact fun O' θ' σ' H' f e R' => ⟨s1, O', θ', R', afs_move q f e⟩
    | ret x => exact q
    | brk => exact q
    | cnt => exact q
def sPass : FS := fun s => .ok .nx s
def sBrk : FS := fun s => .ok .brk s
def sCnt : FS := fun s => .ok .cnt s
theorem ws_skip {X : Cx} {st : Stmt} (h : PS X st tNext) : PS X st (WpS X.K XR W sPass) := ps_imp h fun D σ H ⟨s, O, θ, R, q⟩ => q O θ σ H Fr.refl (.refl _) R
theorem ws_brk {X : Cx} {st : Stmt} (h : PS X st tBreak) : PS X st (WpS X.K XR W sBrk) := ps_imp h fun D σ H ⟨s, O, θ, R, q⟩ => q O θ σ H Fr.refl (.refl _) R
theorem ws_cnt {X : Cx} {st : Stmt} (h : PS X st tCont) : PS X st (WpS X.K XR W sCnt) := ps_imp h fun D σ H ⟨s, O, θ, R, q⟩ => q O θ σ H Fr.refl (.refl _) R

/-! assignments -/
/-- over to a slot -/
def toSlot (n i : Nat) (O : Ow) : Ow := fun a => match O a with
  | some (.tmp m, q) => if m = n then some (.slot i, q) else some (.tmp m, q)
  | some (.slot j, q) => if j = i then none else some (.slot j, q)
  | t => t
theorem toSlot_tmp {n i : Nat} {a : Addr} {q : List Nat} (e : O a = some (.tmp n, q)) : toSlot n i O a = some (.slot i, q) := by
  unfold toSlot
  rw [e]
  exact if_pos rfl
theorem toSlot_ne {n i : Nat} {a : Addr} {r : Rt} {q : List Nat} (e : O a = some (r, q)) (h1 : r ≠ .tmp n) (h2 : r ≠ .slot i) : toSlot n i O a = O a := by
  unfold toSlot
  rw [e]
  cases r with
  | tmp m => exact if_neg fun z => h1 (by rw [z])
  | slot j => exact if_neg fun z => h2 (by rw [z])
  | cell j => rfl
  | out j => rfl
theorem toSlot_none {n i : Nat} {a : Addr} (e : O a = none) : toSlot n i O a = none := by
  unfold toSlot
  rw [e]
theorem toSlot_some {n i : Nat} {a : Addr} {t : Rt × List Nat} (e : toSlot n i O a = some t) : ∃ u, O a = some u := by
  cases h : O a with
  | none => rw [toSlot_none h] at e; cases e
  | some u => exact ⟨u, rfl⟩
theorem Rel.storeAt {m i : Nat} {v : V} {x : Vl} (R : Rel K O θ H σ s) (P : Rep K O θ H (.tmp m) [] v x) : Rel K (toSlot m i O) θ H (σ.set i (some v)) ⟨s.ρ.set i (some x), s.st⟩ ∧ Fr 0 O H (toSlot m i O) H := by
  have kp : Keeps O H (toSlot m i O) H := fun a o e1 e2 => ⟨toSlot_none e1, e2⟩
  refine ⟨R.slot kp (.refl _) (fun a j q e hj => ⟨toSlot_ne e (by intro z; cases z) (by intro z; cases z; exact hj rfl), rfl⟩) (fun a j q e => ⟨toSlot_ne e (by intro z; cases z) (by intro z; cases z), rfl⟩) (fun a t e => ?_) ?_, ⟨fun a r q e k => ⟨toSlot_ne e (by rintro rfl; exact Nat.not_lt_zero _ k) (by rintro rfl; exact k), rfl⟩, kp⟩⟩
  · obtain ⟨u, hu⟩ := toSlot_some e
    exact R.wf a u hu
  · exact Rep.move (g := id) kp (.refl _) (fun _ _ => rfl) (fun a q vs e1 e2 => ⟨toSlot_tmp e1, e2⟩) P
theorem Rel.store {i : Nat} {v : V} {x : Vl} (R : Rel K O θ H σ s) (P : Rep K O θ H (.tmp 0) [] v x) : Rel K (toSlot 0 i O) θ H (σ.set i (some v)) ⟨s.ρ.set i (some x), s.st⟩ ∧ Fr 0 O H (toSlot 0 i O) H := R.storeAt P
/-- what waits at another root is left alone -/
theorem Rep.waits {m m' i : Nat} {v : V} {x : Vl} (P : Rep K O θ H (.tmp m') [] v x) (h : m' ≠ m) : Rep K (toSlot m i O) θ H (.tmp m') [] v x :=
  P.stay (fun a o e1 e2 => ⟨toSlot_none e1, e2⟩) (.refl _) fun a q e => ⟨toSlot_ne e (by intro z; cases z; exact h rfl) (by intro z; cases z), rfl⟩
def sAsg (i : Nat) (f : F) : FS := fun s => (f s).bind fun x s1 => .ok .nx ⟨s1.ρ.set i (some x), s1.st⟩
theorem ws_asg {X : Cx} {st : Stmt} {i : Nat} {f : F} {t : TE} (h : PS X st (tAsg t (gName i))) (it : ∀ σ H Q, Wp X.K XR W f σ H Q → t σ H Q) : PS X st (WpS X.K XR W (sAsg i f)) :=
  ps_imp h fun D σ H ⟨s, O, θ, R, q⟩ => it _ _ _ ⟨s, O, θ, 0, R, afs_bind q fun x s1 h1 v O1 θ1 H1 f1 e1 R1 P1 => by
  obtain ⟨R2, f2⟩ := R1.store (i := i) P1
  exact h1 _ θ1 _ H1 (f1.trans f2 (Nat.le_refl _)) e1 R2⟩
/-- into a pattern -/
def sAsgT (t : Tg) (f : F) : FS := fun s => (f s).bind fun x s1 => match cold x with
  | some y => match t.set y s1 with
    | some s2 => .ok .nx s2
    | none => .err
  | none => .err
theorem ws_asgT {X : Cx} {st : Stmt} {t : Tg} {f : F} (h : PS X st (tAsg (Wp X.K XR W f) (WpG X.K t))) : PS X st (WpS X.K XR W (sAsgT t f)) :=
  ps_imp h fun D σ H ⟨s, O, θ, R, q⟩ => ⟨s, O, θ, 0, R, afs_bind q fun x s1 h1 v O1 θ1 H1 f1 e1 R1 P1 => by
  cases ex : Ev.cold x with
  | none => rw [ex] at h1; exact h1.elim
  | some y =>
    rw [ex] at h1
    simp only at h1
    cases et : t.set y s1 with
    | none => rw [et] at h1; exact h1.elim
    | some s2 =>
      rw [et] at h1
      exact ⟨s1, s2, coldFrom 0 O1, θ1, y, R1.coldFrom 0, P1.coldFrom (Nat.le_refl _) ex, et, fun σ' _ R2 => h1 _ θ1 _ H1 (f1.trans fr_coldFrom (Nat.le_refl _)) e1 R2⟩⟩
/-- two names from a written pair -/
def sPar (i j : Nat) (fa fb : F) : FS := fun s => (fa s).bind fun x s1 => (fb s1).bind fun y s2 => .ok .nx ⟨(s2.ρ.set i (some x)).set j (some y), s2.st⟩
/-- a list that is shared from now on -/
def sShare (i : Nat) (f : F) : FS := fun s => (f s).bind fun x s1 => match x with
  | .own xs => if i < s1.ρ.length then .ok .nx ⟨s1.ρ.set i (some (.ref s1.st.length)), s1.st ++ [.own xs]⟩ else .err
  | _ => .err
def toCell (n l : Nat) (O : Ow) : Ow := fun a => match O a with
  | some (.tmp m, q) => if m = n then some (.cell l, q) else some (.tmp m, q)
  | some (.cell j, q) => if j = l then none else some (.cell j, q)
  | t => t
theorem toCell_tmp {n i : Nat} {a : Addr} {q : List Nat} (e : O a = some (.tmp n, q)) : toCell n i O a = some (.cell i, q) := by
  unfold toCell
  rw [e]
  exact if_pos rfl
theorem toCell_ne {n i : Nat} {a : Addr} {r : Rt} {q : List Nat} (e : O a = some (r, q)) (h1 : r ≠ .tmp n) (h2 : r ≠ .cell i) : toCell n i O a = O a := by
  unfold toCell
  rw [e]
  cases r with
  | tmp m => exact if_neg fun z => h1 (by rw [z])
  | cell j => exact if_neg fun z => h2 (by rw [z])
  | slot j => rfl
  | out j => rfl
theorem toCell_none {n i : Nat} {a : Addr} (e : O a = none) : toCell n i O a = none := by
  unfold toCell
  rw [e]
theorem toCell_some {n i : Nat} {a : Addr} {t : Rt × List Nat} (e : toCell n i O a = some t) : ∃ u, O a = some u := by
  cases h : O a with
  | none => rw [toCell_none h] at e; cases e
  | some u => exact ⟨u, rfl⟩
theorem Rel.share {a : Addr} {xs : List Vl} {i : Nat} (hi : i < s.ρ.length) (R : Rel K O θ H σ s) (P : Rep K O θ H (.tmp 0) [] (.ref a) (.own xs)) :
    Rel K (toCell 0 s.st.length O) (θ ++ [a]) H (σ.set i (some (.ref a))) ⟨s.ρ.set i (some (.ref s.st.length)), s.st ++ [.own xs]⟩ ∧ Fr 0 O H (toCell 0 s.st.length O) H := by
  have kp : Keeps O H (toCell 0 s.st.length O) H := fun a o e1 e2 => ⟨toCell_none e1, e2⟩
  have ex : Ext θ (θ ++ [a]) := Ext.app θ [a]
  have hθa : (θ ++ [a])[s.st.length]? = some a := by rw [← R.tl]; simp
  refine ⟨{ len := by rw [List.length_set, List.length_set]; exact R.len, tl := by rw [List.length_append, List.length_append, R.tl]; rfl, env := fun j y e => ?_, sto := fun j y e => ?_, wf := fun b t e => ?_ }, ⟨fun b r q e k => ⟨toCell_ne e (by rintro rfl; exact Nat.lt_irrefl 0 k) (by rintro rfl; exact k), rfl⟩, kp⟩⟩
  · by_cases hj : j = i
    · subst hj
      rw [List.getElem?_set_self hi] at e
      cases e
      exact ⟨.ref a, by rw [List.getElem?_set_self (by rw [R.len]; exact hi)], .ref hθa⟩
    · rw [List.getElem?_set_ne (Ne.symm hj)] at e
      obtain ⟨w, w1, w2⟩ := R.env j y e
      exact ⟨w, by rw [List.getElem?_set_ne (Ne.symm hj)]; exact w1, w2.stay kp ex fun c q e => ⟨toCell_ne e (by intro z; cases z) (by intro z; cases z), rfl⟩⟩
  · by_cases hj : j < s.st.length
    · rw [List.getElem?_append_left hj] at e
      obtain ⟨w, w1, w2⟩ := R.sto j y e
      exact ⟨w, ex _ _ w1, w2.stay kp ex fun c q e => ⟨toCell_ne e (by intro z; cases z) (by intro z; cases z; exact Nat.lt_irrefl _ hj), rfl⟩⟩
    · have hj' : j = s.st.length := by
        have := (List.getElem?_eq_some_iff.mp e).1
        rw [List.length_append, List.length_singleton] at this
        omega
      subst hj'
      simp at e
      subst e
      exact ⟨a, hθa, Rep.move (g := id) kp ex (fun _ _ => rfl) (fun b q vs e1 e2 => ⟨toCell_tmp e1, e2⟩) P⟩
  · obtain ⟨u, hu⟩ := toCell_some e
    exact R.wf b u hu

/-! what is handed back -/
def sRet (f : F) : FS := fun s => (f s).bind fun x s1 => .ok (.ret x) s1
theorem ws_ret {X : Cx} {st : Stmt} {f : F} (h : PS X st (tRet (Wp X.K XR W f))) : PS X st (WpS X.K XR W (sRet f)) :=
  ps_imp h fun D σ H ⟨s, O, θ, R, q⟩ => ⟨s, O, θ, 0, R, afs_bind q fun x s1 h1 v O1 θ1 H1 f1 e1 R1 P1 => h1 v O1 θ1 σ H1 f1 e1 R1 P1⟩
/-- a slot's own list leaves with the def -/
def sRetV (i : Nat) : FS := fun s => match s.ρ[i]? with
  | some (some x) => .ok (.ret x) ⟨s.ρ.set i none, s.st⟩
  | _ => .err
def slotTmp (i : Nat) (O : Ow) : Ow := fun a => match O a with
  | some (.slot j, q) => if j = i then some (.tmp 0, q) else some (.slot j, q)
  | some (.tmp _, _) => none
  | t => t
theorem slotTmp_at {i : Nat} {a : Addr} {q : List Nat} (e : O a = some (.slot i, q)) : slotTmp i O a = some (.tmp 0, q) := by
  unfold slotTmp
  rw [e]
  exact if_pos rfl
theorem slotTmp_slot {i j : Nat} {a : Addr} {q : List Nat} (e : O a = some (.slot j, q)) (h : j ≠ i) : slotTmp i O a = O a := by
  unfold slotTmp
  rw [e]
  exact if_neg h
theorem slotTmp_cell {i j : Nat} {a : Addr} {q : List Nat} (e : O a = some (.cell j, q)) : slotTmp i O a = O a := by
  unfold slotTmp
  rw [e]
theorem slotTmp_out {i j : Nat} {a : Addr} {q : List Nat} (e : O a = some (.out j, q)) : slotTmp i O a = O a := by
  unfold slotTmp
  rw [e]
theorem slotTmp_none {i : Nat} {a : Addr} (e : O a = none) : slotTmp i O a = none := by
  unfold slotTmp
  rw [e]
theorem slotTmp_some {i : Nat} {a : Addr} {t : Rt × List Nat} (e : slotTmp i O a = some t) : ∃ u, O a = some u := by
  cases h : O a with
  | none => rw [slotTmp_none h] at e; cases e
  | some u => exact ⟨u, rfl⟩
theorem ws_retv {X : Cx} {st : Stmt} {i : Nat} (h : PS X st (tRet (tVar i))) : PS X st (WpS X.K XR W (sRetV i)) := ps_imp h fun D σ H ⟨s, O, θ, R, q⟩ => by
  unfold sRetV at q
  cases e : s.ρ[i]? with
  | none => rw [e] at q; exact q.elim
  | some o =>
    cases o with
    | none => rw [e] at q; exact q.elim
    | some x =>
      rw [e] at q
      obtain ⟨v, h1, h2⟩ := R.env i x e
      have kp : Keeps O H (slotTmp i O) H := fun a o e1 e2 => ⟨slotTmp_none e1, e2⟩
      have hi : i < s.ρ.length := (List.getElem?_eq_some_iff.mp e).1
      refine ⟨v, h1, q v (slotTmp i O) θ (σ.set i none) H ⟨fun a r p e k => ⟨?_, rfl⟩, kp⟩ (.refl _) { len := ?_, tl := R.tl, env := fun j y e => ?_, sto := fun j y e => ?_, wf := fun a t e => ?_ } ?_⟩
      · cases r with
        | tmp m => exact absurd k (Nat.not_lt_zero m)
        | slot j => exact False.elim k
        | cell j => exact False.elim k
        | out j => exact slotTmp_out e
      · rw [List.length_set, List.length_set]
        exact R.len
      · by_cases hj : j = i
        · subst hj
          rw [List.getElem?_set_self hi] at e
          cases e
        · rw [List.getElem?_set_ne (Ne.symm hj)] at e
          obtain ⟨w, w1, w2⟩ := R.env j y e
          exact ⟨w, by rw [List.getElem?_set_ne (Ne.symm hj)]; exact w1, w2.stay kp (.refl _) fun c q e => ⟨slotTmp_slot e hj, rfl⟩⟩
      · obtain ⟨w, w1, w2⟩ := R.sto j y e
        exact ⟨w, w1, w2.stay kp (.refl _) fun c q e => ⟨slotTmp_cell e, rfl⟩⟩
      · obtain ⟨u, hu⟩ := slotTmp_some e
        exact R.wf a u hu
      · exact Rep.move (g := id) kp (.refl _) (fun _ _ => rfl) (fun b q vs e1 e2 => ⟨slotTmp_at e1, e2⟩) h2
def sRetN : FS := fun s => .ok (.ret (.d .none)) s
theorem ws_retN {X : Cx} {st : Stmt} (h : PS X st tRetN) : PS X st (WpS X.K XR W sRetN) := ps_imp h fun D σ H ⟨s, O, θ, R, q⟩ => q .non O θ σ H Fr.refl (.refl _) R (.d .non)

/-! if, while, for -/
def sIf (c : S → R Bool) (f g : FS) : FS := fun s => (c s).bind fun b s1 => if b = true then f s1 else g s1
theorem ws_if {X : Cx} {c : Expr} {a b : List Stmt} {pos : Pos} {fc : S → R Bool} {f g : FS} (hc : PT X c (WpT X.K XR W fc)) (ha : PSs X a (WpS X.K XR W f)) (hb : PSs X b (WpS X.K XR W g)) : PS X (.If c a b pos) (WpS X.K XR W (sIf fc f g)) :=
  ps_imp (ps_if hc ha hb) fun D σ H ⟨s, O, θ, R, q⟩ => ⟨s, O, θ, 0, R, afs_bind q fun k s1 h1 O1 θ1 H1 f1 e1 R1 => by
  cases k with
  | true => exact L2.iteT ⟨s1, O1, θ1, R1, afs_move h1 f1 e1⟩
  | false => exact L2.iteF ⟨s1, O1, θ1, R1, afs_move h1 f1 e1⟩⟩
def sDrop (f : F) : FS := fun s => (f s).bind fun _ s1 => .ok .nx s1
theorem ws_drop {X : Cx} {st : Stmt} {f : F} (h : PS X st (tDrop (Wp X.K XR W f))) : PS X st (WpS X.K XR W (sDrop f)) :=
  ps_imp h fun D σ H ⟨s, O, θ, R, q⟩ => ⟨s, O, θ, 0, R, afs_bind q fun x s1 h1 v O1 θ1 H1 f1 e1 R1 P1 => h1 O1 θ1 σ H1 f1 e1 R1⟩
def forLoop (t : Tg) (f : FS) : List PyData → FS
  | [], s => .ok .nx s
  | x :: r, s => match t.set x s with
    | none => .err
    | some s1 => match f s1 with
      | .ok .nx s2 => forLoop t f r s2
      | .ok .cnt s2 => forLoop t f r s2
      | .ok .brk s2 => .ok .nx s2
      | r => r
def sFor (t : Tg) (fi : FI) (f : FS) : FS := fun s => (fi s).bind fun xs s1 => forLoop t f xs s1
theorem ws_for {X : Cx} {st : Stmt} {t : Tg} {fi : FI} {f : FS} (h : PS X st (tFor (WpI X.K XR W fi) (WpG X.K t) (WpS X.K XR W f))) : PS X st (WpS X.K XR W (sFor t fi f)) :=
  ps_imp h fun D σ H ⟨s, O, θ, R, q⟩ => ⟨s, O, θ, 0, R, afs_bind q fun xs s1 h1 J O1 θ1 H1 f1 e1 R1 j1 => by
  refine ⟨fun i m σ' H' => ∃ (s' : S) (O' : Ow) (θ' : List Addr), m = xs.length - i ∧ i ≤ xs.length ∧ Rel X.K O' θ' H' σ' s' ∧ Keeps O1 H1 O' H' ∧ AfS X.K XR W O' θ' H' (forLoop t f (xs.drop i) s') D,
    ⟨xs.length, s1, O1, θ1, by simp, Nat.zero_le _, R1, fun _ _ a b => ⟨a, b⟩, afs_move h1 f1 e1⟩, ?_⟩
  rintro i m σ' H' ⟨s', O', θ', rfl, hi, R', kp, lp⟩
  obtain ⟨st, go⟩ := j1 O' H' kp i
  by_cases hlt : i < xs.length
  · obtain ⟨x, hx⟩ : ∃ x, xs[i]? = some x := ⟨_, List.getElem?_eq_getElem hlt⟩
    obtain ⟨g1, yl⟩ := go x hx
    have hd : xs.drop i = x :: xs.drop (i + 1) := by
      obtain ⟨h1, h2⟩ := List.getElem?_eq_some_iff.mp hx
      rw [← h2]
      exact List.drop_eq_getElem_cons h1
    rw [hd, forLoop] at lp
    refine .inr ⟨g1, fun σ'' H'' => ∃ (s' : S) (O' : Ow) (θ' : List Addr), Rel X.K O' θ' H'' σ'' s' ∧ Keeps O1 H1 O' H'' ∧ AfS X.K XR W O' θ' H'' (forLoop t f (xs.drop (i + 1)) s') D,
      fun σ'' H'' ⟨s', O', θ', a, b, c⟩ => ⟨xs.length - (i + 1), by omega, s', O', θ', rfl, hlt, a, b, c⟩, fun v H2 y => ?_⟩
    obtain ⟨gr, cx⟩ := yl v H2 y
    cases et : t.set x s' with
    | none => rw [et] at lp; exact lp.elim
    | some s2 =>
      rw [et] at lp
      simp only at lp
      have R3 := R'.grow gr
      have frg : Fr 0 O' H' O' H2 := R'.frGrow gr
      refine ⟨s', s2, O', θ', x, R3, cx R'.wf, et, fun σ2 _ R4 => ⟨s2, O', θ', R4, ?_⟩⟩
      have kp2 : Keeps O1 H1 O' H2 := fun a o e1 e2 => by
        obtain ⟨q1, q2⟩ := kp a o e1 e2
        exact frg.keeps a o q1 q2
      have nxt : ∀ s3, AfS X.K XR W O' θ' H' (forLoop t f (xs.drop (i + 1)) s3) D → ∀ O4 θ4 σ4 H4, Fr 0 O' H2 O4 H4 → Ext θ' θ4 → Rel X.K O4 θ4 H4 σ4 s3 →
          ∃ (s' : S) (O' : Ow) (θ' : List Addr), Rel X.K O' θ' H4 σ4 s' ∧ Keeps O1 H1 O' H4 ∧ AfS X.K XR W O' θ' H4 (forLoop t f (xs.drop (i + 1)) s') D :=
        fun s3 l O4 θ4 σ4 H4 f4 e4 R5 => ⟨s3, O4, θ4, R5, fun a o e1 e2 => by
          obtain ⟨q1, q2⟩ := kp2 a o e1 e2
          exact f4.keeps a o q1 q2, afs_move l (frg.trans f4 (Nat.le_refl _)) e4⟩
      cases ef : f s2 with
      | err => rw [ef] at lp; exact lp.elim
      | exc z s3 => rw [ef] at lp; exact fun cls d O4 θ4 σ4 H4 f4 e4 R5 q => lp cls d O4 θ4 σ4 H4 (frg.trans f4 (Nat.le_refl _)) e4 R5 q
      | ok a s3 =>
        rw [ef] at lp
        cases a with
        | nx => exact nxt s3 lp
        | cnt => exact nxt s3 lp
        | brk => exact fun O4 θ4 σ4 H4 f4 e4 R5 => lp O4 θ4 σ4 H4 (frg.trans f4 (Nat.le_refl _)) e4 R5
        | ret z => exact fun w O4 θ4 σ4 H4 f4 e4 R5 P => lp w O4 θ4 σ4 H4 (frg.trans f4 (Nat.le_refl _)) e4 R5 P
  · have hi' : i = xs.length := by omega
    subst hi'
    rw [List.drop_length, forLoop] at lp
    exact .inl ⟨st (Nat.le_refl _), lp O' θ' σ' H' Fr.refl (.refl _) R'⟩⟩
/-- so many turns at the most -/
def whLoop (c : S → R Bool) (f : FS) : Nat → FS
  | 0, _ => .err
  | k + 1, s => (c s).bind fun b s1 => if b = true then
      match f s1 with
      | .ok .nx s2 => whLoop c f k s2
      | .ok .cnt s2 => whLoop c f k s2
      | .ok .brk s2 => .ok .nx s2
      | r => r
    else .ok .nx s1
theorem ws_while {X : Cx} {st : Stmt} {c : S → R Bool} {f : FS} {k : Nat} (h : PS X st (tWhile (WpT X.K XR W c) (WpS X.K XR W f))) : PS X st (WpS X.K XR W (whLoop c f k)) :=
  ps_imp h fun D σ H ⟨s, O, θ, R, q⟩ => by
  refine ⟨fun m σ' H' => ∃ (s' : S) (O' : Ow) (θ' : List Addr), Rel X.K O' θ' H' σ' s' ∧ AfS X.K XR W O' θ' H' (whLoop c f m s') D, ⟨k, s, O, θ, R, q⟩, ?_⟩
  rintro m σ' H' ⟨s', O', θ', R', lp⟩
  cases m with
  | zero => exact lp.elim
  | succ m =>
    rw [whLoop] at lp
    refine ⟨s', O', θ', 0, R', afs_bind lp fun b s1 h1 O1 θ1 H1 f1 e1 R1 => ?_⟩
    cases b with
    | false => exact L2.iteF (h1 O1 θ1 σ' H1 f1 e1 R1)
    | true =>
      refine L2.iteT ⟨fun σ'' H'' => ∃ (s' : S) (O' : Ow) (θ' : List Addr), Rel X.K O' θ' H'' σ'' s' ∧ AfS X.K XR W O' θ' H'' (whLoop c f m s') D, fun σ'' H'' w => ⟨m, Nat.lt_succ_self m, w⟩, s1, O1, θ1, R1, ?_⟩
      have h1 : AfS X.K XR W O' θ' H' (match f s1 with
        | .ok .nx s2 => whLoop c f m s2
        | .ok .cnt s2 => whLoop c f m s2
        | .ok .brk s2 => .ok .nx s2
        | r => r) D := h1
      have h2 := afs_move h1 f1 e1
      have nxt : ∀ s3, AfS X.K XR W O1 θ1 H1 (whLoop c f m s3) D → ∀ O4 θ4 σ4 H4, Fr 0 O1 H1 O4 H4 → Ext θ1 θ4 → Rel X.K O4 θ4 H4 σ4 s3 →
          ∃ (s' : S) (O' : Ow) (θ' : List Addr), Rel X.K O' θ' H4 σ4 s' ∧ AfS X.K XR W O' θ' H4 (whLoop c f m s') D := fun s3 l O4 θ4 σ4 H4 f4 e4 R5 => ⟨s3, O4, θ4, R5, afs_move l f4 e4⟩
      cases ef : f s1 with
      | err => rw [ef] at h2; exact h2.elim
      | exc z s3 => rw [ef] at h2; exact h2
      | ok a s3 =>
        rw [ef] at h2
        cases a with
        | nx => exact nxt s3 h2
        | cnt => exact nxt s3 h2
        | brk => exact h2
        | ret z => exact h2
end
end Ev

/-! Part 10: calls of the program's own functions. -/
namespace Ev
open PySem PySem.Spec PyProof.Rows L2

/-- arguments and cells to a result and cells -/
abbrev Fn := List Vl → List Vl → R Vl
def argC : Vl → Option Vl
  | .own xs => match coldL xs with
    | some ys => some (.d (.list ys))
    | none => none
  | x => some x
def argsC : List Vl → Option (List Vl)
  | [] => some []
  | x :: r => match argC x, argsC r with
    | some y, some ys => some (y :: ys)
    | _, _ => none
def back (ρ : List (Option Vl)) : R Vl → R Vl
  | .err => .err
  | .ok v s => .ok v ⟨ρ, s.st⟩
  | .exc x s => .exc x ⟨ρ, s.st⟩
def cCall (c : Fn) (fr : S → R (List Vl)) : F := fun s => (fr s).bind fun xs s1 => match argsC xs with
  | some ys => back s1.ρ (c ys s1.st)
  | none => .err
def entry (n : Nat) (xs st : List Vl) : S := ⟨xs.map some ++ List.replicate (n - xs.length) none, st⟩
def endF : R Fl → R Vl
  | .ok .nx s => .ok (.d .none) s
  | .ok (.ret v) s => .ok v s
  | .exc x s => .exc x s
  | _ => .err
def runF (n : Nat) (e : FS) : Fn := fun xs st => endF (e (entry n xs st))

/-- the shared cells alone -/
structure RelC (K : PySem.W.Frag) (O : Ow) (θ : List Addr) (H : Hp) (st : List Vl) : Prop where
  tl : θ.length = st.length
  sto : ∀ (l : Nat) (x : Vl), st[l]? = some x → ∃ a, θ[l]? = some a ∧ Rep K O θ H (.cell l) [] (.ref a) x
  wf : ∀ a t, O a = some t → ∃ o, H a = some o
theorem Rel.cells {K : PySem.W.Frag} {O : Ow} {θ : List Addr} {H : Hp} {σ : L2.St} {s : S} (R : Rel K O θ H σ s) : RelC K O θ H s.st := ⟨R.tl, R.sto, R.wf⟩

/-- arguments, as a callee finds them -/
inductive ArgA (K : PySem.W.Frag) (O : Ow) (θ : List Addr) (H : Hp) : List V → List Vl → Prop
  | nil : ArgA K O θ H [] []
  | d {v : V} {vs : List V} {x : PyData} {xs : List Vl} : Cold K O H v x → ArgA K O θ H vs xs → ArgA K O θ H (v :: vs) (.d x :: xs)
  | ref {a : Addr} {l : Nat} {vs : List V} {xs : List Vl} : θ[l]? = some a → ArgA K O θ H vs xs → ArgA K O θ H (.ref a :: vs) (.ref l :: xs)

def AfC (K : PySem.W.Frag) (X : XRt) (O : Ow) (θ : List Addr) (H : Hp) (r : R Vl) (Q : VK) (E : XK) : Prop :=
  match r with
  | .err => False
  | .ok x s' => ∀ v O' θ' H', Fr 0 O H O' H' → Ext θ θ' → RelC K O' θ' H' s'.st → Rep K O' θ' H' (.tmp 0) [] v x → Q v H'
  | .exc x s' => ∀ cls d O' θ' H', Fr 0 O H O' H' → Ext θ θ' → RelC K O' θ' H' s'.st → X x cls d O' H' → E cls d H'

/-- a def's promise -/
def spF (K : PySem.W.Frag) (X : XRt) (np : Nat) (c : Fn) : Sp := fun vs H Q E => vs.length = np ∧ ∃ (xs st : List Vl) (O : Ow) (θ : List Addr), RelC K O θ H st ∧ ArgA K O θ H vs xs ∧ AfC K X O θ H (c xs st) Q E

/-- the promise, where no guard stands -/
structure FnG (P : Program) (w : World) (K : PySem.W.Frag) (mg : Str → Option Value) (base : Heap) (X : XRt) (k : Nat) (f : Addr) (fd : FuncData) (ps : List Str) (c : Fn) : Prop where
  go : ∀ (A : Around) (out : List Env) (s : Shared) (H : Hp) (args : Args) (us : List Value) (vs : List V) (Q : VK) (E : XK), Room k A → A.guards = some [] → Env0 P w K mg base A out s H → BindsTo s fd args (ps.zip us) → Vals vs us →
    spF K X ps.length c vs H Q E → codeAny (model P w) A (.call (.ref f) args) (CR (L2.CX P w) out P w H s Q E) s
theorem FnG.mono {P : Program} {w : World} {K : PySem.W.Frag} {mg : Str → Option Value} {base : Heap} {X : XRt} {j k : Nat} {f : Addr} {fd : FuncData} {ps : List Str} {c : Fn} (F : FnG P w K mg base X j f fd ps c) (h : j ≤ k) : FnG P w K mg base X k f fd ps c :=
  ⟨fun A out s H args us vs Q E hr => F.go A out s H args us vs Q E (hr.mono h)⟩

section
variable {K : PySem.W.Frag} {XR : XRt} {W : WX} {O O' O1 : Ow} {H H' H1 : Hp} {n : Nat} {θ θ' θ1 : List Addr} {σ : L2.St} {s s1 : S}

theorem argA_len : ∀ {vs : List V} {xs : List Vl}, ArgA K O θ H vs xs → vs.length = xs.length
  | _, _, .nil => rfl
  | _, _, .d _ q => congrArg (· + 1) (argA_len q)
  | _, _, .ref _ q => congrArg (· + 1) (argA_len q)

/-! ### into the callee, and back -/
def callO (n : Nat) (O : Ow) : Ow := fun a => match O a with
  | some (.tmp m, _) => if m < n then some (.out 0, []) else none
  | some (.slot _, _) => some (.out 0, [])
  | t => t
def backO (n : Nat) (O O' : Ow) : Ow := fun a => match callO n O a with
  | some (.out _, _) => O a
  | _ => match O' a with
    | some (.tmp 0, q) => some (.tmp n, q)
    | some (.cell l, q) => some (.cell l, q)
    | _ => none
theorem callO_none {a : Addr} (e : O a = none) : callO n O a = none := by unfold callO; rw [e]
theorem callO_cell {a : Addr} {l : Nat} {q : List Nat} (e : O a = some (.cell l, q)) : callO n O a = some (.cell l, q) := by unfold callO; rw [e]
theorem callO_slot {a : Addr} {l : Nat} {q : List Nat} (e : O a = some (.slot l, q)) : callO n O a = some (.out 0, []) := by unfold callO; rw [e]
theorem callO_keep {a : Addr} {r : Rt} {q : List Nat} (e : O a = some (r, q)) (k : keepR n r) : ∃ j p, callO n O a = some (.out j, p) := by
  unfold callO
  rw [e]
  cases r with
  | tmp m => exact ⟨0, [], if_pos k⟩
  | out j => exact ⟨j, q, rfl⟩
  | slot i => exact False.elim k
  | cell i => exact False.elim k
theorem callO_tmp {m : Nat} {a : Addr} {q : List Nat} (e : O a = some (.tmp m, q)) (h : n ≤ m) : callO n O a = none := by
  unfold callO
  rw [e]
  exact if_neg (Nat.not_lt_of_le h)
theorem callO_some {a : Addr} {t : Rt × List Nat} (e : callO n O a = some t) : ∃ u, O a = some u := by
  cases h : O a with
  | none => rw [callO_none h] at e; cases e
  | some u => exact ⟨u, rfl⟩
/-- the tags of a callee's own -/
theorem callO_kind {a : Addr} {r : Rt} {q : List Nat} (e : callO n O a = some (r, q)) : (∃ j, r = .out j) ∨ ∃ l, r = .cell l ∧ O a = some (.cell l, q) := by
  unfold callO at e
  split at e
  · split at e
    · cases e
      exact .inl ⟨0, rfl⟩
    · cases e
  · cases e
    exact .inl ⟨0, rfl⟩
  · rename_i h1 h2
    cases r with
    | out j => exact .inl ⟨j, rfl⟩
    | cell l => exact .inr ⟨l, rfl, e⟩
    | tmp m => exact (h1 _ _ e).elim
    | slot i => exact (h2 _ _ e).elim
theorem keeps_callO : Keeps O H (callO n O) H := fun a o e1 e2 => ⟨callO_none e1, e2⟩
theorem backO_out {a : Addr} {j : Nat} {p : List Nat} (e : callO n O a = some (.out j, p)) : backO n O O' a = O a := by unfold backO; rw [e]
theorem backO_cell {a : Addr} {l : Nat} {p : List Nat} (f : Fr 0 (callO n O) H O' H') (e : O' a = some (.cell l, p)) : backO n O O' a = some (.cell l, p) := by
  unfold backO
  split
  · rename_i h
    have := (f.keep _ _ _ h True.intro).1
    rw [e, h] at this
    cases this
  · rw [e]
theorem backO_tmp {a : Addr} {p : List Nat} (f : Fr 0 (callO n O) H O' H') (e : O' a = some (.tmp 0, p)) : backO n O O' a = some (.tmp n, p) := by
  unfold backO
  split
  · rename_i h
    have := (f.keep _ _ _ h True.intro).1
    rw [e, h] at this
    cases this
  · simp only [e]
theorem backO_none {a : Addr} (f : Fr 0 (callO n O) H O' H') (e : O' a = none) : backO n O O' a = none := by
  unfold backO
  split
  · rename_i h
    have := (f.keep _ _ _ h True.intro).1
    rw [e, h] at this
    cases this
  · rw [e]
theorem backO_some {a : Addr} {t : Rt × List Nat} (e : backO n O O' a = some t) : (∃ j p, callO n O a = some (.out j, p)) ∨ ∃ u, O' a = some u := by
  unfold backO at e
  split at e
  · rename_i h
    exact .inl ⟨_, _, h⟩
  · cases h : O' a with
    | none => rw [h] at e; cases e
    | some u => exact .inr ⟨u, rfl⟩
theorem keeps_backO (f : Fr 0 (callO n O) H O' H') : Keeps O' H' (backO n O O') H' := fun a o e1 e2 => ⟨backO_none f e1, e2⟩
theorem fr_backO (f : Fr 0 (callO n O) H O' H') : Fr n O H (backO n O O') H' where
  keep := fun a r p e k => by
    obtain ⟨j, q, h⟩ := callO_keep e k
    exact ⟨backO_out h, (f.keep a _ _ h True.intro).2⟩
  cold := fun a o e1 e2 => by
    obtain ⟨h1, h2⟩ := f.cold a o (callO_none e1) e2
    exact ⟨backO_none f h1, h2⟩
theorem Rel.called (R : Rel K O θ H σ s) : RelC K (callO n O) θ H s.st where
  tl := R.tl
  sto := fun l x e => by
    obtain ⟨a, h1, h2⟩ := R.sto l x e
    exact ⟨a, h1, h2.stay keeps_callO (.refl _) fun b q e => ⟨by rw [callO_cell e, e], rfl⟩⟩
  wf := fun a t e => by
    obtain ⟨u, h⟩ := callO_some e
    exact R.wf a u h
theorem Rel.backed {st : List Vl} (R : Rel K O θ H σ s) (f : Fr 0 (callO n O) H O' H') (ex : Ext θ θ') (C : RelC K O' θ' H' st) : Rel K (backO n O O') θ' H' σ ⟨s.ρ, st⟩ where
  len := R.len
  tl := C.tl
  env := fun i x e => by
    obtain ⟨v, h1, h2⟩ := R.env i x e
    exact ⟨v, h1, h2.stay (fr_backO f).keeps ex fun a q e => ⟨backO_out (callO_slot e), (f.keep a _ _ (callO_slot e) True.intro).2⟩⟩
  sto := fun l x e => by
    obtain ⟨a, h1, h2⟩ := C.sto l x e
    exact ⟨a, h1, h2.stay (keeps_backO f) (.refl _) fun b q e => ⟨by rw [backO_cell f e, e], rfl⟩⟩
  wf := fun a t e => by
    rcases backO_some e with ⟨j, p, h⟩ | ⟨u, h⟩
    · obtain ⟨u, hu⟩ := callO_some h
      obtain ⟨o, ho⟩ := R.wf a u hu
      exact ⟨o, by rw [(f.keep a _ _ h True.intro).2]; exact ho⟩
    · exact C.wf a u h
theorem argC_rep {m : Nat} {v : V} {x y : Vl} (h : Rep K O θ H (.tmp m) [] v x) (hm : n ≤ m) (e : argC x = some y) : (∃ z, y = .d z ∧ Cold K (callO n O) H v z) ∨ ∃ l a, y = .ref l ∧ v = .ref a ∧ θ[l]? = some a := by
  cases x with
  | d z =>
    cases e
    cases h with
    | d c => exact .inl ⟨z, rfl, c.mono keeps_callO⟩
  | ref l =>
    cases e
    cases h with
    | ref c => exact .inr ⟨l, _, rfl, rfl, c⟩
  | own xs =>
    unfold argC at e
    simp only at e
    cases ec : coldL xs with
    | none => rw [ec] at e; cases e
    | some ys =>
      rw [ec] at e
      cases e
      exact .inl ⟨_, rfl, Rep.cold keeps_callO (fun a q vs e1 e2 => ⟨callO_tmp e1 hm, e2⟩) h (by rw [Ev.cold, ec])⟩
theorem argsC_rep : ∀ {m : Nat} {vs : List V} {xs ys : List Vl}, n ≤ m → Row K O θ H m vs xs → argsC xs = some ys → ArgA K (callO n O) θ H vs ys
  | _, _, _, _, _, .nil, e => by
    cases e
    exact .nil
  | _, _, _, _, hm, .cons (x := x) (xs := xs) h q, e => by
    unfold argsC at e
    cases e1 : argC x with
    | none => rw [e1] at e; cases e
    | some y =>
      cases e2 : argsC xs with
      | none => rw [e1, e2] at e; cases e
      | some zs =>
        rw [e1, e2] at e
        cases e
        have ih := argsC_rep (Nat.le_succ_of_le hm) q e2
        rcases argC_rep h hm e1 with ⟨z, rfl, c⟩ | ⟨l, a, rfl, rfl, c⟩
        · exact .d c ih
        · exact .ref c ih

/-- a raised error's reading stands while what is cold stays -/
def XSteady (X : XRt) : Prop := ∀ x cls d O H O' H', X x cls d O H → Keeps O H O' H' → X x cls d O' H'

/-- so many values -/
def LenA (fr : S → R (List Vl)) (n : Nat) : Prop := ∀ s vs s', fr s = .ok vs s' → vs.length = n
theorem lenA_nil : LenA cNil 0 := fun s vs s' e => by cases e; rfl
theorem lenA_cons {fa : F} {fr : S → R (List Vl)} {n : Nat} (h : LenA fr n) : LenA (cCons fa fr) (n + 1) := fun s vs s' e => by
  unfold cCons at e
  cases e1 : fa s with
  | err => rw [e1] at e; cases e
  | exc x z => rw [e1] at e; cases e
  | ok x z =>
    rw [e1] at e
    simp only [R.bind_ok] at e
    cases e2 : fr z with
    | err => rw [e2] at e; cases e
    | exc x z => rw [e2] at e; cases e
    | ok xs z2 =>
      rw [e2] at e
      cases e
      exact congrArg (· + 1) (h _ _ _ e2)

theorem call_at {np : Nat} {c : Fn} {xs : List Vl} {vs : List V} {Q : VK} (hX : XSteady XR) (hn : vs.length = np) (R : Rel K O θ H σ s) (P : Row K O θ H n vs xs)
    (h : Af K XR W O θ n σ H (match argsC xs with | some ys => back s.ρ (c ys s.st) | none => .err) Q) : spF K XR np c vs H Q (WE W σ) := by
  refine ⟨hn, ?_⟩
  cases ea : argsC xs with
  | none => rw [ea] at h; exact h.elim
  | some ys =>
    rw [ea] at h
    refine ⟨ys, s.st, callO n O, θ, R.called, argsC_rep (Nat.le_refl _) P ea, ?_⟩
    simp only at h
    cases ec : c ys s.st with
    | err => rw [ec] at h; exact h
    | ok v s2 =>
      rw [ec] at h
      exact fun v O' θ' H' f ex C P' => h v _ θ' H' (fr_backO f) ex (R.backed f ex C) (Rep.move (g := id) (keeps_backO f) (.refl _) (fun _ _ => rfl) (fun a q us e1 e2 => ⟨backO_tmp f e1, e2⟩) P')
    | exc x s2 =>
      rw [ec] at h
      exact fun cls d O' θ' H' f ex C q => h cls d _ θ' H' (fr_backO f) ex (R.backed f ex C) (hX _ _ _ _ _ _ _ q (keeps_backO f))
end

section
variable {X : Cx} {XR : XRt} {W : WX} {k : Nat} {f : Addr} {fd : FuncData} {ps : List Str} {c : Fn} {x : Str} {p pos : Pos} {e : Expr} {es : List Expr} {fr : S → R (List Vl)}
theorem run_G {pins : List (Addr × Obj)} {σ : L2.St} {H : Hp} {s : Shared} {Q : VK} {us : List Value} {vs : List V} (F : FnG X.prog X.w X.K X.mg X.base XR k f fd ps c) (hr : Room k X.A) (hg : X.A.guards = some []) (hb : Binds X.K fd ps []) (tk : Takes X W)
    (I : Inv X pins σ H s) (r : Vals vs us) (h : spF X.K XR ps.length c vs H Q (WE W σ)) : wpAny (model X.prog X.w) X.A (call (.ref f) us) (EP X pins σ Q) X.xe s := by
  have b := hb s us I.kIn (by rw [List.append_nil, ← r.length]; exact h.1)
  rw [List.append_nil] at b
  have g := F.go X.A X.stack s H ⟨us, []⟩ us vs Q (WE W σ) hr hg I.env0 b r h
  refine wpAny_call (codeAny_mono g fun o t hq => ?_)
  match o, hq with
  | .error z, hq => exact passAt tk σ pins H s z t I hq
  | .ok (.ret u), hq => exact I.after hq
/-- f(e, ..) -/
theorem wp_call (F : FnG X.prog X.w X.K X.mg X.base XR k f fd ps c) (hr : Room k X.A) (hgd : X.A.guards = some []) (hX : XSteady XR) (tk : Takes X W) (hm : X.mg x = some (.ref f)) (hk : PySem.W.keepIn X.K (.ref f) = true) (hb : Binds X.K fd ps [])
    (ha : PA X (e :: es) (WpA X.K XR W fr)) (hla : LenA fr ps.length) (hg : Gl X x := by rfl) (hdb : (x == ("__debug__" : Str)) = false := by decide) (he : starEach (e :: es) X.env = (false, eval e X.env) :: starEach es X.env := by rfl)
    (hpl : (backTo pos (starEach es X.env)).any (·.1) = false := by rfl) :
    PE X (.Call (.Name x p) (e :: es) [] pos) (Wp X.K XR W (cCall c fr)) := ⟨fun pins s σ H Q I ⟨s0, O, θ, n, R, q⟩ => by
  refine wpAny_Call_Name_kw (ld_glob I hg hm ?_ hdb)
  refine PySem.W.callWith_K (h₀ := X.base) I.ok.mod.kin hk ?_ he hpl
  have step : WpA X.K XR W fr σ H (fun vs H1 => spF X.K XR ps.length c vs H1 Q (WE W σ)) := by
    refine ⟨s0, O, θ, n, R, ?_⟩
    have q' : AfG X.K XR W O θ n σ H (fr s0) fun xs s1 => xs.length = ps.length ∧ Af X.K XR W O θ n σ H (match argsC xs with | some ys => back s1.ρ (c ys s1.st) | none => .err) Q := by
      unfold cCall at q
      cases ef : fr s0 with
      | err => rw [ef] at q; exact q
      | exc x s' => rw [ef] at q; exact q
      | ok xs s1 =>
        rw [ef] at q
        exact ⟨hla _ _ _ ef, q⟩
    revert q'
    cases fr s0 with
    | err => exact fun q' => q'
    | exc x s' => exact fun q' => q'
    | ok xs s1 => exact fun q' vs O1 θ1 H1 f1 e1 R1 P1 => call_at hX (P1.len.trans q'.1) R1 P1 (af_move q'.2 f1 e1)
  exact thn (ha.run pos pins s σ H _ I step) fun us s1 ⟨vs, H1, I1, r, q⟩ => ⟨I1.kIn, run_G F hr hgd hb tk I1 r q⟩⟩
theorem wp_call0 (F : FnG X.prog X.w X.K X.mg X.base XR k f fd [] c) (hr : Room k X.A) (hgd : X.A.guards = some []) (hX : XSteady XR) (tk : Takes X W) (hm : X.mg x = some (.ref f)) (hk : PySem.W.keepIn X.K (.ref f) = true) (hb : Binds X.K fd [] [])
    (hg : Gl X x := by rfl) (hdb : (x == ("__debug__" : Str)) = false := by decide) : PE X (.Call (.Name x p) [] [] pos) (Wp X.K XR W (cCall c cNil)) := ⟨fun pins s σ H Q I ⟨s0, O, θ, n, R, q⟩ => by
  refine wpAny_Call_Name_kw (ld_glob I hg hm ?_ hdb)
  exact PySem.W.callWith_K0 I.kIn hk (run_G (us := []) (vs := []) F hr hgd hb tk I .nil (call_at hX rfl R .nil q))⟩
end

/-! ### a def keeps its promise -/
theorem entry_rel {K : PySem.W.Frag} {O : Ow} {θ : List Addr} {H : Hp} {vs : List V} {xs st : List Vl} {N : List Str} (C : RelC K O θ H st) (A : ArgA K O θ H vs xs) : Rel K O θ H (L2.start N vs) (entry N.length xs st) := by
  have hl := argA_len A
  refine ⟨?_, C.tl, fun i x e => ?_, C.sto, C.wf⟩
  · unfold L2.start entry
    simp [hl]
  · have key : ∀ {vs : List V} {xs : List Vl} (i : Nat) (x : Vl), ArgA K O θ H vs xs → xs[i]? = some x → ∃ v, vs[i]? = some v ∧ Rep K O θ H (.slot 100000) [] v x ∧ ∀ r p, Rep K O θ H r p v x := by
      intro vs xs i x A
      induction A generalizing i with
      | nil => intro e; simp at e
      | d c _ ih =>
        intro e
        cases i with
        | zero =>
          simp at e
          subst e
          exact ⟨_, rfl, .d c, fun _ _ => .d c⟩
        | succ j => exact ih j (by simpa using e)
      | ref c _ ih =>
        intro e
        cases i with
        | zero =>
          simp at e
          subst e
          exact ⟨_, rfl, .ref c, fun _ _ => .ref c⟩
        | succ j => exact ih j (by simpa using e)
    unfold entry at e
    simp only at e
    by_cases hi : i < xs.length
    · rw [List.getElem?_append_left (by simpa using hi), List.getElem?_map] at e
      cases ex : xs[i]? with
      | none => rw [ex] at e; cases e
      | some y =>
        rw [ex] at e
        cases e
        obtain ⟨v, h1, _, h2⟩ := key i x A ex
        refine ⟨v, ?_, h2 _ _⟩
        unfold L2.start
        rw [List.getElem?_append_left (by rw [List.length_map, hl]; exact hi), List.getElem?_map, h1]
        rfl
    · rw [List.getElem?_append_right (by simpa using hi), List.getElem?_replicate] at e
      split at e <;> cases e

section
variable {P : Program} {w : World} {K : PySem.W.Frag} {mg : Str → Option Value} {base : Heap} {XR : XRt} {k : Nat} {f : Addr} {N ps : List Str}
/-- by its body -/
theorem fn_G {name qual : Str} {params : Arguments} {body : List Stmt} {scope : Scope} {dV kV doc pm cdv ct oc : Value} {an od : Option Addr} {osl : Array (Option Value)} {e : FS}
    (lk : K.lookup f = some ⟨oc, od, .func (PySem.W.fnOf name qual params body scope dV kV doc pm an cdv ct), osl⟩) (hcd : PySem.W.codeIn K cdv qual = true) (S : FnScope N ps scope)
    (hb : ∀ (A : Around) (out : List Env) (s : Shared) (H : Hp) (E : XK), Room k (A.deeper (envOfC qual scope s.heap.objs.size f cdv)) → (A.deeper (envOfC qual scope s.heap.objs.size f cdv)).guards = some [] →
      PSs (cxOf (L2.CX P w) P w K mg base N qual scope f cdv A out s H E) body (WpS K XR (fun cls d _ H => E cls d H) e)) :
    FnG P w K mg base XR (k + 1) f (PySem.W.fnOf name qual params body scope dV kV doc pm an cdv ct) ps (runF N.length e) := ⟨fun A out s H args us vs Q E hr hgd e0 bt r ⟨hl, xs, st, O, θ, C, AA, af⟩ => by
  have KX : K.In s.heap := e0.mod.kin.keeps fun b o e => (e0.bs b o e).1
  have nl : s.heap.NoLimit := e0.mod.nolimit.keeps fun b o e => (e0.bs b o e).1
  have kinds : ∀ y ∈ ps.zip us, scope.names.lookup y.1 = some .local ∨ (scope.names.lookup y.1 = some .cell ∧ ((cellsFrom (s.heap.objs.size + 1) scope.names []).lookup y.1).isSome = true) := fun ⟨m, v⟩ hy =>
    (S.par m (List.of_mem_zip hy).1).imp id fun q => ⟨q, PySem.W.cellsFrom_some _ _ _ (.inl q)⟩
  refine codeAny_call_function hr.depth (KX _ _ lk) rfl S.co S.gen rfl (PySem.W.codeRec_of KX hcd) (bt _ _ _ _ (wpAny_newFunctionEnv_cells S.kind kinds ?_))
  intro env he s1 ic
  subst he
  refine ⟨nl.keeps ic.toInCall.keep, codeAny_func ?_⟩
  have I : Inv (cxOf (L2.CX P w) P w K mg base N qual scope f cdv A out s H E) [] (L2.start N vs) H s1 := inv_start S hr.hd e0 hl r ic
  have body := hb A out s H E (hr.deeper _) (by first | exact hgd | simpa [Around.deeper, Around.under, pushGuards, Code.guards] using hgd)
  have goal : WpS K XR (fun cls d _ H => E cls d H) e { nx := fun _ H' => Q .non H', rt := Q } (L2.start N vs) H := by
    refine ⟨entry N.length xs st, O, θ, entry_rel C AA, ?_⟩
    have af' : AfC K XR O θ H (endF (e (entry N.length xs st))) Q E := af
    revert af'
    cases e (entry N.length xs st) with
    | err => exact fun z => z
    | exc z s' => exact fun af' cls d O' θ' σ' H' f1 e1 R q => af' cls d O' θ' H' f1 e1 R.cells q
    | ok a s' =>
      cases a with
      | nx => exact fun af' O' θ' σ' H' f1 e1 R => af' .non O' θ' H' f1 e1 R.cells (.d .non)
      | ret v => exact fun af' v O' θ' σ' H' f1 e1 R P => af' v O' θ' H' f1 e1 R.cells P
      | brk => exact fun z => z.elim
      | cnt => exact fun z => z.elim
  refine wpAny_mono (body.run [] s1 _ H _ I goal) (fun fl t hs => ?_) fun _ _ z => z
  match fl, hs with
  | .ret u, ⟨v, σ', H', J, rv, q⟩ => exact ⟨v, H', J.os, J.bare, J.base, J.hok, rv, q⟩
  | .next, ⟨σ', H', J, q⟩ => exact ⟨.non, H', J.os, J.bare, J.base, J.hok, rfl, q⟩
  | .brk, ⟨_, _, _, q⟩ => exact q.elim
  | .cont, ⟨_, _, _, q⟩ => exact q.elim⟩
end
end Ev

/-! Part 11: places that change; isinstance; texts; stars; chains. -/
namespace Ev
open PySem PySem.Spec PyProof.Rows L2

section
variable {K : PySem.W.Frag} {XR : XRt} {W : WX} {O O' O1 : Ow} {H H' H1 : Hp} {n m : Nat} {θ θ' θ1 : List Addr} {σ : L2.St} {s s1 : S}

/-- a method that changes a place: what stands there, what is handed over; what then stands, what comes back -/
def cMut (i : Nat) (g : List Vl → List PyData → Option (List Vl × PyData)) (fr : S → R (List Vl)) : F := fun s => match plcGet s i with
  | none => .err
  | some _ => (fr s).bind fun ys s1 => match coldL ys, plcGet s1 i with
    | some zs, some xs => match g xs zs with
      | some (xs', y) => .ok (.d y) (plcSet s1 i xs')
      | none => .err
    | _, _ => .err
/-- .. as a reading -/
def rMut (K : PySem.W.Frag) (g : List Vl → List PyData → Option (List Vl × PyData)) : V → List V → Hp → VK → Prop := fun x ws H Q => ∃ (n : Nat) (O : Ow) (θ : List Addr) (σ : L2.St) (s : S) (i : Nat) (xs xs' : List Vl) (zs : List PyData) (y : PyData),
  Rel K O θ H σ s ∧ σ[i]? = some (some x) ∧ plcGet s i = some xs ∧ ColdA K O H ws zs ∧ g xs zs = some (xs', y) ∧ ∀ u O' H', Fr n O H O' H' → Rel K O' θ H' σ (plcSet s i xs') → Cold K O' H' u y → Q u H'
theorem wp_mut {X : Cx} {e : Expr} {i : Nat} {g : List Vl → List PyData → Option (List Vl × PyData)} {fr : S → R (List Vl)} (h : PE X e (tBM X.K "list" (rMut X.K g) (tVar i) (WpA X.K XR W fr))) : PE X e (Wp X.K XR W (cMut i g fr)) := pe_imp h fun σ H Q ⟨s, O, θ, n, R, q⟩ => by
  unfold cMut at q
  cases e0 : plcGet s i with
  | none => rw [e0] at q; exact q.elim
  | some xs0 =>
    rw [e0] at q
    simp only at q
    obtain ⟨a, vs, r, g1, g2, _, _, _, _⟩ := R.plc1 e0
    refine ⟨.ref a, g1, .inl ⟨rfl, vs, .inl (.inl g2)⟩, s, O, θ, n, R, afg_bind (Nat.le_refl _) q fun ys s1 h1 ws O1 θ1 H1 f1 e1 R1 P1 => ?_⟩
    cases ec : coldL ys with
    | none => rw [ec] at h1; exact h1.elim
    | some zs =>
      cases ep : plcGet s1 i with
      | none => rw [ec, ep] at h1; exact h1.elim
      | some xs =>
        rw [ec, ep] at h1
        simp only at h1
        cases eg : g xs zs with
        | none => rw [eg] at h1; exact h1.elim
        | some p =>
          obtain ⟨xs', y⟩ := p
          rw [eg] at h1
          refine ⟨n, coldFrom n O1, θ1, σ, s1, i, xs, xs', zs, y, R1.coldFrom n, g1, ep, P1.coldFrom (Nat.le_refl _) ec, eg, fun u O' H' f2 R2 c => ?_⟩
          exact h1 u O' θ1 H' ((f1.trans fr_coldFrom (Nat.le_refl _)).trans f2 (Nat.le_refl _)) e1 R2 (.d c)
/-- what a changed list leaves cold -/
theorem keeps_own {a : Addr} {o : HO} {t : Rt × List Nat} (h : O a = some t) : Keeps O H O (upd H a o) := fun b u e1 e2 => ⟨e1, by rw [upd_ne fun z => by rw [z, h] at e1; cases e1]; exact e2⟩

def appD : List Vl → List PyData → Option (List Vl × PyData)
  | xs, [y] => if xs.length < LIM then some (xs ++ [.d y], .none) else none
  | _, _ => none
theorem m_append {X : Cx} : MtR X "list.append" (rMut X.K appD) := by
  rintro pins t σ H x ws v us Q I rx rv ⟨n, O, θ, σ', s, i, xs, xs', zs, y, R, g1, ep, c, eg, q⟩
  match zs, c, eg with
  | [z], c, eg =>
    have eg : (if xs.length < LIM then some (xs ++ [.d z], PyData.none) else none) = some (xs', y) := eg
    by_cases hz : xs.length < LIM
    · rw [if_pos hz] at eg
      cases eg
      obtain ⟨w, rfl, cw⟩ := c.one
      obtain ⟨a, vs, r, h1, h2, h3, h4, hl, f⟩ := R.plc1 ep
      rw [g1] at h1
      cases h1
      refine mt_append pins t σ H _ _ v us Q I rx rv ⟨a, vs, w, rfl, rfl, h2, lim_lt (by rw [hl]; exact hz), ?_⟩
      have kp : ∀ o, Keeps O H O (upd H a o) := fun o => keeps_own h4
      obtain ⟨R2, f2⟩ := f (vs ++ [w]) (xs ++ [.d z]) fun o hr => RepA.snoc hr (.d (cw.mono (kp o)))
      exact q .non O _ (f2 n) R2 .non
    · rw [if_neg hz] at eg
      cases eg
/-- data, one by one -/
def dat : List Vl → Option (List PyData)
  | [] => some []
  | .d x :: r => match dat r with
    | some ys => some (x :: ys)
    | none => none
  | _ :: _ => none
theorem dat_eq : ∀ {xs : List Vl} {ys : List PyData}, dat xs = some ys → xs = ys.map Vl.d
  | [], _, e => by cases e; rfl
  | x :: r, ys, e => by
    cases x with
    | d y =>
      have e : (match dat r with | some ys => some (y :: ys) | none => none) = some ys := e
      cases h : dat r with
      | none => rw [h] at e; cases e
      | some zs =>
        rw [h] at e
        cases e
        rw [dat_eq h]
        rfl
    | own _ => cases e
    | ref _ => cases e
theorem RepA.toCold {r : Rt} {p : List Nat} : ∀ {k : Nat} {vs : List V} {ys : List PyData}, RepA K O θ H r p k vs (ys.map Vl.d) → ColdA K O H vs ys
  | _, _, [], .nil => .nil
  | _, _, _ :: _, .cons h q => match h with
    | .d c => .cons c (RepA.toCold q)
def insD : List Vl → List PyData → Option (List Vl × PyData)
  | xs, [.int i, y] => match dat xs with
    | some ds => if ds.length < LIM ∧ 0 ≤ i ∧ i < 1000000 then some ((ds.take i.toNat ++ [y] ++ ds.drop i.toNat).map Vl.d, .none) else none
    | none => none
  | _, _ => none
theorem m_insert {X : Cx} : MtR X "list.insert" (rMut X.K insD) := by
  rintro pins t σ H x ws v us Q I rx rv ⟨n, O, θ, σ', s, i, xs, xs', zs, y, R, g1, ep, c, eg, q⟩
  match zs, c, eg with
  | [.int j, z], c, eg =>
    have eg : (match dat xs with
      | some ds => if ds.length < LIM ∧ 0 ≤ j ∧ j < 1000000 then some ((ds.take j.toNat ++ [z] ++ ds.drop j.toNat).map Vl.d, PyData.none) else none
      | none => none) = some (xs', y) := eg
    cases ed : dat xs with
    | none => rw [ed] at eg; cases eg
    | some ds =>
      rw [ed] at eg
      simp only at eg
      by_cases hz : ds.length < LIM ∧ 0 ≤ j ∧ j < 1000000
      · rw [if_pos hz] at eg
        cases eg
        have hxs := dat_eq ed
        subst hxs
        obtain ⟨w0, w, rfl, cj, cw⟩ := c.two
        cases cj
        obtain ⟨a, vs, r, h1, h2, h3, h4, hl, f⟩ := R.plc1 ep
        rw [g1] at h1
        cases h1
        have cold := h3.toCold
        refine mt_insert pins t σ H _ _ v us Q I rx rv ⟨a, vs, j, w, rfl, rfl, h2, lim_lt (by rw [cold.len]; exact hz.1), hz.2.1, by omega, ?_⟩
        have kp : ∀ o, Keeps O H O (upd H a o) := fun o => keeps_own h4
        obtain ⟨R2, f2⟩ := f (vs.take j.toNat ++ [w] ++ vs.drop j.toNat) ((ds.take j.toNat ++ [z] ++ ds.drop j.toNat).map Vl.d) fun o _ =>
          RepA.ofCold ((((cold.take _).app (.cons cw .nil)).app (cold.drop _)).mono (kp o))
        exact q .non O _ (f2 n) R2 .non
      · rw [if_neg hz] at eg
        cases eg
def popD : List Vl → List PyData → Option (List Vl × PyData)
  | xs, [.int i] => match dat xs with
    | some ds => if 0 ≤ i ∧ i < 1000000 then match ds[i.toNat]? with
        | some y => some ((ds.eraseIdx i.toNat).map Vl.d, y)
        | none => none
      else none
    | none => none
  | _, _ => none
theorem ColdA.erase : ∀ {vs : List V} {xs : List PyData} (i : Nat), ColdA K O H vs xs → ColdA K O H (vs.eraseIdx i) (xs.eraseIdx i)
  | _, _, _, .nil => .nil
  | _, _, 0, .cons _ q => q
  | _, _, i + 1, .cons h q => .cons h (ColdA.erase i q)
theorem m_popAt {X : Cx} : MtR X "list.pop" (rMut X.K popD) := by
  rintro pins t σ H x ws v us Q I rx rv ⟨n, O, θ, σ', s, i, xs, xs', zs, y, R, g1, ep, c, eg, q⟩
  match zs, c, eg with
  | [.int j], c, eg =>
    have eg : (match dat xs with
      | some ds => if 0 ≤ j ∧ j < 1000000 then match ds[j.toNat]? with
          | some y => some ((ds.eraseIdx j.toNat).map Vl.d, y)
          | none => none
        else none
      | none => none) = some (xs', y) := eg
    cases ed : dat xs with
    | none => rw [ed] at eg; cases eg
    | some ds =>
      rw [ed] at eg
      simp only at eg
      by_cases hz : 0 ≤ j ∧ j < 1000000
      · rw [if_pos hz] at eg
        cases ey : ds[j.toNat]? with
        | none => rw [ey] at eg; cases eg
        | some y' =>
          rw [ey] at eg
          cases eg
          have hxs := dat_eq ed
          subst hxs
          obtain ⟨w0, rfl, cj⟩ := c.one
          cases cj
          obtain ⟨a, vs, r, h1, h2, h3, h4, hl, f⟩ := R.plc1 ep
          rw [g1] at h1
          cases h1
          have cold := h3.toCold
          obtain ⟨u, u1, u2⟩ := cold.get ey
          have hlt : j.toNat < vs.length := (List.getElem?_eq_some_iff.mp u1).1
          have six : seqIndex? j vs.length = some j.toNat := seqIndex_of hz.1 (by omega)
          refine mt_popAt pins t σ H _ _ v us Q I rx rv ⟨a, vs, j, j.toNat, u, rfl, rfl, h2, by omega, by omega, six, u1, ?_⟩
          have kp : ∀ o, Keeps O H O (upd H a o) := fun o => keeps_own h4
          obtain ⟨R2, f2⟩ := f (vs.eraseIdx j.toNat) ((ds.eraseIdx j.toNat).map Vl.d) fun o _ => RepA.ofCold ((cold.erase _).mono (kp o))
          exact q u O _ (f2 n) R2 (u2.mono (kp _))
      · rw [if_neg hz] at eg
        cases eg

/-! x[i] = v -/
def sSetI (i : Nat) (fi f : F) : FS := fun s => (f s).bind fun y s1 => if isSet s1 i = true then (fi s1).bind fun k s2 => match cold y, cold k, plcGet s2 i with
    | some yd, some (.int j), some xs => match ixN xs.length j with
      | some m => .ok .nx (plcSet s2 i (xs.set m (.d yd)))
      | none => .err
    | _, _, _ => .err
  else .err
theorem ws_setI {X : Cx} {st : Stmt} {i : Nat} {fi f : F} (h : PS X st (tAsg (Wp X.K XR W f) (gSub (tVar i) (Wp X.K XR W fi) rSetL))) : PS X st (WpS X.K XR W (sSetI i fi f)) := ps_imp h fun D σ H ⟨s, O, θ, R, q⟩ => by
  refine ⟨s, O, θ, 0, R, afs_bind q fun y s1 h1 v O1 θ1 H1 f1 e1 R1 P1 => ?_⟩
  by_cases hi : isSet s1 i = true
  · rw [if_pos hi] at h1
    obtain ⟨o, ho⟩ := isSet_at R1 hi
    refine ⟨o, ho, s1, O1, θ1, 1, R1, ?_⟩
    have h2 := afs_move h1 f1 e1
    have key : AfG X.K XR W O1 θ1 0 σ H1 (fi s1) fun k s2 => AfS X.K XR W O1 θ1 H1 (match cold y, cold k, plcGet s2 i with
      | some yd, some (.int j), some xs => match ixN xs.length j with
        | some m => .ok .nx (plcSet s2 i (xs.set m (.d yd)))
        | none => .err
      | _, _, _ => .err) D := afs_bind h2 fun k s2 h => h
    revert key
    cases fi s1 with
    | err => exact fun z => z
    | exc z s3 => exact fun key cls d O' θ' H' f e R q => key cls d O' θ' H' (f.weak (Nat.zero_le _)) e R q
    | ok k s2 =>
      intro key u O2 θ2 H2 f2 e2 R2 P2
      have key : AfS X.K XR W O1 θ1 H1 (match cold y, cold k, plcGet s2 i with
        | some yd, some (.int j), some xs => match ixN xs.length j with
          | some m => .ok .nx (plcSet s2 i (xs.set m (.d yd)))
          | none => .err
        | _, _, _ => .err) D := key
      cases ey : Ev.cold y with
      | none => rw [ey] at key; exact key.elim
      | some yd =>
        cases ek : Ev.cold k with
        | none => rw [ey, ek] at key; exact key.elim
        | some kd =>
          cases kd with
          | int j =>
            cases ep : plcGet s2 i with
            | none => rw [ey, ek, ep] at key; exact key.elim
            | some xs =>
              rw [ey, ek, ep] at key
              simp only at key
              cases ex : ixN xs.length j with
              | none => rw [ex] at key; exact key.elim
              | some m =>
                rw [ex] at key
                have P1' := P1.fr f2 e2 (show (0 : Nat) < 1 by omega)
                have Rc := R2.coldFrom 0
                have cy : Cold X.K (coldFrom 0 O2) H2 v yd := P1'.coldFrom (Nat.le_refl _) ey
                have ck : Cold X.K (coldFrom 0 O2) H2 u (.int j) := P2.coldFrom (Nat.zero_le _) ek
                cases ck
                obtain ⟨a, vs, r, g1, g2, g3, g4, gl, f⟩ := Rc.plc1 ep
                rw [ho] at g1
                cases g1
                refine ⟨a, vs, j, m, rfl, rfl, g2, by rw [gl]; exact ex, ?_⟩
                have kp : ∀ o, Keeps (coldFrom 0 O2) H2 (coldFrom 0 O2) (upd H2 a o) := fun o => keeps_own g4
                obtain ⟨R3, f3⟩ := f (vs.set m v) (xs.set m (.d yd)) fun o hr => RepA.set hr (.d (cy.mono (kp o)))
                exact key _ θ2 σ _ (((f2.weak (Nat.zero_le _)).trans fr_coldFrom (Nat.le_refl _)).trans (f3 0) (Nat.le_refl _)) e2 R3
          | _ => rw [ey, ek] at key; exact key.elim
  · rw [if_neg hi] at h1
    exact h1.elim
/-- a list shared from its making -/
theorem ws_share {X : Cx} {st : Stmt} {i : Nat} {f : F} {t : TE} (h : PS X st (tAsg t (gName i))) (it : ∀ σ H Q, Wp X.K XR W f σ H Q → t σ H Q) : PS X st (WpS X.K XR W (sShare i f)) :=
  ps_imp h fun D σ H ⟨s, O, θ, R, q⟩ => by
  refine it _ _ _ ⟨s, O, θ, 0, R, afs_bind q fun x s1 h1 v O1 θ1 H1 f1 e1 R1 P1 => ?_⟩
  cases x with
  | d _ => exact h1.elim
  | ref _ => exact h1.elim
  | own xs =>
    simp only at h1
    by_cases hi : i < s1.ρ.length
    · rw [if_pos hi] at h1
      cases P1 with
      | own p1 p2 p3 =>
        obtain ⟨R2, f2⟩ := R1.share (i := i) hi (.own p1 p2 p3)
        exact h1 _ _ _ H1 (f1.trans f2 (Nat.le_refl _)) (e1.trans (Ext.app θ1 _)) R2
    · rw [if_neg hi] at h1
      exact h1.elim
end
end Ev

/-! Part 12: isinstance; texts; stars; chains; pairs. -/
namespace Ev
open PySem PySem.Spec PyProof.Rows L2

def mulX : PyData → PyData → Option Vl
  | .str x, .int k => if 2 ≤ k ∧ k ≤ 1000 ∧ 1 ≤ x.length ∧ x.length ≤ 1000 then some (.d (.str ⟨(List.replicate k.toNat x.cps).foldl (· ++ ·) #[]⟩)) else none
  | .tuple xs, .int k => if 2 ≤ k ∧ k ≤ 1000 ∧ 1 ≤ xs.length ∧ xs.length ≤ 1000 then some (.d (.tuple (List.replicate k.toNat xs).flatten)) else none
  | a, b => mulD a b
/-- the name of a value's type; of the types that a test names -/
def tyN : PyData → String
  | .none => "NoneType"
  | .bool _ => "bool"
  | .int _ => "int"
  | .str _ => "str"
  | .list _ => "list"
  | .tuple _ => "tuple"
  | _ => ""
def isT (t : String) (x : PyData) : Bool := tyN x == t || (tyN x == "bool" && t == "int")
def isiD (ts : List String) (x : PyData) : Option Vl := some (.d (.bool (ts.any fun t => isT t x)))
def KOk (t : String) : Prop := ∀ a : String, a ∈ ["NoneType", "bool", "int", "str", "list", "tuple"] → kitB a t = some (a == t || (a == "bool" && t == "int"))
theorem k_int : KOk "int" := by unfold KOk; decide +kernel
theorem k_bool : KOk "bool" := by unfold KOk; decide +kernel
theorem k_str : KOk "str" := by unfold KOk; decide +kernel
theorem k_list : KOk "list" := by unfold KOk; decide +kernel
theorem k_tuple : KOk "tuple" := by unfold KOk; decide +kernel
theorem k_dict : KOk "dict" := by unfold KOk; decide +kernel
theorem k_float : KOk "float" := by unfold KOk; decide +kernel

section
variable {K : PySem.W.Frag} {XR : XRt} {W : WX} {O O' O1 : Ow} {H H' H1 : Hp} {n m : Nat} {θ θ' θ1 : List Addr} {σ : L2.St} {s s1 : S}

theorem g_mulX {X : Cx} : OpR X (binaryOp .Mult) (rG X.K mulX) := by
  rintro pins t σ H x y v u Q I rx ry ⟨n, O, θ, σ', s', a, b, z, R, ca, cb, e, q⟩
  by_cases ha : (∃ x k, a = .str x ∧ b = .int k) ∨ ∃ xs k, a = .tuple xs ∧ b = .int k
  · rcases ha with ⟨x1, k, rfl, rfl⟩ | ⟨xs, k, rfl, rfl⟩
    · have e : (if 2 ≤ k ∧ k ≤ 1000 ∧ 1 ≤ x1.length ∧ x1.length ≤ 1000 then some (Vl.d (.str ⟨(List.replicate k.toNat x1.cps).foldl (· ++ ·) #[]⟩)) else none) = some z := e
      by_cases hz : 2 ≤ k ∧ k ≤ 1000 ∧ 1 ≤ x1.length ∧ x1.length ≤ 1000
      · rw [if_pos hz] at e
        cases e
        cases ca
        cases cb
        obtain ⟨t1, rfl⟩ := rx
        obtain ⟨t2, rfl⟩ := ry
        obtain ⟨h1, h2, h3, h4⟩ := hz
        have hsz : x1.length * k.toNat ≤ 1000 * 1000 := Nat.mul_le_mul h4 (by omega)
        have hl3 : Builtin.Str.tooLong (x1.length * k.toNat) = false := by
          have : ¬ (Builtin.Str.tooLong (x1.length * k.toNat) = true) := fun z => by
            unfold Builtin.Str.tooLong at z
            have z2 := of_decide_eq_true z
            exact absurd (lim_le hsz) (Nat.not_le_of_lt z2)
          simpa using this
        refine PySem.P.mul_str (by
          have c1 : ¬ k < -(2 ^ 63) := by omega
          have c2 : ¬ k ≥ 2 ^ 63 := by omega
          rw [decide_eq_false c1, decide_eq_false c2]
          rfl) (fun _ _ z => ?_) (fun _ _ => hl3) ?_
        · have hdiv : (1000 : Int) < (2 ^ 63 - 1) / k := by
            have : (1001 : Int) ≤ (2 ^ 63 - 1) / k := Int.le_ediv_of_mul_le (by omega) (by omega)
            omega
          omega
        · rw [if_neg (by omega)]
          have : (k == 1 || x1.length == 0) = false := by
            have a1 : (k == 1) = false := by simpa using (show k ≠ 1 by omega)
            have a2 : (x1.length == 0) = false := by simpa using (show x1.length ≠ 0 by omega)
            rw [a1, a2]
            rfl
          rw [this]
          simp only [Bool.false_eq_true, if_false]
          refine ⟨?_, ?_⟩
          · have e9 : (List.foldl (fun x1 x2 => x1 ++ x2) #[] (List.replicate k.toNat x1.cps)).size = k.toNat * x1.cps.size := by
              have g : ∀ (m : Nat) (acc : Array Nat), (List.foldl (fun x1 x2 => x1 ++ x2) acc (List.replicate m x1.cps)).size = acc.size + m * x1.cps.size := fun m => by
                induction m with
                | zero => intro acc; simp
                | succ m ih =>
                  intro acc
                  rw [List.replicate_succ, List.foldl_cons, ih, Array.size_append, Nat.succ_mul]
                  omega
              rw [g]
              simp
            show (List.foldl (fun x1 x2 => x1 ++ x2) #[] (List.replicate k.toNat x1.cps)).size ≤ sizeLine
            rw [e9, Nat.mul_comm]
            exact lim_le hsz
          · exact ⟨.str _, H, I.tok _, ⟨_, rfl⟩, end_d R q (.str _)⟩
      · rw [if_neg hz] at e
        cases e
    · have e : (if 2 ≤ k ∧ k ≤ 1000 ∧ 1 ≤ xs.length ∧ xs.length ≤ 1000 then some (Vl.d (.tuple (List.replicate k.toNat xs).flatten)) else none) = some z := e
      by_cases hz : 2 ≤ k ∧ k ≤ 1000 ∧ 1 ≤ xs.length ∧ xs.length ≤ 1000
      · rw [if_pos hz] at e
        cases e
        cases cb
        cases ca with
        | tup h1 c1 =>
          have l1 := c1.len
          exact op_repT pins t σ H _ _ v u Q I rx ry ⟨_, k, _, rfl, rfl, h1.sq, fun z => by rw [z] at l1; simp at l1; omega, hz.1, hz.2.1, by omega, end_tup R q (c1.rep k.toNat)⟩
      · rw [if_neg hz] at e
        cases e
  · have e' : mulD a b = some z := by
      rw [← e]
      unfold mulX
      split
      · exact (ha (.inl ⟨_, _, rfl, rfl⟩)).elim
      · exact (ha (.inr ⟨_, _, rfl, rfl⟩)).elim
      · rfl
    exact g_mul pins t σ H x y v u Q I rx ry ⟨n, O, θ, σ', s', a, b, z, R, ca, cb, e', q⟩

theorem Cold.ty {v : V} {x : PyData} (h : Cold K O H v x) : TyX K H v (.type (tyN x)) ∧ tyN x ∈ ["NoneType", "bool", "int", "str", "list", "tuple"] := by
  cases h with
  | non => exact ⟨.base .non, by decide⟩
  | bl b => exact ⟨.base (.bl b), by simp [tyN]⟩
  | int i => exact ⟨.base (.int i), by simp [tyN]⟩
  | str i => exact ⟨.base (.str i), by simp [tyN]⟩
  | lst h c =>
    refine ⟨?_, by simp [tyN]⟩
    rcases h with ⟨h | ⟨o, h⟩, _⟩ | ⟨its, n, h, _⟩
    · exact .base (.lst h)
    · exact .base (.frz h)
    · exact .kList h rfl
  | tup h c =>
    refine ⟨?_, by simp [tyN]⟩
    rcases h with ⟨h | ⟨o, h⟩, _⟩ | ⟨o, its, n, h, hc, _⟩
    · exact .base (.tup h)
    · exact .fTuple h
    · exact .kTuple h hc
theorem kit_one {v : V} {x : PyData} {t : String} (h : Cold K O H v x) (k : KOk t) : PySem.W.kitOne K (.type (tyN x)) (.type t) = some (isT t x) := kit_ty (k _ h.ty.2)
/-- isinstance(e, T) -/
theorem wp_isi {X : Cx} {e : Expr} {t : String} {fa : F} (h : PE X e (tCB (rIsi X.K) (tCons (Wp X.K XR W fa) (tCons (tC (.ty t)) tNil)))) (k : KOk t) : PE X e (Wp X.K XR W (cUn (isiD [t]) fa)) :=
  pe_imp h fun σ H Q ⟨s, O, θ, n, R, q⟩ => by
  refine ⟨s, O, θ, n, R, afg_bind (Nat.le_refl _) q fun x s1 h1 v O1 θ1 H1 f1 e1 R1 P1 => ?_⟩
  cases ex : Ev.cold x with
  | none => rw [ex] at h1; exact h1.elim
  | some a =>
    rw [ex] at h1
    have c := P1.coldFrom (Nat.le_refl _) ex
    refine ⟨v, .ty t, .type (tyN a), .type t, isT t a, rfl, .ty t, c.ty.1, kit_one c k, ?_⟩
    have h1 : AfG X.K XR W O θ n σ H (Ev.R.ok (Vl.d (.bool ([t].any fun t => isT t a))) s1) (fun x s' => ∀ v O' θ' H', Fr n O H O' H' → Ext θ θ' → Rel X.K O' θ' H' σ s' → Rep X.K O' θ' H' (.tmp n) [] v x → Q v H') := h1
    have e2 : ([t].any fun t => isT t a) = isT t a := by simp
    rw [e2] at h1
    exact h1 (.bl _) _ θ1 H1 (f1.trans fr_coldFrom (Nat.le_refl _)) e1 (R1.coldFrom n) (.d (.bl _))
/-- isinstance(e, (T, U)) -/
theorem wp_isi2 {X : Cx} {e : Expr} {t u : String} {fa : F} (h : PE X e (tCB (rIsiT X.K) (tCons (Wp X.K XR W fa) (tCons (tTup (tCons (tC (.ty t)) (tCons (tC (.ty u)) tNil))) tNil)))) (k : KOk t) (k2 : KOk u) : PE X e (Wp X.K XR W (cUn (isiD [t, u]) fa)) :=
  pe_imp h fun σ H Q ⟨s, O, θ, n, R, q⟩ => by
  refine ⟨s, O, θ, n, R, afg_bind (Nat.le_refl _) q fun x s1 h1 v O1 θ1 H1 f1 e1 R1 P1 => ?_⟩
  cases ex : Ev.cold x with
  | none => rw [ex] at h1; exact h1.elim
  | some a =>
    rw [ex] at h1
    have c := P1.coldFrom (Nat.le_refl _) ex
    refine ⟨show 2 ≤ sizeLine by decide, fun p hp => ?_⟩
    have R2 := R1.coldFrom n
    have fr2 : Fr n (coldFrom n O1) H1 (coldFrom n O1) (upd H1 p (.tup [.ty t, .ty u])) := fr_newC R2 hp
    have R3 := R2.newC (o := .tup [.ty t, .ty u]) hp
    have c2 := c.mono fr2.keeps
    refine ⟨v, p, [.ty t, .ty u], .type (tyN a), [.type t, .type u], isT t a || isT u a, rfl, upd_same, .cons (.ty t) (.cons (.ty u) .nil), c2.ty.1,
      kitAny_cons (kit_one c2 k) (fun z => kitAny_cons (kit_one c2 k2) (fun z2 => by rw [z, z2]; exact kitAny_nil) fun z2 => by rw [z2]; simp) (fun z => by rw [z]; simp), ?_⟩
    have h1 : AfG X.K XR W O θ n σ H (Ev.R.ok (Vl.d (.bool ([t, u].any fun t => isT t a))) s1) (fun x s' => ∀ v O' θ' H', Fr n O H O' H' → Ext θ θ' → Rel X.K O' θ' H' σ s' → Rep X.K O' θ' H' (.tmp n) [] v x → Q v H') := h1
    have e2 : ([t, u].any fun t => isT t a) = (isT t a || isT u a) := by simp
    rw [e2] at h1
    exact h1 (.bl _) _ θ1 _ ((f1.trans fr_coldFrom (Nat.le_refl _)).trans fr2 (Nat.le_refl _)) e1 R3 (.d (.bl _))

/-! ### texts -/
/-- a method of a text -/
def cMS (g : Str → List PyData → Option Vl) (fa : F) (fr : S → R (List Vl)) : F := fun s => (fa s).bind fun x s1 => match x with
  | .d (.str a) => (fr s1).bind fun xs s2 => match coldL xs with
    | some ys => Ev.R.of (g a ys) s2
    | none => .err
  | _ => .err
def rMS (K : PySem.W.Frag) (g : Str → List PyData → Option Vl) : V → List V → Hp → VK → Prop := fun x xs H Q => ∃ (n : Nat) (O : Ow) (θ : List Addr) (σ : L2.St) (s : S) (a : Str) (as : List PyData) (z : Vl),
  Rel K O θ H σ s ∧ x = .str a ∧ ColdA K O H xs as ∧ g a as = some z ∧ ∀ u O' H', Fr n O H O' H' → Rel K O' θ H' σ s → Rep K O' θ H' (.tmp n) [] u z → Q u H'
theorem wp_ms {X : Cx} {e : Expr} {g : Str → List PyData → Option Vl} {fa : F} {fr : S → R (List Vl)} (h : PE X e (tBM X.K "str" (rMS X.K g) (Wp X.K XR W fa) (WpA X.K XR W fr))) : PE X e (Wp X.K XR W (cMS g fa fr)) := pe_imp h fun σ H Q ⟨s, O, θ, n, R, q⟩ => by
  refine ⟨s, O, θ, n, R, afg_bind (Nat.le_refl _) q fun x s1 h1 v O1 θ1 H1 f1 e1 R1 P1 => ?_⟩
  cases P1 with
  | ref c => exact h1.elim
  | own c _ _ => exact h1.elim
  | d c =>
    cases c with
    | str a =>
      refine ⟨rfl, s1, O1, θ1, n, R1, afg_bind (Nat.le_refl _) (af_move h1 f1 e1) fun xs s2 h2 vs O2 θ2 H2 f2 e2 R2 P2 => ?_⟩
      cases ex : coldL xs with
      | none => rw [ex] at h2; exact h2.elim
      | some ys =>
        rw [ex] at h2
        cases eg : g a ys with
        | none => simp only [eg] at h2; exact h2.elim
        | some z =>
          simp only [eg] at h2
          exact ⟨n, coldFrom n O2, θ2, σ, s2, a, ys, z, R2.coldFrom n, rfl, P2.coldFrom (Nat.le_refl _) ex, eg, fun u O' H' f3 R3 P3 => h2 u O' θ2 H' ((f2.trans fr_coldFrom (Nat.le_refl _)).trans f3 (Nat.le_refl _)) e2 R3 P3⟩
    | _ => exact h1.elim
def joinD : Str → List PyData → Option Vl
  | a, [.list xs] => match asStrs xs with
    | some ys => if (ys.map (·.length)).sum + ys.length * a.length ≤ LIM then some (.d (.str (Txt.join a ys))) else none
    | none => none
  | a, [.tuple xs] => match asStrs xs with
    | some ys => if (ys.map (·.length)).sum + ys.length * a.length ≤ LIM then some (.d (.str (Txt.join a ys))) else none
    | none => none
  | _, _ => none
theorem ColdA.txt {vs : List V} : ∀ {ys : List Str}, ColdA K O H vs (ys.map .str) → vs = ys.map V.str
  | [], h => by cases h; rfl
  | y :: ys, h => by
    cases h with
    | cons c q =>
      cases c
      rw [List.map_cons, ← ColdA.txt q]
theorem m_join {X : Cx} : MtR X "str.join" (rMS X.K joinD) := by
  rintro pins t σ H x ws v us Q I rx rv ⟨n, O, θ, σ', s, a, as, z, R, rfl, c, e, q⟩
  match as, c, e with
  | [.list xs], c, e =>
    have e : (match asStrs xs with
      | some ys => if (ys.map (·.length)).sum + ys.length * a.length ≤ LIM then some (Vl.d (.str (Txt.join a ys))) else none
      | none => none) = some z := e
    obtain ⟨w, rfl, cw⟩ := c.one
    cases ea : asStrs xs with
    | none => rw [ea] at e; cases e
    | some ys =>
      rw [ea] at e
      simp only at e
      by_cases hz : (ys.map (·.length)).sum + ys.length * a.length ≤ LIM
      · rw [if_pos hz] at e
        cases e
        have := asStrs_eq ea
        subst this
        cases cw with
        | lst h1 h2 => exact mt_join pins t σ H _ _ v us Q I rx rv ⟨a, _, ys, rfl, rfl, .inl (by rw [← h2.txt]; exact h1.sq), Nat.le_trans hz (by decide), end_d R q (.str _)⟩
      · rw [if_neg hz] at e
        cases e
  | [.tuple xs], c, e =>
    have e : (match asStrs xs with
      | some ys => if (ys.map (·.length)).sum + ys.length * a.length ≤ LIM then some (Vl.d (.str (Txt.join a ys))) else none
      | none => none) = some z := e
    obtain ⟨w, rfl, cw⟩ := c.one
    cases ea : asStrs xs with
    | none => rw [ea] at e; cases e
    | some ys =>
      rw [ea] at e
      simp only at e
      by_cases hz : (ys.map (·.length)).sum + ys.length * a.length ≤ LIM
      · rw [if_pos hz] at e
        cases e
        have := asStrs_eq ea
        subst this
        cases cw with
        | tup h1 h2 => exact mt_join pins t σ H _ _ v us Q I rx rv ⟨a, _, ys, rfl, rfl, .inr (by rw [← h2.txt]; exact h1.sq), Nat.le_trans hz (by decide), end_d R q (.str _)⟩
      · rw [if_neg hz] at e
        cases e

/-- {e} -/
def fmtD : PyData → Option Vl
  | .str y => if y.length ≤ LIM then some (.d (.str y)) else none
  | .int i => if i.natAbs.log2 < 1920 then some (.d (.str (toString i))) else none
  | _ => none
theorem wp_fmt {X : Cx} {e : Expr} {fa : F} (h : PE X e (tFmt (Wp X.K XR W fa))) : PE X e (Wp X.K XR W (cUn fmtD fa)) := pe_imp h fun σ H Q ⟨s, O, θ, n, R, q⟩ => by
  refine ⟨s, O, θ, n, R, afg_bind (Nat.le_refl _) q fun x s1 h1 v O1 θ1 H1 f1 e1 R1 P1 => ?_⟩
  cases ex : Ev.cold x with
  | none => rw [ex] at h1; exact h1.elim
  | some a =>
    rw [ex] at h1
    have c := P1.coldFrom (Nat.le_refl _) ex
    have R2 := R1.coldFrom n
    have f2 : Fr n O H (coldFrom n O1) H1 := f1.trans fr_coldFrom (Nat.le_refl _)
    cases c with
    | str y =>
      have h1 : AfG X.K XR W O θ n σ H (Ev.R.of (if y.length ≤ LIM then some (Vl.d (.str y)) else none) s1) (fun x s' => ∀ v O' θ' H', Fr n O H O' H' → Ext θ θ' → Rel X.K O' θ' H' σ s' → Rep X.K O' θ' H' (.tmp n) [] v x → Q v H') := h1
      by_cases hz : y.length ≤ LIM
      · rw [if_pos hz] at h1
        exact .inl ⟨y, rfl, lim_le hz, h1 _ _ θ1 H1 f2 e1 R2 (.d (.str _))⟩
      · rw [if_neg hz] at h1
        exact h1.elim
    | int i =>
      have h1 : AfG X.K XR W O θ n σ H (Ev.R.of (if i.natAbs.log2 < 1920 then some (Vl.d (.str (toString i))) else none) s1) (fun x s' => ∀ v O' θ' H', Fr n O H O' H' → Ext θ θ' → Rel X.K O' θ' H' σ s' → Rep X.K O' θ' H' (.tmp n) [] v x → Q v H') := h1
      by_cases hz : i.natAbs.log2 < 1920
      · rw [if_pos hz] at h1
        exact .inr ⟨i, rfl, hz, h1 _ _ θ1 H1 f2 e1 R2 (.d (.str _))⟩
      · rw [if_neg hz] at h1
        exact h1.elim
    | _ => exact h1.elim
/-- f'..' of two parts or more -/
def jLoop : List F → Str → S → R Str
  | [], acc, s => .ok acc s
  | f :: fs, acc, s => (f s).bind fun x s1 => match x with
    | .d (.str y) => if (acc ++ y).length ≤ LIM then jLoop fs (acc ++ y) s1 else .err
    | _ => .err
def cJoin (fs : List F) : F := fun s => (jLoop fs Str.empty s).bind fun y s1 => .ok (.d (.str y)) s1
theorem tjs_of {X : Cx} : ∀ (fs : List F) (acc : Str) (s : S) (O : Ow) (θ : List Addr) (H : Hp) (n : Nat) (Q : Str → Hp → Prop), Rel K O θ H σ s →
    AfG K XR W O θ n σ H (jLoop fs acc s) (fun y s' => ∀ O' θ' H', Fr n O H O' H' → Ext θ θ' → Rel K O' θ' H' σ s' → Q y H') → tJs (fs.map fun f => Wp K XR W f) acc σ H Q
  | [], acc, s, O, θ, H, n, Q, R, q => q O θ H Fr.refl (.refl _) R
  | f :: fs, acc, s, O, θ, H, n, Q, R, q => by
    refine ⟨s, O, θ, n, R, afg_bind (Nat.le_refl _) q fun x s1 h1 v O1 θ1 H1 f1 e1 R1 P1 => ?_⟩
    cases P1 with
    | ref c => exact h1.elim
    | own c _ _ => exact h1.elim
    | d c =>
      cases c with
      | str y =>
        have h1 : AfG K XR W O θ n σ H (if (acc ++ y).length ≤ LIM then jLoop fs (acc ++ y) s1 else .err) (fun y s' => ∀ O' θ' H', Fr n O H O' H' → Ext θ θ' → Rel K O' θ' H' σ s' → Q y H') := h1
        by_cases hz : (acc ++ y).length ≤ LIM
        · rw [if_pos hz] at h1
          refine ⟨y, rfl, lim_le hz, tjs_of (X := X) fs (acc ++ y) s1 O1 θ1 H1 n Q R1 ?_⟩
          revert h1
          cases jLoop fs (acc ++ y) s1 with
          | err => exact fun z => z
          | exc x s' => exact fun h1 cls d O' θ' H' f2 e2 R q => h1 cls d O' θ' H' (f1.trans f2 (Nat.le_refl _)) (e1.trans e2) R q
          | ok x s' => exact fun h1 O' θ' H' f2 e2 R => h1 O' θ' H' (f1.trans f2 (Nat.le_refl _)) (e1.trans e2) R
        · rw [if_neg hz] at h1
          exact h1.elim
      | _ => exact h1.elim
theorem wp_join {X : Cx} {e1 e2 : Expr} {rest : List Expr} {pos : Pos} {fs : List F} (h : PJ X (e1 :: e2 :: rest) (fs.map fun f => Wp X.K XR W f)) : PE X (.JoinedStr (e1 :: e2 :: rest) pos) (Wp X.K XR W (cJoin fs)) :=
  pe_imp (pe_joined h) fun σ H Q ⟨s, O, θ, n, R, q⟩ => by
  refine tjs_of (X := X) fs Str.empty s O θ H n _ R ?_
  unfold cJoin at q
  revert q
  cases jLoop fs Str.empty s with
  | err => exact fun z => z
  | exc x s' => exact fun z => z
  | ok y s' => exact fun q O' θ' H' f e R => q _ O' θ' H' f e R (.d (.str _))

/-! ### *e in a row -/
def cStar (fa : F) (fr : S → R (List Vl)) : S → R (List Vl) := fun s => (fa s).bind fun x s1 => match cold x with
  | some (.list ys) => (fr s1).bind fun xs s2 => .ok (ys.map Vl.d ++ xs) s2
  | some (.tuple ys) => (fr s1).bind fun xs s2 => .ok (ys.map Vl.d ++ xs) s2
  | _ => .err
theorem Row.ofCold : ∀ {vs : List V} {ys : List PyData} {ws : List V} {xs : List Vl} {n : Nat}, ColdA K O H vs ys → Row K O θ H (n + ys.length) ws xs → Row K O θ H n (vs ++ ws) (ys.map Vl.d ++ xs)
  | _, _, _, _, _, .nil, h => h
  | v :: vs, y :: ys, _, _, n, .cons c q, h => .cons (.d c) (Row.ofCold q (by
    have e : n + 1 + ys.length = n + (y :: ys).length := by rw [List.length_cons]; omega
    rw [e]
    exact h))
theorem wa_star {X : Cx} {e : Expr} {es : List Expr} {p : Pos} {fa : F} {fr : S → R (List Vl)} (ha : PE X e (Wp X.K XR W fa)) (hr : PA X es (WpA X.K XR W fr)) (hs : starEach (.Starred e p :: es) X.env = (true, eval e X.env) :: starEach es X.env := by rfl) :
    PA X (.Starred e p :: es) (WpA X.K XR W (cStar fa fr)) := pa_imp (StX.pa_star ha hr hs) fun σ H Q ⟨s, O, θ, n, R, q⟩ => by
  refine ⟨s, O, θ, n, R, afg_bind (Nat.le_refl _) q fun x s1 h1 v O1 θ1 H1 f1 e1 R1 P1 => ?_⟩
  have key : ∀ (ys : List PyData) (vs : List V) (a : Addr), ColdA X.K (coldFrom n O1) H1 vs ys → AfG X.K XR W O θ n σ H ((fr s1).bind fun xs s2 => .ok (ys.map Vl.d ++ xs) s2) (fun xs s' => ∀ vs O' θ' H', Fr n O H O' H' → Ext θ θ' → Rel X.K O' θ' H' σ s' → Row X.K O' θ' H' n vs xs → Q vs H') →
      WpA X.K XR W fr σ H1 fun us H2 => Q (vs ++ us) H2 := fun ys vs a c h1 => by
    refine ⟨s1, coldFrom n O1, θ1, n + ys.length, R1.coldFrom n, afg_bind (Nat.le_add_right _ _) (afa_move h1 (f1.trans fr_coldFrom (Nat.le_refl _)) e1) fun xs s2 h2 us O2 θ2 H2 f2 e2 R2 P2 => ?_⟩
    exact h2 (vs ++ us) O2 θ2 H2 (f2.weak (Nat.le_add_right _ _)) e2 R2 (Row.ofCold (c.mono f2.keeps) P2)
  cases ex : Ev.cold x with
  | none => rw [ex] at h1; exact h1.elim
  | some y =>
    rw [ex] at h1
    have c := P1.coldFrom (Nat.le_refl _) ex
    cases c with
    | lst h2 c2 => exact ⟨_, _, rfl, .inr h2.sq, key _ _ 0 c2 h1⟩
    | tup h2 c2 => exact ⟨_, _, rfl, .inl h2.sq, key _ _ 0 c2 h1⟩
    | _ => exact h1.elim

/-! ### a op b op c -/
def cChain (g g' : PyData → PyData → Option Vl) (fa fb fc : F) : F := fun s => (fa s).bind fun x s1 => (fb s1).bind fun y s2 => match cold x, cold y with
  | some a, some b => match g a b with
    | some (.d (.bool true)) => (fc s2).bind fun w s3 => match cold w with
      | some c => Ev.R.of (g' b c) s3
      | none => .err
    | some (.d (.bool false)) => .ok (.d (.bool false)) s2
    | _ => .err
  | _, _ => .err
theorem i_chain {fa fb fc : F} {g g' : PyData → PyData → Option Vl} {Q : VK} (h : Wp K XR W (cChain g g' fa fb fc) σ H Q) : tChain (rG K g) (rG K g') (Wp K XR W fa) (Wp K XR W fb) (Wp K XR W fc) σ H Q := by
  obtain ⟨s, O, θ, n, R, q⟩ := h
  refine ⟨s, O, θ, n, R, afg_bind (Nat.le_refl _) q fun x s1 h1 v O1 θ1 H1 f1 e1 R1 P1 => ?_⟩
  refine ⟨s1, O1, θ1, n + 1, R1, afg_bind (Nat.le_succ _) (af_move h1 f1 e1) fun y s2 h2 w O2 θ2 H2 f2 e2 R2 P2 => ?_⟩
  have P1' := P1.fr f2 e2 (show n < n + 1 by omega)
  cases ex : Ev.cold x with
  | none => rw [ex] at h2; exact h2.elim
  | some a =>
    cases ey : Ev.cold y with
    | none => rw [ex, ey] at h2; exact h2.elim
    | some b =>
      rw [ex, ey] at h2
      have c1 := P1'.coldFrom (Nat.le_refl _) ex
      have c2 := P2.coldFrom (Nat.le_succ _) ey
      have Rc := R2.coldFrom n
      have fc0 : Fr n O1 H1 (coldFrom n O2) H2 := (f2.weak (Nat.le_succ _)).trans fr_coldFrom (Nat.le_refl _)
      cases eg : g a b with
      | none => simp only [eg] at h2; exact h2.elim
      | some z =>
        simp only [eg] at h2
        have h2 : Af K XR W O1 θ1 n σ H1 (match z with
          | .d (.bool true) => (fc s2).bind fun w s3 => match cold w with
            | some c => Ev.R.of (g' b c) s3
            | none => .err
          | .d (.bool false) => .ok (.d (.bool false)) s2
          | _ => .err) Q := by
          revert h2
          cases z with
          | d p => cases p with
            | bool k => cases k <;> exact fun z => z
            | _ => exact fun z => z
          | own _ => exact fun z => z
          | ref _ => exact fun z => z
        refine ⟨n, coldFrom n O2, θ2, σ, s2, a, b, z, Rc, c1, c2, eg, fun u O' H' f3 R3 P3 => ?_⟩
        have c2' := c2.mono f3.keeps
        cases P3 with
        | ref c => exact h2.elim
        | own c _ _ => exact h2.elim
        | d c =>
          cases c with
          | bl k =>
            refine ⟨k, rfl, ?_⟩
            cases k with
            | false => exact L2.iteF (h2 _ O' θ2 H' (fc0.trans f3 (Nat.le_refl _)) e2 R3 (.d (.bl _)))
            | true =>
              refine L2.iteT ⟨s2, O', θ2, n, R3, afg_bind (Nat.le_refl _) (af_move h2 (fc0.trans f3 (Nat.le_refl _)) e2) fun r s3 h3 t O4 θ4 H4 f4 e4 R4 P4 => ?_⟩
              cases er : Ev.cold r with
              | none => rw [er] at h3; exact h3.elim
              | some d =>
                rw [er] at h3
                cases eg' : g' b d with
                | none => simp only [eg'] at h3; exact h3.elim
                | some z' =>
                  simp only [eg'] at h3
                  have fc4 : Fr n O4 H4 (coldFrom n O4) H4 := fr_coldFrom
                  exact ⟨n, coldFrom n O4, θ4, σ, s3, b, d, z', R4.coldFrom n, (c2'.mono f4.keeps).mono fc4.keeps, P4.coldFrom (Nat.le_refl _) er, eg', fun u' O5 H5 f5 R5 P5 => h3 u' O5 θ4 H5 ((f4.trans fc4 (Nat.le_refl _)).trans f5 (Nat.le_refl _)) e4 R5 P5⟩
          | _ => exact h2.elim
theorem wp_chain {X : Cx} {a b c : Expr} {op op' : CmpOp} {pos : Pos} {fa fb fc : F} {g g' : PyData → PyData → Option Vl} (ha : PE X a (Wp X.K XR W fa)) (hb : PE X b (Wp X.K XR W fb)) (hc : PE X c (Wp X.K XR W fc)) (ho : OpR X (compareOp op) (rG X.K g)) (ho' : OpR X (compareOp op') (rG X.K g'))
    (hm : lastMarks [op, op'] [b, c] = false := by with_unfolding_all rfl) : PE X (.Compare a [op, op'] [b, c] pos) (Wp X.K XR W (cChain g g' fa fb fc)) := pe_imp (pe_chain ho ho' ha hb hc hm) fun _ _ _ q => i_chain q
theorem wpT_chain {X : Cx} {a b c : Expr} {op op' : CmpOp} {pos : Pos} {fa fb fc : F} {g g' : PyData → PyData → Option Vl} (ha : PE X a (Wp X.K XR W fa)) (hb : PE X b (Wp X.K XR W fb)) (hc : PE X c (Wp X.K XR W fc)) (ho : OpR X (compareOp op) (rG X.K g)) (ho' : OpR X (compareOp op') (rG X.K g'))
    (hm : lastMarks [op, op'] [b, c] = false := by with_unfolding_all rfl) : PT X (.Compare a [op, op'] [b, c] pos) (WpT X.K XR W (cT (cChain g g' fa fb fc))) := wpT_of (pt_chain ho ho' ha hb hc hm) fun _ _ _ q => i_chain q

/-! ### a - sign; pairs; ranges as data -/
def negD : PyData → Option Vl
  | .int i => some (.d (.int (-i)))
  | _ => none
theorem g_neg {X : Cx} : UnR X (unaryOp .USub) (rG1 X.K negD) := by
  rintro pins t σ H x v Q I rx ⟨n, O, θ, σ', s', a, z, R, ca, e, q⟩
  cases ca with
  | int i =>
    cases e
    exact un_neg pins t σ H _ v Q I rx ⟨_, rfl, end_d R q (.int _)⟩
  | _ => cases e
def sPar2 (i j : Nat) (fr : S → R (List Vl)) : FS := fun s => (fr s).bind fun xs s1 => match xs with
  | [x, y] => .ok .nx ⟨(s1.ρ.set i (some x)).set j (some y), s1.st⟩
  | _ => .err
theorem ws_par2 {X : Cx} {st : Stmt} {i j : Nat} {fr : S → R (List Vl)} (h : PS X st (tPar i j (WpA X.K XR W fr))) : PS X st (WpS X.K XR W (sPar2 i j fr)) := ps_imp h fun D σ H ⟨s, O, θ, R, q⟩ => ⟨s, O, θ, 0, R, afs_bind q fun xs s1 h1 vs O1 θ1 H1 f1 e1 R1 P1 => by
  match xs, P1 with
  | [x, y], .cons p1 (.cons p2 .nil) =>
    obtain ⟨R2, f2⟩ := R1.storeAt (i := i) p1
    obtain ⟨R3, f3⟩ := R2.storeAt (i := j) (p2.waits (i := i) (show 0 + 1 ≠ 0 by decide))
    have h1 : AfS X.K XR W O θ H (.ok .nx ⟨(s1.ρ.set i (some x)).set j (some y), s1.st⟩) D := h1
    exact ⟨_, _, rfl, h1 _ θ1 _ H1 ((f1.trans f2 (Nat.le_refl _)).trans f3 (Nat.le_refl _)) e1 R3⟩
  | [], .nil => exact h1.elim
  | [_], .cons _ .nil => exact h1.elim
  | _ :: _ :: _ :: _, .cons _ (.cons _ (.cons _ _)) => exact h1.elim⟩
def sPar3 (i j k : Nat) (fr : S → R (List Vl)) : FS := fun s => (fr s).bind fun xs s1 => match xs with
  | [x, y, z] => .ok .nx ⟨((s1.ρ.set i (some x)).set j (some y)).set k (some z), s1.st⟩
  | _ => .err
theorem ws_par3 {X : Cx} {st : Stmt} {i j k : Nat} {fr : S → R (List Vl)} (h : PS X st (tPar3 i j k (WpA X.K XR W fr))) : PS X st (WpS X.K XR W (sPar3 i j k fr)) := ps_imp h fun D σ H ⟨s, O, θ, R, q⟩ => ⟨s, O, θ, 0, R, afs_bind q fun xs s1 h1 vs O1 θ1 H1 f1 e1 R1 P1 => by
  match xs, P1 with
  | [x, y, z], .cons p1 (.cons p2 (.cons p3 .nil)) =>
    obtain ⟨R2, f2⟩ := R1.storeAt (i := i) p1
    obtain ⟨R3, f3⟩ := R2.storeAt (i := j) (p2.waits (i := i) (show 0 + 1 ≠ 0 by decide))
    obtain ⟨R4, f4⟩ := R3.storeAt (i := k) ((p3.waits (i := i) (show 0 + 1 + 1 ≠ 0 by decide)).waits (i := j) (show 0 + 1 + 1 ≠ 0 + 1 by decide))
    have h1 : AfS X.K XR W O θ H (.ok .nx ⟨((s1.ρ.set i (some x)).set j (some y)).set k (some z), s1.st⟩) D := h1
    exact ⟨_, _, _, rfl, h1 _ θ1 _ H1 (((f1.trans f2 (Nat.le_refl _)).trans f3 (Nat.le_refl _)).trans f4 (Nat.le_refl _)) e1 R4⟩
  | [], .nil => exact h1.elim
  | [_], .cons _ .nil => exact h1.elim
  | [_, _], .cons _ (.cons _ .nil) => exact h1.elim
  | _ :: _ :: _ :: _ :: _, .cons _ (.cons _ (.cons _ (.cons _ _))) => exact h1.elim⟩
/-- tuple(range(e)) -/
def trgD : PyData → Option Vl
  | .int k => if 0 ≤ k ∧ k ≤ 1000 then some (.d (.tuple (rangeD 0 k.toNat))) else none
  | _ => none
def lrgD : PyData → Option Vl
  | .int k => if 0 ≤ k ∧ k ≤ 1000 then some (dL (rangeD 0 k.toNat)) else none
  | _ => none
theorem cold_intR {a : Int} : ∀ (ks : List Nat), ColdA K O H (ks.map fun (i : Nat) => V.int (a + (i : Nat))) (ks.map fun (i : Nat) => PyData.int (a + (i : Nat)))
  | [] => .nil
  | k :: ks => .cons (.int _) (cold_intR ks)
theorem cold_rgV {k : Int} : ColdA K O H (rgV 0 k) (rangeD 0 k.toNat) := by
  unfold rgV rangeD
  rw [Int.sub_zero]
  exact cold_intR _
theorem wp_trg {X : Cx} {e : Expr} {fa : F} (h : PE X e (tTupRg (tRg1 (Wp X.K XR W fa)))) : PE X e (Wp X.K XR W (cUn trgD fa)) := pe_imp h fun σ H Q ⟨s, O, θ, n, R, q⟩ => by
  refine ⟨s, O, θ, n, R, afg_bind (Nat.le_refl _) q fun x s1 h1 v O1 θ1 H1 f1 e1 R1 P1 => ?_⟩
  cases ex : Ev.cold x with
  | none => rw [ex] at h1; exact h1.elim
  | some a =>
    rw [ex] at h1
    have c := P1.coldFrom (Nat.le_refl _) ex
    cases c with
    | int k =>
      have h1 : AfG X.K XR W O θ n σ H (Ev.R.of (if 0 ≤ k ∧ k ≤ 1000 then some (.d (.tuple (rangeD 0 k.toNat))) else none) s1) (fun x s' => ∀ v O' θ' H', Fr n O H O' H' → Ext θ θ' → Rel X.K O' θ' H' σ s' → Rep X.K O' θ' H' (.tmp n) [] v x → Q v H') := h1
      by_cases hz : 0 ≤ k ∧ k ≤ 1000
      · rw [if_pos hz] at h1
        exact ⟨k, rfl, .of_le (by omega) (by omega) (by omega) hz.1, end_tup (R1.coldFrom n) (fun u O' H' f3 R3 P3 => h1 u O' θ1 H' ((f1.trans fr_coldFrom (Nat.le_refl _)).trans f3 (Nat.le_refl _)) e1 R3 P3) cold_rgV⟩
      · rw [if_neg hz] at h1
        exact h1.elim
    | _ => exact h1.elim
theorem wp_lrg {X : Cx} {e : Expr} {fa : F} (h : PE X e (tLstRg (tRg1 (Wp X.K XR W fa)))) : PE X e (Wp X.K XR W (cUn lrgD fa)) := pe_imp h fun σ H Q ⟨s, O, θ, n, R, q⟩ => by
  refine ⟨s, O, θ, n, R, afg_bind (Nat.le_refl _) q fun x s1 h1 v O1 θ1 H1 f1 e1 R1 P1 => ?_⟩
  cases ex : Ev.cold x with
  | none => rw [ex] at h1; exact h1.elim
  | some a =>
    rw [ex] at h1
    have c := P1.coldFrom (Nat.le_refl _) ex
    cases c with
    | int k =>
      have h1 : AfG X.K XR W O θ n σ H (Ev.R.of (if 0 ≤ k ∧ k ≤ 1000 then some (dL (rangeD 0 k.toNat)) else none) s1) (fun x s' => ∀ v O' θ' H', Fr n O H O' H' → Ext θ θ' → Rel X.K O' θ' H' σ s' → Rep X.K O' θ' H' (.tmp n) [] v x → Q v H') := h1
      by_cases hz : 0 ≤ k ∧ k ≤ 1000
      · rw [if_pos hz] at h1
        exact ⟨k, rfl, .of_le (by omega) (by omega) (by omega) hz.1, end_lst (R1.coldFrom n) (fun u O' H' f3 R3 P3 => h1 u O' θ1 H' ((f1.trans fr_coldFrom (Nat.le_refl _)).trans f3 (Nat.le_refl _)) e1 R3 P3) cold_rgV⟩
      · rw [if_neg hz] at h1
        exact h1.elim
    | _ => exact h1.elim
end
end Ev

/-! Part 13: the law's head. -/
namespace Ev
open PySem PySem.Spec PyProof.Rows L2

/-- a raised error, in the heap: to be told by each program; here none is looked at -/
def X0 : XRt := fun _ _ _ _ _ => True
theorem X0.steady : XSteady X0 := fun _ _ _ _ _ _ _ _ _ => True.intro

theorem cold_script {K : PySem.W.Frag} {O : Ow} {H : Hp} : ∀ ns : List Int, ColdA K O H (ns.map V.int) (ns.map .int)
  | [] => .nil
  | n :: r => .cons (.int n) (cold_script r)

section
variable {P : Program} {w : World} {K : PySem.W.Frag} {mg mb : Str → Option Value} {XR : XRt} {k : Nat} {fa a : Addr} {fd : FuncData} {x : Str} {c : Fn} {t : Shared} {vs : List Value} {ns : List Int}
/-- from a heap that tracks the script at the most -/
theorem go_law (KX : K.In t.heap) (n1 : t.heap.Ns mainGlobals mg) (n2 : t.heap.Ns builtinsNs mb) (n3 : ∀ y : Str, y ≠ "__name__" → mb y = bootBuiltins y) (lim : t.heap.NoLimit) (gs : t.gens = #[]) (hr : Room k callerA)
    (F : ∀ base : Heap, K.In base → base.Ns mainGlobals mg → FnG P w K mg base XR k fa fd [x] c) (bd : ∀ (s : Shared) (u : Value), BindsTo s fd ⟨[u], []⟩ [(x, u)])
    {H : Hp} (ho : ∀ b, H b = none ∨ ∃ o xs, H b = some (.frz o (.lst xs)) ∧ t.heap.get? b = some o ∧ (∃ it n, o.data = .seq it n) ∧ K.lookup b = none) (ok : HOk P w H t.heap)
    (st : StL K (fun _ => none) H a (ns.map V.int)) (law : ∃ s', c [.d (.list (ns.map .int))] [] = .ok (.d (.bool true)) s') :
    codeAny (model P w) callerA (.call (.ref fa) ⟨[.ref a], []⟩) (fun r s' => r = .ok (.ret (.bool true)) ∧ OldK t.heap s'.heap ∧ s'.os = t.os ∧ AllBare s'.gens) t := by
  have frees : ∀ {b : Addr} {o : Obj} {es : Array DictEntry} {ep : Nat}, t.heap.get? b = some o → o.data = .dict es ep → H b = none := fun {b o es ep} e d => (ho b).elim id fun ⟨o', xs, _, e', ⟨it, n, d'⟩, _⟩ => by
    rw [e] at e'
    cases e'
    rw [d] at d'
    cases d'
  have nss : ∀ {b : Addr} {m : Str → Option Value}, t.heap.Ns b m → (hidT t.heap H).Ns b m := fun ⟨o, es, ep, e, d, r⟩ => ⟨o, es, ep, hidT_get e (frees e d), d, r⟩
  have KB : K.In (hidT t.heap H) := fun b o e => hidT_get (KX b o e) ((ho b).elim id fun ⟨_, _, _, _, _, z⟩ => by rw [e] at z; cases z)
  have M : Mod K mg (hidT t.heap H) := ⟨KB, nss n1, ⟨mb, nss n2, n3⟩, lim.elim fun mc h => ⟨mc, nss h.1, h.2⟩⟩
  have E0 : Env0 P w K mg (hidT t.heap H) callerA [] t H := ⟨rfl, M, fun _ _ e => of_hidT e, Nat.le_of_eq (hidT_size _ _), trivial, fun b hb => absurd (show b ∈ ([] : List Addr) from hb) List.not_mem_nil, ok, .of_eq gs⟩
  obtain ⟨s', law⟩ := law
  have sp : spF K XR [x].length c [.ref a] H (fun v _ => v = .bl true) (fun _ _ _ => False) := by
    refine ⟨rfl, [.d (.list (ns.map .int))], [], fun _ => none, [], ⟨rfl, fun l y e => by simp at e, fun b t e => by cases e⟩, .d (.lst st (cold_script ns)) .nil, ?_⟩
    rw [law]
    intro v O' θ' H' _ _ _ P'
    cases P' with
    | d q =>
      cases q
      rfl
  have run := (F _ KB (nss n1)).go callerA [] t H ⟨[.ref a], []⟩ [.ref a] [.ref a] _ _ hr rfl E0 (bd t (.ref a)) (.cons rfl .nil) sp
  refine codeAny_mono run fun r s2 h => ?_
  match r, h with
  | .error e, ⟨_, _, _, _, _, _, _, _, _, _, _, _, z⟩ => exact z.elim
  | .ok (.ret u), ⟨v, H', os, br, un, ok', ru, hv⟩ =>
    have hv : v = .bl true := hv
    subst hv
    cases (show u = Value.bool true from ru)
    refine ⟨rfl, OldK.of_keep fun b o e => ?_, os, br⟩
    rcases ho b with z | ⟨o', xs, z, e', _, _⟩
    · exact un.keep b o e z (fun z => absurd z List.not_mem_nil) List.not_mem_nil
    · rw [e] at e'
      cases e'
      exact (ok' b _ (un.frzs b o _ z)).1
end
/-- the whole law, from what its evaluator says -/
theorem walk_ev {l : PySem.W.OpenLaw} {n k : Nat} {q : Program} {loose : List Str} {XP : (Str → Option Value) → Heap → Prop} {YP : World → Heap → Prop} {d : DefRec} {K : Params → PySem.W.Frag} {x : Str} {XR : XRt} {c : Fn}
    (hn : l.most = some n) (hn2 : n ≤ sizeLine) (hdf : d.params.defaults = []) (hr : Room k callerA) (hY : ∀ (w : World) (h : Heap), YP w h → (K w.params).In h)
    (F : ∀ (w : World) (mg : Str → Option Value) (fa : Addr) (h : Heap), (K w.params).In h → h.Ns mainGlobals mg → mg d.name = some (.ref fa) →
      ∃ fd : FuncData, (∀ (s : Shared) (u : Value), BindsTo s fd ⟨[u], []⟩ [(x, u)]) ∧ ∀ base : Heap, (K w.params).In base → base.Ns mainGlobals mg → FnG l.prog w (K w.params) mg base XR k fa fd [x] c)
    (law : ∀ ns : List Int, ns.length ≤ n → (∀ z ∈ ns, Builtin.Int.intBits z ≤ 1048576) → ∃ s', c [.d (.list (ns.map .int))] [] = .ok (.d (.bool true)) s') :
    PySem.W.WalkO q loose XP YP l.row.toRowW d [] (fun f vs => PySem.call f vs) := by
  refine Att.attach_callB hn hdf ?_
  intro w s₀ t mg mb fa o pm cd doc a vs ns G Y ho hd hcd hmg obj hin len bits gs
  have KX := hY w _ Y
  obtain ⟨fd, bd, hF⟩ := F w mg fa _ KX G.T.g hmg
  have rv := vals_ints hin
  have hl : (ns.map V.int).length ≤ sizeLine := by rw [List.length_map]; exact Nat.le_trans len hn2
  have law' := law ns len bits
  cases ek : (K w.params).lookup a with
  | some ob =>
    have e := KX a ob ek
    rw [obj] at e
    cases e
    exact go_law (H := fun _ => none) KX G.T.g G.T.b G.T.builtins G.T.nolimit gs hr hF bd (fun _ => .inl rfl) (fun b u z => by cases z) (.inr ⟨vs, 0, by simpa using ek, hl, rv⟩) law'
  | none =>
    refine go_law (H := fun b => if b = a then some (.frz { cls := .type "list", data := .seq vs.toArray } (.lst (ns.map V.int))) else none) KX G.T.g G.T.b G.T.builtins G.T.nolimit gs hr hF bd (fun b => ?_) (fun b u z => ?_) (.inl ⟨.inr ⟨_, if_pos rfl⟩, rfl⟩) law'
    · by_cases hb : b = a
      · subst hb
        exact .inr ⟨_, _, if_pos rfl, obj, ⟨_, _, rfl⟩, ek⟩
      · exact .inl (if_neg hb)
    · by_cases hb : b = a
      · subst hb
        have z : (if b = b then some (HO.frz { cls := .type "list", data := .seq vs.toArray } (.lst (ns.map V.int))) else none) = some u := z
        rw [if_pos rfl] at z
        cases z
        exact ⟨obj, hl, vs, _, rv, obj⟩
      · have z : (if b = a then some (HO.frz { cls := .type "list", data := .seq vs.toArray } (.lst (ns.map V.int))) else none) = some u := z
        rw [if_neg hb] at z
        cases z
end Ev

/-! Part 14: words for the printed walks. -/
namespace Ev
open PySem PySem.Spec PyProof.Rows L2

section
variable {X : Cx} {XR : XRt} {W : WX} {pos : Pos}

/-! values -/
theorem e_v (i : Nat) {x : Str} (hN : X.N[i]? = some x := by rfl) (hv : Vis X.env.scope x := by first | exact Or.inl rfl | exact Or.inr (Or.inl rfl) | exact Or.inr (Or.inr rfl)) (hd : (x == ("__debug__" : Str)) = false := by decide)
    (hc : (x == ("__classdict__" : Str)) = false := by decide) : PE X (.Name x pos) (Wp X.K XR W (cVar i)) := wp_var (pv i hN hv hd hc)
theorem e_int {i : Int} {j : Nat} : PE X (.Constant (.int i) j pos) (Wp X.K XR W (cCon (.int i))) := wp_con pe_int fun _ _ => .int _
theorem e_str {x : Str} {j : Nat} : PE X (.Constant (.str x) j pos) (Wp X.K XR W (cCon (.str x))) := wp_con pe_str fun _ _ => .str _
theorem e_bl {x : Bool} {j : Nat} : PE X (.Constant (.bool x) j pos) (Wp X.K XR W (cCon (.bool x))) := wp_con pe_bl fun _ _ => .bl _
theorem e_non {j : Nat} : PE X (.Constant .none j pos) (Wp X.K XR W (cCon .none)) := wp_con pe_non fun _ _ => .non
theorem e_gstr {x v : Str} (hm : ∃ t, X.mg x = some (.str v t)) (hg : Gl X x := by rfl) (hd : (x == ("__debug__" : Str)) = false := by decide) : PE X (.Name x pos) (Wp X.K XR W (cCon (.str v))) :=
  hm.elim fun t h => wp_con (pe_glob hg h (v := .str v) ⟨t, rfl⟩ hd) fun _ _ => .str _
theorem e_gint {x : Str} {v : Int} (hm : ∃ t, X.mg x = some (.int v t)) (hg : Gl X x := by rfl) (hd : (x == ("__debug__" : Str)) = false := by decide) : PE X (.Name x pos) (Wp X.K XR W (cCon (.int v))) :=
  hm.elim fun t h => wp_con (pe_glob hg h (v := .int v) ⟨t, rfl⟩ hd) fun _ _ => .int _

/-! operations -/
theorem e_bin {a b : Expr} {op : Operator} {fa fb : F} {g : PyData → PyData → Option Vl} (ho : OpR X (binaryOp op) (rG X.K g)) (ha : PE X a (Wp X.K XR W fa)) (hb : PE X b (Wp X.K XR W fb)) : PE X (.BinOp a op b pos) (Wp X.K XR W (cBin g fa fb)) := wp_bin ha hb ho
theorem e_cmp {a b : Expr} {op : CmpOp} {fa fb : F} {g : PyData → PyData → Option Vl} (ho : OpR X (compareOp op) (rG X.K g)) (ha : PE X a (Wp X.K XR W fa)) (hb : PE X b (Wp X.K XR W fb)) (hm : behindInMarks op b = false := by rfl) :
    PE X (.Compare a [op] [b] pos) (Wp X.K XR W (cBin g fa fb)) := wp_cmp ha hb ho hm
theorem t_cmp {a b : Expr} {op : CmpOp} {fa fb : F} {g : PyData → PyData → Option Vl} (ho : OpR X (compareOp op) (rG X.K g)) (ha : PE X a (Wp X.K XR W fa)) (hb : PE X b (Wp X.K XR W fb)) (hm : behindInMarks op b = false := by rfl) :
    PT X (.Compare a [op] [b] pos) (WpT X.K XR W (cT (cBin g fa fb))) := wpT_cmp ha hb ho hm
theorem t_val {e : Expr} {f : F} (h : PE X e (Wp X.K XR W f)) (he : ∀ whole, isTrue e X.env whole = (do let v ← whole; standAt e.pos; holding [v] (truthy v)) := by intro _; rfl) : PT X e (WpT X.K XR W (cT f)) := wpT_val h he
theorem e_cb {x : Str} {p : Pos} {e : Expr} {es : List Expr} {id : String} {g : List PyData → Option Vl} {fr : S → R (List Vl)} (hc : CallR X (.builtin id) (rGA X.K g)) (hm : X.mg x = none) (ha : PA X (e :: es) (WpA X.K XR W fr))
    (hv : bootBuiltins x = some (.builtin id) := by decide +kernel) (hg : Gl X x := by rfl) (hn : x ≠ "__name__" := by decide) (hd : (x == ("__debug__" : Str)) = false := by decide)
    (he : starEach (e :: es) X.env = (false, eval e X.env) :: starEach es X.env := by rfl) (hpl : (backTo pos (starEach es X.env)).any (·.1) = false := by rfl) : PE X (.Call (.Name x p) (e :: es) [] pos) (Wp X.K XR W (cArgs g fr)) :=
  pe_imp (pe_callB hc hg hm hv ha hn hd he hpl) fun _ _ _ q => i_args q
theorem e_ct {x : Str} {p : Pos} {e : Expr} {es : List Expr} {id : String} {g : List PyData → Option Vl} {fr : S → R (List Vl)} (hc : CallR X (.type id) (rGA X.K g)) (hm : X.mg x = none) (ha : PA X (e :: es) (WpA X.K XR W fr))
    (hv : bootBuiltins x = some (.type id) := by decide +kernel) (hg : Gl X x := by rfl) (hn : x ≠ "__name__" := by decide) (hd : (x == ("__debug__" : Str)) = false := by decide)
    (he : starEach (e :: es) X.env = (false, eval e X.env) :: starEach es X.env := by rfl) (hpl : (backTo pos (starEach es X.env)).any (·.1) = false := by rfl) : PE X (.Call (.Name x p) (e :: es) [] pos) (Wp X.K XR W (cArgs g fr)) :=
  pe_imp (pe_callTy hc hg hm hv ha hn hd he hpl) fun _ _ _ q => i_args q
theorem e_len (i : Nat) {x : Str} {p q : Pos} (hm : X.mg "len" = none) (hN : X.N[i]? = some x := by rfl) (hv : Vis X.env.scope x := by first | exact Or.inl rfl | exact Or.inr (Or.inl rfl) | exact Or.inr (Or.inr rfl)) (hd : (x == ("__debug__" : Str)) = false := by decide)
    (hc : (x == ("__classdict__" : Str)) = false := by decide) (hg : Gl X "len" := by rfl) : PE X (.Call (.Name "len" p) [.Name x q] [] pos) (Wp X.K XR W (cLen i)) := wp_len (pe_callB g_lenP hg hm PySem.boot_len (pa_cons (pv i hN hv hd hc) pa_nil))
theorem e_rd (i : Nat) {x : Str} {p : Pos} {b : Expr} {fx : F} (hb : PE X b (Wp X.K XR W fx)) (hs : PlainIx b := by exact fun _ _ => rfl) (hN : X.N[i]? = some x := by rfl) (hv : Vis X.env.scope x := by first | exact Or.inl rfl | exact Or.inr (Or.inl rfl) | exact Or.inr (Or.inr rfl))
    (hd : (x == ("__debug__" : Str)) = false := by decide) (hc : (x == ("__classdict__" : Str)) = false := by decide) : PE X (.Subscript (.Name x p) b pos) (Wp X.K XR W (cRd i fx)) := wp_rd (pv i hN hv hd hc) hb hs
theorem e_sub {a b : Expr} {fa fb : F} (ha : PE X a (Wp X.K XR W fa)) (hb : PE X b (Wp X.K XR W fb)) (hs : PlainIx b := by exact fun _ _ => rfl) : PE X (.Subscript a b pos) (Wp X.K XR W (cBin ixD fa fb)) := wp_sub ha hb hs
theorem e_ty {x : Str} {t : String} {p : Pos} (hm : X.mg x = none) (hv : bootBuiltins x = some (.type t) := by decide +kernel) (hg : Gl X x := by rfl) (hn : x ≠ "__name__" := by decide) (hd : (x == ("__debug__" : Str)) = false := by decide) : PE X (.Name x p) (tC (.ty t)) :=
  pe_bltn hg hm hv rfl hn hd
theorem e_isi {a c : Expr} {p : Pos} {t : String} {fa : F} (k : KOk t) (hm : X.mg "isinstance" = none) (ha : PE X a (Wp X.K XR W fa)) (hc : PE X c (tC (.ty t))) (hg : Gl X "isinstance" := by rfl)
    (h1 : starEach [a, c] X.env = (false, eval a X.env) :: starEach [c] X.env := by rfl) (h2 : starEach [c] X.env = (false, eval c X.env) :: starEach [] X.env := by rfl) (hpl : (backTo pos (starEach [c] X.env)).any (·.1) = false := by rfl) :
    PE X (.Call (.Name "isinstance" p) [a, c] [] pos) (Wp X.K XR W (cUn (isiD [t]) fa)) := wp_isi (pe_callB call_isi hg hm boot_isinstance (pa_cons ha (pa_cons hc pa_nil h2) h1) (by decide) (by decide) h1 hpl) k
theorem e_isi2 {a c d : Expr} {p tp : Pos} {j : Nat} {t u : String} {fa : F} (k : KOk t) (k2 : KOk u) (hm : X.mg "isinstance" = none) (ha : PE X a (Wp X.K XR W fa)) (hc : PE X c (tC (.ty t))) (hd : PE X d (tC (.ty u))) (hg : Gl X "isinstance" := by rfl)
    (h1 : starEach [a, .Tuple [c, d] j tp] X.env = (false, eval a X.env) :: starEach [.Tuple [c, d] j tp] X.env := by rfl) (h2 : starEach [c, d] X.env = (false, eval c X.env) :: starEach [d] X.env := by rfl) (h3 : starEach [d] X.env = (false, eval d X.env) :: starEach [] X.env := by rfl) :
    PE X (.Call (.Name "isinstance" p) [a, .Tuple [c, d] j tp] [] pos) (Wp X.K XR W (cUn (isiD [t, u]) fa)) := wp_isi2 (pe_callB call_isiT hg hm boot_isinstance (pa_cons ha (pa_cons (pe_tup (pa_cons hc (pa_cons hd pa_nil h3) h2)) pa_nil rfl) h1) (by decide) (by decide) h1 rfl) k k2
theorem a_cons {a : Expr} {es : List Expr} {fa : F} {fr : S → R (List Vl)} (ha : PE X a (Wp X.K XR W fa)) (hr : PA X es (WpA X.K XR W fr)) (hs : starEach (a :: es) X.env = (false, eval a X.env) :: starEach es X.env := by rfl) : PA X (a :: es) (WpA X.K XR W (cCons fa fr)) := wa_cons ha hr hs
theorem e_app (i : Nat) {x : Str} {ap xp : Pos} {a : Expr} {fa : F} (ha : PE X a (Wp X.K XR W fa)) (hN : X.N[i]? = some x := by rfl) (hv : Vis X.env.scope x := by first | exact Or.inl rfl | exact Or.inr (Or.inl rfl) | exact Or.inr (Or.inr rfl))
    (hd : (x == ("__debug__" : Str)) = false := by decide) (hc : (x == ("__classdict__" : Str)) = false := by decide)
    (h1 : attributeBase (.Name x xp) "append" X.env (eval (.Name x xp) X.env) = eval (.Name x xp) X.env := by rfl)
    (h2 : ((backTo pos (starEach [a] X.env)).all (fun x => !x.1) && (backToKw pos (keywordEach [] X.env)).all (fun x => x.1.isSome) && decide ([a].length + ([] : List Keyword).length + (if ([] : List Keyword).isEmpty then 0 else 1) < 30)) = true := by rfl)
    (h3 : (ap.endLine == pos.line) = true := by rfl) (h4 : starEach [a] X.env = (false, eval a X.env) :: starEach [] X.env := by rfl) (h5 : (backTo pos (starEach [] X.env)).any (·.1) = false := by rfl) :
    PE X (.Call (.Attribute (.Name x xp) "append" ap) [a] [] pos) (Wp X.K XR W (cMut i appD (cCons fa cNil))) :=
  wp_mut (pe_bm PySem.F.plainAttrs_list PySem.F.slot_list_append PySem.F.type_list_append m_append (pv i hN hv hd hc) (wa_cons ha wa_nil h4) h1 h2 h3 h4 h5)
theorem e_ins (i : Nat) {x : Str} {ap xp : Pos} {a b : Expr} {fr : S → R (List Vl)} (ha : PA X [a, b] (WpA X.K XR W fr)) (hN : X.N[i]? = some x := by rfl) (hv : Vis X.env.scope x := by first | exact Or.inl rfl | exact Or.inr (Or.inl rfl) | exact Or.inr (Or.inr rfl))
    (hd : (x == ("__debug__" : Str)) = false := by decide) (hc : (x == ("__classdict__" : Str)) = false := by decide)
    (h1 : attributeBase (.Name x xp) "insert" X.env (eval (.Name x xp) X.env) = eval (.Name x xp) X.env := by rfl)
    (h2 : ((backTo pos (starEach [a, b] X.env)).all (fun x => !x.1) && (backToKw pos (keywordEach [] X.env)).all (fun x => x.1.isSome) && decide ([a, b].length + ([] : List Keyword).length + (if ([] : List Keyword).isEmpty then 0 else 1) < 30)) = true := by rfl)
    (h3 : (ap.endLine == pos.line) = true := by rfl) (h4 : starEach [a, b] X.env = (false, eval a X.env) :: starEach [b] X.env := by rfl) (h5 : (backTo pos (starEach [b] X.env)).any (·.1) = false := by rfl) :
    PE X (.Call (.Attribute (.Name x xp) "insert" ap) [a, b] [] pos) (Wp X.K XR W (cMut i insD fr)) :=
  wp_mut (pe_bm PySem.F.plainAttrs_list PySem.F.slot_list_insert PySem.F.type_list_insert m_insert (pv i hN hv hd hc) ha h1 h2 h3 h4 h5)
theorem e_pop (i : Nat) {x : Str} {ap xp : Pos} {a : Expr} {fr : S → R (List Vl)} (ha : PA X [a] (WpA X.K XR W fr)) (hN : X.N[i]? = some x := by rfl) (hv : Vis X.env.scope x := by first | exact Or.inl rfl | exact Or.inr (Or.inl rfl) | exact Or.inr (Or.inr rfl))
    (hd : (x == ("__debug__" : Str)) = false := by decide) (hc : (x == ("__classdict__" : Str)) = false := by decide)
    (h1 : attributeBase (.Name x xp) "pop" X.env (eval (.Name x xp) X.env) = eval (.Name x xp) X.env := by rfl)
    (h2 : ((backTo pos (starEach [a] X.env)).all (fun x => !x.1) && (backToKw pos (keywordEach [] X.env)).all (fun x => x.1.isSome) && decide ([a].length + ([] : List Keyword).length + (if ([] : List Keyword).isEmpty then 0 else 1) < 30)) = true := by rfl)
    (h3 : (ap.endLine == pos.line) = true := by rfl) (h4 : starEach [a] X.env = (false, eval a X.env) :: starEach [] X.env := by rfl) (h5 : (backTo pos (starEach [] X.env)).any (·.1) = false := by rfl) :
    PE X (.Call (.Attribute (.Name x xp) "pop" ap) [a] [] pos) (Wp X.K XR W (cMut i popD fr)) :=
  wp_mut (pe_bm PySem.F.plainAttrs_list PySem.F.slot_list_pop PySem.F.type_list_pop m_popAt (pv i hN hv hd hc) ha h1 h2 h3 h4 h5)
theorem e_join {o a : Expr} {ap : Pos} {fo : F} {fr : S → R (List Vl)} (ho : PE X o (Wp X.K XR W fo)) (ha : PA X [a] (WpA X.K XR W fr))
    (h1 : attributeBase o "join" X.env (eval o X.env) = eval o X.env := by rfl)
    (h2 : ((backTo pos (starEach [a] X.env)).all (fun x => !x.1) && (backToKw pos (keywordEach [] X.env)).all (fun x => x.1.isSome) && decide ([a].length + ([] : List Keyword).length + (if ([] : List Keyword).isEmpty then 0 else 1) < 30)) = true := by rfl)
    (h3 : (ap.endLine == pos.line) = true := by rfl) (h4 : starEach [a] X.env = (false, eval a X.env) :: starEach [] X.env := by rfl) (h5 : (backTo pos (starEach [] X.env)).any (·.1) = false := by rfl) :
    PE X (.Call (.Attribute o "join" ap) [a] [] pos) (Wp X.K XR W (cMS joinD fo fr)) :=
  wp_ms (pe_bm PySem.F.plainAttrs_str PySem.F.slot_str_join PySem.F.type_str_join m_join ho ha h1 h2 h3 h4 h5)
theorem e_fmt {e : Expr} {f : F} (h : PE X e (Wp X.K XR W f)) : PE X (.FormattedValue e (-1) none pos) (Wp X.K XR W (cUn fmtD f)) := wp_fmt (pe_fmt h)
theorem j_nil : PJ X [] (([] : List F).map fun f => Wp X.K XR W f) := .nil
theorem j_cons {e : Expr} {es : List Expr} {f : F} {fs : List F} (h : PE X e (Wp X.K XR W f)) (r : PJ X es (fs.map fun f => Wp X.K XR W f)) : PJ X (e :: es) ((f :: fs).map fun f => Wp X.K XR W f) := .cons h r
theorem e_trg {a : Expr} {p p2 : Pos} {f : F} {pos2 : Pos} (hc : X.calm = true) (m1 : X.mg "tuple" = none) (m2 : X.mg "range" = none) (ha : PE X a (Wp X.K XR W f)) (g1 : Gl X "tuple" := by rfl) (g2 : Gl X "range" := by rfl)
    (na : starEach [a] X.env = (false, eval a X.env) :: starEach [] X.env := by rfl) (nb : starEach [.Call (.Name "range" p2) [a] [] pos2] X.env = (false, eval (.Call (.Name "range" p2) [a] [] pos2) X.env) :: starEach [] X.env := by rfl) :
    PE X (.Call (.Name "tuple" p) [.Call (.Name "range" p2) [a] [] pos2] [] pos) (Wp X.K XR W (cUn trgD f)) := wp_trg (pe_tupRg hc g1 m1 (prg_1 g2 m2 ha na) nb)
theorem e_lrg {a : Expr} {p p2 : Pos} {f : F} {pos2 : Pos} (hc : X.calm = true) (m1 : X.mg "list" = none) (m2 : X.mg "range" = none) (ha : PE X a (Wp X.K XR W f)) (g1 : Gl X "list" := by rfl) (g2 : Gl X "range" := by rfl)
    (na : starEach [a] X.env = (false, eval a X.env) :: starEach [] X.env := by rfl) (nb : starEach [.Call (.Name "range" p2) [a] [] pos2] X.env = (false, eval (.Call (.Name "range" p2) [a] [] pos2) X.env) :: starEach [] X.env := by rfl) :
    PE X (.Call (.Name "list" p) [.Call (.Name "range" p2) [a] [] pos2] [] pos) (Wp X.K XR W (cUn lrgD f)) := wp_lrg (pe_listRg hc g1 m1 (prg_1 g2 m2 ha na) nb)

/-! targets, walks, comprehensions -/
theorem g_nm (i : Nat) {x : Str} (nd : X.N.Nodup) (hi : X.N[i]? = some x := by rfl) (hx : Loc X.env.scope x := by first | exact Or.inl rfl | exact Or.inr rfl)
    (hf : X.fn x = true ∨ X.env.scope.names.lookup x = some .local := by first | exact .inl rfl | exact .inr rfl | assumption) : PG X (.Name x pos) (WpG X.K (.nm i)) := wg_nm (pg_name nd hi hx hf)
theorem g_tp {es : List Expr} {k : Nat} {ts : Tgs} (hc : X.calm = true) (h : PGs X es (WpGs X.K ts)) (hn : (assignEach es X.env).length = ts.len := by rfl) (hst : (assignEach es X.env).findIdx? (·.1) = none := by rfl) : PG X (.Tuple es k pos) (WpG X.K (.tp ts)) := wg_tp hc h hn hst
theorem gs_cons {e : Expr} {es : List Expr} {t : Tg} {ts : Tgs} (h1 : PG X e (WpG X.K t)) (h2 : PGs X es (WpGs X.K ts)) (hs : (assignEach (e :: es) X.env).map (·.2) = assign e X.env :: (assignEach es X.env).map (·.2) := by rfl) : PGs X (e :: es) (WpGs X.K (.cons t ts)) := wgs_cons h1 h2 hs
theorem takesW0 {s : Shared} {H : Hp} {sc : Scope} {ce : Env} {fp : List Addr} : Takes (X.blk s H sc ce fp) W0 := fun _ _ ⟨_, _, _, _, _, _, _, _, _, _, _, _, _, _, _, _, w⟩ => w
theorem f_yes : PTs X [] (WpT X.K XR W cYes) := ⟨fun pins s σ H Q I ⟨s0, O, θ, n, R, q⟩ => pts_nil.run pins s σ H Q I (q O θ H Fr.refl (.refl _) R)⟩
theorem f_one {c : Expr} {f : S → R Bool} (h : PT X c (WpT X.K XR W f)) : PTs X [c] (WpT X.K XR W f) := pts_one h

/-! statements -/
theorem s_set (i : Nat) {x : Str} {e : Expr} {p : Pos} {f : F} (nd : X.N.Nodup) (he : PE X e (Wp X.K XR W f)) (hi : X.N[i]? = some x := by rfl) (hx : Loc X.env.scope x := by first | exact Or.inl rfl | exact Or.inr rfl)
    (hs : swapsWith e (some (.Name x p)) pos.line X.env = pure false := by rfl) (hf : X.fn x = true ∨ X.env.scope.names.lookup x = some .local := by first | exact .inl rfl | exact .inr rfl) : PS X (.Assign [.Name x p] e pos) (WpS X.K XR W (sAsg i f)) :=
  ws_asg (ps_set nd hi hx he hs hf) fun _ _ _ q => q
theorem s_share (i : Nat) {x : Str} {e : Expr} {p : Pos} {f : F} (nd : X.N.Nodup) (he : PE X e (Wp X.K XR W f)) (hi : X.N[i]? = some x := by rfl) (hx : Loc X.env.scope x := by first | exact Or.inl rfl | exact Or.inr rfl)
    (hs : swapsWith e (some (.Name x p)) pos.line X.env = pure false := by rfl) (hf : X.fn x = true ∨ X.env.scope.names.lookup x = some .local := by first | exact .inl rfl | exact .inr rfl) : PS X (.Assign [.Name x p] e pos) (WpS X.K XR W (sShare i f)) :=
  ws_share (ps_set nd hi hx he hs hf) fun _ _ _ q => q
theorem s_asgT {tg e : Expr} {t : Tg} {f : F} (hg : PG X tg (WpG X.K t)) (he : PE X e (Wp X.K XR W f)) (hs : swapsWithSole [tg] e pos.line X.env = pure false := by rfl) (hw : swappedStores [tg] e X.env = pure none := by rfl)
    (h1 : (assignEach [tg] X.env).map (·.2) = [assign tg X.env] := by rfl) : PS X (.Assign [tg] e pos) (WpS X.K XR W (sAsgT t f)) := ws_asgT (ps_asg he hg hs hw h1)
theorem s_par2 (i j : Nat) {x y : Str} {a b : Expr} {fr : S → R (List Vl)} {px py pt : Pos} {kt k2 : Nat} {pt2 : Pos} (hc : X.calm = true) (nd : X.N.Nodup) (ha : PA X [a, b] (WpA X.K XR W fr)) (hi : X.N[i]? = some x := by rfl) (hj : X.N[j]? = some y := by rfl) (hij : i ≠ j := by decide)
    (hx : X.env.scope.names.lookup x = some .local := by rfl) (hy : X.env.scope.names.lookup y = some .local := by rfl) (hw : swappedStores [.Tuple [.Name x px, .Name y py] kt pt] (.Tuple [a, b] k2 pt2) X.env = pure (some [x, y]) := by rfl)
    (hs : swapsWithSole [.Tuple [.Name x px, .Name y py] kt pt] (.Tuple [a, b] k2 pt2) pos.line X.env = pure false := by rfl) : PS X (.Assign [.Tuple [.Name x px, .Name y py] kt pt] (.Tuple [a, b] k2 pt2) pos) (WpS X.K XR W (sPar2 i j fr)) :=
  ws_par2 (ps_par hc nd hi hj hij hx hy ha hw hs)
theorem s_par3 (i j k : Nat) {x y z : Str} {a b c : Expr} {fr : S → R (List Vl)} {px py pz pt : Pos} {kt k2 : Nat} {pt2 : Pos} (hc : X.calm = true) (nd : X.N.Nodup) (ha : PA X [a, b, c] (WpA X.K XR W fr)) (hi : X.N[i]? = some x := by rfl) (hj : X.N[j]? = some y := by rfl) (hk : X.N[k]? = some z := by rfl)
    (hij : i ≠ j := by decide) (hik : i ≠ k := by decide) (hjk : j ≠ k := by decide) (hx : X.env.scope.names.lookup x = some .local := by rfl) (hy : X.env.scope.names.lookup y = some .local := by rfl) (hz : X.env.scope.names.lookup z = some .local := by rfl)
    (hw : swappedStores [.Tuple [.Name x px, .Name y py, .Name z pz] kt pt] (.Tuple [a, b, c] k2 pt2) X.env = pure (some [x, y, z]) := by rfl)
    (hs : swapsWithSole [.Tuple [.Name x px, .Name y py, .Name z pz] kt pt] (.Tuple [a, b, c] k2 pt2) pos.line X.env = pure false := by rfl) : PS X (.Assign [.Tuple [.Name x px, .Name y py, .Name z pz] kt pt] (.Tuple [a, b, c] k2 pt2) pos) (WpS X.K XR W (sPar3 i j k fr)) :=
  ws_par3 (ps_par3 hc nd hi hj hk hij hik hjk hx hy hz ha hw hs)
theorem s_setI (i : Nat) {x : Str} {a b : Expr} {p q : Pos} {fi f : F} (he : PE X a (Wp X.K XR W f)) (hb : PE X b (Wp X.K XR W fi)) (hN : X.N[i]? = some x := by rfl) (hv : Vis X.env.scope x := by first | exact Or.inl rfl | exact Or.inr (Or.inl rfl) | exact Or.inr (Or.inr rfl))
    (hd : (x == ("__debug__" : Str)) = false := by decide) (hc : (x == ("__classdict__" : Str)) = false := by decide)
    (ha : ∀ v, assign (.Subscript (.Name x p) b q) X.env v = (do
      let ov ← holding [v] (eval (.Name x p) X.env)
      let iv ← holding [v, ov] (eval b X.env)
      standAt q
      holding [v, ov, iv] (setItem ov iv v)
      release [v, ov, iv] []) := by intro _; rfl)
    (hs : swapsWithSole [.Subscript (.Name x p) b q] a pos.line X.env = pure false := by rfl) (hw : swappedStores [.Subscript (.Name x p) b q] a X.env = pure none := by rfl) (h1 : (assignEach [.Subscript (.Name x p) b q] X.env).map (·.2) = [assign (.Subscript (.Name x p) b q) X.env] := by rfl) :
    PS X (.Assign [.Subscript (.Name x p) b q] a pos) (WpS X.K XR W (sSetI i fi f)) := ws_setI (ps_asg he (pg_sub (pv i hN hv hd hc) hb set_list ha) hs hw h1)
theorem s_ret {e : Expr} {f : F} (he : PE X e (Wp X.K XR W f)) : PS X (.Return (some e) pos) (WpS X.K XR W (sRet f)) := ws_ret (ps_ret he)
theorem s_retv (i : Nat) {x : Str} {p : Pos} (hN : X.N[i]? = some x := by rfl) (hv : Vis X.env.scope x := by first | exact Or.inl rfl | exact Or.inr (Or.inl rfl) | exact Or.inr (Or.inr rfl)) (hd : (x == ("__debug__" : Str)) = false := by decide)
    (hc : (x == ("__classdict__" : Str)) = false := by decide) : PS X (.Return (some (.Name x p)) pos) (WpS X.K XR W (sRetV i)) := ws_retv (ps_ret (pv i hN hv hd hc))
theorem s_expr {e : Expr} {f : F} (he : PE X e (Wp X.K XR W f)) (hs : swapsWith e none pos.line X.env = pure false := by rfl) : PS X (.Expr e pos) (WpS X.K XR W (sDrop f)) := ws_drop (ps_expr he hs)
theorem s_for {tg it : Expr} {body : List Stmt} {t : Tg} {fi : FI} {f : FS} (hp : PassesOwn (model X.prog X.w) X.A X.env X.xe) (hc : X.calm = true) (hi : PI X tg it (WpI X.K XR W fi)) (hg : PG X tg (WpG X.K t)) (hb : PSs X body (WpS X.K XR W f))
    (hs : ∀ x, foldedSetIterable it X.env x = pure x := by intro _; rfl) : PS X (.For tg it body [] pos) (WpS X.K XR W (sFor t fi f)) := ws_for (ps_for hp hc hi hg hb hs)
theorem s_while (k : Nat) {c : Expr} {body : List Stmt} {fc : S → R Bool} {f : FS} (hp : PassesOwn (model X.prog X.w) X.A X.env X.xe) (hc : PT X c (WpT X.K XR W fc)) (hb : PSs X body (WpS X.K XR W f)) : PS X (.While c body [] pos) (WpS X.K XR W (whLoop fc f k)) := ws_while (ps_while hp hc hb)
theorem s_brk : PS X (.Break pos) (WpS X.K XR W sBrk) := ws_brk ps_break
theorem s_cnt : PS X (.Continue pos) (WpS X.K XR W sCnt) := ws_cnt ps_continue
theorem s_pass : PS X (.Pass pos) (WpS X.K XR W sPass) := ws_skip ps_pass
end

theorem u64 {k : Nat} {A : Around} (r : Room k A) : A.units + 64 < cLine := r.units
theorem u0 {k : Nat} {A : Around} (r : Room k A) : A.units < cLine := r.units0
theorem u65 {k : Nat} {A : Around} (r : Room k A) : A.units + 65 < cLine := by have := r.un; omega
section
variable {P : Program} {w : World} {K : PySem.W.Frag} {mg : Str → Option Value} {base : Heap} {XR : XRt}
/-- a def of the text, by its body -/
theorem fn_text {x qual : Str} {st : Stmt} {f : Addr} {fd : FuncData} {N ps : List Str} {k : Nat} {e : FS} (F : Fun K x qual st f fd) (S : FnScope N ps (defScope st))
    (hb : ∀ (cdv : Value) (A : Around) (out : List Env) (s : Shared) (H : Hp) (E : XK) (X : Cx), X = cxOf (L2.CX P w) P w K mg base N qual (defScope st) f cdv A out s H E → Room k (A.deeper (envOfC qual (defScope st) s.heap.objs.size f cdv)) → (A.deeper (envOfC qual (defScope st) s.heap.objs.size f cdv)).guards = some [] →
      PSs (cxOf (L2.CX P w) P w K mg base N qual (defScope st) f cdv A out s H E) (defBody st) (WpS K XR (fun cls d _ H => E cls d H) e)) :
    FnG P w K mg base XR (k + 1) f fd ps (runF N.length e) := by
  obtain ⟨oc, od, kV, doc, pm, an, cdv, ct, osl, rfl, lk, hcd⟩ := F.ex
  exact fn_G lk hcd S fun A out s H E hr hg => hb cdv A out s H E _ rfl hr hg
theorem fn_err {f : Addr} {fd : FuncData} {ps : List Str} {k : Nat} : FnG P w K mg base XR k f fd ps (fun _ _ => .err) := ⟨fun _ _ _ _ _ _ _ _ _ _ _ _ _ _ ⟨_, _, _, _, _, _, _, z⟩ => z.elim⟩
end
/-! comprehensions -/
section
variable {X : Cx} {XR : XRt} {W : WX} {pos : Pos}
theorem e_lc (own : List (Str × Nat)) {vs : List Nat} {elt tg it : Expr} {ifs : List Expr} {scope : Scope} {fi : FI} {t : Tg} {fc : S → R Bool} {f : F} (hc : X.calm = true) (nd : X.N.Nodup) (hi : PI X tg it (WpI X.K XR W fi))
    (hg : ∀ (s : Shared) (H : Hp) (C : Addr) (cl : List (Str × Addr)) (fp : List Addr), PG (X.blk s H scope (compEnvC scope cl C X.env) fp) tg (WpG X.K t)) (ht : ∀ (s : Shared) (H : Hp) (C : Addr) (cl : List (Str × Addr)) (fp : List Addr), PTs (X.blk s H scope (compEnvC scope cl C X.env) fp) ifs (WpT X.K XR W0 fc))
    (he : ∀ (s : Shared) (H : Hp) (C : Addr) (cl : List (Str × Addr)) (fp : List Addr), PE (X.blk s H scope (compEnvC scope cl C X.env) fp) elt (Wp X.K XR W0 f)) (ok : blkC X.N X.env.scope scope own = true := by kernel_rfl) (hs : ∀ x, foldedSetIterable it X.env x = pure x := by intro _; rfl)
    (hv : own.map (·.2) = vs := by rfl) (hts : ∀ i, i ∈ t.slots → i ∈ vs := by decide) : PE X (.ListComp elt [⟨tg, it, ifs, 0⟩] scope pos) (Wp X.K XR W (cLc vs fi t fc f)) := by
  subst hv
  exact pe_imp (pe_lc hc nd hi (blkOk_by ok) hg ht he hs) fun _ _ _ q => i_lc hts q
theorem s_setLc (i : Nat) {x : Str} {p : Pos} (own : List (Str × Nat)) {vs : List Nat} {elt tg it : Expr} {ifs : List Expr} {scope : Scope} {q : Pos} {fi : FI} {t : Tg} {fc : S → R Bool} {f : F} (hc : X.calm = true) (nd : X.N.Nodup) (hi : PI X tg it (WpI X.K XR W fi))
    (hg : ∀ (s : Shared) (H : Hp) (C : Addr) (cl : List (Str × Addr)) (fp : List Addr), PG (X.blk s H scope (compEnvC scope cl C X.env) fp) tg (WpG X.K t)) (ht : ∀ (s : Shared) (H : Hp) (C : Addr) (cl : List (Str × Addr)) (fp : List Addr), PTs (X.blk s H scope (compEnvC scope cl C X.env) fp) ifs (WpT X.K XR W0 fc))
    (he : ∀ (s : Shared) (H : Hp) (C : Addr) (cl : List (Str × Addr)) (fp : List Addr), PE (X.blk s H scope (compEnvC scope cl C X.env) fp) elt (Wp X.K XR W0 f)) (hN : X.N[i]? = some x := by rfl) (hx : X.env.scope.names.lookup x = some .local := by rfl)
    (sw : swapsWith (.ListComp elt [⟨tg, it, ifs, 0⟩] scope q) (some (.Name x p)) pos.line X.env = pure true := by rfl) (ok : blkC X.N X.env.scope scope own = true := by kernel_rfl) (hs : ∀ x, foldedSetIterable it X.env x = pure x := by intro _; rfl)
    (hv : own.map (·.2) = vs := by rfl) (hts : ∀ i, i ∈ t.slots → i ∈ vs := by decide) : PS X (.Assign [.Name x p] (.ListComp elt [⟨tg, it, ifs, 0⟩] scope q) pos) (WpS X.K XR W (sAsg i (cLc vs fi t fc f))) := by
  subst hv
  exact ws_asg (ps_setLc hc nd hN hx sw hi (blkOk_by ok) hg ht he hs) fun _ _ _ q => i_lc hts q
theorem e_lc2 (own : List (Str × Nat)) {vs vs1 : List Nat} {elt tg it tg1 it1 : Expr} {ifs ifs1 : List Expr} {scope : Scope} {fi fi1 : FI} {t t1 : Tg} {fc fc1 : S → R Bool} {f : F} (hc : X.calm = true) (nd : X.N.Nodup) (hi : PI X tg it (WpI X.K XR W fi))
    (hg : ∀ (s : Shared) (H : Hp) (C : Addr) (cl : List (Str × Addr)) (fp : List Addr), PG (X.blk s H scope (compEnvC scope cl C X.env) fp) tg (WpG X.K t)) (ht : ∀ (s : Shared) (H : Hp) (C : Addr) (cl : List (Str × Addr)) (fp : List Addr), PTs (X.blk s H scope (compEnvC scope cl C X.env) fp) ifs (WpT X.K XR W0 fc))
    (hi1 : ∀ (s : Shared) (H : Hp) (C : Addr) (cl : List (Str × Addr)) (fp : List Addr), PI (X.blk s H scope (compEnvC scope cl C X.env) fp) tg1 it1 (WpI X.K XR W0 fi1))
    (hg1 : ∀ (s : Shared) (H : Hp) (C : Addr) (cl : List (Str × Addr)) (fp : List Addr), PG (X.blk s H scope (compEnvC scope cl C X.env) fp) tg1 (WpG X.K t1)) (ht1 : ∀ (s : Shared) (H : Hp) (C : Addr) (cl : List (Str × Addr)) (fp : List Addr), PTs (X.blk s H scope (compEnvC scope cl C X.env) fp) ifs1 (WpT X.K XR W0 fc1))
    (he : ∀ (s : Shared) (H : Hp) (C : Addr) (cl : List (Str × Addr)) (fp : List Addr), PE (X.blk s H scope (compEnvC scope cl C X.env) fp) elt (Wp X.K XR W0 f)) (ok : blkC X.N X.env.scope scope own = true := by kernel_rfl) (hs : ∀ x, foldedSetIterable it X.env x = pure x := by intro _; rfl)
    (hs1 : ∀ env x, foldedSetIterable it1 env x = pure x := by intro _ _; rfl) (hv : own.map (·.2) = vs := by rfl) (hts : ∀ i, i ∈ t.slots → i ∈ vs := by decide) (hts1 : ∀ i, i ∈ t1.slots → i ∈ vs1 := by decide) (hvv : ∀ i, i ∈ vs1 → i ∈ vs := by decide) :
    PE X (.ListComp elt [⟨tg, it, ifs, 0⟩, ⟨tg1, it1, ifs1, 0⟩] scope pos) (Wp X.K XR W (cLc2 vs vs1 fi t fc fi1 t1 fc1 f)) := by
  subst hv
  exact pe_imp (pe_lc2 hc nd hi (blkOk_by ok) hvv hg ht hi1 hg1 ht1 he hs hs1) fun _ _ _ q => i_lc2 hts hts1 hvv q
theorem s_setLc2 (i : Nat) {x : Str} {p : Pos} (own : List (Str × Nat)) {vs vs1 : List Nat} {elt tg it tg1 it1 : Expr} {ifs ifs1 : List Expr} {scope : Scope} {q : Pos} {fi fi1 : FI} {t t1 : Tg} {fc fc1 : S → R Bool} {f : F} (hc : X.calm = true) (nd : X.N.Nodup) (hi : PI X tg it (WpI X.K XR W fi))
    (hg : ∀ (s : Shared) (H : Hp) (C : Addr) (cl : List (Str × Addr)) (fp : List Addr), PG (X.blk s H scope (compEnvC scope cl C X.env) fp) tg (WpG X.K t)) (ht : ∀ (s : Shared) (H : Hp) (C : Addr) (cl : List (Str × Addr)) (fp : List Addr), PTs (X.blk s H scope (compEnvC scope cl C X.env) fp) ifs (WpT X.K XR W0 fc))
    (hi1 : ∀ (s : Shared) (H : Hp) (C : Addr) (cl : List (Str × Addr)) (fp : List Addr), PI (X.blk s H scope (compEnvC scope cl C X.env) fp) tg1 it1 (WpI X.K XR W0 fi1))
    (hg1 : ∀ (s : Shared) (H : Hp) (C : Addr) (cl : List (Str × Addr)) (fp : List Addr), PG (X.blk s H scope (compEnvC scope cl C X.env) fp) tg1 (WpG X.K t1)) (ht1 : ∀ (s : Shared) (H : Hp) (C : Addr) (cl : List (Str × Addr)) (fp : List Addr), PTs (X.blk s H scope (compEnvC scope cl C X.env) fp) ifs1 (WpT X.K XR W0 fc1))
    (he : ∀ (s : Shared) (H : Hp) (C : Addr) (cl : List (Str × Addr)) (fp : List Addr), PE (X.blk s H scope (compEnvC scope cl C X.env) fp) elt (Wp X.K XR W0 f)) (hN : X.N[i]? = some x := by rfl) (hx : X.env.scope.names.lookup x = some .local := by rfl)
    (sw : swapsWith (.ListComp elt [⟨tg, it, ifs, 0⟩, ⟨tg1, it1, ifs1, 0⟩] scope q) (some (.Name x p)) pos.line X.env = pure true := by rfl) (ok : blkC X.N X.env.scope scope own = true := by kernel_rfl) (hs : ∀ x, foldedSetIterable it X.env x = pure x := by intro _; rfl)
    (hs1 : ∀ env x, foldedSetIterable it1 env x = pure x := by intro _ _; rfl) (hv : own.map (·.2) = vs := by rfl) (hts : ∀ i, i ∈ t.slots → i ∈ vs := by decide) (hts1 : ∀ i, i ∈ t1.slots → i ∈ vs1 := by decide) (hvv : ∀ i, i ∈ vs1 → i ∈ vs := by decide) :
    PS X (.Assign [.Name x p] (.ListComp elt [⟨tg, it, ifs, 0⟩, ⟨tg1, it1, ifs1, 0⟩] scope q) pos) (WpS X.K XR W (sAsg i (cLc2 vs vs1 fi t fc fi1 t1 fc1 f))) := by
  subst hv
  exact ws_asg (ps_setLc2 hc nd hN hx sw hi (blkOk_by ok) hvv hg ht hi1 hg1 ht1 he hs hs1) fun _ _ _ q => i_lc2 hts hts1 hvv q
end
end Ev

/-! Part 15: reckoning with the evaluator. -/
namespace Ev
open PySem PySem.Spec PyProof.Rows L2

section
variable {ρ ρ' : List (Option Vl)} {st st' : List Vl} {s s' : S}
@[simp] theorem cold_d (x : PyData) : cold (.d x) = some x := by rw [cold]
@[simp] theorem coldL_nil : coldL [] = some [] := by rw [coldL]
@[simp] theorem coldL_d (x : PyData) (r : List Vl) : coldL (.d x :: r) = (coldL r).map (x :: ·) := by rw [coldL, cold_d]; cases coldL r <;> rfl
@[simp] theorem coldL_own (xs r : List Vl) : coldL (.own xs :: r) = (coldL xs).bind fun x => (coldL r).map (.list x :: ·) := by
  rw [coldL, cold]
  cases coldL xs <;> cases coldL r <;> rfl
@[simp] theorem coldL_map (xs : List PyData) : coldL (xs.map Vl.d) = some xs := by
  induction xs with
  | nil => simp
  | cons x r ih => simp [ih]
@[simp] theorem coldL_comp {α : Type} (g : α → PyData) (xs : List α) : coldL (xs.map (Vl.d ∘ g)) = some (xs.map g) := by rw [← List.map_map, coldL_map]
@[simp] theorem coldL_fun {α : Type} (g : α → PyData) (xs : List α) : coldL (xs.map fun x => Vl.d (g x)) = some (xs.map g) := coldL_comp g xs
@[simp] theorem coldL_set (xs : List PyData) (j : Nat) (y : PyData) : coldL ((xs.map Vl.d).set j (.d y)) = some (xs.set j y) := by rw [← List.map_set, coldL_map]
@[simp] theorem coldL_mapr (xs : List PyData) (r : List Vl) : coldL (xs.map Vl.d ++ r) = (coldL r).map (xs ++ ·) := by
  induction xs with
  | nil => cases h : coldL r <;> simp [h]
  | cons x r' ih =>
    simp [ih]
    cases coldL r <;> simp
@[simp] theorem coldL_app (xs ys : List Vl) : coldL (xs ++ ys) = (coldL xs).bind fun a => (coldL ys).map (a ++ ·) := by
  induction xs with
  | nil => cases h : coldL ys <;> simp [h]
  | cons x r ih =>
    rw [List.cons_append, coldL, coldL, ih]
    cases cold x <;> cases coldL r <;> cases coldL ys <;> rfl
@[simp] theorem coldL_take (xs : List PyData) (j : Nat) : coldL ((xs.map Vl.d).take j) = some (xs.take j) := by rw [← List.map_take, coldL_map]
@[simp] theorem coldL_drop (xs : List PyData) (j : Nat) : coldL ((xs.map Vl.d).drop j) = some (xs.drop j) := by rw [← List.map_drop, coldL_map]
@[simp] theorem coldL_erase : ∀ (xs : List PyData) (j : Nat), coldL ((xs.map Vl.d).eraseIdx j) = some (xs.eraseIdx j)
  | [], j => by simp
  | x :: r, 0 => by simp
  | x :: r, j + 1 => by simp [coldL_erase r j]
@[simp] theorem cold_own (xs : List Vl) : cold (.own xs) = (coldL xs).map PyData.list := by rw [cold]; cases coldL xs <;> rfl
@[simp] theorem dat_map (xs : List PyData) : dat (xs.map Vl.d) = some xs := by
  induction xs with
  | nil => rfl
  | cons x r ih => simp [dat, ih]
@[simp] theorem dat_nil : dat [] = some [] := rfl
@[simp] theorem dat_d (x : PyData) (r : List Vl) : dat (.d x :: r) = (dat r).map (x :: ·) := by
  show (match dat r with | some ys => some (x :: ys) | none => none) = _
  cases dat r <;> rfl
@[simp] theorem dL_eq (xs : List PyData) : dL xs = .own (xs.map Vl.d) := rfl
@[simp] theorem back_back (ρ ρ' : List (Option Vl)) (r : R Vl) : back ρ (back ρ' r) = back ρ r := by cases r <;> rfl
@[simp] theorem back_ok (ρ : List (Option Vl)) (v : Vl) (s : S) : back ρ (.ok v s) = .ok v ⟨ρ, s.st⟩ := rfl
@[simp] theorem endF_nx (s : S) : endF (.ok .nx s) = .ok (.d .none) s := rfl
@[simp] theorem endF_ret (v : Vl) (s : S) : endF (.ok (.ret v) s) = .ok v s := rfl
@[simp] theorem x_con (x : PyData) (s : S) : cCon x s = .ok (.d x) s := rfl
@[simp] theorem x_var (i : Nat) (s : S) : cVar i s = match s.ρ[i]? with
  | some (some (.d x)) => .ok (.d x) s
  | some (some (.ref l)) => .ok (.ref l) s
  | some (some (.own xs)) => match coldL xs with
    | some ys => .ok (.d (.list ys)) ⟨s.ρ.set i (some (.d (.list ys))), s.st⟩
    | none => .err
  | _ => .err := rfl
@[simp] theorem cT_ok (b : Bool) (s : S) {f : F} (h : f s = .ok (.d (.bool b)) s') : cT f s = .ok b s' := by
  unfold cT
  rw [h]
  rfl
end
/-! the combinators, applied -/
section
variable {s : S}
@[simp] theorem x_runF (n : Nat) (e : FS) (xs st : List Vl) : runF n e xs st = endF (e (entry n xs st)) := rfl
@[simp] theorem x_entry (n : Nat) (xs st : List Vl) : entry n xs st = ⟨xs.map some ++ List.replicate (n - xs.length) none, st⟩ := rfl
@[simp] theorem x_sNil : sNil s = .ok .nx s := rfl
@[simp] theorem x_sSeq (f g : FS) : sSeq f g s = match f s with
  | .ok .nx s1 => g s1
  | r => r := rfl
@[simp] theorem x_sRet (f : F) : sRet f s = (f s).bind fun x s1 => .ok (.ret x) s1 := rfl
@[simp] theorem x_sRetV (i : Nat) : sRetV i s = match s.ρ[i]? with
  | some (some x) => .ok (.ret x) ⟨s.ρ.set i none, s.st⟩
  | _ => .err := rfl
@[simp] theorem x_sAsg (i : Nat) (f : F) : sAsg i f s = (f s).bind fun x s1 => .ok .nx ⟨s1.ρ.set i (some x), s1.st⟩ := rfl
@[simp] theorem x_sDrop (f : F) : sDrop f s = (f s).bind fun _ s1 => .ok .nx s1 := rfl
@[simp] theorem x_sIf (c : S → R Bool) (f g : FS) : sIf c f g s = (c s).bind fun b s1 => if b = true then f s1 else g s1 := rfl
@[simp] theorem x_sFor (t : Tg) (fi : FI) (f : FS) : sFor t fi f s = (fi s).bind fun xs s1 => forLoop t f xs s1 := rfl
@[simp] theorem x_sPar2 (i j : Nat) (fr : S → R (List Vl)) : sPar2 i j fr s = (fr s).bind fun xs s1 => match xs with
  | [x, y] => .ok .nx ⟨(s1.ρ.set i (some x)).set j (some y), s1.st⟩
  | _ => .err := rfl
@[simp] theorem x_sPar3 (i j k : Nat) (fr : S → R (List Vl)) : sPar3 i j k fr s = (fr s).bind fun xs s1 => match xs with
  | [x, y, z] => .ok .nx ⟨((s1.ρ.set i (some x)).set j (some y)).set k (some z), s1.st⟩
  | _ => .err := rfl
@[simp] theorem x_sShare (i : Nat) (f : F) : sShare i f s = (f s).bind fun x s1 => match x with
  | .own xs => if i < s1.ρ.length then .ok .nx ⟨s1.ρ.set i (some (.ref s1.st.length)), s1.st ++ [.own xs]⟩ else .err
  | _ => .err := rfl
@[simp] theorem x_cT (f : F) : cT f s = (f s).bind fun x s1 => match x with
  | .d (.bool b) => .ok b s1
  | _ => .err := rfl
@[simp] theorem x_cBin (g : PyData → PyData → Option Vl) (fa fb : F) : cBin g fa fb s = (fa s).bind fun x s1 => (fb s1).bind fun y s2 => match cold x, cold y with
  | some a, some b => R.of (g a b) s2
  | _, _ => .err := rfl
@[simp] theorem x_cUn (g : PyData → Option Vl) (fa : F) : cUn g fa s = (fa s).bind fun x s1 => match cold x with
  | some a => R.of (g a) s1
  | none => .err := rfl
@[simp] theorem x_cAnd (fa fb : F) : cAnd fa fb s = (cT fa s).bind fun c s1 => if c = true then fb s1 else .ok (.d (.bool false)) s1 := rfl
@[simp] theorem x_cOr (fa fb : F) : cOr fa fb s = (cT fa s).bind fun c s1 => if c = true then .ok (.d (.bool true)) s1 else fb s1 := rfl
@[simp] theorem x_cNot (fa : F) : cNot fa s = (cT fa s).bind fun c s1 => .ok (.d (.bool (!c))) s1 := rfl
@[simp] theorem x_cIf (fc fa fb : F) : cIf fc fa fb s = (cT fc s).bind fun c s1 => if c = true then fa s1 else fb s1 := rfl
@[simp] theorem x_cNil : cNil s = .ok [] s := rfl
@[simp] theorem x_cCons (fa : F) (fr : S → R (List Vl)) : cCons fa fr s = (fa s).bind fun x s1 => (fr s1).bind fun xs s2 => .ok (x :: xs) s2 := rfl
@[simp] theorem x_cArgs (g : List PyData → Option Vl) (fr : S → R (List Vl)) : cArgs g fr s = (fr s).bind fun xs s1 => match coldL xs with
  | some ys => R.of (g ys) s1
  | none => .err := rfl
@[simp] theorem x_cCall (c : Fn) (fr : S → R (List Vl)) : cCall c fr s = (fr s).bind fun xs s1 => match argsC xs with
  | some ys => back s1.ρ (c ys s1.st)
  | none => .err := rfl
@[simp] theorem argsC_nil : argsC [] = some [] := rfl
@[simp] theorem argsC_d (x : PyData) (r : List Vl) : argsC (.d x :: r) = (argsC r).map (.d x :: ·) := by
  show (match argC (.d x), argsC r with | some y, some ys => some (y :: ys) | _, _ => none) = _
  cases argsC r <;> rfl
@[simp] theorem argsC_ref (l : Nat) (r : List Vl) : argsC (.ref l :: r) = (argsC r).map (.ref l :: ·) := by
  show (match argC (.ref l), argsC r with | some y, some ys => some (y :: ys) | _, _ => none) = _
  cases argsC r <;> rfl
@[simp] theorem argsC_own (xs r : List Vl) : argsC (.own xs :: r) = (coldL xs).bind fun ys => (argsC r).map (.d (.list ys) :: ·) := by
  show (match argC (.own xs), argsC r with | some y, some ys => some (y :: ys) | _, _ => none) = _
  unfold argC
  simp only
  cases coldL xs <;> cases argsC r <;> simp
@[simp] theorem x_iSeq (f : F) : iSeq f s = (f s).bind fun x s1 => match cold x with
  | some y => match itemsOf y with
    | some xs => .ok xs s1
    | none => .err
  | none => .err := rfl
@[simp] theorem x_iArgs (g : List PyData → Option (List PyData)) (fr : S → R (List Vl)) : iArgs g fr s = (fr s).bind fun xs s1 => match coldL xs with
  | some ys => match g ys with
    | some zs => .ok zs s1
    | none => .err
  | none => .err := rfl
@[simp] theorem it_tuple (xs : List PyData) : itemsOf (.tuple xs) = some xs := rfl
@[simp] theorem it_list (xs : List PyData) : itemsOf (.list xs) = some xs := rfl
@[simp] theorem it_str (x : Str) : itemsOf (.str x) = some (charsD x) := rfl
@[simp] theorem x_cYes : cYes s = .ok true s := rfl
@[simp] theorem x_isi (ts : List String) (x : PyData) : isiD ts x = some (.d (.bool (ts.any fun t => isT t x))) := rfl
end
section
variable {α β : Type}
/-- a result that is there -/
def R.Gd (r : R α) (P : α → S → Prop) : Prop := ∃ a s, r = .ok a s ∧ P a s
theorem gd_ok {a : α} {s : S} {P : α → S → Prop} (h : P a s) : (R.ok a s).Gd P := ⟨a, s, rfl, h⟩
theorem gd_bind {r : R α} {f : α → S → R β} {P : α → S → Prop} {Q : β → S → Prop} (h : r.Gd P) (k : ∀ a s, P a s → (f a s).Gd Q) : (r.bind f).Gd Q := by
  obtain ⟨a, s, rfl, p⟩ := h
  exact k a s p
theorem R.Gd.mono {r : R α} {P Q : α → S → Prop} (h : r.Gd P) (k : ∀ a s, P a s → Q a s) : r.Gd Q := by
  obtain ⟨a, s, e, p⟩ := h
  exact ⟨a, s, e, k a s p⟩
end

/-- a value and the data in it -/
def Res (v : Vl) (y : PyData) : Prop := v = .d y ∨ ∃ ys, y = .list ys ∧ v = .own (ys.map Vl.d)
theorem Res.cold {v : Vl} {y : PyData} (h : Res v y) : Ev.cold v = some y := by
  rcases h with rfl | ⟨ys, rfl, rfl⟩
  · simp
  · simp
theorem Res.d {y : PyData} : Res (.d y) y := .inl rfl
theorem ixN_ok {n : Nat} {k : Int} (h0 : 0 ≤ k) (h1 : k < n) : ixN n k = some k.toNat := by
  unfold ixN
  rw [if_pos h0, if_pos h1]
theorem atI_ok {α : Type} {xs : List α} {k : Int} (h0 : 0 ≤ k) (h1 : k < xs.length) : ∃ x, xs[k.toNat]? = some x ∧ L2.atI xs k = some x ∧ x ∈ xs := by
  have h : k.toNat < xs.length := by omega
  refine ⟨xs[k.toNat], List.getElem?_eq_getElem h, ?_, List.getElem_mem h⟩
  unfold L2.atI
  rw [ixN_ok h0 h1]
  exact List.getElem?_eq_getElem h
theorem atI_map {xs : List PyData} {k : Int} {x : PyData} (h : L2.atI xs k = some x) : L2.atI (xs.map Vl.d) k = some (.d x) := by
  unfold L2.atI at h ⊢
  rw [List.length_map]
  cases e : ixN xs.length k with
  | none => rw [e] at h; cases h
  | some j =>
    rw [e] at h
    show (xs.map Vl.d)[j]? = _
    rw [List.getElem?_map]
    have h : xs[j]? = some x := h
    rw [h]
    rfl

/-! ### loops -/
/-- a loop that is left by its end alone: I i holds ahead of turn i -/
theorem for_inv {t : Tg} {f : FS} (I : Nat → S → Prop) : ∀ (xs : List PyData) (i : Nat) (s : S), I i s →
    (∀ (j : Nat) (x : PyData) (s : S), xs[j]? = some x → I (i + j) s → ∃ s1, t.set x s = some s1 ∧ ∃ s2, (f s1 = .ok .nx s2 ∨ f s1 = .ok .cnt s2) ∧ I (i + j + 1) s2) → ∃ s', forLoop t f xs s = .ok .nx s' ∧ I (i + xs.length) s'
  | [], i, s, h, _ => ⟨s, rfl, h⟩
  | x :: r, i, s, h, step => by
    obtain ⟨s1, e1, s2, e2, h2⟩ := step 0 x s rfl h
    obtain ⟨s', e', h'⟩ := for_inv I r (i + 1) s2 h2 fun j y s hj hs => by
      have e : i + 1 + j = i + (j + 1) := by omega
      rw [e] at hs ⊢
      exact step (j + 1) y s (by simpa using hj) hs
    refine ⟨s', ?_, by rw [List.length_cons]; have e : i + (r.length + 1) = i + 1 + r.length := by omega
                       rw [e]; exact h'⟩
    unfold forLoop
    rw [e1]
    rcases e2 with e2 | e2
    · simp only [e2]
      exact e'
    · simp only [e2]
      exact e'
/-- .. where the turn's number is of no account -/
theorem for_all {t : Tg} {f : FS} (I : S → Prop) (xs : List PyData) (s : S) (h : I s) (step : ∀ (x : PyData) (s : S), x ∈ xs → I s → ∃ s1, t.set x s = some s1 ∧ ∃ s2, (f s1 = .ok .nx s2 ∨ f s1 = .ok .cnt s2) ∧ I s2) :
    ∃ s', forLoop t f xs s = .ok .nx s' ∧ I s' := for_inv (fun _ => I) xs 0 s h fun j x s hj hs => step x s (List.mem_of_getElem? hj) hs

/-! ### comprehensions -/
theorem wipe1_set {v : Nat} {ρ : List (Option Vl)} {x : Option Vl} : (wipeR [v] ρ).set v x = ρ.set v x := by
  simp [wipeR]
/-- one name, one clause: what is made at each turn, and what the cells become -/
theorem lc_inv {v : Nat} {c : S → R Bool} {f : F} (ρ : List (Option Vl)) (I : Nat → List Vl → List Vl → Prop) : ∀ (xs : List PyData) (i : Nat) (acc : List Vl) (ρ1 : List (Option Vl)) (st : List Vl),
    ρ1.set v none = ρ.set v none → I i acc st → acc.length + xs.length ≤ LIM →
    (∀ (j : Nat) (x : PyData) (acc st : List Vl), xs[j]? = some x → I (i + j) acc st → ∃ st1, (c ⟨ρ.set v (some (.d x)), st⟩ = .ok false ⟨ρ.set v (some (.d x)), st1⟩ ∧ I (i + j + 1) acc st1) ∨
      ∃ y st2, c ⟨ρ.set v (some (.d x)), st⟩ = .ok true ⟨ρ.set v (some (.d x)), st1⟩ ∧ f ⟨ρ.set v (some (.d x)), st1⟩ = .ok y ⟨ρ.set v (some (.d x)), st2⟩ ∧ I (i + j + 1) (acc ++ [y]) st2) →
    ∃ acc' ρ2 st', lcLoop [v] (.nm v) c f xs acc ⟨ρ1, st⟩ = .ok acc' ⟨ρ2, st'⟩ ∧ ρ2.set v none = ρ.set v none ∧ I (i + xs.length) acc' st'
  | [], i, acc, ρ1, st, e, h, _, _ => ⟨acc, ρ1, st, rfl, e, h⟩
  | x :: r, i, acc, ρ1, st, e, h, hl, step => by
    have ex : ∀ y : Option Vl, ρ1.set v y = ρ.set v y := fun y => by
      have := congrArg (fun l => l.set v y) e
      simpa using this
    have hset : Tg.set (.nm v) x (wipeS [v] ⟨ρ1, st⟩) = some ⟨ρ.set v (some (.d x)), st⟩ := by
      show some (S.mk ((wipeR [v] ρ1).set v (some (.d x))) st) = _
      rw [wipe1_set, ex]
    have en : (ρ.set v (some (Vl.d x))).set v none = ρ.set v none := by simp
    rw [List.length_cons] at hl
    have next : ∀ (acc1 : List Vl) (st1 : List Vl), acc1.length ≤ acc.length + 1 → I (i + 0 + 1) acc1 st1 → ∃ acc' ρ2 st', lcLoop [v] (.nm v) c f r acc1 ⟨ρ.set v (some (.d x)), st1⟩ = .ok acc' ⟨ρ2, st'⟩ ∧ ρ2.set v none = ρ.set v none ∧ I (i + (x :: r).length) acc' st' := fun acc1 st1 hl1 h1 => by
      obtain ⟨acc', ρ2, st', e1, e2, e3⟩ := lc_inv ρ I r (i + 1) acc1 (ρ.set v (some (.d x))) st1 en h1 (by omega) fun j y a s hj hs => by
        have e0 : i + 1 + j = i + (j + 1) := by omega
        rw [e0] at hs ⊢
        exact step (j + 1) y a s (by simpa using hj) hs
      refine ⟨acc', ρ2, st', e1, e2, ?_⟩
      have e0 : i + (x :: r).length = i + 1 + r.length := by rw [List.length_cons]; omega
      rw [e0]
      exact e3
    obtain ⟨st1, q⟩ := step 0 x acc st rfl h
    rcases q with ⟨ec, h1⟩ | ⟨y, st2, ec, ef, h2⟩
    · obtain ⟨acc', ρ2, st', e1, e2, e3⟩ := next acc st1 (by omega) h1
      refine ⟨acc', ρ2, st', ?_, e2, e3⟩
      rw [lcLoop, hset]
      simp only [ec, noX]
      exact e1
    · obtain ⟨acc', ρ2, st', e1, e2, e3⟩ := next (acc ++ [y]) st2 (by simp) h2
      refine ⟨acc', ρ2, st', ?_, e2, e3⟩
      rw [lcLoop, hset]
      simp only [ec, noX, ef]
      rw [if_pos (by omega)]
      exact e1
theorem back_slot {v : Nat} {ρ ρ2 : List (Option Vl)} (e : ρ2.set v none = ρ.set v none) : backR [v] ρ ρ2 = ρ := by
  have hl : ρ2.length = ρ.length := by simpa using congrArg List.length e
  apply List.ext_getElem?
  intro i
  unfold backR backR
  by_cases h : i = v
  · subst h
    by_cases hi : i < ρ.length
    · rw [List.getElem?_set_self (by omega), List.getElem?_eq_getElem hi]
    · rw [List.getElem?_eq_none (by simp; omega), List.getElem?_eq_none (by omega)]
  · rw [List.getElem?_set_ne (Ne.symm h)]
    have := congrArg (fun l => l[i]?) e
    simpa [List.getElem?_set_ne (Ne.symm h)] using this
/-- the whole comprehension -/
theorem cLc_inv {v : Nat} {fi : FI} {c : S → R Bool} {f : F} {s : S} {ρ : List (Option Vl)} {st : List Vl} {xs : List PyData} (I : Nat → List Vl → List Vl → Prop) (hi : fi s = .ok xs ⟨ρ, st⟩) (ho : notOwn ⟨ρ, st⟩ [v] = true) (hl : xs.length ≤ LIM) (h : I 0 [] st)
    (step : ∀ (j : Nat) (x : PyData) (acc st : List Vl), xs[j]? = some x → I j acc st → ∃ st1, (c ⟨ρ.set v (some (.d x)), st⟩ = .ok false ⟨ρ.set v (some (.d x)), st1⟩ ∧ I (j + 1) acc st1) ∨
      ∃ y st2, c ⟨ρ.set v (some (.d x)), st⟩ = .ok true ⟨ρ.set v (some (.d x)), st1⟩ ∧ f ⟨ρ.set v (some (.d x)), st1⟩ = .ok y ⟨ρ.set v (some (.d x)), st2⟩ ∧ I (j + 1) (acc ++ [y]) st2) :
    ∃ acc st', cLc [v] fi (.nm v) c f s = .ok (.own acc) ⟨ρ, st'⟩ ∧ I xs.length acc st' := by
  obtain ⟨acc, ρ2, st', e1, e2, e3⟩ := lc_inv ρ I xs 0 [] ρ st rfl h (by simpa using hl) fun j x acc st hj hI => by
    rw [Nat.zero_add] at hI ⊢
    exact step j x acc st hj hI
  refine ⟨acc, st', ?_, by rw [Nat.zero_add] at e3; exact e3⟩
  unfold cLc
  rw [hi]
  simp only [R.bind_ok]
  rw [if_pos ho, e1]
  simp only
  rw [back_slot e2]
/-- .. where nothing but data is made, and the cells stay -/
theorem cLc_map {v : Nat} {fi : FI} {c : S → R Bool} {f : F} {s : S} {ρ : List (Option Vl)} {st : List Vl} {xs : List PyData} (p : PyData → Bool) (g : PyData → PyData) (hi : fi s = .ok xs ⟨ρ, st⟩) (ho : notOwn ⟨ρ, st⟩ [v] = true) (hl : xs.length ≤ LIM)
    (hc : ∀ x, x ∈ xs → c ⟨ρ.set v (some (.d x)), st⟩ = .ok (p x) ⟨ρ.set v (some (.d x)), st⟩) (hf : ∀ x, x ∈ xs → p x = true → f ⟨ρ.set v (some (.d x)), st⟩ = .ok (.d (g x)) ⟨ρ.set v (some (.d x)), st⟩) :
    cLc [v] fi (.nm v) c f s = .ok (.own (((xs.filter p).map g).map Vl.d)) ⟨ρ, st⟩ := by
  obtain ⟨acc, st', e1, rfl, rfl⟩ := cLc_inv (v := v) (c := c) (f := f) (fun j acc st' => acc = (((xs.take j).filter p).map g).map Vl.d ∧ st' = st) hi ho hl ⟨by simp, rfl⟩ fun j x acc st' hj hI => by
    obtain ⟨rfl, rfl⟩ := hI
    have hm := List.mem_of_getElem? hj
    have ht : xs.take (j + 1) = xs.take j ++ [x] := by rw [List.take_add_one, hj]; rfl
    refine ⟨st', ?_⟩
    cases hp : p x with
    | false =>
      refine .inl ⟨by rw [hc x hm, hp], ?_, rfl⟩
      rw [ht, List.filter_append]
      simp [hp]
    | true =>
      refine .inr ⟨.d (g x), st', by rw [hc x hm, hp], hf x hm hp, ?_, rfl⟩
      rw [ht, List.filter_append]
      simp [hp]
  rw [e1, List.take_length]
/-- .. and no test -/
theorem cLc_mapY {v : Nat} {fi : FI} {f : F} {s : S} {ρ : List (Option Vl)} {st : List Vl} {xs : List PyData} (g : PyData → PyData) (hi : fi s = .ok xs ⟨ρ, st⟩) (ho : notOwn ⟨ρ, st⟩ [v] = true) (hl : xs.length ≤ LIM)
    (hf : ∀ x, x ∈ xs → f ⟨ρ.set v (some (.d x)), st⟩ = .ok (.d (g x)) ⟨ρ.set v (some (.d x)), st⟩) : cLc [v] fi (.nm v) cYes f s = .ok (.own ((xs.map g).map Vl.d)) ⟨ρ, st⟩ := by
  have h := cLc_map (v := v) (c := cYes) (f := f) (fun _ => true) g hi ho hl (fun _ _ => rfl) fun x hx _ => hf x hx
  rwa [List.filter_eq_self.mpr (fun _ _ => rfl)] at h
/-- .. what passes a test, itself -/
theorem cLc_filt {v : Nat} {fi : FI} {c : S → R Bool} {s : S} {ρ : List (Option Vl)} {st : List Vl} {xs : List PyData} (p : PyData → Bool) (hi : fi s = .ok xs ⟨ρ, st⟩) (ho : notOwn ⟨ρ, st⟩ [v] = true) (hv : v < ρ.length) (hl : xs.length ≤ LIM)
    (hc : ∀ x, x ∈ xs → c ⟨ρ.set v (some (.d x)), st⟩ = .ok (p x) ⟨ρ.set v (some (.d x)), st⟩) : cLc [v] fi (.nm v) c (cVar v) s = .ok (.own ((xs.filter p).map Vl.d)) ⟨ρ, st⟩ := by
  have h := cLc_map (v := v) (c := c) (f := cVar v) p (fun x => x) hi ho hl hc fun x hx _ => by simp [hv]
  rwa [List.map_id''] at h
  exact fun _ => rfl
end Ev

/-! Part 16: what a law draws from its script. -/
namespace Ev
open PySem PySem.Spec PyProof.Rows L2

theorem lay_ints : ∀ scr : List Int, PyData.canLayAll0 (scr.map .int) = true
  | [] => by simp [PyData.canLayAll0]
  | x :: r => by simp [PyData.canLayAll0, PyData.canLay0, lay_ints r]
theorem depth_ints : ∀ scr : List Int, PyData.depthAll (scr.map .int) = 0
  | [] => by simp [PyData.depthAll]
  | x :: r => by simp [PyData.depthAll, PyData.depth, depth_ints r]
theorem ne_nil (scr : List Int) : neD (.list (scr.map .int)) (.list []) = some (.d (.bool (!scr.isEmpty))) := by
  have h : SeqAt.shaped (.list (scr.map .int)) = true := by simp [SeqAt.shaped, PyData.canLay0, PyData.depth, lay_ints, depth_ints]
  have h2 : SeqAt.shaped (.list []) = true := by simp [SeqAt.shaped, PyData.canLay0, PyData.depth, PyData.canLayAll0, PyData.depthAll]
  unfold neD eqOk
  simp only [h, h2]
  cases scr <;> simp [PyData.eqv, PyData.eqvAll, bD]
/-- the reader: the script, the place, what is left of a number, how often -/
def rdr (scr : List Int) (pos left cnt : Int) : Vl := .own [.d (.list (scr.map .int)), .d (.int pos), .d (.int left), .d (.int cnt)]
/-- .. in the first cell, drawn from at most N times -/
def Rd (N : Int) (st : List Vl) : Prop := ∃ (scr : List Int) (pos left cnt : Int), st = [rdr scr pos left cnt] ∧ 0 ≤ cnt ∧ cnt ≤ N ∧ scr.length ≤ 63
theorem Rd.mono {N M : Int} {st : List Vl} (h : Rd N st) (k : N ≤ M) : Rd M st := by
  obtain ⟨a, b, c, d, e, h1, h2, h3⟩ := h
  exact ⟨a, b, c, d, e, h1, by omega, h3⟩
theorem atI_mod {scr : List Int} (h : scr ≠ []) (pos : Int) : ∃ c : Int, L2.atI (scr.map PyData.int) (pos % (scr.length : Int)) = some (.int c) := by
  have hl : 0 < scr.length := List.length_pos_iff.mpr h
  have h1 := Int.emod_nonneg pos (show (scr.length : Int) ≠ 0 by omega)
  have h2 := Int.emod_lt_of_pos pos (show (0 : Int) < scr.length by omega)
  obtain ⟨j, hj⟩ : ∃ j : Nat, pos % (scr.length : Int) = j := ⟨(pos % (scr.length : Int)).toNat, by omega⟩
  have hjl : j < scr.length := by omega
  refine ⟨scr[j], ?_⟩
  rw [hj]
  refine L2.atI_nat (j := j) ?_
  rw [List.getElem?_map, List.getElem?_eq_getElem hjl]
  rfl
theorem at4_0 {α : Type} (a b c d : α) : L2.atI [a, b, c, d] 0 = some a := rfl
theorem at4_1 {α : Type} (a b c d : α) : L2.atI [a, b, c, d] 1 = some b := rfl
theorem at4_2 {α : Type} (a b c d : α) : L2.atI [a, b, c, d] 2 = some c := rfl
theorem at4_3 {α : Type} (a b c d : α) : L2.atI [a, b, c, d] 3 = some d := rfl
theorem ix4_1 : ixN 4 1 = some 1 := rfl
theorem ix4_2 : ixN 4 2 = some 2 := rfl
theorem ix4_3 : ixN 4 3 = some 3 := rfl

/-- the first kind of draw; its numbers are the law's own -/
def eGetA : FS := sIf (cT (cBin neD (cRd 0 (cCon (.int 0))) (cArgs lstD (cNil)))) (sSeq (sAsg 3 (cBin ixD (cRd 0 (cCon (.int 0))) (cBin modD (cArgs intD (cCons (cRd 0 (cCon (.int 1))) (cNil))) (cArgs lenD (cCons (cRd 0 (cCon (.int 0))) (cNil)))))) (sNil)) (sNil)
def eTailA (a b c d e f g : Int) : FS := sSeq (sIf (cT (cAnd (cBin geD (cVar 3) (cBin powD (cCon (.int 10)) (cCon (.int 18)))) (cBin leD (cRd 0 (cCon (.int 1))) (cArgs lenD (cCons (cRd 0 (cCon (.int 0))) (cNil)))))) (sSeq (sSetI 0 (cCon (.int 2)) (cBin fdivD (cVar 3) (cVar 1))) (sSeq (sRet (cBin modD (cArgs intD (cCons (cVar 3) (cNil))) (cVar 1))) (sNil))) (sNil))
  (sSeq (sAsg 4 (cBin modD (cArgs intD (cCons (cBin powD (cBin addD (cBin addD (cBin modD (cArgs intD (cCons (cVar 3) (cNil))) (cCon (.int a))) (cBin mulX (cCon (.int b)) (cRd 0 (cCon (.int 3))))) (cCon (.int c))) (cCon (.int 5))) (cNil))) (cCon (.int d))))
  (sSeq (sRet (cBin modD (cArgs intD (cCons (cBin fdivD (cBin modD (cArgs intD (cCons (cBin powD (cBin addD (cVar 4) (cBin mulX (cCon (.int e)) (cRd 0 (cCon (.int 3))))) (cCon (.int 5))) (cNil))) (cCon (.int f))) (cCon (.int g))) (cNil))) (cVar 1))) (sNil)))
def eDrA (u a b c d e f g : Int) : FS := sSeq (sSetI 0 (cCon (.int 3)) (cBin addD (cRd 0 (cCon (.int 3))) (cCon (.int 1)))) (sSeq (sIf (cT (cBin gtD (cRd 0 (cCon (.int 2))) (cCon (.int 0)))) (sSeq (sAsg 2 (cBin modD (cArgs intD (cCons (cRd 0 (cCon (.int 2))) (cNil))) (cVar 1))) (sSeq (sSetI 0 (cCon (.int 2)) (cBin fdivD (cRd 0 (cCon (.int 2))) (cVar 1))) (sSeq (sRetV 2) (sNil)))) (sNil))
  (sSeq (sAsg 3 (cCon (.int u))) (sSeq eGetA (sSeq (sSetI 0 (cCon (.int 1)) (cBin addD (cRd 0 (cCon (.int 1))) (cCon (.int 1)))) (eTailA a b c d e f g)))))
theorem getA (scr : List Int) (pos left cnt u : Int) (v : Vl) : ∃ cell : Int, eGetA ⟨[some (.ref 0), some v, none, some (.d (.int u)), none], [rdr scr pos left cnt]⟩ = .ok .nx ⟨[some (.ref 0), some v, none, some (.d (.int cell)), none], [rdr scr pos left cnt]⟩ := by
  by_cases hs : scr = []
  · subst hs
    refine ⟨u, ?_⟩
    have nn := ne_nil []
    simp only [List.map_nil] at nn
    simp [eGetA, rdr, sIf, cT, cBin, cRd, isSet, plcGet, at4_0, cArgs, cNil, lstD, nn, sNil]
  · obtain ⟨cv, hcv⟩ := atI_mod hs pos
    have hpos : 0 < scr.length := List.length_pos_iff.mpr hs
    refine ⟨cv, ?_⟩
    simp [eGetA, rdr, sIf, cT, cBin, cRd, isSet, plcGet, at4_0, at4_1, cArgs, cCons, cNil, lstD, ne_nil, hs, sSeq, sAsg, intD, lenD, modD, hpos, ixD, hcv, sNil]
theorem drawA {u a b c d e f g : Int} (ha : 0 < a ∧ a < 2 ^ 40) (hb : 0 ≤ b ∧ b < 2 ^ 20) (hc : 0 ≤ c ∧ c < 2 ^ 20) (hd : 0 < d ∧ d < 2 ^ 40) (he : 0 ≤ e ∧ e < 2 ^ 20) (hf : 0 < f) (hg : 0 < g ∧ g < 2 ^ 30)
    {N : Int} {st : List Vl} (h : Rd N st) (hN : N ≤ 2 ^ 40) {m : Int} (m0 : 0 < m) (m1 : m < 2 ^ 30) :
    ∃ (k : Int) (st' : List Vl), 0 ≤ k ∧ k < m ∧ Rd (N + 1) st' ∧ ∀ ρ, back ρ (runF 5 (eDrA u a b c d e f g) [.ref 0, .d (.int m)] st) = .ok (.d (.int k)) ⟨ρ, st'⟩ := by
  obtain ⟨scr, pos, left, cnt, rfl, h0, h1, h2⟩ := h
  have m1' : m < 1073741824 := m1
  have g1' : g < 1073741824 := hg.2
  have hM : ∀ z : Int, 0 ≤ z % m ∧ z % m < m := fun z => ⟨Int.emod_nonneg _ (by omega), Int.emod_lt_of_pos _ m0⟩
  by_cases hl : left > 0
  · refine ⟨left % m, _, (hM _).1, (hM _).2, ⟨scr, pos, left / m, cnt + 1, rfl, by omega, by omega, h2⟩, fun ρ => ?_⟩
    simp [rdr, runF, entry, eDrA, sSeq, sSetI, cBin, cRd, isSet, plcGet, plcSet, at4_1, at4_2, at4_3, ix4_1, ix4_2, ix4_3, addD, sIf, cT, gtD, bD, hl, sAsg, cArgs, cCons, cNil, intD, modD, fdivD, m0, m1', sRetV, sNil, x_var]
  · obtain ⟨cell, hcell⟩ := getA scr pos left (cnt + 1) u (.d (.int m))
    have w0 : ∀ ρ, back ρ (runF 5 (eDrA u a b c d e f g) [.ref 0, .d (.int m)] [rdr scr pos left cnt]) = back ρ (endF (eTailA a b c d e f g ⟨[some (.ref 0), some (.d (.int m)), none, some (.d (.int cell)), none], [rdr scr (pos + 1) left (cnt + 1)]⟩)) := fun ρ => by
      simp only [rdr] at hcell
      simp [rdr, runF, entry, eDrA, sSeq, sSetI, cBin, cRd, isSet, plcGet, plcSet, at4_1, at4_2, at4_3, ix4_1, ix4_2, ix4_3, addD, sIf, cT, gtD, bD, hl, sAsg, hcell, sNil]
    have p1 : ∀ z : Int, 0 ≤ z % a ∧ z % a < a := fun z => ⟨Int.emod_nonneg _ (by omega), Int.emod_lt_of_pos _ (by omega)⟩
    have p2 : ∀ z : Int, 0 ≤ z % d ∧ z % d < d := fun z => ⟨Int.emod_nonneg _ (by omega), Int.emod_lt_of_pos _ (by omega)⟩
    have pb : 0 ≤ b * (cnt + 1) ∧ b * (cnt + 1) ≤ 2 ^ 20 * (2 ^ 40 + 1) := ⟨Int.mul_nonneg hb.1 (by omega), Int.mul_le_mul (by omega) (by omega) (by omega) (by omega)⟩
    have pe : 0 ≤ e * (cnt + 1) ∧ e * (cnt + 1) ≤ 2 ^ 20 * (2 ^ 40 + 1) := ⟨Int.mul_nonneg he.1 (by omega), Int.mul_le_mul (by omega) (by omega) (by omega) (by omega)⟩
    have q1 : (cell % a + b * (cnt + 1) + c).natAbs < 18446744073709551616 := by have := p1 cell; omega
    have q2 : ∀ z : Int, (z % d + e * (cnt + 1)).natAbs < 18446744073709551616 := fun z => by have := p2 z; omega
    have hb1 : -18446744073709551616 < b := by omega
    have hb2 : b < 18446744073709551616 := by omega
    have he1 : -18446744073709551616 < e := by omega
    have he2 : e < 18446744073709551616 := by omega
    have ha0 := ha.1
    have hd0 := hd.1
    have hg0 := hg.1
    have rdok : ∀ left' : Int, Rd (N + 1) [rdr scr (pos + 1) left' (cnt + 1)] := fun left' => ⟨scr, pos + 1, left', cnt + 1, rfl, by omega, by omega, h2⟩
    by_cases hx : 1000000000000000000 ≤ cell ∧ pos + 1 ≤ (scr.length : Int)
    · obtain ⟨hx1, hx2⟩ := hx
      refine ⟨cell % m, _, (hM _).1, (hM _).2, rdok (cell / m), fun ρ => ?_⟩
      rw [w0]
      simp [rdr, eTailA, sSeq, sSetI, cBin, cRd, isSet, plcGet, plcSet, at4_0, at4_1, at4_2, at4_3, ix4_1, ix4_2, ix4_3, addD, sIf, cT, gtD, geD, leD, lenD, cAnd, powD, bD, hx1, hx2, sAsg, cArgs, cCons, cNil, intD, modD, fdivD, m0, m1', sRetV, sRet, sNil, x_var]
    · refine ⟨_, _, (hM ((((((cell % a + b * (cnt + 1) + c) ^ 5) % d + e * (cnt + 1)) ^ 5) % f) / g)).1, (hM _).2, rdok left, fun ρ => ?_⟩
      rw [w0]
      by_cases hx1 : 1000000000000000000 ≤ cell
      · have hx2 : ¬ pos + 1 ≤ (scr.length : Int) := fun z => hx ⟨hx1, z⟩
        simp [rdr, eTailA, sSeq, sSetI, cBin, cRd, isSet, plcGet, plcSet, at4_0, at4_1, at4_2, at4_3, ix4_1, ix4_2, ix4_3, addD, mulX, mulD, sIf, cT, gtD, geD, leD, lenD, cAnd, powD, bD, hx1, hx2, q1, q2, hb1, hb2, he1, he2, ha0, hd0, hf, hg0, g1', sAsg, cArgs, cCons, cNil, intD, modD, fdivD, m0, m1', sRetV, sRet, sNil, x_var]
      · simp [rdr, eTailA, sSeq, sSetI, cBin, cRd, isSet, plcGet, plcSet, at4_0, at4_1, at4_2, at4_3, ix4_1, ix4_2, ix4_3, addD, mulX, mulD, sIf, cT, gtD, geD, leD, lenD, cAnd, powD, bD, hx1, q1, q2, hb1, hb2, he1, he2, ha0, hd0, hf, hg0, g1', sAsg, cArgs, cCons, cNil, intD, modD, fdivD, m0, m1', sRetV, sRet, sNil, x_var]
end Ev

/-! Part 17: sizes of data. -/
namespace Ev
open PySem PySem.Spec PyProof.Rows L2

mutual
/-- no less than what its writing takes -/
def wt : PyData → Nat
  | .none => 4
  | .bool _ => 5
  | .int _ => 70
  | .str x => 10 * x.length + 2
  | .list xs => wtA xs + 3
  | .tuple xs => wtA xs + 4
  | .dict _ => 0
def wtA : List PyData → Nat
  | [] => 0
  | x :: xs => wt x + 2 + wtA xs
end
mutual
/-- plain data: the ints within B, texts of signs, no dict -/
def okd (B : Nat) : PyData → Bool
  | .none => true
  | .bool _ => true
  | .int i => decide (i.natAbs ≤ B)
  | .str x => PyData.strOk x
  | .list xs => okdA B xs
  | .tuple xs => okdA B xs
  | .dict _ => false
def okdA (B : Nat) : List PyData → Bool
  | [] => true
  | x :: xs => okd B x && okdA B xs
end
theorem okdA_all {B : Nat} : ∀ {xs : List PyData}, okdA B xs = true ↔ ∀ x ∈ xs, okd B x = true
  | [] => by simp [okdA]
  | x :: xs => by simp [okdA, okdA_all (xs := xs)]
theorem wtA_app : ∀ xs ys : List PyData, wtA (xs ++ ys) = wtA xs + wtA ys
  | [], ys => by simp [wtA]
  | x :: xs, ys => by simp [wtA, wtA_app xs ys]; omega
theorem wtA_mem {x : PyData} : ∀ {xs : List PyData}, x ∈ xs → wt x + 2 ≤ wtA xs
  | y :: ys, h => by
    rcases List.mem_cons.mp h with rfl | h
    · simp [wtA]
    · have := wtA_mem h
      simp [wtA]
      omega
theorem wtA_len : ∀ xs : List PyData, 2 * xs.length ≤ wtA xs
  | [] => by simp [wtA]
  | x :: xs => by have := wtA_len xs; simp [wtA]; omega
mutual
theorem okd_mono {B C : Nat} (h : B ≤ C) : ∀ {x : PyData}, okd B x = true → okd C x = true
  | .none, _ => by simp [okd]
  | .bool _, _ => by simp [okd]
  | .int i, e => by
    simp [okd] at e ⊢
    omega
  | .str x, e => by simpa [okd] using e
  | .list xs, e => by
    simp only [okd] at e ⊢
    exact okdA_mono h e
  | .tuple xs, e => by
    simp only [okd] at e ⊢
    exact okdA_mono h e
  | .dict _, e => by simp [okd] at e
theorem okdA_mono {B C : Nat} (h : B ≤ C) : ∀ {xs : List PyData}, okdA B xs = true → okdA C xs = true
  | [], _ => by simp [okdA]
  | x :: xs, e => by
    simp only [okdA, Bool.and_eq_true] at e ⊢
    exact ⟨okd_mono h e.1, okdA_mono h e.2⟩
end
mutual
theorem canLay_okd {B : Nat} : ∀ {x : PyData}, okd B x = true → x.canLay0 = true
  | .none, _ => by simp [PyData.canLay0]
  | .bool _, _ => by simp [PyData.canLay0]
  | .int i, e => by simp [PyData.canLay0]
  | .str x, e => by simpa [okd, PyData.canLay0] using e
  | .list xs, e => by
    simp only [okd, PyData.canLay0] at e ⊢
    exact canLayA_okd e
  | .tuple xs, e => by
    simp only [okd, PyData.canLay0] at e ⊢
    exact canLayA_okd e
  | .dict _, e => by simp [okd] at e
theorem canLayA_okd {B : Nat} : ∀ {xs : List PyData}, okdA B xs = true → PyData.canLayAll0 xs = true
  | [], _ => by simp [PyData.canLayAll0]
  | x :: xs, e => by
    simp only [okdA, PyData.canLayAll0, Bool.and_eq_true] at e ⊢
    exact ⟨canLay_okd e.1, canLayA_okd e.2⟩
end
theorem log_small {i : Int} {B : Nat} (h : i.natAbs ≤ B) (hB : B < 2 ^ 1000) : i.natAbs.log2 < 1920 := by
  by_cases h0 : i.natAbs = 0
  · rw [h0]
    decide
  · have h1 : i.natAbs.log2 < 1000 := (Nat.log2_lt h0).mpr (by omega)
    omega
mutual
theorem show_okd {B : Nat} (hB : B < 2 ^ 1000) : ∀ {x : PyData}, okd B x = true → x.showable = true ∧ x.hasDict = false
  | .none, _ => by simp [PyData.showable, PyData.hasDict]
  | .bool _, _ => by simp [PyData.showable, PyData.hasDict]
  | .int i, e => by
    simp only [okd, decide_eq_true_eq] at e
    simp [PyData.showable, PyData.hasDict, log_small e hB]
  | .str x, e => by simp [PyData.showable, PyData.hasDict]
  | .list xs, e => by
    simp only [okd, PyData.showable, PyData.hasDict] at e ⊢
    exact showA_okd hB e
  | .tuple xs, e => by
    simp only [okd, PyData.showable, PyData.hasDict] at e ⊢
    exact showA_okd hB e
  | .dict _, e => by simp [okd] at e
theorem showA_okd {B : Nat} (hB : B < 2 ^ 1000) : ∀ {xs : List PyData}, okdA B xs = true → PyData.showableAll xs = true ∧ PyData.hasDictAll xs = false
  | [], _ => by simp [PyData.showableAll, PyData.hasDictAll]
  | x :: xs, e => by
    simp only [okdA, Bool.and_eq_true] at e
    obtain ⟨h1, h2⟩ := show_okd hB e.1
    obtain ⟨h3, h4⟩ := showA_okd hB e.2
    simp [PyData.showableAll, PyData.hasDictAll, h1, h2, h3, h4]
end
theorem piled_le : ∀ {ts : List Str} {xs : List PyData}, (∀ (i : Nat) (t : Str) (x : PyData), ts[i]? = some t → xs[i]? = some x → t.length ≤ wt x) → ts.length = xs.length → piled ts ≤ wtA xs
  | [], [], _, _ => by simp [piled, wtA]
  | t :: ts, x :: xs, h, hl => by
    have h1 := h 0 t x rfl rfl
    have h2 := piled_le (ts := ts) (xs := xs) (fun i a b ha hb => h (i + 1) a b (by simpa using ha) (by simpa using hb)) (by simpa using hl)
    rw [piled_cons, wtA]
    omega
  | [], _ :: _, _, hl => by simp at hl
  | _ :: _, [], _, hl => by simp at hl
theorem textFrom_le : ∀ (ts : List Str) (k : Nat) (acc : Str), (textFrom k acc ts).length ≤ acc.length + piled ts
  | [], k, acc => by simp [textFrom, piled]
  | t :: r, k, acc => by
    have ih := textFrom_le r (k + 1) (acc ++ (if k > 0 then ", " else "" : String) ++ t)
    rw [textFrom, piled_cons]
    rw [strLen_append, strLen_append] at ih
    have e : ((if k > 0 then ", " else "" : String) : Str).length ≤ 2 := by split <;> decide
    omega
mutual
theorem shown_le {B : Nat} (hB : B < 10 ^ 64) : ∀ {x : PyData}, okd B x = true → x.shown.length ≤ wt x
  | .none, _ => by simp only [PyData.shown, wt]; decide
  | .bool b, _ => by cases b <;> simp only [PyData.shown, wt] <;> decide
  | .int i, e => by
    simp only [okd, decide_eq_true_eq] at e
    simp only [PyData.shown, wt]
    rw [PySem.ofString_length]
    exact Nat.le_trans (int_text_length_le10 (k := 64) (by decide) (by omega)) (by decide)
  | .str x, e => by
    simp only [okd] at e
    simp only [PyData.shown, wt]
    refine StrLaws.reprText_len x fun c hc => ?_
    have h1 := Array.all_eq_true'.mp e c (Array.mem_toList_iff.mp hc)
    have h2 := of_decide_eq_true h1
    omega
  | .list xs, e => by
    simp only [okd] at e
    simp only [PyData.shown, wt]
    unfold listText
    have h1 := textFrom_le (PyData.shownAll xs) 0 "["
    have h2 := piled_shown hB e
    rw [strLen_append]
    have e1 : (("[" : String) : Str).length = 1 := rfl
    have e2 : (("]" : String) : Str).length = 1 := rfl
    omega
  | .tuple xs, e => by
    simp only [okd] at e
    simp only [PyData.shown, wt]
    unfold tupleText
    have h2 := piled_shown hB e
    rw [strLen_append, strLen_append]
    have e1 : (("(" : String) : Str).length = 1 := rfl
    have e2 : ((if (PyData.shownAll xs).length == 1 then ",)" else ")" : String) : Str).length ≤ 2 := by split <;> decide
    have e3 : (Str.join ", " (PyData.shownAll xs)).length ≤ piled (PyData.shownAll xs) := by
      cases h : PyData.shownAll xs with
      | nil => decide
      | cons t ts =>
        have := join_length_add (t :: ts) (by simp)
        omega
    omega
  | .dict _, e => by simp [okd] at e
theorem piled_shown {B : Nat} (hB : B < 10 ^ 64) : ∀ {xs : List PyData}, okdA B xs = true → piled (PyData.shownAll xs) ≤ wtA xs
  | [], _ => by simp [PyData.shownAll, piled, wtA]
  | x :: xs, e => by
    simp only [okdA, Bool.and_eq_true] at e
    have h1 := shown_le hB e.1
    have h2 := piled_shown hB e.2
    rw [PyData.shownAll, piled_cons, wtA]
    omega
end
/-- repr is there -/
theorem repr_ok {B : Nat} {x : PyData} (hB : B < 10 ^ 64) (h : okd B x = true) (hw : wt x ≤ LIM) (hd : x.depth ≤ 60) : reprD [x] = some (.d (.str x.shown)) := by
  obtain ⟨h1, h2⟩ := show_okd (by
    have e : (10 : Nat) ^ 64 < 2 ^ 1000 := by decide +kernel
    exact Nat.lt_trans hB e) h
  have h3 := shown_le hB h
  have h4 : x.shown.length ≤ LIM := by omega
  unfold reprD
  simp [h1, h2, hd, h4]
theorem shaped_ok {B : Nat} {x : PyData} (h : okd B x = true) (hd : x.depth ≤ 64) : SeqAt.shaped x = true := by
  unfold SeqAt.shaped
  simp [canLay_okd h, hd]
theorem depthA_mem {x : PyData} : ∀ {xs : List PyData}, x ∈ xs → x.depth ≤ PyData.depthAll xs
  | y :: ys, h => by
    rw [PyData.depthAll]
    rcases List.mem_cons.mp h with rfl | h
    · exact Nat.le_max_left _ _
    · exact Nat.le_trans (depthA_mem h) (Nat.le_max_right _ _)
theorem depthA_le {n : Nat} : ∀ {xs : List PyData}, (∀ x ∈ xs, x.depth ≤ n) → PyData.depthAll xs ≤ n
  | [], _ => by simp [PyData.depthAll]
  | x :: xs, h => by
    rw [PyData.depthAll]
    exact Nat.max_le.mpr ⟨h x List.mem_cons_self, depthA_le fun y hy => h y (List.mem_cons_of_mem _ hy)⟩
@[simp] theorem eqv_str (x : Str) : PyData.eqv (.str x) (.str x) = true := by simp [PyData.eqv]
theorem eqd_str (x y : Str) : eqD (.str x) (.str y) = some (.d (.bool (x == y))) := by simp [eqD, eqOk, PyData.eqv, bD]
theorem ned_str (x y : Str) : neD (.str x) (.str y) = some (.d (.bool (!(x == y)))) := by simp [neD, eqOk, PyData.eqv, bD]
theorem shp_int (i : Int) : SeqAt.shaped (.int i) = true := by simp [SeqAt.shaped, PyData.canLay0, PyData.depth]
@[simp] theorem eqd_int (i j : Int) : eqD (.int i) (.int j) = some (.d (.bool (decide (i = j)))) := by
  have e : (i == j) = decide (i = j) := rfl
  simp [eqD, eqOk, shp_int, PyData.eqv, bD, e]
@[simp] theorem ned_int (i j : Int) : neD (.int i) (.int j) = some (.d (.bool (!decide (i = j)))) := by
  have e : (i == j) = decide (i = j) := rfl
  simp [neD, eqOk, shp_int, PyData.eqv, bD, e]
@[simp] theorem add_int (i j : Int) : addD (.int i) (.int j) = some (.d (.int (i + j))) := rfl
@[simp] theorem sub_int (i j : Int) : subD (.int i) (.int j) = some (.d (.int (i - j))) := rfl
@[simp] theorem lt_int (i j : Int) : ltD (.int i) (.int j) = some (.d (.bool (decide (i < j)))) := rfl
@[simp] theorem gt_int (i j : Int) : gtD (.int i) (.int j) = some (.d (.bool (decide (j < i)))) := rfl
@[simp] theorem le_int (i j : Int) : leD (.int i) (.int j) = some (.d (.bool (decide (i ≤ j)))) := rfl
@[simp] theorem ge_int (i j : Int) : geD (.int i) (.int j) = some (.d (.bool (decide (j ≤ i)))) := rfl
@[simp] theorem neg_int (i : Int) : negD (.int i) = some (.d (.int (-i))) := rfl
@[simp] theorem ix_list (xs : List PyData) (i : Int) : ixD (.list xs) (.int i) = (L2.atI xs i).map .d := rfl
@[simp] theorem ix_tuple (xs : List PyData) (i : Int) : ixD (.tuple xs) (.int i) = (L2.atI xs i).map .d := rfl
@[simp] theorem tupleD_list (xs : List PyData) : tupleD [.list xs] = some (.d (.tuple xs)) := rfl
@[simp] theorem tupleD_tuple (xs : List PyData) : tupleD [.tuple xs] = some (.d (.tuple xs)) := rfl
@[simp] theorem listD_list (xs : List PyData) : listD [.list xs] = some (dL xs) := rfl
@[simp] theorem listD_tuple (xs : List PyData) : listD [.tuple xs] = some (dL xs) := rfl
@[simp] theorem isD_none (x : PyData) : isD x .none = some (.d (.bool (isNone x))) := by cases x <;> rfl
@[simp] theorem isnotD_none (x : PyData) : isnotD x .none = some (.d (.bool (!isNone x))) := by cases x <;> rfl
end Ev

/-! Part 18: a tuple from its end; walks with numbers. -/
namespace Ev
open PySem PySem.Spec PyProof.Rows L2

theorem rev_pick {α : Type} (xs : List α) : (List.range xs.length).filterMap (fun (k : Nat) => xs.toArray[(((xs.length : Int) - 1) + (k : Int) * (-1)).toNat]?) = xs.reverse := by
  have e : ∀ k ∈ List.range xs.length, xs.toArray[(((xs.length : Int) - 1) + (k : Int) * (-1)).toNat]? = xs.reverse[k]? := fun k hk => by
    have hk := List.mem_range.mp hk
    rw [List.getElem?_toArray, List.getElem?_reverse hk]
    congr 1
    omega
  have cg : ∀ (l : List Nat), (∀ k ∈ l, xs.toArray[(((xs.length : Int) - 1) + (k : Int) * (-1)).toNat]? = xs.reverse[k]?) → l.filterMap (fun (k : Nat) => xs.toArray[(((xs.length : Int) - 1) + (k : Int) * (-1)).toNat]?) = l.filterMap (fun k => xs.reverse[k]?) := fun l => by
    induction l with
    | nil => intro _; rfl
    | cons y r ih =>
      intro h
      rw [List.filterMap_cons, List.filterMap_cons, h y List.mem_cons_self, ih fun k hk => h k (List.mem_cons_of_mem _ hk)]
  rw [cg _ e]
  have : ∀ ys : List α, (List.range ys.length).filterMap (fun k => ys[k]?) = ys := fun ys => by
    induction ys with
    | nil => rfl
    | cons y r ih =>
      rw [List.length_cons, List.range_succ_eq_map, List.filterMap_cons]
      simp only [List.getElem?_cons_zero, List.filterMap_map]
      congr 1
  have h := this xs.reverse
  rw [List.length_reverse] at h
  exact h
section
variable {prog : Program} {w : World} {A : Around} {E : Value → Shared → Prop} {s : Shared}
theorem slice_back {sl : Addr} {vl vu vs : Value} {n : Nat} {Q : Int × Int × Nat → Shared → Prop} (hs : s.heap.IsSliceOf sl vl vu vs) (pl : IsPart vl none) (pu : IsPart vu none) (ps : IsPart vs (some (-1)))
    (h : Q ((n : Int) - 1, -1, n) s) : wpAny (model prog w) A (Builtin.Slice.sliceApplied (.ref sl) (pure (n : Int))) Q E s := by
  obtain ⟨os, hos, hcs, hds⟩ := id hs
  unfold Builtin.Slice.sliceApplied Builtin.Slice.sliceFields
  refine wpAny_bind (wpAny_bind (wpAny_field hos hds (x := vl) rfl (wpAny_bind (wpAny_field hos hds (x := vu) rfl (wpAny_bind (wpAny_field hos hds (x := vs) rfl (wpAny_pure ?_)))))))
  refine wpAny_bind (HT.slicePart_ ps ?_)
  show wpAny _ _ (if ((-1 : Int) == 0) = true then _ else _) _ _ s
  rw [if_neg (by decide)]
  refine wpAny_bind (HT.slicePart_ pl (wpAny_bind (HT.slicePart_ pu (wpAny_bind (wpAny_pure ?_)))))
  show wpAny _ _ (pure ((n : Int) - 1, (-1 : Int), Builtin.Slice.slicePlaces ((n : Int) - 1) (-1) (-1))) _ _ s
  have e : Builtin.Slice.slicePlaces ((n : Int) - 1) (-1) (-1) = n := by
    unfold Builtin.Slice.slicePlaces
    rw [if_neg (by decide)]
    simp only [Int.neg_neg, Int.ediv_one]
    split <;> omega
  rw [e]
  exact wpAny_pure h
theorem item_back {t sl : Addr} {items : Array Value} {vl vu vs : Value} {Q : Value → Shared → Prop} (ht : IsTup s.heap t items) (hs : s.heap.IsSliceOf sl vl vu vs) (pl : IsPart vl none) (pu : IsPart vu none) (ps : IsPart vs (some (-1)))
    (h : Q (.ref s.heap.objs.size) { s with heap := s.heap.push { cls := .type "tuple", data := .seq items.toList.reverse.toArray } }) (hz : items.size ≤ sizeLine) : wpAny (model prog w) A (getItem (.ref t) (.ref sl)) Q E s := by
  have fits : sizeOk (.seq items.toList.reverse.toArray) := by
    show items.toList.reverse.toArray.size ≤ sizeLine
    rw [List.size_toArray, List.length_reverse, Array.length_toList]
    exact hz
  obtain ⟨os, hos, hcs, hds⟩ := id hs
  have hT : s.TypeIs (.ref sl) "slice" := ⟨os, hos, hcs⟩
  unfold getItem
  try with_reducible refine wpAny_holding ?_
  first | refine wpAny_bind (wpAny_pure ?_) | skip
  refine wpAny_bind (wpAny_sequenceKey ht.typeIs (by decide) ?_)
  refine wpAny_bind (wpAny_callSpecial?_slot (name := Str.ofString "__getitem__") ht.typeIs PyProof.Rows.slot_tuple_getitem (wpAny_call_entry PyProof.Rows.slot_tuple_getitem ht.typeIs entry_tuple_getitem ?_ (args_tuple_getitem _ _)))
  show wpAny _ _ (Builtin.Tuple.tupleItemsOf (.ref t) >>= _) _ _ s
  refine wpAny_bind (tupleItemsOf_ ht (wpAny_bind (wpAny_typeOf hT ?_)))
  rw [if_pos (by decide)]
  refine wpAny_bind (slice_back hs pl pu ps ?_)
  have no : ¬ ((((items.size : Int) - 1) == 0 && (-1 : Int) == 1 && items.size == items.size) = true) := by simp
  show wpAny _ _ (if (((items.size : Int) - 1) == 0 && (-1 : Int) == 1 && items.size == items.size) = true then _ else _) _ _ s
  have pick := rev_pick items.toList
  rw [Array.length_toList, Array.toArray_toList] at pick
  rw [if_neg no, pick]
  first
    | exact wpAny_bind (m := Builtin.Tuple.tupleExact _) (wpAny_newObj_type (wpAny_pure ⟨_, rfl, wpAny_pure h⟩) fits)
    | exact wpAny_bind (m := Builtin.Tuple.tupleExact _) (wpAny_newObj_type (wpAny_bind (wpAny_pure (wpAny_pure ⟨_, rfl, wpAny_pure h⟩))) fits)
    | exact wpAny_bind (wpAny_bind (m := Builtin.Tuple.tupleExact _) (wpAny_newObj_type (wpAny_pure (wpAny_pure ⟨_, rfl, wpAny_pure h⟩)) fits))
    | exact wpAny_bind (wpAny_bind (m := Builtin.Tuple.tupleExact _) (wpAny_newObj_type (wpAny_pure ⟨_, rfl, wpAny_pure h⟩) fits))
end
section
variable {X : Cx} {XR : XRt} {W : WX}
def tRevT (K : PySem.W.Frag) (te : TE) : TE := fun σ H Q => te σ H fun x H1 => ∃ a xs, x = .ref a ∧ SqT K H1 a xs ∧ ∀ p, H1 p = none → Q (.ref p) (upd H1 p (.tup xs.reverse))
theorem pe_revT {e : Expr} {te : TE} {k : Nat} {p1 p2 p3 pos : Pos} (he : PE X e te) : PE X (.Subscript e (.Slice none none (some (.UnaryOp .USub (.Constant (.int 1) k p1) p2)) p3) pos) (tRevT X.K te) := ⟨fun pins s σ H Q I h => by
  refine Subscript_ (thn (he.run pins s σ H _ I h) fun v s1 ⟨x, H1, I1, r1, a, xs, ex, hx, q⟩ => ?_)
  subst ex
  cases r1
  have step : PO X (some (.UnaryOp .USub (.Constant (.int 1) k p1) p2)) (tPart (tUn (rU fun i => .int (-i)) (tC (.int 1)))) := po_some (pe_un un_neg pe_int)
  refine wpAny_Slice (thn (po_none.run pins s1 σ H1 (fun o G => o = none ∧ G = H1) I1 ⟨rfl, rfl⟩) fun vl s2 ⟨l, H2, I2, pl, el, e2⟩ => ?_)
  subst el e2
  refine thn (po_none.run pins s2 σ H2 (fun o G => o = none ∧ G = H2) I2 ⟨rfl, rfl⟩) fun vu s3 ⟨u, H3, I3, pu, eu, e3⟩ => ?_
  subst eu e3
  refine thn (step.run pins s3 σ H3 (fun o G => o = some (-1) ∧ G = H3) I3 ⟨1, rfl, -1, rfl, rfl, rfl⟩) fun vs s4 ⟨o, H4, I4, ps, eo, e4⟩ => ?_
  subst eo e4
  have I5 : Inv X pins σ H4 { s4 with heap := s4.heap.push { cls := .type "slice", data := .fields #[vl, vu, vs] } } := I4.kept (t' := s4.toks) fun b ob q => Heap.get?_push_of_some _ q
  obtain ⟨its, r, ht, hz⟩ := I5.tuple hx
  have hl := r.length
  show wpAny (model X.prog X.w) X.A (subscriptTail e (.Slice none none (some (.UnaryOp .USub (.Constant (.int 1) k p1) p2)) p3) (.ref a) (.ref s4.heap.objs.size)) (EP X pins σ Q) X.xe { s4 with heap := s4.heap.push { cls := .type "slice", data := .fields #[vl, vu, vs] } }
  refine tail_any (ops := [.ref a, .ref s4.heap.objs.size]) ht.typeIs (PyProof.Rows.slot_tuple_getitem.lookup) ?_ (by with_unfolding_all rfl)
  refine item_back ht (Heap.IsSliceOf.new _ vl vu vs) pl pu ps ?_ (by rw [List.size_toArray]; omega)
  rw [List.toList_toArray]
  refine ⟨.ref _, _, I5.laid (t' := s4.toks) (o := .tup xs.reverse) (fun b ob q => Heap.get?_push_of_some _ q) (Nat.le_refl _) ?_, rfl, q _ (I5.hok.fresh (Nat.le_refl _))⟩
  exact ⟨by rw [List.length_reverse]; omega, _, r.reverse, IsTup.new _ _⟩⟩
theorem pe_or2 {e : Expr} {t u : TE} (h1 : PE X e t) (h2 : PE X e u) : PE X e (fun σ H Q => t σ H Q ∨ u σ H Q) := ⟨fun pins s σ H Q I h => h.elim (h1.run pins s σ H Q I) (h2.run pins s σ H Q I)⟩
def backD : PyData → Option Vl
  | .list xs => some (dL xs.reverse)
  | .tuple xs => some (.d (.tuple xs.reverse))
  | _ => none
theorem e_rev {a : Expr} {k : Nat} {p1 p2 p3 pos : Pos} {fa : F} (ha : PE X a (Wp X.K XR W fa)) : PE X (.Subscript a (.Slice none none (some (.UnaryOp .USub (.Constant (.int 1) k p1) p2)) p3) pos) (Wp X.K XR W (cUn backD fa)) :=
  pe_imp (pe_or2 (pe_revL ha) (pe_revT ha)) fun σ H Q ⟨s, O, θ, n, R, q⟩ => by
  unfold cUn at q
  cases e : fa s with
  | err => rw [e] at q; exact q.elim
  | exc x s' =>
    rw [e] at q
    exact .inl ⟨s, O, θ, n, R, by rw [e]; exact q⟩
  | ok x s1 =>
    rw [e] at q
    simp only [Ev.R.bind_ok] at q
    cases ex : Ev.cold x with
    | none => rw [ex] at q; exact q.elim
    | some y =>
      rw [ex] at q
      cases y with
      | list xs =>
        refine .inl ⟨s, O, θ, n, R, ?_⟩
        rw [e]
        intro v O1 θ1 H1 f1 e1 R1 P1
        have c := P1.coldFrom (Nat.le_refl _) ex
        have q : AfG X.K XR W O θ n σ H (Ev.R.ok (dL xs.reverse) s1) (fun x s' => ∀ v O' θ' H', Fr n O H O' H' → Ext θ θ' → Rel X.K O' θ' H' σ s' → Rep X.K O' θ' H' (.tmp n) [] v x → Q v H') := q
        cases c with
        | lst h2 c => exact ⟨_, _, rfl, h2.sq, end_lst (R1.coldFrom n) (fun u O' H' f3 R3 P3 => q u O' θ1 H' ((f1.trans fr_coldFrom (Nat.le_refl _)).trans f3 (Nat.le_refl _)) e1 R3 P3) c.rev⟩
      | tuple xs =>
        refine .inr ⟨s, O, θ, n, R, ?_⟩
        rw [e]
        intro v O1 θ1 H1 f1 e1 R1 P1
        have c := P1.coldFrom (Nat.le_refl _) ex
        have q : AfG X.K XR W O θ n σ H (Ev.R.ok (Vl.d (.tuple xs.reverse)) s1) (fun x s' => ∀ v O' θ' H', Fr n O H O' H' → Ext θ θ' → Rel X.K O' θ' H' σ s' → Rep X.K O' θ' H' (.tmp n) [] v x → Q v H') := q
        cases c with
        | tup h2 c => exact ⟨_, _, rfl, h2.sq, end_tup (R1.coldFrom n) (fun u O' H' f3 R3 P3 => q u O' θ1 H' ((f1.trans fr_coldFrom (Nat.le_refl _)).trans f3 (Nat.le_refl _)) e1 R3 P3) c.rev⟩
      | _ => exact q.elim
end
end Ev

/-! Part 19: comprehensions over patterns. -/
namespace Ev
open PySem PySem.Spec PyProof.Rows L2

theorem back_slots {vs : List Nat} {ρ ρ2 : List (Option Vl)} (e : wipeR vs ρ2 = wipeR vs ρ) : backR vs ρ ρ2 = ρ := by
  have hl : ρ2.length = ρ.length := by
    have := congrArg List.length e
    rwa [wipeR_length, wipeR_length] at this
  have key : ∀ us : List Nat, ∀ i, (backR us ρ ρ2)[i]? = if i ∈ us ∧ i < ρ.length then ρ[i]? else ρ2[i]? := fun us => by
    induction us with
    | nil => intro i; simp [backR]
    | cons u r ih =>
      intro i
      unfold backR
      by_cases h : i = u
      · subst h
        by_cases hi : i < ρ.length
        · rw [List.getElem?_set_self (by rw [backR_length]; omega), if_pos ⟨List.mem_cons_self, hi⟩, List.getElem?_eq_getElem hi]
        · rw [if_neg fun z => hi z.2, List.getElem?_eq_none (by rw [List.length_set, backR_length]; omega), List.getElem?_eq_none (by omega)]
      · rw [List.getElem?_set_ne (Ne.symm h), ih i]
        simp [h]
  apply List.ext_getElem?
  intro i
  rw [key vs i]
  by_cases h : i ∈ vs ∧ i < ρ.length
  · rw [if_pos h]
  · rw [if_neg h]
    have := congrArg (fun l => l[i]?) e
    simp only [wipeR_get] at this
    by_cases hi : i < ρ.length
    · have hv : i ∉ vs := fun z => h ⟨z, hi⟩
      simpa [hv] using this
    · rw [List.getElem?_eq_none (by omega), List.getElem?_eq_none (by omega)]
/-- any names, one clause -/
theorem lc_invG {vs : List Nat} {t : Tg} {c : S → R Bool} {f : F} (ρ : List (Option Vl)) (τ : PyData → List (Option Vl)) (I : Nat → List Vl → List Vl → Prop) : ∀ (xs : List PyData) (i : Nat) (acc : List Vl) (ρ1 : List (Option Vl)) (st : List Vl),
    wipeR vs ρ1 = wipeR vs ρ → I i acc st → acc.length + xs.length ≤ LIM →
    (∀ (j : Nat) (x : PyData) (acc st : List Vl), xs[j]? = some x → I (i + j) acc st → t.set x ⟨wipeR vs ρ, st⟩ = some ⟨τ x, st⟩ ∧ wipeR vs (τ x) = wipeR vs ρ ∧ ∃ st1, (c ⟨τ x, st⟩ = .ok false ⟨τ x, st1⟩ ∧ I (i + j + 1) acc st1) ∨
      ∃ y ρ2 st2, c ⟨τ x, st⟩ = .ok true ⟨τ x, st1⟩ ∧ f ⟨τ x, st1⟩ = .ok y ⟨ρ2, st2⟩ ∧ wipeR vs ρ2 = wipeR vs ρ ∧ I (i + j + 1) (acc ++ [y]) st2) →
    ∃ acc' ρ2 st', lcLoop vs t c f xs acc ⟨ρ1, st⟩ = .ok acc' ⟨ρ2, st'⟩ ∧ wipeR vs ρ2 = wipeR vs ρ ∧ I (i + xs.length) acc' st'
  | [], i, acc, ρ1, st, e, h, _, _ => ⟨acc, ρ1, st, rfl, e, h⟩
  | x :: r, i, acc, ρ1, st, e, h, hl, step => by
    rw [List.length_cons] at hl
    have next : ∀ (acc1 : List Vl) (ρ3 : List (Option Vl)) (st1 : List Vl), wipeR vs ρ3 = wipeR vs ρ → acc1.length ≤ acc.length + 1 → I (i + 0 + 1) acc1 st1 → ∃ acc' ρ2 st', lcLoop vs t c f r acc1 ⟨ρ3, st1⟩ = .ok acc' ⟨ρ2, st'⟩ ∧ wipeR vs ρ2 = wipeR vs ρ ∧ I (i + (x :: r).length) acc' st' := fun acc1 ρ3 st1 e3 hl1 h1 => by
      obtain ⟨acc', ρ2, st', q1, q2, q3⟩ := lc_invG ρ τ I r (i + 1) acc1 ρ3 st1 e3 h1 (by omega) fun j y a s hj hs => by
        have e0 : i + 1 + j = i + (j + 1) := by omega
        rw [e0] at hs ⊢
        exact step (j + 1) y a s (by simpa using hj) hs
      refine ⟨acc', ρ2, st', q1, q2, ?_⟩
      have e0 : i + (x :: r).length = i + 1 + r.length := by rw [List.length_cons]; omega
      rw [e0]
      exact q3
    obtain ⟨hset, hw, st1, q⟩ := step 0 x acc st rfl h
    have hset' : t.set x (wipeS vs ⟨ρ1, st⟩) = some ⟨τ x, st⟩ := by
      show t.set x ⟨wipeR vs ρ1, st⟩ = _
      rw [e]
      exact hset
    rcases q with ⟨ec, h1⟩ | ⟨y, ρ4, st2, ec, ef, ew, h2⟩
    · obtain ⟨acc', ρ2, st', q1, q2, q3⟩ := next acc (τ x) st1 hw (by omega) h1
      refine ⟨acc', ρ2, st', ?_, q2, q3⟩
      rw [lcLoop, hset']
      simp only [ec, noX]
      exact q1
    · obtain ⟨acc', ρ2, st', q1, q2, q3⟩ := next (acc ++ [y]) ρ4 st2 ew (by simp) h2
      refine ⟨acc', ρ2, st', ?_, q2, q3⟩
      rw [lcLoop, hset']
      simp only [ec, noX, ef]
      rw [if_pos (by omega)]
      exact q1
theorem cLc_invG {vs : List Nat} {t : Tg} {fi : FI} {c : S → R Bool} {f : F} {s : S} {ρ : List (Option Vl)} {st : List Vl} {xs : List PyData} (τ : PyData → List (Option Vl)) (I : Nat → List Vl → List Vl → Prop) (hi : fi s = .ok xs ⟨ρ, st⟩) (ho : notOwn ⟨ρ, st⟩ vs = true) (hl : xs.length ≤ LIM) (h : I 0 [] st)
    (step : ∀ (j : Nat) (x : PyData) (acc st : List Vl), xs[j]? = some x → I j acc st → t.set x ⟨wipeR vs ρ, st⟩ = some ⟨τ x, st⟩ ∧ wipeR vs (τ x) = wipeR vs ρ ∧ ∃ st1, (c ⟨τ x, st⟩ = .ok false ⟨τ x, st1⟩ ∧ I (j + 1) acc st1) ∨
      ∃ y ρ2 st2, c ⟨τ x, st⟩ = .ok true ⟨τ x, st1⟩ ∧ f ⟨τ x, st1⟩ = .ok y ⟨ρ2, st2⟩ ∧ wipeR vs ρ2 = wipeR vs ρ ∧ I (j + 1) (acc ++ [y]) st2) :
    ∃ acc st', cLc vs fi t c f s = .ok (.own acc) ⟨ρ, st'⟩ ∧ I xs.length acc st' := by
  obtain ⟨acc, ρ2, st', e1, e2, e3⟩ := lc_invG ρ τ I xs 0 [] ρ st rfl h (by simpa using hl) fun j x acc st hj hI => by
    rw [Nat.zero_add] at hI ⊢
    exact step j x acc st hj hI
  refine ⟨acc, st', ?_, by rw [Nat.zero_add] at e3; exact e3⟩
  unfold cLc
  rw [hi]
  simp only [R.bind_ok]
  rw [if_pos ho, e1]
  simp only
  rw [back_slots e2]
/-- data of data, whatever the names -/
theorem cLc_mapG {vs : List Nat} {t : Tg} {fi : FI} {c : S → R Bool} {f : F} {s : S} {ρ : List (Option Vl)} {st : List Vl} {xs : List PyData} (τ : PyData → List (Option Vl)) (p : PyData → Bool) (g : PyData → PyData) (hi : fi s = .ok xs ⟨ρ, st⟩) (ho : notOwn ⟨ρ, st⟩ vs = true) (hl : xs.length ≤ LIM)
    (hs : ∀ x, x ∈ xs → t.set x ⟨wipeR vs ρ, st⟩ = some ⟨τ x, st⟩ ∧ wipeR vs (τ x) = wipeR vs ρ) (hc : ∀ x, x ∈ xs → c ⟨τ x, st⟩ = .ok (p x) ⟨τ x, st⟩) (hf : ∀ x, x ∈ xs → p x = true → f ⟨τ x, st⟩ = .ok (.d (g x)) ⟨τ x, st⟩) :
    cLc vs fi t c f s = .ok (.own (((xs.filter p).map g).map Vl.d)) ⟨ρ, st⟩ := by
  obtain ⟨acc, st', e1, rfl, rfl⟩ := cLc_invG (t := t) (c := c) (f := f) τ (fun j acc st' => acc = (((xs.take j).filter p).map g).map Vl.d ∧ st' = st) hi ho hl ⟨by simp, rfl⟩ fun j x acc st' hj hI => by
    obtain ⟨rfl, rfl⟩ := hI
    have hm := List.mem_of_getElem? hj
    obtain ⟨h1, h2⟩ := hs x hm
    have ht : xs.take (j + 1) = xs.take j ++ [x] := by rw [List.take_add_one, hj]; rfl
    refine ⟨h1, h2, st', ?_⟩
    cases hp : p x with
    | false =>
      refine .inl ⟨by rw [hc x hm, hp], ?_, rfl⟩
      rw [ht, List.filter_append]
      simp [hp]
    | true =>
      refine .inr ⟨.d (g x), τ x, st', by rw [hc x hm, hp], hf x hm hp, h2, ?_, rfl⟩
      rw [ht, List.filter_append]
      simp [hp]
  rw [e1, List.take_length]
theorem cLc_mapYG {vs : List Nat} {t : Tg} {fi : FI} {f : F} {s : S} {ρ : List (Option Vl)} {st : List Vl} {xs : List PyData} (τ : PyData → List (Option Vl)) (g : PyData → PyData) (hi : fi s = .ok xs ⟨ρ, st⟩) (ho : notOwn ⟨ρ, st⟩ vs = true) (hl : xs.length ≤ LIM)
    (hs : ∀ x, x ∈ xs → t.set x ⟨wipeR vs ρ, st⟩ = some ⟨τ x, st⟩ ∧ wipeR vs (τ x) = wipeR vs ρ) (hf : ∀ x, x ∈ xs → f ⟨τ x, st⟩ = .ok (.d (g x)) ⟨τ x, st⟩) : cLc vs fi t cYes f s = .ok (.own ((xs.map g).map Vl.d)) ⟨ρ, st⟩ := by
  have h := cLc_mapG (c := cYes) (f := f) τ (fun _ => true) g hi ho hl hs (fun _ _ => rfl) fun x hx _ => hf x hx
  rwa [List.filter_eq_self.mpr (fun _ _ => rfl)] at h
end Ev

/-! Part 20: texts, reckoned with. -/
namespace Ev
open PySem PySem.Spec PyProof.Rows L2

theorem asStrs_map : ∀ ss : List Str, asStrs (ss.map .str) = some ss
  | [] => rfl
  | s :: r => by simp [asStrs, asStrs_map r]
theorem joinD_l {a : Str} {ss : List Str} (h : (ss.map (·.length)).sum + ss.length * a.length ≤ LIM) : joinD a [.list (ss.map .str)] = some (.d (.str (Txt.join a ss))) := by
  unfold joinD
  simp only [asStrs_map]
  rw [if_pos h]
theorem joinD_t {a : Str} {ss : List Str} (h : (ss.map (·.length)).sum + ss.length * a.length ≤ LIM) : joinD a [.tuple (ss.map .str)] = some (.d (.str (Txt.join a ss))) := by
  unfold joinD
  simp only [asStrs_map]
  rw [if_pos h]
theorem sum_len {a : Str} {ss : List Str} {L : Nat} (h : ∀ s ∈ ss, s.length ≤ L) : (ss.map (·.length)).sum + ss.length * a.length ≤ ss.length * (L + a.length) := by
  induction ss with
  | nil => simp
  | cons s r ih =>
    have h1 := h s List.mem_cons_self
    have h2 := ih fun x hx => h x (List.mem_cons_of_mem _ hx)
    rw [List.map_cons, List.sum_cons, List.length_cons, Nat.succ_mul, Nat.succ_mul]
    omega
theorem join_len {a : Str} {ss : List Str} {L : Nat} (h : ∀ s ∈ ss, s.length ≤ L) : (Txt.join a ss).length ≤ ss.length * (L + a.length) := by
  rw [TL.join_eq]
  induction ss with
  | nil => simp [Str.join, Str.empty, Str.length]
  | cons s r ih =>
    have h1 := h s List.mem_cons_self
    have h2 := ih fun x hx => h x (List.mem_cons_of_mem _ hx)
    cases r with
    | nil =>
      show s.length ≤ _
      rw [List.length_cons, List.length_nil]
      omega
    | cons t u =>
      show (s ++ a ++ Str.join a (t :: u)).length ≤ _
      rw [strLen_append, strLen_append, List.length_cons, Nat.succ_mul]
      omega
@[simp] theorem x_cJoin (fs : List F) (s : S) : cJoin fs s = (jLoop fs Str.empty s).bind fun y s1 => .ok (.d (.str y)) s1 := rfl
@[simp] theorem x_jnil (acc : Str) (s : S) : jLoop [] acc s = .ok acc s := rfl
@[simp] theorem x_jcons (f : F) (fs : List F) (acc : Str) (s : S) : jLoop (f :: fs) acc s = (f s).bind fun x s1 => match x with
  | .d (.str y) => if (acc ++ y).length ≤ LIM then jLoop fs (acc ++ y) s1 else .err
  | _ => .err := rfl
@[simp] theorem x_cMS (g : Str → List PyData → Option Vl) (fa : F) (fr : S → R (List Vl)) (s : S) : cMS g fa fr s = (fa s).bind fun x s1 => match x with
  | .d (.str a) => (fr s1).bind fun xs s2 => match coldL xs with
    | some ys => Ev.R.of (g a ys) s2
    | none => .err
  | _ => .err := rfl
@[simp] theorem x_cStar (fa : F) (fr : S → R (List Vl)) (s : S) : cStar fa fr s = (fa s).bind fun x s1 => match cold x with
  | some (.list ys) => (fr s1).bind fun xs s2 => .ok (ys.map Vl.d ++ xs) s2
  | some (.tuple ys) => (fr s1).bind fun xs s2 => .ok (ys.map Vl.d ++ xs) s2
  | _ => .err := rfl
theorem fmt_str {y : Str} (h : y.length ≤ LIM) : fmtD (.str y) = some (.d (.str y)) := if_pos h
theorem fmt_int {i : Int} (h : i.natAbs ≤ 10 ^ 62) : fmtD (.int i) = some (.d (.str (toString i))) := if_pos (log_small h (by decide +kernel))
theorem strD_int {i : Int} (h : i.natAbs ≤ 10 ^ 62) : strD [.int i] = some (.d (.str (toString i))) := if_pos (log_small h (by decide +kernel))
theorem int_len {i : Int} (h : i.natAbs ≤ 10 ^ 62) : (Str.ofString (toString i)).length ≤ 64 := by
  rw [PySem.ofString_length]
  exact Nat.le_trans (int_text_length_le10 (k := 63) (by decide) (by omega)) (by decide)
theorem add_strE {x y : Str} (h : x.length + y.length ≤ LIM) : addD (.str x) (.str y) = some (.d (.str (x ++ y))) := if_pos h
theorem str_ext {x y : Str} (h : x.cps = y.cps) : x = y := by cases x; cases y; simp at h; rw [h]
theorem str_assoc (x y z : Str) : x ++ y ++ z = x ++ (y ++ z) := str_ext (show (x.cps ++ y.cps) ++ z.cps = x.cps ++ (y.cps ++ z.cps) from Array.append_assoc)
theorem empty_str (x : Str) : Str.empty ++ x = x := str_ext (show #[] ++ x.cps = x.cps by simp)
@[simp] theorem x_sAsgT (t : Tg) (f : F) (s : S) : sAsgT t f s = (f s).bind fun x s1 => match cold x with
  | some y => match t.set y s1 with
    | some s2 => .ok .nx s2
    | none => .err
  | none => .err := rfl
@[simp] theorem set_nm (i : Nat) (x : PyData) (s : S) : Tg.set (.nm i) x s = some ⟨s.ρ.set i (some (.d x)), s.st⟩ := by rw [Tg.set]
@[simp] theorem set_tp (ts : Tgs) (xs : List PyData) (s : S) : Tg.set (.tp ts) (.tuple xs) s = ts.set xs s := by rw [Tg.set]
@[simp] theorem sets_nil (s : S) : Tgs.set .nil [] s = some s := by rw [Tgs.set]
@[simp] theorem sets_cons (t : Tg) (ts : Tgs) (x : PyData) (xs : List PyData) (s : S) : Tgs.set (.cons t ts) (x :: xs) s = match t.set x s with
  | some s' => ts.set xs s'
  | none => none := by rw [Tgs.set] <;> (cases t.set x s <;> rfl)
end Ev

set_option maxHeartbeats 0
/-! printed by prn.py: the defs of bylevels_k10_texts_written, their evaluators -/
namespace Lw
open PySem PySem.Spec PyProof.Rows L2 Ev
abbrev s_0 : Stmt := PySem.Challenge.pw_bylevels_k10_texts_written.main.body.getD 3 (.Pass ⟨0, 0, 0, 0⟩)
/-- mark_word: slots 0 mark -/
def e_0 : FS := sSeq (sRet (cIf (cBin isD (cVar 0) (cCon .none)) (cCon (.str "?")) (cUn fmtD (cVar 0)))) (sNil)
def c_0 : Fn := runF 1 e_0
abbrev s_1 : Stmt := PySem.Challenge.pw_bylevels_k10_texts_written.main.body.getD 4 (.Pass ⟨0, 0, 0, 0⟩)
/-- marks_word: slots 0 marks, 1 mark -/
def e_1 : FS := sSeq (sRet (cIf (cBin gtD (cLen 0) (cCon (.int 0))) (cMS joinD (cCon (.str "")) (cCons (cLc [1] (iSeq (cVar 0)) (.nm 1) (cYes) (cCall c_0 (cCons (cVar 1) (cNil)))) (cNil))) (cCon (.str "-")))) (sNil)
def c_1 : Fn := runF 2 e_1
abbrev s_2 : Stmt := PySem.Challenge.pw_bylevels_k10_texts_written.main.body.getD 5 (.Pass ⟨0, 0, 0, 0⟩)
/-- some_word: slots 0 some, 1 one -/
def e_2 : FS := sSeq (sRet (cMS joinD (cCon (.str ",")) (cCons (cLc [1] (iSeq (cVar 0)) (.nm 1) (cYes) (cUn fmtD (cVar 1))) (cNil)))) (sNil)
def c_2 : Fn := runF 2 e_2
abbrev s_3 : Stmt := PySem.Challenge.pw_bylevels_k10_texts_written.main.body.getD 6 (.Pass ⟨0, 0, 0, 0⟩)
/-- table_text: slots 0 table, 1 people, 2 gates, 3 rows, 4 lines, 5 person, 6 marks -/
def e_3 : FS := sSeq (sAsgT (.tp (.cons (.nm 1) (.cons (.nm 2) (.cons (.nm 3) (.nil))))) (cVar 0)) (sSeq (sAsg 4 (cLc [5, 6] (iArgs zipD (cCons (cVar 1) (cCons (cVar 3) (cNil)))) (.tp (.cons (.nm 5) (.cons (.nm 6) (.nil)))) (cYes) (cJoin [cCon (.str "row "), cUn fmtD (cVar 5), cCon (.str " "), cUn fmtD (cCall c_1 (cCons (cVar 6) (cNil)))]))) (sSeq (sRet (cMS joinD (cCon (.str "\n")) (cCons (cArgs lstD (cCons (cJoin [cCon (.str "gates "), cUn fmtD (cCall c_2 (cCons (cVar 2) (cNil)))]) (cStar (cVar 4) (cNil)))) (cNil)))) (sNil)))
def c_3 : Fn := runF 7 e_3
abbrev s_4 : Stmt := PySem.Challenge.pw_bylevels_k10_texts_written.main.body.getD 7 (.Pass ⟨0, 0, 0, 0⟩)
/-- measure_text: slots 0 measure, 1 levels, 2 needs -/
def e_4 : FS := sSeq (sAsgT (.tp (.cons (.nm 1) (.cons (.nm 2) (.nil)))) (cVar 0)) (sSeq (sRet (cJoin [cCon (.str "measure "), cUn fmtD (cCall c_2 (cCons (cVar 1) (cNil))), cCon (.str " "), cUn fmtD (cCall c_2 (cCons (cVar 2) (cNil)))])) (sNil))
def c_4 : Fn := runF 3 e_4
abbrev s_5 : Stmt := PySem.Challenge.pw_bylevels_k10_texts_written.main.body.getD 9 (.Pass ⟨0, 0, 0, 0⟩)
/-- _law_reader: slots 0 _law_script -/
def e_5 : FS := sSeq (sRet (cArgs lstD (cCons (cSlc (cVar 0) (none) (some (cCon (.int 63)))) (cCons (cCon (.int 0)) (cCons (cCon (.int 0)) (cCons (cCon (.int 0)) (cNil))))))) (sNil)
def c_5 : Fn := runF 1 e_5
abbrev s_6 : Stmt := PySem.Challenge.pw_bylevels_k10_texts_written.main.body.getD 10 (.Pass ⟨0, 0, 0, 0⟩)
/-- _law_draw: slots 0 _law_reader_here, 1 _law_many, 2 _law_found, 3 _law_cell, 4 _law_once -/
def e_6 : FS := sSeq (sSetI 0 (cCon (.int 3)) (cBin addD (cRd 0 (cCon (.int 3))) (cCon (.int 1)))) (sSeq (sIf (cT (cBin gtD (cRd 0 (cCon (.int 2))) (cCon (.int 0)))) (sSeq (sAsg 2 (cBin modD (cArgs intD (cCons (cRd 0 (cCon (.int 2))) (cNil))) (cVar 1))) (sSeq (sSetI 0 (cCon (.int 2)) (cBin fdivD (cRd 0 (cCon (.int 2))) (cVar 1))) (sSeq (sRetV 2) (sNil)))) (sNil)) (sSeq (sAsg 3 (cCon (.int 61))) (sSeq (sIf (cT (cBin neD (cRd 0 (cCon (.int 0))) (cArgs lstD (cNil)))) (sSeq (sAsg 3 (cBin ixD (cRd 0 (cCon (.int 0))) (cBin modD (cArgs intD (cCons (cRd 0 (cCon (.int 1))) (cNil))) (cArgs lenD (cCons (cRd 0 (cCon (.int 0))) (cNil)))))) (sNil)) (sNil)) (sSeq (sSetI 0 (cCon (.int 1)) (cBin addD (cRd 0 (cCon (.int 1))) (cCon (.int 1)))) (sSeq (sIf (cT (cAnd (cBin geD (cVar 3) (cBin powD (cCon (.int 10)) (cCon (.int 18)))) (cBin leD (cRd 0 (cCon (.int 1))) (cArgs lenD (cCons (cRd 0 (cCon (.int 0))) (cNil)))))) (sSeq (sSetI 0 (cCon (.int 2)) (cBin fdivD (cVar 3) (cVar 1))) (sSeq (sRet (cBin modD (cArgs intD (cCons (cVar 3) (cNil))) (cVar 1))) (sNil))) (sNil)) (sSeq (sAsg 4 (cBin modD (cArgs intD (cCons (cBin powD (cBin addD (cBin addD (cBin modD (cArgs intD (cCons (cVar 3) (cNil))) (cCon (.int 2147483399))) (cBin mulX (cCon (.int 7877)) (cRd 0 (cCon (.int 3))))) (cCon (.int 19))) (cCon (.int 5))) (cNil))) (cCon (.int 2147483629)))) (sSeq (sRet (cBin modD (cArgs intD (cCons (cBin fdivD (cBin modD (cArgs intD (cCons (cBin powD (cBin addD (cVar 4) (cBin mulX (cCon (.int 98011)) (cRd 0 (cCon (.int 3))))) (cCon (.int 5))) (cNil))) (cCon (.int 2147483647))) (cCon (.int 64))) (cNil))) (cVar 1))) (sNil))))))))
def c_6 : Fn := runF 5 e_6
abbrev s_7 : Stmt := PySem.Challenge.pw_bylevels_k10_texts_written.main.body.getD 11 (.Pass ⟨0, 0, 0, 0⟩)
/-- _law_some_of: slots 0 _law_reader_here, 1 _law_pool, 2 _law_at, 3 _law_k -/
def e_7 : FS := sSeq (sAsg 2 (cCall c_6 (cCons (cVar 0) (cCons (cLen 1) (cNil))))) (sSeq (sRet (cArgs tupleD (cCons (cLc [3] (iArgs rng1 (cCons (cLen 1) (cNil))) (.nm 3) (cT (cOr (cBin eqD (cVar 3) (cVar 2)) (cBin eqD (cCall c_6 (cCons (cVar 0) (cCons (cCon (.int 2)) (cNil)))) (cCon (.int 0))))) (cRd 1 (cVar 3))) (cNil)))) (sNil))
def c_7 : Fn := runF 4 e_7
abbrev s_8 : Stmt := PySem.Challenge.pw_bylevels_k10_texts_written.main.body.getD 12 (.Pass ⟨0, 0, 0, 0⟩)
/-- _law_random_table: slots 0 _law_reader_here, 1 _law_pools, 2 _law_persons, 3 _law_doors, 4 _law_left, 5 _law_lot, 6 _law_name, 7 _law_own, 8 _law_door, 9 _law_one -/
def e_8 : FS := sSeq (sAsg 1 (cArgs lstD (cCons (cArgs tupD (cCons (cCon (.str "basic")) (cCons (cCon (.str "free")) (cCons (cCon (.str "gold")) (cCons (cCon (.str "team")) (cNil)))))) (cCons (cArgs tupD (cCons (cCon (.str "a")) (cCons (cCon (.str "row")) (cCons (cCon (.str "zz")) (cNil))))) (cCons (cArgs tupD (cCons (cCon (.str "gates")) (cCons (cCon (.str "row")) (cNil)))) (cCons (cArgs tupD (cCons (cCon (.str "a")) (cCons (cCon (.str "b")) (cCons (cCon (.str "c")) (cNil))))) (cNil))))))) (sSeq (sAsg 2 (cCall c_7 (cCons (cVar 0) (cCons (cRd 1 (cCall c_6 (cCons (cVar 0) (cCons (cCon (.int 4)) (cNil))))) (cNil))))) (sSeq (sAsg 3 (cCall c_7 (cCons (cVar 0) (cCons (cRd 1 (cCall c_6 (cCons (cVar 0) (cCons (cCon (.int 4)) (cNil))))) (cNil))))) (sSeq (sPar2 4 5 (cCons (cCon (.int 6)) (cCons (cArgs lstD (cNil)) (cNil)))) (sSeq (sFor (.nm 6) (iSeq (cVar 2)) (sSeq (sAsg 7 (cArgs lstD (cNil))) (sSeq (sFor (.nm 8) (iSeq (cVar 3)) (sSeq (sAsg 9 (cBin ixD (cArgs lstD (cCons (cCon (.int 1)) (cCons (cCon (.int 0)) (cCons (cCon .none) (cCons (cCon (.int 1)) (cCons (cCon (.int 0)) (cNil))))))) (cCall c_6 (cCons (cVar 0) (cCons (cIf (cBin gtD (cVar 4) (cCon (.int 0))) (cCon (.int 5)) (cCon (.int 2))) (cNil)))))) (sSeq (sAsg 4 (cBin subD (cVar 4) (cIf (cBin isD (cVar 9) (cCon .none)) (cCon (.int 1)) (cCon (.int 0))))) (sSeq (sDrop (cMut 7 appD (cCons (cVar 9) (cNil)))) (sNil))))) (sSeq (sDrop (cMut 5 appD (cCons (cArgs tupleD (cCons (cVar 7) (cNil))) (cNil)))) (sNil))))) (sSeq (sRet (cArgs tupD (cCons (cVar 2) (cCons (cVar 3) (cCons (cArgs tupleD (cCons (cVar 5) (cNil))) (cNil)))))) (sNil))))))
def c_8 : Fn := runF 10 e_8
abbrev s_9 : Stmt := PySem.Challenge.pw_bylevels_k10_texts_written.main.body.getD 13 (.Pass ⟨0, 0, 0, 0⟩)
/-- _law_random_measure: slots 0 _law_reader_here, 1 _law_high, 2 _law_wide_here, 3 _law_first, 4 _law_k -/
def e_9 : FS := sSeq (sAsg 3 (cArgs tupleD (cCons (cLc [4] (iArgs rng1 (cCons (cVar 1) (cNil))) (.nm 4) (cYes) (cCall c_6 (cCons (cVar 0) (cCons (cCon (.int 5)) (cNil))))) (cNil)))) (sSeq (sRet (cArgs tupD (cCons (cVar 3) (cCons (cArgs tupleD (cCons (cLc [4] (iArgs rng1 (cCons (cVar 2) (cNil))) (.nm 4) (cYes) (cCall c_6 (cCons (cVar 0) (cCons (cCon (.int 5)) (cNil))))) (cNil))) (cNil))))) (sNil))
def c_9 : Fn := runF 5 e_9
abbrev s_10 : Stmt := PySem.Challenge.pw_bylevels_k10_texts_written.main.body.getD 14 (.Pass ⟨0, 0, 0, 0⟩)
/-- _law_fixed_tables: slots 0 _law_persons, 1 _law_doors, 2 _law_first_table, 3 _law_steps_table, 4 _law_words, 5 _law_six, 6 _law_lot, 7 _law_one -/
def e_10 : FS := sSeq (sAsgT (.tp (.cons (.nm 0) (.cons (.nm 1) (.nil)))) (cArgs tupD (cCons (cArgs tupD (cCons (cCon (.str "basic")) (cCons (cCon (.str "free")) (cCons (cCon (.str "team")) (cNil))))) (cCons (cArgs tupD (cCons (cCon (.str "files")) (cCons (cCon (.str "mail")) (cCons (cCon (.str "tools")) (cNil))))) (cNil))))) (sSeq (sAsg 2 (cArgs tupD (cCons (cVar 0) (cCons (cVar 1) (cCons (cArgs tupD (cCons (cArgs tupD (cCons (cCon (.int 1)) (cCons (cCon (.int 1)) (cCons (cCon .none) (cNil))))) (cCons (cArgs tupD (cCons (cCon .none) (cCons (cCon (.int 1)) (cCons (cCon (.int 0)) (cNil))))) (cCons (cArgs tupD (cCons (cCon (.int 1)) (cCons (cCon .none) (cCons (cCon .none) (cNil))))) (cNil))))) (cNil)))))) (sSeq (sAsg 3 (cArgs tupD (cCons (cVar 0) (cCons (cVar 1) (cCons (cArgs tupD (cCons (cArgs tupD (cCons (cCon (.int 1)) (cCons (cCon (.int 0)) (cCons (cCon .none) (cNil))))) (cCons (cArgs tupD (cCons (cCon .none) (cCons (cCon (.int 1)) (cCons (cCon (.int 0)) (cNil))))) (cCons (cArgs tupD (cCons (cCon .none) (cCons (cCon .none) (cCons (cCon (.int 1)) (cNil))))) (cNil))))) (cNil)))))) (sSeq (sAsg 4 (cArgs tupD (cCons (cArgs tupD (cCons (cCon (.str "measure")) (cCons (cCon (.str "row")) (cNil)))) (cCons (cArgs tupD (cCons (cCon (.str "gates")) (cCons (cCon (.str "none")) (cCons (cCon (.str "row")) (cNil))))) (cCons (cArgs tupD (cCons (cArgs tupD (cCons (cCon (.int 0)) (cCons (cCon .none) (cCons (cCon (.int 1)) (cNil))))) (cCons (cArgs tupD (cCons (cCon .none) (cCons (cCon (.int 0)) (cCons (cCon (.int 0)) (cNil))))) (cNil)))) (cNil)))))) (sSeq (sAsg 5 (cArgs tupD (cCons (cCon (.str "a")) (cCons (cCon (.str "b")) (cCons (cCon (.str "c")) (cCons (cCon (.str "d")) (cCons (cCon (.str "e")) (cCons (cCon (.str "f")) (cNil))))))))) (sSeq (sAsg 6 (cArgs tupD (cCons (cArgs tupD (cCons (cCon (.int 1)) (cCons (cCon (.int 0)) (cCons (cCon .none) (cCons (cCon (.int 1)) (cCons (cCon (.int 0)) (cCons (cCon (.int 1)) (cNil)))))))) (cCons (cArgs tupD (cCons (cCon (.int 0)) (cCons (cCon (.int 0)) (cCons (cCon (.int 0)) (cCons (cCon (.int 0)) (cCons (cCon (.int 0)) (cCons (cCon (.int 0)) (cNil)))))))) (cCons (cArgs tupD (cCons (cCon (.int 1)) (cCons (cCon (.int 1)) (cCons (cCon (.int 1)) (cCons (cCon (.int 1)) (cCons (cCon (.int 1)) (cCons (cCon (.int 1)) (cNil)))))))) (cCons (cArgs tupD (cCons (cCon .none) (cCons (cCon (.int 1)) (cCons (cCon (.int 0)) (cCons (cCon .none) (cCons (cCon (.int 1)) (cCons (cCon (.int 0)) (cNil)))))))) (cNil))))))) (sSeq (sAsg 6 (cBin addD (cVar 6) (cArgs tupD (cCons (cArgs tupD (cCons (cCon (.int 0)) (cCons (cCon (.int 1)) (cCons (cCon (.int 1)) (cCons (cCon (.int 0)) (cCons (cCon .none) (cCons (cCon .none) (cNil)))))))) (cCons (cArgs tupD (cCons (cCon (.int 1)) (cCons (cCon .none) (cCons (cCon (.int 0)) (cCons (cCon .none) (cCons (cCon (.int 0)) (cCons (cCon .none) (cNil)))))))) (cNil)))))) (sSeq (sAsg 7 (cArgs tupD (cCons (cArgs tupD (cCons (cCon (.str "a")) (cNil))) (cCons (cArgs tupD (cCons (cCon (.str "zzzzzzzz")) (cNil))) (cCons (cArgs tupD (cCons (cArgs tupD (cCons (cCon .none) (cNil))) (cNil))) (cNil)))))) (sSeq (sRet (cArgs lstD (cCons (cVar 2) (cCons (cVar 3) (cCons (cVar 7) (cCons (cVar 4) (cCons (cArgs tupD (cCons (cArgs tupD (cCons (cCon (.str "gold")) (cNil))) (cCons (cArgs tupD (cCons (cCon (.str "files")) (cCons (cCon (.str "mail")) (cNil)))) (cCons (cArgs tupD (cCons (cArgs tupD (cCons (cCon (.int 0)) (cCons (cCon (.int 0)) (cNil)))) (cNil))) (cNil))))) (cCons (cArgs tupD (cCons (cVar 5) (cCons (cVar 5) (cCons (cVar 6) (cNil))))) (cNil))))))))) (sNil)))))))))
def c_10 : Fn := runF 8 e_10
abbrev s_11 : Stmt := PySem.Challenge.pw_bylevels_k10_texts_written.main.body.getD 15 (.Pass ⟨0, 0, 0, 0⟩)
/-- _law_mark_sign: slots 0 _law_one -/
def e_11 : FS := sSeq (sRet (cIf (cBin isD (cVar 0) (cCon .none)) (cCon (.str "?")) (cArgs strD (cCons (cVar 0) (cNil))))) (sNil)
def c_11 : Fn := runF 1 e_11
abbrev s_12 : Stmt := PySem.Challenge.pw_bylevels_k10_texts_written.main.body.getD 16 (.Pass ⟨0, 0, 0, 0⟩)
/-- _law_table_page: slots 0 _law_whole, 1 _law_found, 2 _law_name, 3 _law_own, 4 _law_one -/
def e_12 : FS := sSeq (sAsg 1 (cArgs lstD (cCons (cBin addD (cCon (.str "gates ")) (cMS joinD (cCon (.str ",")) (cCons (cRd 0 (cCon (.int 1))) (cNil)))) (cNil)))) (sSeq (sFor (.tp (.cons (.nm 2) (.cons (.nm 3) (.nil)))) (iArgs zipD (cCons (cRd 0 (cCon (.int 0))) (cCons (cRd 0 (cCon (.int 2))) (cNil)))) (sSeq (sDrop (cMut 1 appD (cCons (cBin addD (cBin addD (cBin addD (cCon (.str "row ")) (cVar 2)) (cCon (.str " "))) (cIf (cBin neD (cVar 3) (cArgs tupD (cNil))) (cMS joinD (cCon (.str "")) (cCons (cLc [4] (iSeq (cVar 3)) (.nm 4) (cYes) (cCall c_11 (cCons (cVar 4) (cNil)))) (cNil))) (cCon (.str "-")))) (cNil)))) (sNil))) (sSeq (sRet (cMS joinD (cCon (.str "\n")) (cCons (cVar 1) (cNil)))) (sNil)))
def c_12 : Fn := runF 5 e_12
abbrev s_13 : Stmt := PySem.Challenge.pw_bylevels_k10_texts_written.main.body.getD 17 (.Pass ⟨0, 0, 0, 0⟩)
/-- _law_measure_line: slots 0 _law_pair, 1 _law_one -/
def e_13 : FS := sSeq (sRet (cBin addD (cBin addD (cBin addD (cCon (.str "measure ")) (cMS joinD (cCon (.str ",")) (cCons (cLc [1] (iSeq (cRd 0 (cCon (.int 0)))) (.nm 1) (cYes) (cArgs strD (cCons (cVar 1) (cNil)))) (cNil)))) (cCon (.str " "))) (cMS joinD (cCon (.str ",")) (cCons (cLc [1] (iSeq (cRd 0 (cCon (.int 1)))) (.nm 1) (cYes) (cArgs strD (cCons (cVar 1) (cNil)))) (cNil))))) (sNil)
def c_13 : Fn := runF 2 e_13
abbrev s_14 : Stmt := PySem.Challenge.pw_bylevels_k10_texts_written.main.body.getD 18 (.Pass ⟨0, 0, 0, 0⟩)
/-- _law_loose: slots 0 _law_reader_here, 1 _law_persons, 2 _law_doors, 3 _law_lot, 4 _law_name, 5 _law_k -/
def e_14 : FS := sSeq (sAsg 1 (cSlc (cArgs tupD (cCons (cCon (.str "team")) (cCons (cCon (.str "basic")) (cCons (cCon (.str "basic")) (cCons (cCon (.str "row")) (cCons (cCon (.str "gates")) (cNil))))))) (some (cCall c_6 (cCons (cVar 0) (cCons (cCon (.int 6)) (cNil))))) (none))) (sSeq (sAsg 2 (cSlc (cArgs tupD (cCons (cCon (.str "x")) (cCons (cCon (.str "a")) (cCons (cCon (.str "a")) (cCons (cCon (.str "measure")) (cNil)))))) (some (cCall c_6 (cCons (cVar 0) (cCons (cCon (.int 4)) (cNil))))) (none))) (sSeq (sAsg 3 (cArgs lstD (cNil))) (sSeq (sFor (.nm 4) (iSeq (cVar 1)) (sSeq (sDrop (cMut 3 appD (cCons (cArgs tupleD (cCons (cLc [5] (iArgs rng1 (cCons (cCall c_6 (cCons (cVar 0) (cCons (cCon (.int 6)) (cNil)))) (cNil))) (.nm 5) (cYes) (cBin ixD (cArgs lstD (cCons (cCon (.int 1)) (cCons (cCon (.int 0)) (cCons (cCon .none) (cNil))))) (cCall c_6 (cCons (cVar 0) (cCons (cCon (.int 3)) (cNil)))))) (cNil))) (cNil)))) (sNil))) (sSeq (sRet (cArgs tupD (cCons (cVar 1) (cCons (cVar 2) (cCons (cArgs tupleD (cCons (cVar 3) (cNil))) (cNil)))))) (sNil)))))
def c_14 : Fn := runF 6 e_14
abbrev s_15 : Stmt := PySem.Challenge.pw_bylevels_k10_texts_written.main.body.getD 19 (.Pass ⟨0, 0, 0, 0⟩)
/-- _law_wide: slots 0 _law_names, 1 _law_sign, 2 _law_k, 3 _law_j -/
def e_15 : FS := sSeq (sAsg 0 (cArgs tupleD (cCons (cBin addD (cLc [1] (iSeq (cCon (.str "abcdefghijklmnopqrstuvwxyz"))) (.nm 1) (cYes) (cBin addD (cCon (.str "k")) (cVar 1))) (cArgs lstD (cCons (cCon (.str "ya")) (cCons (cCon (.str "yb")) (cCons (cCon (.str "yc")) (cCons (cCon (.str "yd")) (cNil))))))) (cNil)))) (sSeq (sRet (cArgs tupD (cCons (cVar 0) (cCons (cUn backD (cVar 0)) (cCons (cArgs tupleD (cCons (cLc [2] (iArgs rng1 (cCons (cCon (.int 30)) (cNil))) (.nm 2) (cYes) (cArgs tupleD (cCons (cLc [3] (iArgs rng1 (cCons (cCon (.int 30)) (cNil))) (.nm 3) (cYes) (cBin ixD (cArgs lstD (cCons (cCon (.int 1)) (cCons (cCon (.int 0)) (cCons (cCon .none) (cNil))))) (cBin modD (cArgs intD (cCons (cBin mulX (cVar 3) (cVar 2)) (cNil))) (cCon (.int 3))))) (cNil)))) (cNil))) (cNil)))))) (sNil))
def c_15 : Fn := runF 4 e_15
abbrev s_16 : Stmt := PySem.Challenge.pw_bylevels_k10_texts_written.main.body.getD 20 (.Pass ⟨0, 0, 0, 0⟩)
/-- law: slots 0 _law_script, 1 _law_reader_here, 2 _law_far, 3 _law_lots, 4 _law_turn, 5 _law_whole, 6 _law_saved, 7 _law_pairs, 8 _law_pair -/
def e_16 : FS := sSeq (sShare 1 (cCall c_5 (cCons (cVar 0) (cNil)))) (sSeq (sPar2 2 3 (cCons (cBin powD (cCon (.int 10)) (cCon (.int 59))) (cCons (cBin addD (cCall c_10 cNil) (cArgs lstD (cCons (cCall c_15 cNil) (cCons (cArgs tupD (cCons (cArgs tupD (cNil)) (cCons (cArgs tupD (cCons (cCon (.str "a")) (cNil))) (cCons (cArgs tupD (cNil)) (cNil))))) (cNil))))) (cNil)))) (sSeq (sFor (.nm 4) (iArgs rng1 (cCons (cCon (.int 10)) (cNil))) (sSeq (sDrop (cMut 3 appD (cCons (cIf (cBin eqD (cBin modD (cArgs intD (cCons (cVar 4) (cNil))) (cCon (.int 2))) (cCon (.int 0))) (cCall c_8 (cCons (cVar 1) (cNil))) (cCall c_14 (cCons (cVar 1) (cNil)))) (cNil)))) (sNil))) (sSeq (sFor (.nm 5) (iSeq (cVar 3)) (sSeq (sAsg 6 (cArgs reprD (cCons (cVar 5) (cNil)))) (sSeq (sIf (cT (cOr (cBin neD (cArgs reprD (cCons (cCall c_3 (cCons (cVar 5) (cNil))) (cNil))) (cArgs reprD (cCons (cCall c_12 (cCons (cVar 5) (cNil))) (cNil)))) (cBin neD (cArgs reprD (cCons (cVar 5) (cNil))) (cVar 6)))) (sSeq (sRet (cCon (.bool false))) (sNil)) (sNil)) (sNil)))) (sSeq (sAsg 7 (cArgs lstD (cCons (cArgs tupD (cCons (cArgs tupD (cCons (cCon (.int 0)) (cNil))) (cCons (cArgs tupD (cCons (cCon (.int 0)) (cNil))) (cNil)))) (cCons (cArgs tupD (cCons (cArgs tupD (cCons (cVar 2) (cCons (cCon (.int 0)) (cCons (cCon (.int 12)) (cNil))))) (cCons (cArgs tupD (cCons (cCon (.int 7)) (cNil))) (cNil)))) (cCons (cArgs tupD (cCons (cArgs tupD (cCons (cBin mulX (cCon (.int 9)) (cVar 2)) (cNil))) (cCons (cArgs tupD (cCons (cCon (.int 1)) (cCons (cCon (.int 0)) (cCons (cVar 2) (cNil))))) (cNil)))) (cNil)))))) (sSeq (sAsg 7 (cBin addD (cVar 7) (cArgs lstD (cCons (cArgs tupD (cCons (cUn trgD (cCon (.int 30))) (cCons (cUn backD (cUn trgD (cCon (.int 30)))) (cNil)))) (cNil))))) (sSeq (sFor (.nm 4) (iArgs rng1 (cCons (cCon (.int 6)) (cNil))) (sSeq (sDrop (cMut 7 appD (cCons (cCall c_9 (cCons (cVar 1) (cCons (cBin addD (cCon (.int 1)) (cCall c_6 (cCons (cVar 1) (cCons (cCon (.int 5)) (cNil))))) (cCons (cBin addD (cCon (.int 1)) (cCall c_6 (cCons (cVar 1) (cCons (cCon (.int 5)) (cNil))))) (cNil))))) (cNil)))) (sNil))) (sSeq (sFor (.nm 8) (iSeq (cVar 7)) (sSeq (sAsg 6 (cArgs reprD (cCons (cVar 8) (cNil)))) (sSeq (sIf (cT (cOr (cBin neD (cArgs reprD (cCons (cCall c_4 (cCons (cVar 8) (cNil))) (cNil))) (cArgs reprD (cCons (cCall c_13 (cCons (cVar 8) (cNil))) (cNil)))) (cBin neD (cArgs reprD (cCons (cVar 8) (cNil))) (cVar 6)))) (sSeq (sRet (cCon (.bool false))) (sNil)) (sNil)) (sNil)))) (sSeq (sRet (cBin eqD (cArgs lstD (cCons (cCall c_0 (cCons (cCon (.int 1)) (cNil))) (cCons (cCall c_0 (cCons (cCon (.int 0)) (cNil))) (cCons (cCall c_0 (cCons (cCon .none) (cNil))) (cNil))))) (cArgs lstD (cCons (cCon (.str "1")) (cCons (cCon (.str "0")) (cCons (cCon (.str "?")) (cNil))))))) (sNil)))))))))
def c_16 : Fn := runF 9 e_16
theorem sc_0 : FnScope ["mark"] ["mark"] (defScope s_0) := ⟨rfl, rfl, rfl, by decide +kernel, rfl, by decide +kernel, by decide +kernel⟩
theorem sc_1 : FnScope ["marks", "mark"] ["marks"] (defScope s_1) := ⟨rfl, rfl, rfl, by decide +kernel, rfl, by decide +kernel, by decide +kernel⟩
theorem sc_2 : FnScope ["some", "one"] ["some"] (defScope s_2) := ⟨rfl, rfl, rfl, by decide +kernel, rfl, by decide +kernel, by decide +kernel⟩
theorem sc_3 : FnScope ["table", "people", "gates", "rows", "lines", "person", "marks"] ["table"] (defScope s_3) := ⟨rfl, rfl, rfl, by decide +kernel, rfl, by decide +kernel, by decide +kernel⟩
theorem sc_4 : FnScope ["measure", "levels", "needs"] ["measure"] (defScope s_4) := ⟨rfl, rfl, rfl, by decide +kernel, rfl, by decide +kernel, by decide +kernel⟩
theorem sc_5 : FnScope ["_law_script"] ["_law_script"] (defScope s_5) := ⟨rfl, rfl, rfl, by decide +kernel, rfl, by decide +kernel, by decide +kernel⟩
theorem sc_6 : FnScope ["_law_reader_here", "_law_many", "_law_found", "_law_cell", "_law_once"] ["_law_reader_here", "_law_many"] (defScope s_6) := ⟨rfl, rfl, rfl, by decide +kernel, rfl, by decide +kernel, by decide +kernel⟩
theorem sc_7 : FnScope ["_law_reader_here", "_law_pool", "_law_at", "_law_k"] ["_law_reader_here", "_law_pool"] (defScope s_7) := ⟨rfl, rfl, rfl, by decide +kernel, rfl, by decide +kernel, by decide +kernel⟩
theorem sc_8 : FnScope ["_law_reader_here", "_law_pools", "_law_persons", "_law_doors", "_law_left", "_law_lot", "_law_name", "_law_own", "_law_door", "_law_one"] ["_law_reader_here"] (defScope s_8) := ⟨rfl, rfl, rfl, by decide +kernel, rfl, by decide +kernel, by decide +kernel⟩
theorem sc_9 : FnScope ["_law_reader_here", "_law_high", "_law_wide_here", "_law_first", "_law_k"] ["_law_reader_here", "_law_high", "_law_wide_here"] (defScope s_9) := ⟨rfl, rfl, rfl, by decide +kernel, rfl, by decide +kernel, by decide +kernel⟩
theorem sc_10 : FnScope ["_law_persons", "_law_doors", "_law_first_table", "_law_steps_table", "_law_words", "_law_six", "_law_lot", "_law_one"] [] (defScope s_10) := ⟨rfl, rfl, rfl, by decide +kernel, rfl, by decide +kernel, by decide +kernel⟩
theorem sc_11 : FnScope ["_law_one"] ["_law_one"] (defScope s_11) := ⟨rfl, rfl, rfl, by decide +kernel, rfl, by decide +kernel, by decide +kernel⟩
theorem sc_12 : FnScope ["_law_whole", "_law_found", "_law_name", "_law_own", "_law_one"] ["_law_whole"] (defScope s_12) := ⟨rfl, rfl, rfl, by decide +kernel, rfl, by decide +kernel, by decide +kernel⟩
theorem sc_13 : FnScope ["_law_pair", "_law_one"] ["_law_pair"] (defScope s_13) := ⟨rfl, rfl, rfl, by decide +kernel, rfl, by decide +kernel, by decide +kernel⟩
theorem sc_14 : FnScope ["_law_reader_here", "_law_persons", "_law_doors", "_law_lot", "_law_name", "_law_k"] ["_law_reader_here"] (defScope s_14) := ⟨rfl, rfl, rfl, by decide +kernel, rfl, by decide +kernel, by decide +kernel⟩
theorem sc_15 : FnScope ["_law_names", "_law_sign", "_law_k", "_law_j"] [] (defScope s_15) := ⟨rfl, rfl, rfl, by decide +kernel, rfl, by decide +kernel, by decide +kernel⟩
theorem sc_16 : FnScope ["_law_script", "_law_reader_here", "_law_far", "_law_lots", "_law_turn", "_law_whole", "_law_saved", "_law_pairs", "_law_pair"] ["_law_script"] (defScope s_16) := ⟨rfl, rfl, rfl, by decide +kernel, rfl, by decide +kernel, by decide +kernel⟩
structure Prg (K : PySem.W.Frag) (mg : Str → Option Value) (ad : Nat → Addr) (fd : Nat → FuncData) : Prop where
  f_0 : Fun K "mark_word" "mark_word" s_0 (ad 0) (fd 0)
  g_0 : mg "mark_word" = some (.ref (ad 0))
  b_0 : Binds K (fd 0) ["mark"] []
  f_1 : Fun K "marks_word" "marks_word" s_1 (ad 1) (fd 1)
  g_1 : mg "marks_word" = some (.ref (ad 1))
  b_1 : Binds K (fd 1) ["marks"] []
  f_2 : Fun K "some_word" "some_word" s_2 (ad 2) (fd 2)
  g_2 : mg "some_word" = some (.ref (ad 2))
  b_2 : Binds K (fd 2) ["some"] []
  f_3 : Fun K "table_text" "table_text" s_3 (ad 3) (fd 3)
  g_3 : mg "table_text" = some (.ref (ad 3))
  b_3 : Binds K (fd 3) ["table"] []
  f_4 : Fun K "measure_text" "measure_text" s_4 (ad 4) (fd 4)
  g_4 : mg "measure_text" = some (.ref (ad 4))
  b_4 : Binds K (fd 4) ["measure"] []
  f_5 : Fun K "_law_reader" "_law_reader" s_5 (ad 5) (fd 5)
  g_5 : mg "_law_reader" = some (.ref (ad 5))
  b_5 : Binds K (fd 5) ["_law_script"] []
  f_6 : Fun K "_law_draw" "_law_draw" s_6 (ad 6) (fd 6)
  g_6 : mg "_law_draw" = some (.ref (ad 6))
  b_6 : Binds K (fd 6) ["_law_reader_here", "_law_many"] []
  f_7 : Fun K "_law_some_of" "_law_some_of" s_7 (ad 7) (fd 7)
  g_7 : mg "_law_some_of" = some (.ref (ad 7))
  b_7 : Binds K (fd 7) ["_law_reader_here", "_law_pool"] []
  f_8 : Fun K "_law_random_table" "_law_random_table" s_8 (ad 8) (fd 8)
  g_8 : mg "_law_random_table" = some (.ref (ad 8))
  b_8 : Binds K (fd 8) ["_law_reader_here"] []
  f_9 : Fun K "_law_random_measure" "_law_random_measure" s_9 (ad 9) (fd 9)
  g_9 : mg "_law_random_measure" = some (.ref (ad 9))
  b_9 : Binds K (fd 9) ["_law_reader_here", "_law_high", "_law_wide_here"] []
  f_10 : Fun K "_law_fixed_tables" "_law_fixed_tables" s_10 (ad 10) (fd 10)
  g_10 : mg "_law_fixed_tables" = some (.ref (ad 10))
  b_10 : Binds K (fd 10) [] []
  f_11 : Fun K "_law_mark_sign" "_law_mark_sign" s_11 (ad 11) (fd 11)
  g_11 : mg "_law_mark_sign" = some (.ref (ad 11))
  b_11 : Binds K (fd 11) ["_law_one"] []
  f_12 : Fun K "_law_table_page" "_law_table_page" s_12 (ad 12) (fd 12)
  g_12 : mg "_law_table_page" = some (.ref (ad 12))
  b_12 : Binds K (fd 12) ["_law_whole"] []
  f_13 : Fun K "_law_measure_line" "_law_measure_line" s_13 (ad 13) (fd 13)
  g_13 : mg "_law_measure_line" = some (.ref (ad 13))
  b_13 : Binds K (fd 13) ["_law_pair"] []
  f_14 : Fun K "_law_loose" "_law_loose" s_14 (ad 14) (fd 14)
  g_14 : mg "_law_loose" = some (.ref (ad 14))
  b_14 : Binds K (fd 14) ["_law_reader_here"] []
  f_15 : Fun K "_law_wide" "_law_wide" s_15 (ad 15) (fd 15)
  g_15 : mg "_law_wide" = some (.ref (ad 15))
  b_15 : Binds K (fd 15) [] []
  f_16 : Fun K "law" "law" s_16 (ad 16) (fd 16)
  g_16 : mg "law" = some (.ref (ad 16))
  b_16 : Binds K (fd 16) ["_law_script"] []
  z_int : mg "int" = none
  z_len : mg "len" = none
  z_range : mg "range" = none
  z_repr : mg "repr" = none
  z_str : mg "str" = none
  z_tuple : mg "tuple" = none
  z_zip : mg "zip" = none
  c_NO_MARKS : ∃ t, mg "NO_MARKS" = some (.str "-" t)
  c_UNKNOWN_WORD : ∃ t, mg "UNKNOWN_WORD" = some (.str "?" t)
section
variable {P : Program} {w : World} {K : PySem.W.Frag} {mg : Str → Option Value} {base : Heap} {ad : Nat → Addr} {fd : Nat → FuncData}
theorem G_0 (E : Prg K mg ad fd) : FnG P w K mg base X0 1 (ad 0) (fd 0) ["mark"] c_0 :=
  fn_text (N := ["mark"]) (e := e_0) E.f_0 sc_0 fun cdv A out s H Ex X hX hr hg => by
      have tk : Takes (cxOf (L2.CX P w) P w K mg base ["mark"] "mark_word" (defScope s_0) (ad 0) cdv A out s H Ex) (fun cls d _ H => Ex cls d H) := takes_of rfl rfl rfl rfl
      have po : PassesOwn (model P w) _ _ (cxOf (L2.CX P w) P w K mg base ["mark"] "mark_word" (defScope s_0) (ad 0) cdv A out s H Ex).xe := passes_of (X := cxOf (L2.CX P w) P w K mg base ["mark"] "mark_word" (defScope s_0) (ad 0) cdv A out s H Ex) rfl
      exact (ws_cons (s_ret (wp_if (t_cmp g_is (e_v 0) e_non) (e_gstr E.c_UNKNOWN_WORD) (pe_joined1 (e_fmt (e_v 0)))))
      ws_nil)
theorem G_1 (E : Prg K mg ad fd) : FnG P w K mg base X0 2 (ad 1) (fd 1) ["marks"] c_1 :=
  fn_text (N := ["marks", "mark"]) (e := e_1) E.f_1 sc_1 fun cdv A out s H Ex X hX hr hg => by
      have tk : Takes (cxOf (L2.CX P w) P w K mg base ["marks", "mark"] "marks_word" (defScope s_1) (ad 1) cdv A out s H Ex) (fun cls d _ H => Ex cls d H) := takes_of rfl rfl rfl rfl
      have po : PassesOwn (model P w) _ _ (cxOf (L2.CX P w) P w K mg base ["marks", "mark"] "marks_word" (defScope s_1) (ad 1) cdv A out s H Ex).xe := passes_of (X := cxOf (L2.CX P w) P w K mg base ["marks", "mark"] "marks_word" (defScope s_1) (ad 1) cdv A out s H Ex) rfl
      exact (ws_cons (s_ret (wp_if (t_cmp g_gt (e_len 0 E.z_len) e_int) (e_join e_str (a_cons (e_lc [("mark", 1)] rfl sc_1.nd (wi_seq (e_v 0)) (fun _ _ _ _ _ => (g_nm 1 sc_1.nd)) (fun _ _ _ _ _ => f_yes) (fun _ _ _ _ _ => (wp_call (G_0 E) (hr.mono (by decide)) hg X0.steady takesW0 E.g_0 E.f_0.kp E.b_0 (a_cons (e_v 1) wa_nil) (lenA_cons lenA_nil)))) wa_nil)) (e_gstr E.c_NO_MARKS)))
      ws_nil)
theorem G_2 (E : Prg K mg ad fd) : FnG P w K mg base X0 1 (ad 2) (fd 2) ["some"] c_2 :=
  fn_text (N := ["some", "one"]) (e := e_2) E.f_2 sc_2 fun cdv A out s H Ex X hX hr hg => by
      have tk : Takes (cxOf (L2.CX P w) P w K mg base ["some", "one"] "some_word" (defScope s_2) (ad 2) cdv A out s H Ex) (fun cls d _ H => Ex cls d H) := takes_of rfl rfl rfl rfl
      have po : PassesOwn (model P w) _ _ (cxOf (L2.CX P w) P w K mg base ["some", "one"] "some_word" (defScope s_2) (ad 2) cdv A out s H Ex).xe := passes_of (X := cxOf (L2.CX P w) P w K mg base ["some", "one"] "some_word" (defScope s_2) (ad 2) cdv A out s H Ex) rfl
      exact (ws_cons (s_ret (e_join e_str (a_cons (e_lc [("one", 1)] rfl sc_2.nd (wi_seq (e_v 0)) (fun _ _ _ _ _ => (g_nm 1 sc_2.nd)) (fun _ _ _ _ _ => f_yes) (fun _ _ _ _ _ => (pe_joined1 (e_fmt (e_v 1))))) wa_nil)))
      ws_nil)
theorem G_3 (E : Prg K mg ad fd) : FnG P w K mg base X0 3 (ad 3) (fd 3) ["table"] c_3 :=
  fn_text (N := ["table", "people", "gates", "rows", "lines", "person", "marks"]) (e := e_3) E.f_3 sc_3 fun cdv A out s H Ex X hX hr hg => by
      have tk : Takes (cxOf (L2.CX P w) P w K mg base ["table", "people", "gates", "rows", "lines", "person", "marks"] "table_text" (defScope s_3) (ad 3) cdv A out s H Ex) (fun cls d _ H => Ex cls d H) := takes_of rfl rfl rfl rfl
      have po : PassesOwn (model P w) _ _ (cxOf (L2.CX P w) P w K mg base ["table", "people", "gates", "rows", "lines", "person", "marks"] "table_text" (defScope s_3) (ad 3) cdv A out s H Ex).xe := passes_of (X := cxOf (L2.CX P w) P w K mg base ["table", "people", "gates", "rows", "lines", "person", "marks"] "table_text" (defScope s_3) (ad 3) cdv A out s H Ex) rfl
      exact (ws_cons (s_asgT (g_tp rfl (gs_cons (g_nm 1 sc_3.nd) (gs_cons (g_nm 2 sc_3.nd) (gs_cons (g_nm 3 sc_3.nd) wgs_nil)))) (e_v 0))
      (ws_cons (s_setLc 4 [("person", 5), ("marks", 6)] rfl sc_3.nd (wi_zip rfl E.z_zip (a_cons (e_v 1) (a_cons (e_v 3) wa_nil)) rfl rfl) (fun _ _ _ _ _ => (g_tp rfl (gs_cons (g_nm 5 sc_3.nd) (gs_cons (g_nm 6 sc_3.nd) wgs_nil)))) (fun _ _ _ _ _ => f_yes) (fun _ _ _ _ _ => (wp_join (j_cons e_str (j_cons (e_fmt (e_v 5)) (j_cons e_str (j_cons (e_fmt (wp_call (G_1 E) (hr.mono (by decide)) hg X0.steady takesW0 E.g_1 E.f_1.kp E.b_1 (a_cons (e_v 6) wa_nil) (lenA_cons lenA_nil))) j_nil)))))))
      (ws_cons (s_ret (e_join e_str (a_cons (wp_lst (a_cons (wp_join (j_cons e_str (j_cons (e_fmt (wp_call (G_2 E) (hr.mono (by decide)) hg X0.steady tk E.g_2 E.f_2.kp E.b_2 (a_cons (e_v 2) wa_nil) (lenA_cons lenA_nil))) j_nil))) (wa_star (e_v 4) wa_nil))) wa_nil)))
      ws_nil)))
theorem G_4 (E : Prg K mg ad fd) : FnG P w K mg base X0 2 (ad 4) (fd 4) ["measure"] c_4 :=
  fn_text (N := ["measure", "levels", "needs"]) (e := e_4) E.f_4 sc_4 fun cdv A out s H Ex X hX hr hg => by
      have tk : Takes (cxOf (L2.CX P w) P w K mg base ["measure", "levels", "needs"] "measure_text" (defScope s_4) (ad 4) cdv A out s H Ex) (fun cls d _ H => Ex cls d H) := takes_of rfl rfl rfl rfl
      have po : PassesOwn (model P w) _ _ (cxOf (L2.CX P w) P w K mg base ["measure", "levels", "needs"] "measure_text" (defScope s_4) (ad 4) cdv A out s H Ex).xe := passes_of (X := cxOf (L2.CX P w) P w K mg base ["measure", "levels", "needs"] "measure_text" (defScope s_4) (ad 4) cdv A out s H Ex) rfl
      exact (ws_cons (s_asgT (g_tp rfl (gs_cons (g_nm 1 sc_4.nd) (gs_cons (g_nm 2 sc_4.nd) wgs_nil))) (e_v 0))
      (ws_cons (s_ret (wp_join (j_cons e_str (j_cons (e_fmt (wp_call (G_2 E) (hr.mono (by decide)) hg X0.steady tk E.g_2 E.f_2.kp E.b_2 (a_cons (e_v 1) wa_nil) (lenA_cons lenA_nil))) (j_cons e_str (j_cons (e_fmt (wp_call (G_2 E) (hr.mono (by decide)) hg X0.steady tk E.g_2 E.f_2.kp E.b_2 (a_cons (e_v 2) wa_nil) (lenA_cons lenA_nil))) j_nil))))))
      ws_nil))
theorem G_5 (E : Prg K mg ad fd) : FnG P w K mg base X0 1 (ad 5) (fd 5) ["_law_script"] c_5 :=
  fn_text (N := ["_law_script"]) (e := e_5) E.f_5 sc_5 fun cdv A out s H Ex X hX hr hg => by
      have tk : Takes (cxOf (L2.CX P w) P w K mg base ["_law_script"] "_law_reader" (defScope s_5) (ad 5) cdv A out s H Ex) (fun cls d _ H => Ex cls d H) := takes_of rfl rfl rfl rfl
      have po : PassesOwn (model P w) _ _ (cxOf (L2.CX P w) P w K mg base ["_law_script"] "_law_reader" (defScope s_5) (ad 5) cdv A out s H Ex).xe := passes_of (X := cxOf (L2.CX P w) P w K mg base ["_law_script"] "_law_reader" (defScope s_5) (ad 5) cdv A out s H Ex) rfl
      exact (ws_cons (s_ret (wp_lst (a_cons (wp_slc (e_v 0) wo_none (wo_some e_int)) (a_cons e_int (a_cons e_int (a_cons e_int wa_nil))))))
      ws_nil)
theorem G_6 (E : Prg K mg ad fd) : FnG P w K mg base X0 1 (ad 6) (fd 6) ["_law_reader_here", "_law_many"] c_6 :=
  fn_text (N := ["_law_reader_here", "_law_many", "_law_found", "_law_cell", "_law_once"]) (e := e_6) E.f_6 sc_6 fun cdv A out s H Ex X hX hr hg => by
      have tk : Takes (cxOf (L2.CX P w) P w K mg base ["_law_reader_here", "_law_many", "_law_found", "_law_cell", "_law_once"] "_law_draw" (defScope s_6) (ad 6) cdv A out s H Ex) (fun cls d _ H => Ex cls d H) := takes_of rfl rfl rfl rfl
      have po : PassesOwn (model P w) _ _ (cxOf (L2.CX P w) P w K mg base ["_law_reader_here", "_law_many", "_law_found", "_law_cell", "_law_once"] "_law_draw" (defScope s_6) (ad 6) cdv A out s H Ex).xe := passes_of (X := cxOf (L2.CX P w) P w K mg base ["_law_reader_here", "_law_many", "_law_found", "_law_cell", "_law_once"] "_law_draw" (defScope s_6) (ad 6) cdv A out s H Ex) rfl
      exact (ws_cons (s_setI 0 (e_bin g_add (e_rd 0 e_int) e_int) e_int)
      (ws_cons (ws_if (t_cmp g_gt (e_rd 0 e_int) e_int) (ws_cons (s_set 2 sc_6.nd (e_bin g_mod (e_ct g_int E.z_int (a_cons (e_rd 0 e_int) wa_nil)) (e_v 1)))
      (ws_cons (s_setI 0 (e_bin g_fdiv (e_rd 0 e_int) (e_v 1)) e_int)
      (ws_cons (s_retv 2)
      ws_nil))) ws_nil)
      (ws_cons (s_set 3 sc_6.nd e_int)
      (ws_cons (ws_if (t_cmp (g_ne (u64 hr)) (e_rd 0 e_int) (wp_lst wa_nil)) (ws_cons (s_set 3 sc_6.nd (e_sub (e_rd 0 e_int) (e_bin g_mod (e_ct g_int E.z_int (a_cons (e_rd 0 e_int) wa_nil)) (e_cb g_len E.z_len (a_cons (e_rd 0 e_int) wa_nil)))))
      ws_nil) ws_nil)
      (ws_cons (s_setI 0 (e_bin g_add (e_rd 0 e_int) e_int) e_int)
      (ws_cons (ws_if (PW.pt (wpW_and (t_cmp g_ge (e_v 3) (e_bin g_pow e_int e_int)) (pw_and1 (t_cmp g_le (e_rd 0 e_int) (e_cb g_len E.z_len (a_cons (e_rd 0 e_int) wa_nil)))))) (ws_cons (s_setI 0 (e_bin g_fdiv (e_v 3) (e_v 1)) e_int)
      (ws_cons (s_ret (e_bin g_mod (e_ct g_int E.z_int (a_cons (e_v 3) wa_nil)) (e_v 1)))
      ws_nil)) ws_nil)
      (ws_cons (s_set 4 sc_6.nd (e_bin g_mod (e_ct g_int E.z_int (a_cons (e_bin g_pow (e_bin g_add (e_bin g_add (e_bin g_mod (e_ct g_int E.z_int (a_cons (e_v 3) wa_nil)) e_int) (e_bin g_mulX e_int (e_rd 0 e_int))) e_int) e_int) wa_nil)) e_int))
      (ws_cons (s_ret (e_bin g_mod (e_ct g_int E.z_int (a_cons (e_bin g_fdiv (e_bin g_mod (e_ct g_int E.z_int (a_cons (e_bin g_pow (e_bin g_add (e_v 4) (e_bin g_mulX e_int (e_rd 0 e_int))) e_int) wa_nil)) e_int) e_int) wa_nil)) (e_v 1)))
      ws_nil))))))))
theorem G_7 (E : Prg K mg ad fd) : FnG P w K mg base X0 2 (ad 7) (fd 7) ["_law_reader_here", "_law_pool"] c_7 :=
  fn_text (N := ["_law_reader_here", "_law_pool", "_law_at", "_law_k"]) (e := e_7) E.f_7 sc_7 fun cdv A out s H Ex X hX hr hg => by
      have tk : Takes (cxOf (L2.CX P w) P w K mg base ["_law_reader_here", "_law_pool", "_law_at", "_law_k"] "_law_some_of" (defScope s_7) (ad 7) cdv A out s H Ex) (fun cls d _ H => Ex cls d H) := takes_of rfl rfl rfl rfl
      have po : PassesOwn (model P w) _ _ (cxOf (L2.CX P w) P w K mg base ["_law_reader_here", "_law_pool", "_law_at", "_law_k"] "_law_some_of" (defScope s_7) (ad 7) cdv A out s H Ex).xe := passes_of (X := cxOf (L2.CX P w) P w K mg base ["_law_reader_here", "_law_pool", "_law_at", "_law_k"] "_law_some_of" (defScope s_7) (ad 7) cdv A out s H Ex) rfl
      exact (ws_cons (s_set 2 sc_7.nd (wp_call (G_6 E) (hr.mono (by decide)) hg X0.steady tk E.g_6 E.f_6.kp E.b_6 (a_cons (e_v 0) (a_cons (e_len 1 E.z_len) wa_nil)) (lenA_cons (lenA_cons lenA_nil))))
      (ws_cons (s_ret (e_ct g_tuple E.z_tuple (a_cons (e_lc [("_law_k", 3)] rfl sc_7.nd (wi_range1 rfl E.z_range (a_cons (e_len 1 E.z_len) wa_nil) rfl) (fun _ _ _ _ _ => (g_nm 3 sc_7.nd)) (fun _ _ _ _ _ => (f_one (PW.pt (wpW_or (t_cmp (g_eq (u64 hr)) (e_v 3) (e_v 2)) (pw_or1 (t_cmp (g_eq (u64 hr)) (wp_call (G_6 E) (hr.mono (by decide)) hg X0.steady takesW0 E.g_6 E.f_6.kp E.b_6 (a_cons (e_v 0) (a_cons e_int wa_nil)) (lenA_cons (lenA_cons lenA_nil))) e_int)))))) (fun _ _ _ _ _ => (e_rd 1 (e_v 3)))) wa_nil)))
      ws_nil))
theorem G_8 (E : Prg K mg ad fd) : FnG P w K mg base X0 3 (ad 8) (fd 8) ["_law_reader_here"] c_8 :=
  fn_text (N := ["_law_reader_here", "_law_pools", "_law_persons", "_law_doors", "_law_left", "_law_lot", "_law_name", "_law_own", "_law_door", "_law_one"]) (e := e_8) E.f_8 sc_8 fun cdv A out s H Ex X hX hr hg => by
      have tk : Takes (cxOf (L2.CX P w) P w K mg base ["_law_reader_here", "_law_pools", "_law_persons", "_law_doors", "_law_left", "_law_lot", "_law_name", "_law_own", "_law_door", "_law_one"] "_law_random_table" (defScope s_8) (ad 8) cdv A out s H Ex) (fun cls d _ H => Ex cls d H) := takes_of rfl rfl rfl rfl
      have po : PassesOwn (model P w) _ _ (cxOf (L2.CX P w) P w K mg base ["_law_reader_here", "_law_pools", "_law_persons", "_law_doors", "_law_left", "_law_lot", "_law_name", "_law_own", "_law_door", "_law_one"] "_law_random_table" (defScope s_8) (ad 8) cdv A out s H Ex).xe := passes_of (X := cxOf (L2.CX P w) P w K mg base ["_law_reader_here", "_law_pools", "_law_persons", "_law_doors", "_law_left", "_law_lot", "_law_name", "_law_own", "_law_door", "_law_one"] "_law_random_table" (defScope s_8) (ad 8) cdv A out s H Ex) rfl
      exact (ws_cons (s_set 1 sc_8.nd (wp_lst (a_cons (wp_tup (a_cons e_str (a_cons e_str (a_cons e_str (a_cons e_str wa_nil))))) (a_cons (wp_tup (a_cons e_str (a_cons e_str (a_cons e_str wa_nil)))) (a_cons (wp_tup (a_cons e_str (a_cons e_str wa_nil))) (a_cons (wp_tup (a_cons e_str (a_cons e_str (a_cons e_str wa_nil)))) wa_nil))))))
      (ws_cons (s_set 2 sc_8.nd (wp_call (G_7 E) (hr.mono (by decide)) hg X0.steady tk E.g_7 E.f_7.kp E.b_7 (a_cons (e_v 0) (a_cons (e_rd 1 (wp_call (G_6 E) (hr.mono (by decide)) hg X0.steady tk E.g_6 E.f_6.kp E.b_6 (a_cons (e_v 0) (a_cons e_int wa_nil)) (lenA_cons (lenA_cons lenA_nil)))) wa_nil)) (lenA_cons (lenA_cons lenA_nil))))
      (ws_cons (s_set 3 sc_8.nd (wp_call (G_7 E) (hr.mono (by decide)) hg X0.steady tk E.g_7 E.f_7.kp E.b_7 (a_cons (e_v 0) (a_cons (e_rd 1 (wp_call (G_6 E) (hr.mono (by decide)) hg X0.steady tk E.g_6 E.f_6.kp E.b_6 (a_cons (e_v 0) (a_cons e_int wa_nil)) (lenA_cons (lenA_cons lenA_nil)))) wa_nil)) (lenA_cons (lenA_cons lenA_nil))))
      (ws_cons (s_par2 4 5 rfl sc_8.nd (a_cons e_int (a_cons (wp_lst wa_nil) wa_nil)))
      (ws_cons (s_for po rfl (wi_seq (e_v 2)) (g_nm 6 sc_8.nd) (ws_cons (s_set 7 sc_8.nd (wp_lst wa_nil))
      (ws_cons (s_for po rfl (wi_seq (e_v 3)) (g_nm 8 sc_8.nd) (ws_cons (s_set 9 sc_8.nd (e_sub (wp_lst (a_cons e_int (a_cons e_int (a_cons e_non (a_cons e_int (a_cons e_int wa_nil)))))) (wp_call (G_6 E) (hr.mono (by decide)) hg X0.steady tk E.g_6 E.f_6.kp E.b_6 (a_cons (e_v 0) (a_cons (wp_if (t_cmp g_gt (e_v 4) e_int) e_int e_int) wa_nil)) (lenA_cons (lenA_cons lenA_nil)))))
      (ws_cons (s_set 4 sc_8.nd (e_bin g_sub (e_v 4) (wp_if (t_cmp g_is (e_v 9) e_non) e_int e_int)))
      (ws_cons (s_expr (e_app 7 (e_v 9)))
      ws_nil))))
      (ws_cons (s_expr (e_app 5 (e_ct g_tuple E.z_tuple (a_cons (e_v 7) wa_nil))))
      ws_nil))))
      (ws_cons (s_ret (wp_tup (a_cons (e_v 2) (a_cons (e_v 3) (a_cons (e_ct g_tuple E.z_tuple (a_cons (e_v 5) wa_nil)) wa_nil)))))
      ws_nil))))))
theorem G_9 (E : Prg K mg ad fd) : FnG P w K mg base X0 2 (ad 9) (fd 9) ["_law_reader_here", "_law_high", "_law_wide_here"] c_9 :=
  fn_text (N := ["_law_reader_here", "_law_high", "_law_wide_here", "_law_first", "_law_k"]) (e := e_9) E.f_9 sc_9 fun cdv A out s H Ex X hX hr hg => by
      have tk : Takes (cxOf (L2.CX P w) P w K mg base ["_law_reader_here", "_law_high", "_law_wide_here", "_law_first", "_law_k"] "_law_random_measure" (defScope s_9) (ad 9) cdv A out s H Ex) (fun cls d _ H => Ex cls d H) := takes_of rfl rfl rfl rfl
      have po : PassesOwn (model P w) _ _ (cxOf (L2.CX P w) P w K mg base ["_law_reader_here", "_law_high", "_law_wide_here", "_law_first", "_law_k"] "_law_random_measure" (defScope s_9) (ad 9) cdv A out s H Ex).xe := passes_of (X := cxOf (L2.CX P w) P w K mg base ["_law_reader_here", "_law_high", "_law_wide_here", "_law_first", "_law_k"] "_law_random_measure" (defScope s_9) (ad 9) cdv A out s H Ex) rfl
      exact (ws_cons (s_set 3 sc_9.nd (e_ct g_tuple E.z_tuple (a_cons (e_lc [("_law_k", 4)] rfl sc_9.nd (wi_range1 rfl E.z_range (a_cons (e_v 1) wa_nil) rfl) (fun _ _ _ _ _ => (g_nm 4 sc_9.nd)) (fun _ _ _ _ _ => f_yes) (fun _ _ _ _ _ => (wp_call (G_6 E) (hr.mono (by decide)) hg X0.steady takesW0 E.g_6 E.f_6.kp E.b_6 (a_cons (e_v 0) (a_cons e_int wa_nil)) (lenA_cons (lenA_cons lenA_nil))))) wa_nil)))
      (ws_cons (s_ret (wp_tup (a_cons (e_v 3) (a_cons (e_ct g_tuple E.z_tuple (a_cons (e_lc [("_law_k", 4)] rfl sc_9.nd (wi_range1 rfl E.z_range (a_cons (e_v 2) wa_nil) rfl) (fun _ _ _ _ _ => (g_nm 4 sc_9.nd)) (fun _ _ _ _ _ => f_yes) (fun _ _ _ _ _ => (wp_call (G_6 E) (hr.mono (by decide)) hg X0.steady takesW0 E.g_6 E.f_6.kp E.b_6 (a_cons (e_v 0) (a_cons e_int wa_nil)) (lenA_cons (lenA_cons lenA_nil))))) wa_nil)) wa_nil))))
      ws_nil))
theorem G_10 (E : Prg K mg ad fd) : FnG P w K mg base X0 1 (ad 10) (fd 10) [] c_10 :=
  fn_text (N := ["_law_persons", "_law_doors", "_law_first_table", "_law_steps_table", "_law_words", "_law_six", "_law_lot", "_law_one"]) (e := e_10) E.f_10 sc_10 fun cdv A out s H Ex X hX hr hg => by
      have tk : Takes (cxOf (L2.CX P w) P w K mg base ["_law_persons", "_law_doors", "_law_first_table", "_law_steps_table", "_law_words", "_law_six", "_law_lot", "_law_one"] "_law_fixed_tables" (defScope s_10) (ad 10) cdv A out s H Ex) (fun cls d _ H => Ex cls d H) := takes_of rfl rfl rfl rfl
      have po : PassesOwn (model P w) _ _ (cxOf (L2.CX P w) P w K mg base ["_law_persons", "_law_doors", "_law_first_table", "_law_steps_table", "_law_words", "_law_six", "_law_lot", "_law_one"] "_law_fixed_tables" (defScope s_10) (ad 10) cdv A out s H Ex).xe := passes_of (X := cxOf (L2.CX P w) P w K mg base ["_law_persons", "_law_doors", "_law_first_table", "_law_steps_table", "_law_words", "_law_six", "_law_lot", "_law_one"] "_law_fixed_tables" (defScope s_10) (ad 10) cdv A out s H Ex) rfl
      exact (ws_cons (s_asgT (g_tp rfl (gs_cons (g_nm 0 sc_10.nd) (gs_cons (g_nm 1 sc_10.nd) wgs_nil))) (wp_tup (a_cons (wp_tup (a_cons e_str (a_cons e_str (a_cons e_str wa_nil)))) (a_cons (wp_tup (a_cons e_str (a_cons e_str (a_cons e_str wa_nil)))) wa_nil))))
      (ws_cons (s_set 2 sc_10.nd (wp_tup (a_cons (e_v 0) (a_cons (e_v 1) (a_cons (wp_tup (a_cons (wp_tup (a_cons e_int (a_cons e_int (a_cons e_non wa_nil)))) (a_cons (wp_tup (a_cons e_non (a_cons e_int (a_cons e_int wa_nil)))) (a_cons (wp_tup (a_cons e_int (a_cons e_non (a_cons e_non wa_nil)))) wa_nil)))) wa_nil)))))
      (ws_cons (s_set 3 sc_10.nd (wp_tup (a_cons (e_v 0) (a_cons (e_v 1) (a_cons (wp_tup (a_cons (wp_tup (a_cons e_int (a_cons e_int (a_cons e_non wa_nil)))) (a_cons (wp_tup (a_cons e_non (a_cons e_int (a_cons e_int wa_nil)))) (a_cons (wp_tup (a_cons e_non (a_cons e_non (a_cons e_int wa_nil)))) wa_nil)))) wa_nil)))))
      (ws_cons (s_set 4 sc_10.nd (wp_tup (a_cons (wp_tup (a_cons e_str (a_cons e_str wa_nil))) (a_cons (wp_tup (a_cons e_str (a_cons e_str (a_cons e_str wa_nil)))) (a_cons (wp_tup (a_cons (wp_tup (a_cons e_int (a_cons e_non (a_cons e_int wa_nil)))) (a_cons (wp_tup (a_cons e_non (a_cons e_int (a_cons e_int wa_nil)))) wa_nil))) wa_nil)))))
      (ws_cons (s_set 5 sc_10.nd (wp_tup (a_cons e_str (a_cons e_str (a_cons e_str (a_cons e_str (a_cons e_str (a_cons e_str wa_nil))))))))
      (ws_cons (s_set 6 sc_10.nd (wp_tup (a_cons (wp_tup (a_cons e_int (a_cons e_int (a_cons e_non (a_cons e_int (a_cons e_int (a_cons e_int wa_nil))))))) (a_cons (wp_tup (a_cons e_int (a_cons e_int (a_cons e_int (a_cons e_int (a_cons e_int (a_cons e_int wa_nil))))))) (a_cons (wp_tup (a_cons e_int (a_cons e_int (a_cons e_int (a_cons e_int (a_cons e_int (a_cons e_int wa_nil))))))) (a_cons (wp_tup (a_cons e_non (a_cons e_int (a_cons e_int (a_cons e_non (a_cons e_int (a_cons e_int wa_nil))))))) wa_nil))))))
      (ws_cons (s_set 6 sc_10.nd (e_bin g_add (e_v 6) (wp_tup (a_cons (wp_tup (a_cons e_int (a_cons e_int (a_cons e_int (a_cons e_int (a_cons e_non (a_cons e_non wa_nil))))))) (a_cons (wp_tup (a_cons e_int (a_cons e_non (a_cons e_int (a_cons e_non (a_cons e_int (a_cons e_non wa_nil))))))) wa_nil)))))
      (ws_cons (s_set 7 sc_10.nd (wp_tup (a_cons (wp_tup (a_cons e_str wa_nil)) (a_cons (wp_tup (a_cons e_str wa_nil)) (a_cons (wp_tup (a_cons (wp_tup (a_cons e_non wa_nil)) wa_nil)) wa_nil)))))
      (ws_cons (s_ret (wp_lst (a_cons (e_v 2) (a_cons (e_v 3) (a_cons (e_v 7) (a_cons (e_v 4) (a_cons (wp_tup (a_cons (wp_tup (a_cons e_str wa_nil)) (a_cons (wp_tup (a_cons e_str (a_cons e_str wa_nil))) (a_cons (wp_tup (a_cons (wp_tup (a_cons e_int (a_cons e_int wa_nil))) wa_nil)) wa_nil)))) (a_cons (wp_tup (a_cons (e_v 5) (a_cons (e_v 5) (a_cons (e_v 6) wa_nil)))) wa_nil))))))))
      ws_nil)))))))))
theorem G_11 (E : Prg K mg ad fd) : FnG P w K mg base X0 1 (ad 11) (fd 11) ["_law_one"] c_11 :=
  fn_text (N := ["_law_one"]) (e := e_11) E.f_11 sc_11 fun cdv A out s H Ex X hX hr hg => by
      have tk : Takes (cxOf (L2.CX P w) P w K mg base ["_law_one"] "_law_mark_sign" (defScope s_11) (ad 11) cdv A out s H Ex) (fun cls d _ H => Ex cls d H) := takes_of rfl rfl rfl rfl
      have po : PassesOwn (model P w) _ _ (cxOf (L2.CX P w) P w K mg base ["_law_one"] "_law_mark_sign" (defScope s_11) (ad 11) cdv A out s H Ex).xe := passes_of (X := cxOf (L2.CX P w) P w K mg base ["_law_one"] "_law_mark_sign" (defScope s_11) (ad 11) cdv A out s H Ex) rfl
      exact (ws_cons (s_ret (wp_if (t_cmp g_is (e_v 0) e_non) e_str (e_ct g_str E.z_str (a_cons (e_v 0) wa_nil))))
      ws_nil)
theorem G_12 (E : Prg K mg ad fd) : FnG P w K mg base X0 2 (ad 12) (fd 12) ["_law_whole"] c_12 :=
  fn_text (N := ["_law_whole", "_law_found", "_law_name", "_law_own", "_law_one"]) (e := e_12) E.f_12 sc_12 fun cdv A out s H Ex X hX hr hg => by
      have tk : Takes (cxOf (L2.CX P w) P w K mg base ["_law_whole", "_law_found", "_law_name", "_law_own", "_law_one"] "_law_table_page" (defScope s_12) (ad 12) cdv A out s H Ex) (fun cls d _ H => Ex cls d H) := takes_of rfl rfl rfl rfl
      have po : PassesOwn (model P w) _ _ (cxOf (L2.CX P w) P w K mg base ["_law_whole", "_law_found", "_law_name", "_law_own", "_law_one"] "_law_table_page" (defScope s_12) (ad 12) cdv A out s H Ex).xe := passes_of (X := cxOf (L2.CX P w) P w K mg base ["_law_whole", "_law_found", "_law_name", "_law_own", "_law_one"] "_law_table_page" (defScope s_12) (ad 12) cdv A out s H Ex) rfl
      exact (ws_cons (s_set 1 sc_12.nd (wp_lst (a_cons (e_bin g_add e_str (e_join e_str (a_cons (e_rd 0 e_int) wa_nil))) wa_nil)))
      (ws_cons (s_for po rfl (wi_zip rfl E.z_zip (a_cons (e_rd 0 e_int) (a_cons (e_rd 0 e_int) wa_nil)) rfl rfl) (g_tp rfl (gs_cons (g_nm 2 sc_12.nd) (gs_cons (g_nm 3 sc_12.nd) wgs_nil))) (ws_cons (s_expr (e_app 1 (e_bin g_add (e_bin g_add (e_bin g_add e_str (e_v 2)) e_str) (wp_if (t_cmp (g_ne (u64 hr)) (e_v 3) (wp_tup wa_nil)) (e_join e_str (a_cons (e_lc [("_law_one", 4)] rfl sc_12.nd (wi_seq (e_v 3)) (fun _ _ _ _ _ => (g_nm 4 sc_12.nd)) (fun _ _ _ _ _ => f_yes) (fun _ _ _ _ _ => (wp_call (G_11 E) (hr.mono (by decide)) hg X0.steady takesW0 E.g_11 E.f_11.kp E.b_11 (a_cons (e_v 4) wa_nil) (lenA_cons lenA_nil)))) wa_nil)) e_str))))
      ws_nil))
      (ws_cons (s_ret (e_join e_str (a_cons (e_v 1) wa_nil)))
      ws_nil)))
theorem G_13 (E : Prg K mg ad fd) : FnG P w K mg base X0 1 (ad 13) (fd 13) ["_law_pair"] c_13 :=
  fn_text (N := ["_law_pair", "_law_one"]) (e := e_13) E.f_13 sc_13 fun cdv A out s H Ex X hX hr hg => by
      have tk : Takes (cxOf (L2.CX P w) P w K mg base ["_law_pair", "_law_one"] "_law_measure_line" (defScope s_13) (ad 13) cdv A out s H Ex) (fun cls d _ H => Ex cls d H) := takes_of rfl rfl rfl rfl
      have po : PassesOwn (model P w) _ _ (cxOf (L2.CX P w) P w K mg base ["_law_pair", "_law_one"] "_law_measure_line" (defScope s_13) (ad 13) cdv A out s H Ex).xe := passes_of (X := cxOf (L2.CX P w) P w K mg base ["_law_pair", "_law_one"] "_law_measure_line" (defScope s_13) (ad 13) cdv A out s H Ex) rfl
      exact (ws_cons (s_ret (e_bin g_add (e_bin g_add (e_bin g_add e_str (e_join e_str (a_cons (e_lc [("_law_one", 1)] rfl sc_13.nd (wi_seq (e_rd 0 e_int)) (fun _ _ _ _ _ => (g_nm 1 sc_13.nd)) (fun _ _ _ _ _ => f_yes) (fun _ _ _ _ _ => (e_ct g_str E.z_str (a_cons (e_v 1) wa_nil)))) wa_nil))) e_str) (e_join e_str (a_cons (e_lc [("_law_one", 1)] rfl sc_13.nd (wi_seq (e_rd 0 e_int)) (fun _ _ _ _ _ => (g_nm 1 sc_13.nd)) (fun _ _ _ _ _ => f_yes) (fun _ _ _ _ _ => (e_ct g_str E.z_str (a_cons (e_v 1) wa_nil)))) wa_nil))))
      ws_nil)
theorem G_14 (E : Prg K mg ad fd) : FnG P w K mg base X0 2 (ad 14) (fd 14) ["_law_reader_here"] c_14 :=
  fn_text (N := ["_law_reader_here", "_law_persons", "_law_doors", "_law_lot", "_law_name", "_law_k"]) (e := e_14) E.f_14 sc_14 fun cdv A out s H Ex X hX hr hg => by
      have tk : Takes (cxOf (L2.CX P w) P w K mg base ["_law_reader_here", "_law_persons", "_law_doors", "_law_lot", "_law_name", "_law_k"] "_law_loose" (defScope s_14) (ad 14) cdv A out s H Ex) (fun cls d _ H => Ex cls d H) := takes_of rfl rfl rfl rfl
      have po : PassesOwn (model P w) _ _ (cxOf (L2.CX P w) P w K mg base ["_law_reader_here", "_law_persons", "_law_doors", "_law_lot", "_law_name", "_law_k"] "_law_loose" (defScope s_14) (ad 14) cdv A out s H Ex).xe := passes_of (X := cxOf (L2.CX P w) P w K mg base ["_law_reader_here", "_law_persons", "_law_doors", "_law_lot", "_law_name", "_law_k"] "_law_loose" (defScope s_14) (ad 14) cdv A out s H Ex) rfl
      exact (ws_cons (s_set 1 sc_14.nd (wp_slc (wp_tup (a_cons e_str (a_cons e_str (a_cons e_str (a_cons e_str (a_cons e_str wa_nil)))))) (wo_some (wp_call (G_6 E) (hr.mono (by decide)) hg X0.steady tk E.g_6 E.f_6.kp E.b_6 (a_cons (e_v 0) (a_cons e_int wa_nil)) (lenA_cons (lenA_cons lenA_nil)))) wo_none))
      (ws_cons (s_set 2 sc_14.nd (wp_slc (wp_tup (a_cons e_str (a_cons e_str (a_cons e_str (a_cons e_str wa_nil))))) (wo_some (wp_call (G_6 E) (hr.mono (by decide)) hg X0.steady tk E.g_6 E.f_6.kp E.b_6 (a_cons (e_v 0) (a_cons e_int wa_nil)) (lenA_cons (lenA_cons lenA_nil)))) wo_none))
      (ws_cons (s_set 3 sc_14.nd (wp_lst wa_nil))
      (ws_cons (s_for po rfl (wi_seq (e_v 1)) (g_nm 4 sc_14.nd) (ws_cons (s_expr (e_app 3 (e_ct g_tuple E.z_tuple (a_cons (e_lc [("_law_k", 5)] rfl sc_14.nd (wi_range1 rfl E.z_range (a_cons (wp_call (G_6 E) (hr.mono (by decide)) hg X0.steady tk E.g_6 E.f_6.kp E.b_6 (a_cons (e_v 0) (a_cons e_int wa_nil)) (lenA_cons (lenA_cons lenA_nil))) wa_nil) rfl) (fun _ _ _ _ _ => (g_nm 5 sc_14.nd)) (fun _ _ _ _ _ => f_yes) (fun _ _ _ _ _ => (e_sub (wp_lst (a_cons e_int (a_cons e_int (a_cons e_non wa_nil)))) (wp_call (G_6 E) (hr.mono (by decide)) hg X0.steady takesW0 E.g_6 E.f_6.kp E.b_6 (a_cons (e_v 0) (a_cons e_int wa_nil)) (lenA_cons (lenA_cons lenA_nil)))))) wa_nil))))
      ws_nil))
      (ws_cons (s_ret (wp_tup (a_cons (e_v 1) (a_cons (e_v 2) (a_cons (e_ct g_tuple E.z_tuple (a_cons (e_v 3) wa_nil)) wa_nil)))))
      ws_nil)))))
theorem G_15 (E : Prg K mg ad fd) : FnG P w K mg base X0 1 (ad 15) (fd 15) [] c_15 :=
  fn_text (N := ["_law_names", "_law_sign", "_law_k", "_law_j"]) (e := e_15) E.f_15 sc_15 fun cdv A out s H Ex X hX hr hg => by
      have tk : Takes (cxOf (L2.CX P w) P w K mg base ["_law_names", "_law_sign", "_law_k", "_law_j"] "_law_wide" (defScope s_15) (ad 15) cdv A out s H Ex) (fun cls d _ H => Ex cls d H) := takes_of rfl rfl rfl rfl
      have po : PassesOwn (model P w) _ _ (cxOf (L2.CX P w) P w K mg base ["_law_names", "_law_sign", "_law_k", "_law_j"] "_law_wide" (defScope s_15) (ad 15) cdv A out s H Ex).xe := passes_of (X := cxOf (L2.CX P w) P w K mg base ["_law_names", "_law_sign", "_law_k", "_law_j"] "_law_wide" (defScope s_15) (ad 15) cdv A out s H Ex) rfl
      exact (ws_cons (s_set 0 sc_15.nd (e_ct g_tuple E.z_tuple (a_cons (e_bin g_add (e_lc [("_law_sign", 1)] rfl sc_15.nd (wi_seq e_str) (fun _ _ _ _ _ => (g_nm 1 sc_15.nd)) (fun _ _ _ _ _ => f_yes) (fun _ _ _ _ _ => (e_bin g_add e_str (e_v 1)))) (wp_lst (a_cons e_str (a_cons e_str (a_cons e_str (a_cons e_str wa_nil)))))) wa_nil)))
      (ws_cons (s_ret (wp_tup (a_cons (e_v 0) (a_cons (e_rev (e_v 0)) (a_cons (e_ct g_tuple E.z_tuple (a_cons (e_lc [("_law_k", 2)] rfl sc_15.nd (wi_range1 rfl E.z_range (a_cons e_int wa_nil) rfl) (fun _ _ _ _ _ => (g_nm 2 sc_15.nd)) (fun _ _ _ _ _ => f_yes) (fun _ _ _ _ _ => (e_ct g_tuple E.z_tuple (a_cons (e_lc [("_law_j", 3)] rfl sc_15.nd (wi_range1 rfl E.z_range (a_cons e_int wa_nil) rfl) (fun _ _ _ _ _ => (g_nm 3 sc_15.nd)) (fun _ _ _ _ _ => f_yes) (fun _ _ _ _ _ => (e_sub (wp_lst (a_cons e_int (a_cons e_int (a_cons e_non wa_nil)))) (e_bin g_mod (e_ct g_int E.z_int (a_cons (e_bin g_mulX (e_v 3) (e_v 2)) wa_nil)) e_int)))) wa_nil)))) wa_nil)) wa_nil)))))
      ws_nil))
theorem G_16 (E : Prg K mg ad fd) : FnG P w K mg base X0 4 (ad 16) (fd 16) ["_law_script"] c_16 :=
  fn_text (N := ["_law_script", "_law_reader_here", "_law_far", "_law_lots", "_law_turn", "_law_whole", "_law_saved", "_law_pairs", "_law_pair"]) (e := e_16) E.f_16 sc_16 fun cdv A out s H Ex X hX hr hg => by
      have tk : Takes (cxOf (L2.CX P w) P w K mg base ["_law_script", "_law_reader_here", "_law_far", "_law_lots", "_law_turn", "_law_whole", "_law_saved", "_law_pairs", "_law_pair"] "law" (defScope s_16) (ad 16) cdv A out s H Ex) (fun cls d _ H => Ex cls d H) := takes_of rfl rfl rfl rfl
      have po : PassesOwn (model P w) _ _ (cxOf (L2.CX P w) P w K mg base ["_law_script", "_law_reader_here", "_law_far", "_law_lots", "_law_turn", "_law_whole", "_law_saved", "_law_pairs", "_law_pair"] "law" (defScope s_16) (ad 16) cdv A out s H Ex).xe := passes_of (X := cxOf (L2.CX P w) P w K mg base ["_law_script", "_law_reader_here", "_law_far", "_law_lots", "_law_turn", "_law_whole", "_law_saved", "_law_pairs", "_law_pair"] "law" (defScope s_16) (ad 16) cdv A out s H Ex) rfl
      exact (ws_cons (s_share 1 sc_16.nd (wp_call (G_5 E) (hr.mono (by decide)) hg X0.steady tk E.g_5 E.f_5.kp E.b_5 (a_cons (e_v 0) wa_nil) (lenA_cons lenA_nil)))
      (ws_cons (s_par2 2 3 rfl sc_16.nd (a_cons (e_bin g_pow e_int e_int) (a_cons (e_bin g_add (wp_call0 (G_10 E) (hr.mono (by decide)) hg X0.steady tk E.g_10 E.f_10.kp E.b_10) (wp_lst (a_cons (wp_call0 (G_15 E) (hr.mono (by decide)) hg X0.steady tk E.g_15 E.f_15.kp E.b_15) (a_cons (wp_tup (a_cons (wp_tup wa_nil) (a_cons (wp_tup (a_cons e_str wa_nil)) (a_cons (wp_tup wa_nil) wa_nil)))) wa_nil)))) wa_nil)))
      (ws_cons (s_for po rfl (wi_range1 rfl E.z_range (a_cons e_int wa_nil) rfl) (g_nm 4 sc_16.nd) (ws_cons (s_expr (e_app 3 (wp_if (t_cmp (g_eq (u64 hr)) (e_bin g_mod (e_ct g_int E.z_int (a_cons (e_v 4) wa_nil)) e_int) e_int) (wp_call (G_8 E) (hr.mono (by decide)) hg X0.steady tk E.g_8 E.f_8.kp E.b_8 (a_cons (e_v 1) wa_nil) (lenA_cons lenA_nil)) (wp_call (G_14 E) (hr.mono (by decide)) hg X0.steady tk E.g_14 E.f_14.kp E.b_14 (a_cons (e_v 1) wa_nil) (lenA_cons lenA_nil)))))
      ws_nil))
      (ws_cons (s_for po rfl (wi_seq (e_v 3)) (g_nm 5 sc_16.nd) (ws_cons (s_set 6 sc_16.nd (e_cb (g_repr hg (u64 hr)) E.z_repr (a_cons (e_v 5) wa_nil)))
      (ws_cons (ws_if (PW.pt (wpW_or (t_cmp (g_ne (u64 hr)) (e_cb (g_repr hg (u64 hr)) E.z_repr (a_cons (wp_call (G_3 E) (hr.mono (by decide)) hg X0.steady tk E.g_3 E.f_3.kp E.b_3 (a_cons (e_v 5) wa_nil) (lenA_cons lenA_nil)) wa_nil)) (e_cb (g_repr hg (u64 hr)) E.z_repr (a_cons (wp_call (G_12 E) (hr.mono (by decide)) hg X0.steady tk E.g_12 E.f_12.kp E.b_12 (a_cons (e_v 5) wa_nil) (lenA_cons lenA_nil)) wa_nil))) (pw_or1 (t_cmp (g_ne (u64 hr)) (e_cb (g_repr hg (u64 hr)) E.z_repr (a_cons (e_v 5) wa_nil)) (e_v 6))))) (ws_cons (s_ret e_bl)
      ws_nil) ws_nil)
      ws_nil)))
      (ws_cons (s_set 7 sc_16.nd (wp_lst (a_cons (wp_tup (a_cons (wp_tup (a_cons e_int wa_nil)) (a_cons (wp_tup (a_cons e_int wa_nil)) wa_nil))) (a_cons (wp_tup (a_cons (wp_tup (a_cons (e_v 2) (a_cons e_int (a_cons e_int wa_nil)))) (a_cons (wp_tup (a_cons e_int wa_nil)) wa_nil))) (a_cons (wp_tup (a_cons (wp_tup (a_cons (e_bin g_mulX e_int (e_v 2)) wa_nil)) (a_cons (wp_tup (a_cons e_int (a_cons e_int (a_cons (e_v 2) wa_nil)))) wa_nil))) wa_nil)))))
      (ws_cons (s_set 7 sc_16.nd (e_bin g_add (e_v 7) (wp_lst (a_cons (wp_tup (a_cons (e_trg rfl E.z_tuple E.z_range e_int) (a_cons (e_rev (e_trg rfl E.z_tuple E.z_range e_int)) wa_nil))) wa_nil))))
      (ws_cons (s_for po rfl (wi_range1 rfl E.z_range (a_cons e_int wa_nil) rfl) (g_nm 4 sc_16.nd) (ws_cons (s_expr (e_app 7 (wp_call (G_9 E) (hr.mono (by decide)) hg X0.steady tk E.g_9 E.f_9.kp E.b_9 (a_cons (e_v 1) (a_cons (e_bin g_add e_int (wp_call (G_6 E) (hr.mono (by decide)) hg X0.steady tk E.g_6 E.f_6.kp E.b_6 (a_cons (e_v 1) (a_cons e_int wa_nil)) (lenA_cons (lenA_cons lenA_nil)))) (a_cons (e_bin g_add e_int (wp_call (G_6 E) (hr.mono (by decide)) hg X0.steady tk E.g_6 E.f_6.kp E.b_6 (a_cons (e_v 1) (a_cons e_int wa_nil)) (lenA_cons (lenA_cons lenA_nil)))) wa_nil))) (lenA_cons (lenA_cons (lenA_cons lenA_nil))))))
      ws_nil))
      (ws_cons (s_for po rfl (wi_seq (e_v 7)) (g_nm 8 sc_16.nd) (ws_cons (s_set 6 sc_16.nd (e_cb (g_repr hg (u64 hr)) E.z_repr (a_cons (e_v 8) wa_nil)))
      (ws_cons (ws_if (PW.pt (wpW_or (t_cmp (g_ne (u64 hr)) (e_cb (g_repr hg (u64 hr)) E.z_repr (a_cons (wp_call (G_4 E) (hr.mono (by decide)) hg X0.steady tk E.g_4 E.f_4.kp E.b_4 (a_cons (e_v 8) wa_nil) (lenA_cons lenA_nil)) wa_nil)) (e_cb (g_repr hg (u64 hr)) E.z_repr (a_cons (wp_call (G_13 E) (hr.mono (by decide)) hg X0.steady tk E.g_13 E.f_13.kp E.b_13 (a_cons (e_v 8) wa_nil) (lenA_cons lenA_nil)) wa_nil))) (pw_or1 (t_cmp (g_ne (u64 hr)) (e_cb (g_repr hg (u64 hr)) E.z_repr (a_cons (e_v 8) wa_nil)) (e_v 6))))) (ws_cons (s_ret e_bl)
      ws_nil) ws_nil)
      ws_nil)))
      (ws_cons (s_ret (e_cmp (g_eq (u64 hr)) (wp_lst (a_cons (wp_call (G_0 E) (hr.mono (by decide)) hg X0.steady tk E.g_0 E.f_0.kp E.b_0 (a_cons e_int wa_nil) (lenA_cons lenA_nil)) (a_cons (wp_call (G_0 E) (hr.mono (by decide)) hg X0.steady tk E.g_0 E.f_0.kp E.b_0 (a_cons e_int wa_nil) (lenA_cons lenA_nil)) (a_cons (wp_call (G_0 E) (hr.mono (by decide)) hg X0.steady tk E.g_0 E.f_0.kp E.b_0 (a_cons e_non wa_nil) (lenA_cons lenA_nil)) wa_nil)))) (wp_lst (a_cons e_str (a_cons e_str (a_cons e_str wa_nil))))))
      ws_nil)))))))))
end
theorem prg_mk {P : Program} {w : World} {K : PySem.W.Frag} {h : Heap} {mg : Str → Option Value} {fa : Addr} (X : K.In h) (G : h.Ns mainGlobals mg) (hfa : mg "law" = some (.ref fa)) {f_0 : Addr} {od_0 an_0 : Option Addr} {sl_0 : Array (Option Value)} {oc_0 kV_0 dc_0 pm_0 cd_0 ct_0 : Value} {f_1 : Addr} {od_1 an_1 : Option Addr} {sl_1 : Array (Option Value)} {oc_1 kV_1 dc_1 pm_1 cd_1 ct_1 : Value} {f_2 : Addr} {od_2 an_2 : Option Addr} {sl_2 : Array (Option Value)} {oc_2 kV_2 dc_2 pm_2 cd_2 ct_2 : Value} {f_3 : Addr} {od_3 an_3 : Option Addr} {sl_3 : Array (Option Value)} {oc_3 kV_3 dc_3 pm_3 cd_3 ct_3 : Value} {f_4 : Addr} {od_4 an_4 : Option Addr} {sl_4 : Array (Option Value)} {oc_4 kV_4 dc_4 pm_4 cd_4 ct_4 : Value} {f_5 : Addr} {od_5 an_5 : Option Addr} {sl_5 : Array (Option Value)} {oc_5 kV_5 dc_5 pm_5 cd_5 ct_5 : Value} {f_6 : Addr} {od_6 an_6 : Option Addr} {sl_6 : Array (Option Value)} {oc_6 kV_6 dc_6 pm_6 cd_6 ct_6 : Value} {f_7 : Addr} {od_7 an_7 : Option Addr} {sl_7 : Array (Option Value)} {oc_7 kV_7 dc_7 pm_7 cd_7 ct_7 : Value} {f_8 : Addr} {od_8 an_8 : Option Addr} {sl_8 : Array (Option Value)} {oc_8 kV_8 dc_8 pm_8 cd_8 ct_8 : Value} {f_9 : Addr} {od_9 an_9 : Option Addr} {sl_9 : Array (Option Value)} {oc_9 kV_9 dc_9 pm_9 cd_9 ct_9 : Value} {f_10 : Addr} {od_10 an_10 : Option Addr} {sl_10 : Array (Option Value)} {oc_10 kV_10 dc_10 pm_10 cd_10 ct_10 : Value} {f_11 : Addr} {od_11 an_11 : Option Addr} {sl_11 : Array (Option Value)} {oc_11 kV_11 dc_11 pm_11 cd_11 ct_11 : Value} {f_12 : Addr} {od_12 an_12 : Option Addr} {sl_12 : Array (Option Value)} {oc_12 kV_12 dc_12 pm_12 cd_12 ct_12 : Value} {f_13 : Addr} {od_13 an_13 : Option Addr} {sl_13 : Array (Option Value)} {oc_13 kV_13 dc_13 pm_13 cd_13 ct_13 : Value} {f_14 : Addr} {od_14 an_14 : Option Addr} {sl_14 : Array (Option Value)} {oc_14 kV_14 dc_14 pm_14 cd_14 ct_14 : Value} {f_15 : Addr} {od_15 an_15 : Option Addr} {sl_15 : Array (Option Value)} {oc_15 kV_15 dc_15 pm_15 cd_15 ct_15 : Value} {f_16 : Addr} {od_16 an_16 : Option Addr} {sl_16 : Array (Option Value)} {oc_16 kV_16 dc_16 pm_16 cd_16 ct_16 : Value}
  (a_0 : PySem.W.nsIn K mainGlobals "mark_word" = some (some (.ref f_0))) (l_0 : K.lookup f_0 = some ⟨oc_0, od_0, .func (PySem.W.fnOf "mark_word" "mark_word" (defArgs s_0) (defBody s_0) (defScope s_0) .none kV_0 dc_0 pm_0 an_0 cd_0 ct_0), sl_0⟩) (k_0 : PySem.W.codeIn K cd_0 "mark_word" = true) (p_0 : PySem.W.keepIn K (.ref f_0) = true)
  (a_1 : PySem.W.nsIn K mainGlobals "marks_word" = some (some (.ref f_1))) (l_1 : K.lookup f_1 = some ⟨oc_1, od_1, .func (PySem.W.fnOf "marks_word" "marks_word" (defArgs s_1) (defBody s_1) (defScope s_1) .none kV_1 dc_1 pm_1 an_1 cd_1 ct_1), sl_1⟩) (k_1 : PySem.W.codeIn K cd_1 "marks_word" = true) (p_1 : PySem.W.keepIn K (.ref f_1) = true)
  (a_2 : PySem.W.nsIn K mainGlobals "some_word" = some (some (.ref f_2))) (l_2 : K.lookup f_2 = some ⟨oc_2, od_2, .func (PySem.W.fnOf "some_word" "some_word" (defArgs s_2) (defBody s_2) (defScope s_2) .none kV_2 dc_2 pm_2 an_2 cd_2 ct_2), sl_2⟩) (k_2 : PySem.W.codeIn K cd_2 "some_word" = true) (p_2 : PySem.W.keepIn K (.ref f_2) = true)
  (a_3 : PySem.W.nsIn K mainGlobals "table_text" = some (some (.ref f_3))) (l_3 : K.lookup f_3 = some ⟨oc_3, od_3, .func (PySem.W.fnOf "table_text" "table_text" (defArgs s_3) (defBody s_3) (defScope s_3) .none kV_3 dc_3 pm_3 an_3 cd_3 ct_3), sl_3⟩) (k_3 : PySem.W.codeIn K cd_3 "table_text" = true) (p_3 : PySem.W.keepIn K (.ref f_3) = true)
  (a_4 : PySem.W.nsIn K mainGlobals "measure_text" = some (some (.ref f_4))) (l_4 : K.lookup f_4 = some ⟨oc_4, od_4, .func (PySem.W.fnOf "measure_text" "measure_text" (defArgs s_4) (defBody s_4) (defScope s_4) .none kV_4 dc_4 pm_4 an_4 cd_4 ct_4), sl_4⟩) (k_4 : PySem.W.codeIn K cd_4 "measure_text" = true) (p_4 : PySem.W.keepIn K (.ref f_4) = true)
  (a_5 : PySem.W.nsIn K mainGlobals "_law_reader" = some (some (.ref f_5))) (l_5 : K.lookup f_5 = some ⟨oc_5, od_5, .func (PySem.W.fnOf "_law_reader" "_law_reader" (defArgs s_5) (defBody s_5) (defScope s_5) .none kV_5 dc_5 pm_5 an_5 cd_5 ct_5), sl_5⟩) (k_5 : PySem.W.codeIn K cd_5 "_law_reader" = true) (p_5 : PySem.W.keepIn K (.ref f_5) = true)
  (a_6 : PySem.W.nsIn K mainGlobals "_law_draw" = some (some (.ref f_6))) (l_6 : K.lookup f_6 = some ⟨oc_6, od_6, .func (PySem.W.fnOf "_law_draw" "_law_draw" (defArgs s_6) (defBody s_6) (defScope s_6) .none kV_6 dc_6 pm_6 an_6 cd_6 ct_6), sl_6⟩) (k_6 : PySem.W.codeIn K cd_6 "_law_draw" = true) (p_6 : PySem.W.keepIn K (.ref f_6) = true)
  (a_7 : PySem.W.nsIn K mainGlobals "_law_some_of" = some (some (.ref f_7))) (l_7 : K.lookup f_7 = some ⟨oc_7, od_7, .func (PySem.W.fnOf "_law_some_of" "_law_some_of" (defArgs s_7) (defBody s_7) (defScope s_7) .none kV_7 dc_7 pm_7 an_7 cd_7 ct_7), sl_7⟩) (k_7 : PySem.W.codeIn K cd_7 "_law_some_of" = true) (p_7 : PySem.W.keepIn K (.ref f_7) = true)
  (a_8 : PySem.W.nsIn K mainGlobals "_law_random_table" = some (some (.ref f_8))) (l_8 : K.lookup f_8 = some ⟨oc_8, od_8, .func (PySem.W.fnOf "_law_random_table" "_law_random_table" (defArgs s_8) (defBody s_8) (defScope s_8) .none kV_8 dc_8 pm_8 an_8 cd_8 ct_8), sl_8⟩) (k_8 : PySem.W.codeIn K cd_8 "_law_random_table" = true) (p_8 : PySem.W.keepIn K (.ref f_8) = true)
  (a_9 : PySem.W.nsIn K mainGlobals "_law_random_measure" = some (some (.ref f_9))) (l_9 : K.lookup f_9 = some ⟨oc_9, od_9, .func (PySem.W.fnOf "_law_random_measure" "_law_random_measure" (defArgs s_9) (defBody s_9) (defScope s_9) .none kV_9 dc_9 pm_9 an_9 cd_9 ct_9), sl_9⟩) (k_9 : PySem.W.codeIn K cd_9 "_law_random_measure" = true) (p_9 : PySem.W.keepIn K (.ref f_9) = true)
  (a_10 : PySem.W.nsIn K mainGlobals "_law_fixed_tables" = some (some (.ref f_10))) (l_10 : K.lookup f_10 = some ⟨oc_10, od_10, .func (PySem.W.fnOf "_law_fixed_tables" "_law_fixed_tables" (defArgs s_10) (defBody s_10) (defScope s_10) .none kV_10 dc_10 pm_10 an_10 cd_10 ct_10), sl_10⟩) (k_10 : PySem.W.codeIn K cd_10 "_law_fixed_tables" = true) (p_10 : PySem.W.keepIn K (.ref f_10) = true)
  (a_11 : PySem.W.nsIn K mainGlobals "_law_mark_sign" = some (some (.ref f_11))) (l_11 : K.lookup f_11 = some ⟨oc_11, od_11, .func (PySem.W.fnOf "_law_mark_sign" "_law_mark_sign" (defArgs s_11) (defBody s_11) (defScope s_11) .none kV_11 dc_11 pm_11 an_11 cd_11 ct_11), sl_11⟩) (k_11 : PySem.W.codeIn K cd_11 "_law_mark_sign" = true) (p_11 : PySem.W.keepIn K (.ref f_11) = true)
  (a_12 : PySem.W.nsIn K mainGlobals "_law_table_page" = some (some (.ref f_12))) (l_12 : K.lookup f_12 = some ⟨oc_12, od_12, .func (PySem.W.fnOf "_law_table_page" "_law_table_page" (defArgs s_12) (defBody s_12) (defScope s_12) .none kV_12 dc_12 pm_12 an_12 cd_12 ct_12), sl_12⟩) (k_12 : PySem.W.codeIn K cd_12 "_law_table_page" = true) (p_12 : PySem.W.keepIn K (.ref f_12) = true)
  (a_13 : PySem.W.nsIn K mainGlobals "_law_measure_line" = some (some (.ref f_13))) (l_13 : K.lookup f_13 = some ⟨oc_13, od_13, .func (PySem.W.fnOf "_law_measure_line" "_law_measure_line" (defArgs s_13) (defBody s_13) (defScope s_13) .none kV_13 dc_13 pm_13 an_13 cd_13 ct_13), sl_13⟩) (k_13 : PySem.W.codeIn K cd_13 "_law_measure_line" = true) (p_13 : PySem.W.keepIn K (.ref f_13) = true)
  (a_14 : PySem.W.nsIn K mainGlobals "_law_loose" = some (some (.ref f_14))) (l_14 : K.lookup f_14 = some ⟨oc_14, od_14, .func (PySem.W.fnOf "_law_loose" "_law_loose" (defArgs s_14) (defBody s_14) (defScope s_14) .none kV_14 dc_14 pm_14 an_14 cd_14 ct_14), sl_14⟩) (k_14 : PySem.W.codeIn K cd_14 "_law_loose" = true) (p_14 : PySem.W.keepIn K (.ref f_14) = true)
  (a_15 : PySem.W.nsIn K mainGlobals "_law_wide" = some (some (.ref f_15))) (l_15 : K.lookup f_15 = some ⟨oc_15, od_15, .func (PySem.W.fnOf "_law_wide" "_law_wide" (defArgs s_15) (defBody s_15) (defScope s_15) .none kV_15 dc_15 pm_15 an_15 cd_15 ct_15), sl_15⟩) (k_15 : PySem.W.codeIn K cd_15 "_law_wide" = true) (p_15 : PySem.W.keepIn K (.ref f_15) = true)
  (a_16 : PySem.W.nsIn K mainGlobals "law" = some (some (.ref f_16))) (l_16 : K.lookup f_16 = some ⟨oc_16, od_16, .func (PySem.W.fnOf "law" "law" (defArgs s_16) (defBody s_16) (defScope s_16) .none kV_16 dc_16 pm_16 an_16 cd_16 ct_16), sl_16⟩) (k_16 : PySem.W.codeIn K cd_16 "law" = true) (p_16 : PySem.W.keepIn K (.ref f_16) = true)
  (z_int : PySem.W.nsIn K mainGlobals "int" = some none)
  (z_len : PySem.W.nsIn K mainGlobals "len" = some none)
  (z_range : PySem.W.nsIn K mainGlobals "range" = some none)
  (z_repr : PySem.W.nsIn K mainGlobals "repr" = some none)
  (z_str : PySem.W.nsIn K mainGlobals "str" = some none)
  (z_tuple : PySem.W.nsIn K mainGlobals "tuple" = some none)
  (z_zip : PySem.W.nsIn K mainGlobals "zip" = some none)
  {t_NO_MARKS : Tok} (v_NO_MARKS : PySem.W.nsIn K mainGlobals "NO_MARKS" = some (some (.str "-" t_NO_MARKS)))
  {t_UNKNOWN_WORD : Tok} (v_UNKNOWN_WORD : PySem.W.nsIn K mainGlobals "UNKNOWN_WORD" = some (some (.str "?" t_UNKNOWN_WORD))) :
    ∃ fd : FuncData, (∀ (s : Shared) (v : Value), BindsTo s fd ⟨[v], []⟩ [("_law_script", v)]) ∧ ∀ base : Heap, K.In base → base.Ns mainGlobals mg → FnG P w K mg base X0 4 fa fd ["_law_script"] c_16 := by
  have e := hfa.symm.trans (PySem.W.mg_of X G a_16)
  cases e
  have F_0 := fun_mk (st := s_0) l_0 k_0 p_0
  have B_0 := F_0.binds (ps := ["mark"]) fun _ _ _ _ _ _ us hl => match us, hl with | [_], _ => rfl
  have F_1 := fun_mk (st := s_1) l_1 k_1 p_1
  have B_1 := F_1.binds (ps := ["marks"]) fun _ _ _ _ _ _ us hl => match us, hl with | [_], _ => rfl
  have F_2 := fun_mk (st := s_2) l_2 k_2 p_2
  have B_2 := F_2.binds (ps := ["some"]) fun _ _ _ _ _ _ us hl => match us, hl with | [_], _ => rfl
  have F_3 := fun_mk (st := s_3) l_3 k_3 p_3
  have B_3 := F_3.binds (ps := ["table"]) fun _ _ _ _ _ _ us hl => match us, hl with | [_], _ => rfl
  have F_4 := fun_mk (st := s_4) l_4 k_4 p_4
  have B_4 := F_4.binds (ps := ["measure"]) fun _ _ _ _ _ _ us hl => match us, hl with | [_], _ => rfl
  have F_5 := fun_mk (st := s_5) l_5 k_5 p_5
  have B_5 := F_5.binds (ps := ["_law_script"]) fun _ _ _ _ _ _ us hl => match us, hl with | [_], _ => rfl
  have F_6 := fun_mk (st := s_6) l_6 k_6 p_6
  have B_6 := F_6.binds (ps := ["_law_reader_here", "_law_many"]) fun _ _ _ _ _ _ us hl => match us, hl with | [_, _], _ => rfl
  have F_7 := fun_mk (st := s_7) l_7 k_7 p_7
  have B_7 := F_7.binds (ps := ["_law_reader_here", "_law_pool"]) fun _ _ _ _ _ _ us hl => match us, hl with | [_, _], _ => rfl
  have F_8 := fun_mk (st := s_8) l_8 k_8 p_8
  have B_8 := F_8.binds (ps := ["_law_reader_here"]) fun _ _ _ _ _ _ us hl => match us, hl with | [_], _ => rfl
  have F_9 := fun_mk (st := s_9) l_9 k_9 p_9
  have B_9 := F_9.binds (ps := ["_law_reader_here", "_law_high", "_law_wide_here"]) fun _ _ _ _ _ _ us hl => match us, hl with | [_, _, _], _ => rfl
  have F_10 := fun_mk (st := s_10) l_10 k_10 p_10
  have B_10 := F_10.binds (ps := []) fun _ _ _ _ _ _ us hl => match us, hl with | [], _ => rfl
  have F_11 := fun_mk (st := s_11) l_11 k_11 p_11
  have B_11 := F_11.binds (ps := ["_law_one"]) fun _ _ _ _ _ _ us hl => match us, hl with | [_], _ => rfl
  have F_12 := fun_mk (st := s_12) l_12 k_12 p_12
  have B_12 := F_12.binds (ps := ["_law_whole"]) fun _ _ _ _ _ _ us hl => match us, hl with | [_], _ => rfl
  have F_13 := fun_mk (st := s_13) l_13 k_13 p_13
  have B_13 := F_13.binds (ps := ["_law_pair"]) fun _ _ _ _ _ _ us hl => match us, hl with | [_], _ => rfl
  have F_14 := fun_mk (st := s_14) l_14 k_14 p_14
  have B_14 := F_14.binds (ps := ["_law_reader_here"]) fun _ _ _ _ _ _ us hl => match us, hl with | [_], _ => rfl
  have F_15 := fun_mk (st := s_15) l_15 k_15 p_15
  have B_15 := F_15.binds (ps := []) fun _ _ _ _ _ _ us hl => match us, hl with | [], _ => rfl
  have F_16 := fun_mk (st := s_16) l_16 k_16 p_16
  have B_16 := F_16.binds (ps := ["_law_script"]) fun _ _ _ _ _ _ us hl => match us, hl with | [_], _ => rfl
  have E : Prg K mg (fun i => [f_0, f_1, f_2, f_3, f_4, f_5, f_6, f_7, f_8, f_9, f_10, f_11, f_12, f_13, f_14, f_15, fa].getD i 0) (fun i => [PySem.W.fnOf "mark_word" "mark_word" (defArgs s_0) (defBody s_0) (defScope s_0) .none kV_0 dc_0 pm_0 an_0 cd_0 ct_0, PySem.W.fnOf "marks_word" "marks_word" (defArgs s_1) (defBody s_1) (defScope s_1) .none kV_1 dc_1 pm_1 an_1 cd_1 ct_1, PySem.W.fnOf "some_word" "some_word" (defArgs s_2) (defBody s_2) (defScope s_2) .none kV_2 dc_2 pm_2 an_2 cd_2 ct_2, PySem.W.fnOf "table_text" "table_text" (defArgs s_3) (defBody s_3) (defScope s_3) .none kV_3 dc_3 pm_3 an_3 cd_3 ct_3, PySem.W.fnOf "measure_text" "measure_text" (defArgs s_4) (defBody s_4) (defScope s_4) .none kV_4 dc_4 pm_4 an_4 cd_4 ct_4, PySem.W.fnOf "_law_reader" "_law_reader" (defArgs s_5) (defBody s_5) (defScope s_5) .none kV_5 dc_5 pm_5 an_5 cd_5 ct_5, PySem.W.fnOf "_law_draw" "_law_draw" (defArgs s_6) (defBody s_6) (defScope s_6) .none kV_6 dc_6 pm_6 an_6 cd_6 ct_6, PySem.W.fnOf "_law_some_of" "_law_some_of" (defArgs s_7) (defBody s_7) (defScope s_7) .none kV_7 dc_7 pm_7 an_7 cd_7 ct_7, PySem.W.fnOf "_law_random_table" "_law_random_table" (defArgs s_8) (defBody s_8) (defScope s_8) .none kV_8 dc_8 pm_8 an_8 cd_8 ct_8, PySem.W.fnOf "_law_random_measure" "_law_random_measure" (defArgs s_9) (defBody s_9) (defScope s_9) .none kV_9 dc_9 pm_9 an_9 cd_9 ct_9, PySem.W.fnOf "_law_fixed_tables" "_law_fixed_tables" (defArgs s_10) (defBody s_10) (defScope s_10) .none kV_10 dc_10 pm_10 an_10 cd_10 ct_10, PySem.W.fnOf "_law_mark_sign" "_law_mark_sign" (defArgs s_11) (defBody s_11) (defScope s_11) .none kV_11 dc_11 pm_11 an_11 cd_11 ct_11, PySem.W.fnOf "_law_table_page" "_law_table_page" (defArgs s_12) (defBody s_12) (defScope s_12) .none kV_12 dc_12 pm_12 an_12 cd_12 ct_12, PySem.W.fnOf "_law_measure_line" "_law_measure_line" (defArgs s_13) (defBody s_13) (defScope s_13) .none kV_13 dc_13 pm_13 an_13 cd_13 ct_13, PySem.W.fnOf "_law_loose" "_law_loose" (defArgs s_14) (defBody s_14) (defScope s_14) .none kV_14 dc_14 pm_14 an_14 cd_14 ct_14, PySem.W.fnOf "_law_wide" "_law_wide" (defArgs s_15) (defBody s_15) (defScope s_15) .none kV_15 dc_15 pm_15 an_15 cd_15 ct_15, PySem.W.fnOf "law" "law" (defArgs s_16) (defBody s_16) (defScope s_16) .none kV_16 dc_16 pm_16 an_16 cd_16 ct_16].getD i (PySem.W.fnOf "law" "law" (defArgs s_16) (defBody s_16) (defScope s_16) .none kV_16 dc_16 pm_16 an_16 cd_16 ct_16)) := {
    f_0 := F_0, g_0 := PySem.W.mg_of X G a_0, b_0 := B_0,
    f_1 := F_1, g_1 := PySem.W.mg_of X G a_1, b_1 := B_1,
    f_2 := F_2, g_2 := PySem.W.mg_of X G a_2, b_2 := B_2,
    f_3 := F_3, g_3 := PySem.W.mg_of X G a_3, b_3 := B_3,
    f_4 := F_4, g_4 := PySem.W.mg_of X G a_4, b_4 := B_4,
    f_5 := F_5, g_5 := PySem.W.mg_of X G a_5, b_5 := B_5,
    f_6 := F_6, g_6 := PySem.W.mg_of X G a_6, b_6 := B_6,
    f_7 := F_7, g_7 := PySem.W.mg_of X G a_7, b_7 := B_7,
    f_8 := F_8, g_8 := PySem.W.mg_of X G a_8, b_8 := B_8,
    f_9 := F_9, g_9 := PySem.W.mg_of X G a_9, b_9 := B_9,
    f_10 := F_10, g_10 := PySem.W.mg_of X G a_10, b_10 := B_10,
    f_11 := F_11, g_11 := PySem.W.mg_of X G a_11, b_11 := B_11,
    f_12 := F_12, g_12 := PySem.W.mg_of X G a_12, b_12 := B_12,
    f_13 := F_13, g_13 := PySem.W.mg_of X G a_13, b_13 := B_13,
    f_14 := F_14, g_14 := PySem.W.mg_of X G a_14, b_14 := B_14,
    f_15 := F_15, g_15 := PySem.W.mg_of X G a_15, b_15 := B_15,
    f_16 := F_16, g_16 := PySem.W.mg_of X G a_16, b_16 := B_16,
    z_int := PySem.W.mg_none_of X G z_int,
    z_len := PySem.W.mg_none_of X G z_len,
    z_range := PySem.W.mg_none_of X G z_range,
    z_repr := PySem.W.mg_none_of X G z_repr,
    z_str := PySem.W.mg_none_of X G z_str,
    z_tuple := PySem.W.mg_none_of X G z_tuple,
    z_zip := PySem.W.mg_none_of X G z_zip,
    c_NO_MARKS := ⟨t_NO_MARKS, PySem.W.mg_of X G v_NO_MARKS⟩,
    c_UNKNOWN_WORD := ⟨t_UNKNOWN_WORD, PySem.W.mg_of X G v_UNKNOWN_WORD⟩ }
  exact ⟨_, fun s v => .of_eq rfl, fun base _ _ => G_16 E⟩
end Lw
namespace Lw
open PySem PySem.Spec PyProof.Rows L2 Ev
/-- what the evaluator must say -/
def LawOk : Prop := ∀ ns : List Int, ns.length ≤ 63 → (∀ z ∈ ns, Builtin.Int.intBits z ≤ 1048576) → ∃ s', c_16 [.d (.list (ns.map .int))] [] = .ok (.d (.bool true)) s'
end Lw

/-! what the first family of laws draws: numbers, parts of pools, tables, measures -/
namespace Lw
open PySem L2 Ev

theorem dr {N : Int} {st : List Vl} (h : Rd N st) (hN : N ≤ 2 ^ 40) {m : Int} (m0 : 0 < m) (m1 : m < 2 ^ 30) : ∃ (k : Int) (st' : List Vl), 0 ≤ k ∧ k < m ∧ Rd (N + 1) st' ∧ ∀ ρ, back ρ (c_6 [.ref 0, .d (.int m)] st) = .ok (.d (.int k)) ⟨ρ, st'⟩ :=
  drawA (u := 61) (a := 2147483399) (b := 7877) (c := 19) (d := 2147483629) (e := 98011) (f := 2147483647) (g := 64) (by decide) (by decide) (by decide) (by decide) (by decide) (by decide) (by decide) h hN m0 m1
theorem rangeD_get (n j : Nat) {x : PyData} (h : (rangeD 0 n)[j]? = some x) : j < n ∧ x = .int j := by
  unfold rangeD at h
  rw [List.getElem?_map] at h
  by_cases hj : j < n
  · rw [List.getElem?_range hj] at h
    simp at h
    exact ⟨hj, h.symm⟩
  · rw [List.getElem?_eq_none (by simpa using hj)] at h
    cases h
theorem rangeD_len (n : Nat) : (rangeD 0 n).length = n := by unfold rangeD; simp
theorem rng1_ok {n : Nat} (h : n ≤ 1000000) : rng1 [.int (n : Int)] = some (rangeD 0 n) := by
  show (if (n : Int) ≤ 1000000 ∧ -1000000 ≤ (n : Int) then some (rangeD 0 (n : Int).toNat) else none) = _
  rw [if_pos ⟨by omega, by omega⟩]
  rfl
/-- one datum a turn, each with at most D draws -/
theorem cLc_rd {v : Nat} {fi : FI} {f : F} {s : S} {ρ : List (Option Vl)} {st : List Vl} {xs : List PyData} {N : Int} (D : Nat) (P : PyData → Prop) (hi : fi s = .ok xs ⟨ρ, st⟩) (ho : notOwn ⟨ρ, st⟩ [v] = true) (hl : xs.length ≤ 100000) (hR : Rd N st) (hN : N + D * xs.length ≤ 2 ^ 40)
    (hf : ∀ x, x ∈ xs → ∀ (M : Int) (st : List Vl), Rd M st → M ≤ 2 ^ 40 → ∃ y st', P y ∧ Rd (M + D) st' ∧ f ⟨ρ.set v (some (.d x)), st⟩ = .ok (.d y) ⟨ρ.set v (some (.d x)), st'⟩) :
    ∃ (ys : List PyData) (st' : List Vl), ys.length = xs.length ∧ (∀ y ∈ ys, P y) ∧ Rd (N + D * xs.length) st' ∧ cLc [v] fi (.nm v) cYes f s = .ok (.own (ys.map Vl.d)) ⟨ρ, st'⟩ := by
  obtain ⟨acc, st', e, ys, rfl, h1, h2, h3⟩ := cLc_inv (v := v) (c := cYes) (f := f) (fun j acc st' => ∃ ys : List PyData, acc = ys.map Vl.d ∧ ys.length = j ∧ (∀ y ∈ ys, P y) ∧ Rd (N + D * j) st') hi ho (Nat.le_trans hl (by decide)) ⟨[], rfl, rfl, by simp, by simpa using hR⟩ fun j x acc st' hj hI => by
    obtain ⟨ys, rfl, h1, h2, h3⟩ := hI
    have hjl := (List.getElem?_eq_some_iff.mp hj).1
    have hm : (D : Int) * j ≤ D * xs.length := Int.mul_le_mul_of_nonneg_left (by omega) (by omega)
    obtain ⟨y, st2, hy, hR2, e⟩ := hf x (List.mem_of_getElem? hj) (N + D * j) st' h3 (by omega)
    refine ⟨st', .inr ⟨.d y, st2, by simp, e, ys ++ [y], by simp, by simp [h1], fun z hz => ?_, ?_⟩⟩
    · rcases List.mem_append.mp hz with h | h
      · exact h2 z h
      · rw [List.mem_singleton.mp h]; exact hy
    · have e2 : N + (D : Int) * ((j + 1 : Nat) : Int) = N + D * j + D := by rw [Int.natCast_add, Int.mul_add]; omega
      rw [e2]
      exact hR2
  exact ⟨ys, st', h1, h2, h3, e⟩
/-- a part of the pool -/
theorem some_of {xs : List PyData} (h0 : 0 < xs.length) (h1 : xs.length ≤ 100) {N : Int} {st : List Vl} (hR : Rd N st) (hN : N ≤ 2 ^ 39) :
    ∃ (ys : List PyData) (st' : List Vl), 0 < ys.length ∧ ys.length ≤ xs.length ∧ List.Sublist ys xs ∧ Rd (N + 200) st' ∧ ∀ ρ, back ρ (c_7 [.ref 0, .d (.tuple xs)] st) = .ok (.d (.tuple ys)) ⟨ρ, st'⟩ := by
  obtain ⟨a, st1, a0, a1, hR1, e1⟩ := dr hR (by omega) (m := xs.length) (by omega) (by omega)
  obtain ⟨acc, st', e, ys, rfl, g1, g2, g3, g4⟩ := cLc_inv (v := 3) (fi := iArgs rng1 (cCons (cLen 1) (cNil))) (c := cT (cOr (cBin eqD (cVar 3) (cVar 2)) (cBin eqD (cCall c_6 (cCons (cVar 0) (cCons (cCon (.int 2)) (cNil)))) (cCon (.int 0))))) (f := cRd 1 (cVar 3))
    (s := ⟨[some (.ref 0), some (.d (.tuple xs)), some (.d (.int a)), none], st1⟩) (ρ := [some (.ref 0), some (.d (.tuple xs)), some (.d (.int a)), none]) (st := st1) (xs := rangeD 0 xs.length)
    (fun j acc st' => ∃ ys : List PyData, acc = ys.map Vl.d ∧ ys.length ≤ j ∧ List.Sublist ys (xs.take j) ∧ (a < j → 0 < ys.length) ∧ Rd (N + 1 + j) st') (by simp [cLen, plcGet, lenD, rng1_ok (show xs.length ≤ 1000000 by omega)]) (by simp [notOwn]) (by rw [rangeD_len]; exact Nat.le_trans h1 (by decide))
    ⟨[], rfl, by simp, by simp, fun z => by omega, by simpa using hR1⟩ fun j x acc st' hj hI => by
      obtain ⟨ys, rfl, g1, g2, g3, g4⟩ := hI
      obtain ⟨hjl, rfl⟩ := rangeD_get _ _ hj
      have hz : L2.atI xs (j : Int) = some xs[j] := L2.atI_nat (List.getElem?_eq_getElem hjl)
      have ht : xs.take (j + 1) = xs.take j ++ [xs[j]] := by rw [List.take_add_one, List.getElem?_eq_getElem hjl]; rfl
      have g2' : List.Sublist (ys ++ [xs[j]]) (xs.take (j + 1)) := by rw [ht]; exact g2.append (List.Sublist.refl _)
      by_cases ha : (j : Int) = a
      · exact ⟨st', .inr ⟨.d xs[j], st', by simp [ha], by simp [cRd, isSet, plcGet, hz], ys ++ [xs[j]], by simp, by simp; omega, g2', fun _ => by simp, g4.mono (by omega)⟩⟩
      · obtain ⟨b, st2, b0, b1, hR2, e2⟩ := dr g4 (by omega) (m := 2) (by decide) (by decide)
        by_cases hb : b = 0
        · exact ⟨st2, .inr ⟨.d xs[j], st2, by simp [ha, e2, hb], by simp [cRd, isSet, plcGet, hz], ys ++ [xs[j]], by simp, by simp; omega, g2', fun _ => by simp, hR2.mono (by omega)⟩⟩
        · exact ⟨st2, .inl ⟨by simp [ha, e2, hb], ys, rfl, by omega, by rw [ht]; exact g2.trans (List.sublist_append_left _ _), fun z => g3 (by omega), hR2.mono (by omega)⟩⟩
  rw [rangeD_len] at g1 g2 g3 g4
  rw [List.take_length] at g2
  exact ⟨ys, st', g3 (by omega), g1, g2, g4.mono (by omega), fun ρ => by simp [c_7, e_7, cLen, plcGet, lenD, e1, e]⟩

/-! ### tables -/
def nmOk : PyData → Bool
  | .str s => PyData.strOk s && decide (s.length ≤ 8)
  | _ => false
def mkOk : PyData → Bool
  | .none => true
  | .int i => decide (0 ≤ i) && decide (i ≤ 1)
  | _ => false
def rwOk (n : Nat) : PyData → Bool
  | .tuple ys => ys.all mkOk && decide (ys.length = n)
  | _ => false
/-- names, gates, rows -/
structure Tb (ps ds ls : List PyData) : Prop where
  p0 : 0 < ps.length
  p1 : ps.length ≤ 6
  d0 : 0 < ds.length
  d1 : ds.length ≤ 6
  pn : ∀ x ∈ ps, nmOk x = true
  dn : ∀ x ∈ ds, nmOk x = true
  ll : ls.length = ps.length
  rw : ∀ x ∈ ls, rwOk ds.length x = true
def tb (ps ds ls : List PyData) : PyData := .tuple [.tuple ps, .tuple ds, .tuple ls]
def p18 : F := cArgs lstD (cCons (cArgs tupD (cCons (cCon (.str "basic")) (cCons (cCon (.str "free")) (cCons (cCon (.str "gold")) (cCons (cCon (.str "team")) (cNil)))))) (cCons (cArgs tupD (cCons (cCon (.str "a")) (cCons (cCon (.str "row")) (cCons (cCon (.str "zz")) (cNil))))) (cCons (cArgs tupD (cCons (cCon (.str "gates")) (cCons (cCon (.str "row")) (cNil)))) (cCons (cArgs tupD (cCons (cCon (.str "a")) (cCons (cCon (.str "b")) (cCons (cCon (.str "c")) (cNil))))) (cNil)))))
def b18 : FS := sSeq (sAsg 9 (cBin ixD (cArgs lstD (cCons (cCon (.int 1)) (cCons (cCon (.int 0)) (cCons (cCon .none) (cCons (cCon (.int 1)) (cCons (cCon (.int 0)) (cNil))))))) (cCall c_6 (cCons (cVar 0) (cCons (cIf (cBin gtD (cVar 4) (cCon (.int 0))) (cCon (.int 5)) (cCon (.int 2))) (cNil)))))) (sSeq (sAsg 4 (cBin subD (cVar 4) (cIf (cBin isD (cVar 9) (cCon .none)) (cCon (.int 1)) (cCon (.int 0))))) (sSeq (sDrop (cMut 7 appD (cCons (cVar 9) (cNil)))) (sNil)))
theorem e18 : e_8 = sSeq (sAsg 1 p18) (sSeq (sAsg 2 (cCall c_7 (cCons (cVar 0) (cCons (cRd 1 (cCall c_6 (cCons (cVar 0) (cCons (cCon (.int 4)) (cNil))))) (cNil))))) (sSeq (sAsg 3 (cCall c_7 (cCons (cVar 0) (cCons (cRd 1 (cCall c_6 (cCons (cVar 0) (cCons (cCon (.int 4)) (cNil))))) (cNil))))) (sSeq (sPar2 4 5 (cCons (cCon (.int 6)) (cCons (cArgs lstD (cNil)) (cNil)))) (sSeq (sFor (.nm 6) (iSeq (cVar 2)) (sSeq (sAsg 7 (cArgs lstD (cNil))) (sSeq (sFor (.nm 8) (iSeq (cVar 3)) (b18)) (sSeq (sDrop (cMut 5 appD (cCons (cArgs tupleD (cCons (cVar 7) (cNil))) (cNil)))) (sNil))))) (sSeq (sRet (cArgs tupD (cCons (cVar 2) (cCons (cVar 3) (cCons (cArgs tupleD (cCons (cVar 5) (cNil))) (cNil)))))) (sNil)))))) := rfl
def pl18 : List PyData := match p18 ⟨[], []⟩ with
  | .ok (.own xs) _ => (dat xs).getD []
  | _ => []
def poolOk : PyData → Bool
  | .tuple xs => decide (0 < xs.length ∧ xs.length ≤ 4) && xs.all nmOk
  | _ => false
theorem pl_all : pl18.all poolOk = true := by decide +kernel
theorem pl_len : pl18.length = 4 := by decide +kernel
theorem p18_is (s : S) : p18 s = .ok (.own (pl18.map Vl.d)) s := by kernel_rfl
theorem pool_at {k : Int} (h0 : 0 ≤ k) (h1 : k < 4) : ∃ xs, 0 < xs.length ∧ xs.length ≤ 4 ∧ (∀ x ∈ xs, nmOk x = true) ∧ PyData.tuple xs ∈ pl18 ∧ L2.atI (pl18.map Vl.d) k = some (.d (.tuple xs)) := by
  obtain ⟨z, _, h2, h3⟩ := atI_ok (xs := pl18) h0 (by rw [pl_len]; exact h1)
  have h4 := List.all_eq_true.mp pl_all z h3
  cases z with
  | tuple xs =>
    simp only [poolOk, Bool.and_eq_true, decide_eq_true_eq, List.all_eq_true] at h4
    exact ⟨xs, h4.1.1, h4.1.2, h4.2, h3, atI_map h2⟩
  | _ => simp [poolOk] at h4
def marks : List PyData := [.int 1, .int 0, .none, .int 1, .int 0]
theorem marks_ok : ∀ y ∈ marks, mkOk y = true := List.all_eq_true.mp (by decide +kernel)
/-- one cell of a row -/
theorem cell18 {v0 v2 v3 v5 v6 : Vl} {l : Int} {ys : List PyData} {a b : Option Vl} {st : List Vl} {N : Int} {x : PyData} (hR : Rd N st) (hN : N ≤ 2 ^ 40) (hl : ys.length ≤ 1000) (v1 : Vl) :
    ∃ y l' st', mkOk y = true ∧ Rd (N + 1) st' ∧ b18 ⟨[some (.ref 0), some v1, some v2, some v3, some (.d (.int l)), some v5, some v6, some (.own (ys.map Vl.d)), some (.d x), b], st⟩ =
      .ok .nx ⟨[some (.ref 0), some v1, some v2, some v3, some (.d (.int l')), some v5, some v6, some (.own ((ys ++ [y]).map Vl.d)), some (.d x), some (.d y)], st'⟩ := by
  have hlim : ys.length < LIM := Nat.lt_of_le_of_lt hl (by decide)
  have m5 : (0 : Int) < (if 0 < l then 5 else 2) ∧ (if 0 < l then (5 : Int) else 2) < 2 ^ 30 ∧ (if 0 < l then (5 : Int) else 2) ≤ 5 := by split <;> decide
  obtain ⟨k, st', k0, k1, R', e⟩ := dr hR hN (m := if 0 < l then 5 else 2) m5.1 m5.2.1
  obtain ⟨y, _, h2, h3⟩ := atI_ok (xs := marks) k0 (show k < (marks.length : Int) by show k < 5; omega)
  unfold marks at h2
  refine ⟨y, l - (if isNone y = true then 1 else 0), st', marks_ok y h3, R', ?_⟩
  by_cases hl0 : 0 < l
  · rw [if_pos hl0] at e
    cases hy : isNone y <;> simp [b18, lstD, LIM, e, h2, hl0, hy, cMut, plcGet, plcSet, appD, hlim]
  · rw [if_neg hl0] at e
    cases hy : isNone y <;> simp [b18, lstD, LIM, e, h2, hl0, hy, cMut, plcGet, plcSet, appD, hlim]
theorem table {N : Int} {st : List Vl} (hR : Rd N st) (hN : N ≤ 2 ^ 38) : ∃ (ps ds ls us ws : List PyData) (st' : List Vl), Tb ps ds ls ∧ List.Sublist ps us ∧ List.Sublist ds ws ∧ PyData.tuple us ∈ pl18 ∧ PyData.tuple ws ∈ pl18 ∧ Rd (N + 2000) st' ∧ ∀ ρ, back ρ (c_8 [.ref 0] st) = .ok (.d (tb ps ds ls)) ⟨ρ, st'⟩ := by
  obtain ⟨k1, st1, a0, a1, R1, e1⟩ := dr hR (by omega) (m := 4) (by decide) (by decide)
  obtain ⟨us, u0, u1, u2, um, u3⟩ := pool_at a0 a1
  obtain ⟨ps, st2, p0, p1, p2, R2, e2⟩ := some_of u0 (by omega) R1 (by omega)
  obtain ⟨k2, st3, b0, b1, R3, e3⟩ := dr R2 (by omega) (m := 4) (by decide) (by decide)
  obtain ⟨ws, w0, w1, w2, wm, w3⟩ := pool_at b0 b1
  obtain ⟨ds, st4, d0, d1, d2, R4, e4⟩ := some_of w0 (by omega) R3 (by omega)
  obtain ⟨s', es, l, ls, a, b, c, d, st', rfl, g1, g2, g3⟩ := for_inv (t := .nm 6) (f := sSeq (sAsg 7 (cArgs lstD (cNil))) (sSeq (sFor (.nm 8) (iSeq (cVar 3)) (b18)) (sSeq (sDrop (cMut 5 appD (cCons (cArgs tupleD (cCons (cVar 7) (cNil))) (cNil)))) (sNil))))
    (fun i s => ∃ (l : Int) (ls : List PyData) (a b c d : Option Vl) (st : List Vl), s = ⟨[some (.ref 0), some (.own (pl18.map Vl.d)), some (.d (.tuple ps)), some (.d (.tuple ds)), some (.d (.int l)), some (.own (ls.map Vl.d)), a, b, c, d], st⟩ ∧ ls.length = i ∧ (∀ r ∈ ls, rwOk ds.length r = true) ∧ Rd (N + 402 + 10 * (i : Int)) st)
    ps 0 ⟨[some (.ref 0), some (.own (pl18.map Vl.d)), some (.d (.tuple ps)), some (.d (.tuple ds)), some (.d (.int 6)), some (.own []), none, none, none, none], st4⟩ ⟨6, [], none, none, none, none, st4, rfl, rfl, by simp, R4.mono (by omega)⟩ fun j x s hj hs => by
      obtain ⟨l, ls, a, b, c, d, st, rfl, g1, g2, g3⟩ := hs
      have hjl := (List.getElem?_eq_some_iff.mp hj).1
      rw [Nat.zero_add] at g1 g3
      obtain ⟨s1, es1, l', ys, c', d', st1, rfl, f1, f2, f3⟩ := for_inv (t := .nm 8) (f := b18)
        (fun i s => ∃ (l : Int) (ys : List PyData) (c d : Option Vl) (st : List Vl), s = ⟨[some (.ref 0), some (.own (pl18.map Vl.d)), some (.d (.tuple ps)), some (.d (.tuple ds)), some (.d (.int l)), some (.own (ls.map Vl.d)), some (.d x), some (.own (ys.map Vl.d)), c, d], st⟩ ∧ ys.length = i ∧ (∀ y ∈ ys, mkOk y = true) ∧ Rd (N + 402 + 10 * (j : Int) + i) st)
        ds 0 ⟨[some (.ref 0), some (.own (pl18.map Vl.d)), some (.d (.tuple ps)), some (.d (.tuple ds)), some (.d (.int l)), some (.own (ls.map Vl.d)), some (.d x), some (.own []), c, d], st⟩ ⟨l, [], c, d, st, rfl, rfl, by simp, g3.mono (by omega)⟩ fun i y s hi hs => by
          obtain ⟨l, ys, c, d, st, rfl, f1, f2, f3⟩ := hs
          have hil := (List.getElem?_eq_some_iff.mp hi).1
          rw [Nat.zero_add] at f1 f3
          obtain ⟨m, l', st', hm, hR', e⟩ := cell18 (v0 := .ref 0) (v1 := .own (pl18.map Vl.d)) (v2 := .d (.tuple ps)) (v3 := .d (.tuple ds)) (v5 := .own (ls.map Vl.d)) (v6 := .d x) (l := l) (ys := ys) (a := none) (b := d) (x := y) f3 (by omega) (by omega)
          refine ⟨_, rfl, _, .inl e, l', ys ++ [m], _, _, st', rfl, by simp [f1], fun z hz => ?_, hR'.mono (by omega)⟩
          rcases List.mem_append.mp hz with h | h
          · exact f2 z h
          · rw [List.mem_singleton.mp h]; exact hm
      rw [Nat.zero_add] at f1 f3
      have hlim : ls.length < LIM := Nat.lt_of_lt_of_le (show ls.length < 1000 by omega) (by decide)
      refine ⟨_, rfl, _, .inl ?_, l', ls ++ [.tuple ys], some (.d x), some (.d (.list ys)), c', d', st1, rfl, by simp [g1], fun z hz => ?_, f3.mono (by omega)⟩
      · simp [lstD, es1, cMut, plcGet, plcSet, appD, hlim]
      · rcases List.mem_append.mp hz with h | h
        · exact g2 z h
        · rw [List.mem_singleton.mp h]
          simp only [rwOk, Bool.and_eq_true, decide_eq_true_eq, List.all_eq_true]
          exact ⟨f2, f1⟩
  rw [Nat.zero_add] at g1 g3
  refine ⟨ps, ds, ls, us, ws, st', ⟨p0, by omega, d0, by omega, fun y hy => u2 y (p2.subset hy), fun y hy => w2 y (d2.subset hy), g1, g2⟩, p2, d2, um, wm, g3.mono (by omega), fun ρ => ?_⟩
  show back ρ (runF 10 e_8 [.ref 0] st) = _
  rw [e18]
  simp [p18_is, e1, u3, e2, e3, w3, e4, cRd, isSet, plcGet, lstD, es, tupD, LIM, tb]
/-- two rows of numbers -/
def small5 (y : PyData) : Prop := ∃ k : Int, y = .int k ∧ 0 ≤ k ∧ k < 5
theorem measure {a b : Nat} (ha : a ≤ 100) (hb : b ≤ 100) {N : Int} {st : List Vl} (hR : Rd N st) (hN : N ≤ 2 ^ 39) :
    ∃ (xs ys : List PyData) (st' : List Vl), xs.length = a ∧ ys.length = b ∧ (∀ y ∈ xs, small5 y) ∧ (∀ y ∈ ys, small5 y) ∧ Rd (N + 200) st' ∧ ∀ ρ, back ρ (c_9 [.ref 0, .d (.int a), .d (.int b)] st) = .ok (.d (.tuple [.tuple xs, .tuple ys])) ⟨ρ, st'⟩ := by
  obtain ⟨xs, st1, l1, p1, R1, e1⟩ := cLc_rd (v := 4) (fi := iArgs rng1 (cCons (cVar 1) (cNil))) (f := cCall c_6 (cCons (cVar 0) (cCons (cCon (.int 5)) (cNil)))) (s := ⟨[some (.ref 0), some (.d (.int a)), some (.d (.int b)), none, none], st⟩) (ρ := [some (.ref 0), some (.d (.int a)), some (.d (.int b)), none, none])
    (st := st) (xs := rangeD 0 a) 1 small5 (by simp [rng1_ok (show a ≤ 1000000 by omega)]) (by simp [notOwn]) (by rw [rangeD_len]; omega) hR (by rw [rangeD_len]; omega) fun x _ M st hM hM2 => by
      obtain ⟨k, st', k0, k1, R', e⟩ := dr hM hM2 (m := 5) (by decide) (by decide)
      exact ⟨.int k, st', ⟨k, rfl, k0, k1⟩, R', by simp [e]⟩
  rw [rangeD_len] at l1 R1
  obtain ⟨ys, st2, l2, p2, R2, e2⟩ := cLc_rd (v := 4) (fi := iArgs rng1 (cCons (cVar 2) (cNil))) (f := cCall c_6 (cCons (cVar 0) (cCons (cCon (.int 5)) (cNil)))) (s := ⟨[some (.ref 0), some (.d (.int a)), some (.d (.int b)), some (.d (.tuple xs)), none], st1⟩) (ρ := [some (.ref 0), some (.d (.int a)), some (.d (.int b)), some (.d (.tuple xs)), none])
    (st := st1) (xs := rangeD 0 b) 1 small5 (by simp [rng1_ok (show b ≤ 1000000 by omega)]) (by simp [notOwn]) (by rw [rangeD_len]; omega) R1 (by rw [rangeD_len]; omega) fun x _ M st hM hM2 => by
      obtain ⟨k, st', k0, k1, R', e⟩ := dr hM hM2 (m := 5) (by decide) (by decide)
      exact ⟨.int k, st', ⟨k, rfl, k0, k1⟩, R', by simp [e]⟩
  rw [rangeD_len] at l2 R2
  exact ⟨xs, ys, st2, l1, l2, p1, p2, R2.mono (by omega), fun ρ => by simp [c_9, e_9, e1, e2, tupD, LIM]⟩

def valOf : R Vl → List PyData
  | .ok (.own xs) _ => (dat xs).getD []
  | _ => []
def tbB : PyData → Bool
  | .tuple [.tuple ps, .tuple ds, .tuple ls] => decide (0 < ps.length) && decide (ps.length ≤ 6) && decide (0 < ds.length) && decide (ds.length ≤ 6) && ps.all nmOk && ds.all nmOk && decide (ls.length = ps.length) && ls.all (rwOk ds.length)
  | _ => false
theorem tbB_ok {t : PyData} (h : tbB t = true) : ∃ ps ds ls, t = tb ps ds ls ∧ Tb ps ds ls := by
  unfold tbB at h
  split at h
  · rename_i ps ds ls
    simp only [Bool.and_eq_true, decide_eq_true_eq, List.all_eq_true] at h
    exact ⟨ps, ds, ls, rfl, h.1.1.1.1.1.1.1, h.1.1.1.1.1.1.2, h.1.1.1.1.1.2, h.1.1.1.1.2, h.1.1.1.2, h.1.1.2, h.1.2, h.2⟩
  · cases h
def fixL : List PyData := valOf (c_10 [] [])
theorem fix_all : fixL.all tbB = true := by decide +kernel
theorem fix_len : decide (fixL.length = 6) = true := by decide +kernel
theorem fix_is (ρ : List (Option Vl)) (st : List Vl) : back ρ (c_10 [] st) = .ok (.own (fixL.map Vl.d)) ⟨ρ, st⟩ := by kernel_rfl
theorem cut63 (ns : List Int) (k : Nat) : cutD (ns.map PyData.int) none (some (k : Int)) = (ns.take k).map .int := by
  unfold cutD
  rw [HT.sIx_none, HT.sIx_nat]
  simp only [List.drop_zero, Nat.sub_zero, List.length_map, ← List.map_take]
  congr 1
  rw [List.take_eq_take_iff]
  omega
theorem reader (ns : List Int) (ρ : List (Option Vl)) : back ρ (c_5 [.d (.list (ns.map .int))] []) = .ok (rdr (ns.take 63) 0 0 0) ⟨ρ, []⟩ := by
  have this : cutD (ns.map PyData.int) none (some 63) = (ns.take 63).map .int := cut63 ns 63
  generalize ns.take 63 = zs at this ⊢
  simp [c_5, e_5, cSlc, cPart, slcD, this, lstD, LIM, rdr]
end Lw

/-! k10: the texts. -/
namespace Lw
open PySem L2 Ev

def mw : PyData → Str
  | .none => Str.ofString "?"
  | .int i => Str.ofString (toString i)
  | _ => Str.empty
theorem mw_len {x : PyData} (h : mkOk x = true) : (mw x).length ≤ 2 := by
  cases x with
  | none => decide
  | int i =>
    simp only [mkOk, Bool.and_eq_true, decide_eq_true_eq] at h
    rcases (show i = 0 ∨ i = 1 by omega) with rfl | rfl <;> decide +kernel
  | _ => simp [mkOk] at h
def msw (ys : List PyData) : Str := if 0 < ys.length then Txt.join (Str.ofString "") (ys.map mw) else Str.ofString "-"
/-- a name or a number -/
def wOk : PyData → Bool
  | .str s => PyData.strOk s && decide (s.length ≤ 8)
  | .int i => decide (i.natAbs ≤ 10 ^ 62)
  | _ => false
def wd : PyData → Str
  | .str s => s
  | .int i => Str.ofString (toString i)
  | _ => Str.empty
theorem wd_len {x : PyData} (h : wOk x = true) : (wd x).length ≤ 64 := by
  cases x with
  | str s =>
    simp only [wOk, Bool.and_eq_true, decide_eq_true_eq] at h
    simp only [wd]
    omega
  | int i =>
    simp only [wOk, decide_eq_true_eq] at h
    exact int_len h
  | _ => simp [wOk] at h
def sw (xs : List PyData) : Str := Txt.join (Str.ofString ",") (xs.map wd)
theorem map_len {f : PyData → Str} {xs : List PyData} {p : PyData → Bool} {L : Nat} (hp : ∀ x ∈ xs, p x = true) (h : ∀ x, p x = true → (f x).length ≤ L) : ∀ s ∈ xs.map f, s.length ≤ L := fun s hs => by
  obtain ⟨x, hx, rfl⟩ := List.mem_map.mp hs
  exact h x (hp x hx)
theorem sum_ok {f : PyData → Str} {xs : List PyData} {p : PyData → Bool} {L : Nat} (a : Str) (hp : ∀ x ∈ xs, p x = true) (h : ∀ x, p x = true → (f x).length ≤ L) (hn : xs.length ≤ 100) (hL : L + a.length ≤ 5000) : ((xs.map f).map (·.length)).sum + (xs.map f).length * a.length ≤ LIM := by
  have h1 := sum_len (a := a) (map_len hp h)
  rw [List.length_map] at h1 ⊢
  exact Nat.le_trans h1 (Nat.le_trans (Nat.mul_le_mul hn hL) (by decide))
theorem len_ok {f : PyData → Str} {xs : List PyData} {p : PyData → Bool} {L : Nat} (a : Str) (hp : ∀ x ∈ xs, p x = true) (h : ∀ x, p x = true → (f x).length ≤ L) {n : Nat} (hn : xs.length ≤ n) : (Txt.join a (xs.map f)).length ≤ n * (L + a.length) := by
  have h1 := join_len (a := a) (map_len hp h)
  rw [List.length_map] at h1
  exact Nat.le_trans h1 (Nat.mul_le_mul_right _ hn)
theorem msw_len {ys : List PyData} (h : ∀ y ∈ ys, mkOk y = true) (hl : ys.length ≤ 40) : (msw ys).length ≤ 80 := by
  unfold msw
  split
  · exact len_ok (L := 2) (n := 40) (Str.ofString "") h (fun x => mw_len) hl
  · decide
theorem sw_len {xs : List PyData} (h : ∀ y ∈ xs, wOk y = true) (hl : xs.length ≤ 40) : (sw xs).length ≤ 2600 :=
  len_ok (L := 64) (n := 40) (Str.ofString ",") h (fun x => wd_len) hl
section
variable {ρ : List (Option Vl)} {st : List Vl}
theorem r_0 {x : PyData} (h : mkOk x = true) : back ρ (c_0 [.d x] st) = .ok (.d (.str (mw x))) ⟨ρ, st⟩ := by
  cases x with
  | none => simp [c_0, e_0, isNone, mw]
  | int i =>
    simp only [mkOk, Bool.and_eq_true, decide_eq_true_eq] at h
    have hf := fmt_int (i := i) (by omega)
    simp [c_0, e_0, isNone, mw, hf]
  | _ => simp [mkOk] at h
theorem r_11 {x : PyData} (h : mkOk x = true) : back ρ (c_11 [.d x] st) = .ok (.d (.str (mw x))) ⟨ρ, st⟩ := by
  cases x with
  | none => simp [c_11, e_11, isNone, mw]
  | int i =>
    simp only [mkOk, Bool.and_eq_true, decide_eq_true_eq] at h
    have hf := strD_int (i := i) (by omega)
    simp [c_11, e_11, isNone, mw, hf]
  | _ => simp [mkOk] at h
theorem map_str (f : PyData → Str) (xs : List PyData) : (xs.map fun x => PyData.str (f x)) = (xs.map f).map .str := by rw [List.map_map]; rfl
theorem r_1 {ys : List PyData} (h : ∀ y ∈ ys, mkOk y = true) (hl : ys.length ≤ 40) : back ρ (c_1 [.d (.tuple ys)] st) = .ok (.d (.str (msw ys))) ⟨ρ, st⟩ := by
  have e := cLc_mapY (v := 1) (fi := iSeq (cVar 0)) (f := cCall c_0 (cCons (cVar 1) cNil)) (s := ⟨[some (.d (.tuple ys)), none], st⟩) (ρ := [some (.d (.tuple ys)), none]) (st := st) (xs := ys) (fun x => .str (mw x))
    (by simp) (by simp [notOwn]) (Nat.le_trans hl (by decide)) (fun x hx => by simp [r_0 (h x hx)])
  rw [map_str] at e
  have j := joinD_l (a := Str.ofString "") (ss := ys.map mw) (sum_ok (L := 2) _ h (fun x => mw_len) (by omega) (by decide))
  generalize hz : ys.map mw = zs at e j
  by_cases h0 : 0 < ys.length <;> simp [c_1, e_1, cLen, plcGet, lenD, h0, e, j, msw, hz]
theorem r_2 {xs : List PyData} (h : ∀ y ∈ xs, wOk y = true) (hl : xs.length ≤ 40) : back ρ (c_2 [.d (.tuple xs)] st) = .ok (.d (.str (sw xs))) ⟨ρ, st⟩ := by
  have e := cLc_mapY (v := 1) (fi := iSeq (cVar 0)) (f := cUn fmtD (cVar 1)) (s := ⟨[some (.d (.tuple xs)), none], st⟩) (ρ := [some (.d (.tuple xs)), none]) (st := st) (xs := xs) (fun x => .str (wd x))
    (by simp) (by simp [notOwn]) (Nat.le_trans hl (by decide)) (fun x hx => by
      have hx := h x hx
      cases x with
      | str s =>
        simp only [wOk, Bool.and_eq_true, decide_eq_true_eq] at hx
        simp [fmt_str (Nat.le_trans hx.2 (by decide)), wd]
      | int i =>
        simp only [wOk, decide_eq_true_eq] at hx
        simp [fmt_int hx, wd]
      | _ => simp [wOk] at hx)
  rw [map_str] at e
  have j := joinD_l (a := Str.ofString ",") (ss := xs.map wd) (sum_ok (L := 64) _ h (fun x => wd_len) (by omega) (by decide))
  generalize hz : xs.map wd = zs at e j
  simp [c_2, e_2, e, j, sw, hz]
end
end Lw

/-! k10: a table's page. -/
namespace Lw
open PySem L2 Ev

def rowR : PyData → Bool
  | .tuple ys => ys.all mkOk && decide (ys.length ≤ 40)
  | _ => false
/-- what is written here -/
structure T10 (ps ds ls : List PyData) : Prop where
  pn : ∀ x ∈ ps, nmOk x = true
  dn : ∀ x ∈ ds, nmOk x = true
  rw : ∀ x ∈ ls, rowR x = true
  pl : ps.length ≤ 40
  dl : ds.length ≤ 40
  ll : ls.length ≤ 40
def rowS : PyData → Str
  | .tuple [.str s, .tuple ys] => Str.ofString "row " ++ s ++ Str.ofString " " ++ msw ys
  | _ => Str.empty
def rows10 (ps ls : List PyData) : List Str := (zipL ps ls).map rowS
def gl10 (ds : List PyData) : Str := Str.ofString "gates " ++ sw ds
def page10 (ps ds ls : List PyData) : Str := Txt.join (Str.ofString "\n") (gl10 ds :: rows10 ps ls)
theorem zip_item {ps ds ls : List PyData} (T : T10 ps ds ls) {z : PyData} (h : z ∈ zipL ps ls) : ∃ s ys, z = .tuple [.str s, .tuple ys] ∧ s.length ≤ 8 ∧ (∀ y ∈ ys, mkOk y = true) ∧ ys.length ≤ 40 := by
  obtain ⟨i, hi⟩ := List.mem_iff_getElem?.mp h
  obtain ⟨x, y, hx, hy, rfl⟩ := zipL_get hi
  have h1 := T.pn x (List.mem_of_getElem? hx)
  have h2 := T.rw y (List.mem_of_getElem? hy)
  cases x with
  | str s =>
    cases y with
    | tuple ys =>
      simp only [nmOk, Bool.and_eq_true, decide_eq_true_eq] at h1
      simp only [rowR, Bool.and_eq_true, decide_eq_true_eq, List.all_eq_true] at h2
      exact ⟨s, ys, rfl, h1.2, h2.1, h2.2⟩
    | _ => simp [rowR] at h2
  | _ => simp [nmOk] at h1
theorem wOk_of {x : PyData} (h : nmOk x = true) : wOk x = true := by
  cases x with
  | str s => exact h
  | _ => simp [nmOk] at h
theorem len_row {s : Str} {ys : List PyData} (h1 : s.length ≤ 8) (h2 : ∀ y ∈ ys, mkOk y = true) (h3 : ys.length ≤ 40) : (Str.ofString "row " ++ s ++ Str.ofString " " ++ msw ys).length ≤ 93 := by
  have := msw_len h2 h3
  have e1 : (Str.ofString "row ").length = 4 := by decide +kernel
  have e2 : (Str.ofString " ").length = 1 := by decide +kernel
  rw [strLen_append, strLen_append, strLen_append]
  omega
theorem zip_len {ps ds ls : List PyData} (T : T10 ps ds ls) : (zipL ps ls).length ≤ 40 := by
  rw [zipL_len]
  have := T.pl
  omega
theorem gl_len {ps ds ls : List PyData} (T : T10 ps ds ls) : (gl10 ds).length ≤ 2606 := by
  have := sw_len (xs := ds) (fun x hx => wOk_of (T.dn x hx)) T.dl
  have e1 : (Str.ofString "gates ").length = 6 := by decide +kernel
  unfold gl10
  rw [strLen_append]
  omega
theorem rows_len {ps ds ls : List PyData} (T : T10 ps ds ls) : ∀ s ∈ gl10 ds :: rows10 ps ls, s.length ≤ 2606 := fun s hs => by
  rcases List.mem_cons.mp hs with rfl | hs
  · exact gl_len T
  · obtain ⟨z, hz, rfl⟩ := List.mem_map.mp hs
    obtain ⟨s, ys, rfl, h1, h2, h3⟩ := zip_item T hz
    have := len_row h1 h2 h3
    simp only [rowS]
    omega
theorem page_sum {ps ds ls : List PyData} (T : T10 ps ds ls) : ((gl10 ds :: rows10 ps ls).map (·.length)).sum + (gl10 ds :: rows10 ps ls).length * (Str.ofString "\n").length ≤ LIM := by
  have h := sum_len (a := Str.ofString "\n") (rows_len T)
  have e : (Str.ofString "\n").length = 1 := by decide +kernel
  have hl : (gl10 ds :: rows10 ps ls).length ≤ 41 := by
    rw [List.length_cons, rows10, List.length_map]
    have := zip_len T
    omega
  rw [e] at h ⊢
  exact Nat.le_trans h (Nat.le_trans (Nat.mul_le_mul_right _ hl) (by decide))
section
variable {ρ : List (Option Vl)} {st : List Vl}
theorem r_3 {ps ds ls : List PyData} (T : T10 ps ds ls) : back ρ (c_3 [.d (tb ps ds ls)] st) = .ok (.d (.str (page10 ps ds ls))) ⟨ρ, st⟩ := by
  have hsw := sw_len (xs := ds) (fun x hx => wOk_of (T.dn x hx)) T.dl
  have e := cLc_mapYG (vs := [5, 6]) (t := .tp (.cons (.nm 5) (.cons (.nm 6) (.nil)))) (fi := iArgs zipD (cCons (cVar 1) (cCons (cVar 3) (cNil)))) (f := cJoin [cCon (.str "row "), cUn fmtD (cVar 5), cCon (.str " "), cUn fmtD (cCall c_1 (cCons (cVar 6) (cNil)))])
    (s := ⟨[some (.d (tb ps ds ls)), some (.d (.tuple ps)), some (.d (.tuple ds)), some (.d (.tuple ls)), none, none, none], st⟩) (ρ := [some (.d (tb ps ds ls)), some (.d (.tuple ps)), some (.d (.tuple ds)), some (.d (.tuple ls)), none, none, none]) (st := st) (xs := zipL ps ls)
    (fun x => match x with | .tuple [p, r] => [some (.d (tb ps ds ls)), some (.d (.tuple ps)), some (.d (.tuple ds)), some (.d (.tuple ls)), none, some (.d p), some (.d r)] | _ => []) (fun x => .str (rowS x))
    (by simp [zipD]) (by simp [notOwn]) (Nat.le_trans (zip_len T) (by decide)) (fun x hx => by
      obtain ⟨s, ys, rfl, h1, h2, h3⟩ := zip_item T hx
      simp [wipeR]) (fun x hx => by
      obtain ⟨s, ys, rfl, h1, h2, h3⟩ := zip_item T hx
      have hm := msw_len h2 h3
      have l1 : (Str.empty ++ Str.ofString "row ").length ≤ LIM := by decide +kernel
      have l4 := len_row h1 h2 h3
      have e0 := empty_str (Str.ofString "row ")
      have l2 : (Str.ofString "row " ++ s).length ≤ LIM := by
        rw [strLen_append, strLen_append, strLen_append] at l4
        rw [strLen_append]
        exact Nat.le_trans (show _ ≤ 93 by omega) (by decide)
      have l3 : (Str.ofString "row " ++ s ++ Str.ofString " ").length ≤ LIM := by
        rw [strLen_append] at l4
        exact Nat.le_trans (show _ ≤ 93 by omega) (by decide)
      have l5 : (Str.ofString "row " ++ s ++ Str.ofString " " ++ msw ys).length ≤ LIM := Nat.le_trans l4 (by decide)
      have f1 : fmtD (.str s) = some (.d (.str s)) := fmt_str (Nat.le_trans h1 (by decide))
      have f2 : fmtD (.str (msw ys)) = some (.d (.str (msw ys))) := fmt_str (Nat.le_trans hm (by decide))
      rw [e0] at l1
      simp [e0, l1, l2, l3, l5, f1, f2, r_1 h2 h3, rowS])
  rw [map_str] at e
  have j := joinD_l (a := Str.ofString "\n") (page_sum T)
  have f2 : fmtD (.str (sw ds)) = some (.d (.str (sw ds))) := fmt_str (Nat.le_trans hsw (by decide))
  have g1 : (Str.ofString "gates ").length ≤ LIM := by decide +kernel
  have g2 : (Str.ofString "gates " ++ sw ds).length ≤ LIM := Nat.le_trans (gl_len T) (by decide)
  have e0 := empty_str (Str.ofString "gates ")
  have r2 := fun ρ => r_2 (ρ := ρ) (st := st) (xs := ds) (fun x hx => wOk_of (T.dn x hx)) T.dl
  have hl : (rows10 ps ls).length + 1 ≤ LIM := by
    rw [rows10, List.length_map]
    exact Nat.le_trans (Nat.succ_le_succ (zip_len T)) (by decide)
  unfold gl10 at j
  change _ = Ev.R.ok (Vl.own (((rows10 ps ls).map PyData.str).map Vl.d)) _ at e
  unfold page10 gl10
  generalize rows10 ps ls = rs at e j hl ⊢
  rw [List.map_cons] at j
  unfold tb at e
  simp [c_3, e_3, tb, e, e0, g1, g2, f2, r2, lstD, hl, j]
end
end Lw

/-! k10: the law's own page; measures. -/
namespace Lw
open PySem L2 Ev

theorem names_str {xs : List PyData} (h : ∀ x ∈ xs, nmOk x = true) : xs = (xs.map wd).map .str := by
  induction xs with
  | nil => rfl
  | cons x r ih =>
    have h1 := h x List.mem_cons_self
    have h2 := ih fun y hy => h y (List.mem_cons_of_mem _ hy)
    cases x with
    | str s =>
      rw [List.map_cons, List.map_cons, ← h2]
      rfl
    | _ => simp [nmOk] at h1
theorem mk_okd {x : PyData} (h : mkOk x = true) : okd 1 x = true ∧ x.depth = 0 ∧ wt x ≤ 70 := by
  cases x with
  | none => exact ⟨by simp [okd], by simp [PyData.depth], by simp [wt]⟩
  | int i =>
    simp only [mkOk, Bool.and_eq_true, decide_eq_true_eq] at h
    exact ⟨by simp only [okd, decide_eq_true_eq]; omega, by simp [PyData.depth], by simp [wt]⟩
  | _ => simp [mkOk] at h
theorem row_okd {ys : List PyData} (h : ∀ y ∈ ys, mkOk y = true) : okd 1 (.tuple ys) = true ∧ (PyData.tuple ys).depth ≤ 1 := by
  refine ⟨by simp only [okd]; exact okdA_all.mpr fun y hy => (mk_okd (h y hy)).1, ?_⟩
  have := depthA_le (n := 0) fun y hy => by rw [(mk_okd (h y hy)).2.1]; exact Nat.le_refl _
  simp only [PyData.depth]
  omega
theorem ne_row {ys : List PyData} (h : ∀ y ∈ ys, mkOk y = true) : neD (.tuple ys) (.tuple []) = some (.d (.bool (decide (0 < ys.length)))) := by
  obtain ⟨h1, h2⟩ := row_okd h
  have h3 : SeqAt.shaped (.tuple ys) = true := shaped_ok h1 (by omega)
  have h4 : SeqAt.shaped (.tuple []) = true := by simp [SeqAt.shaped, PyData.canLay0, PyData.depth, PyData.canLayAll0, PyData.depthAll]
  unfold neD eqOk
  simp only [h3, h4]
  cases ys <;> simp [PyData.eqv, PyData.eqvAll, bD]
section
variable {ρ : List (Option Vl)} {st : List Vl}
def w12 : FS := sSeq (sDrop (cMut 1 appD (cCons (cBin addD (cBin addD (cBin addD (cCon (.str "row ")) (cVar 2)) (cCon (.str " "))) (cIf (cBin neD (cVar 3) (cArgs tupD (cNil))) (cMS joinD (cCon (.str "")) (cCons (cLc [4] (iSeq (cVar 3)) (.nm 4) (cYes) (cCall c_11 (cCons (cVar 4) (cNil)))) (cNil))) (cCon (.str "-")))) (cNil)))) (sNil)
theorem w12_is {T : PyData} {s : Str} {ys : List PyData} {fs : List PyData} (h1 : s.length ≤ 8) (h2 : ∀ y ∈ ys, mkOk y = true) (h3 : ys.length ≤ 40) (hf : fs.length ≤ 100) :
    w12 ⟨[some (.d T), some (.own (fs.map Vl.d)), some (.d (.str s)), some (.d (.tuple ys)), none], st⟩ = .ok .nx ⟨[some (.d T), some (.own ((fs ++ [PyData.str (rowS (.tuple [.str s, .tuple ys]))]).map Vl.d)), some (.d (.str s)), some (.d (.tuple ys)), none], st⟩ := by
  have hm := msw_len h2 h3
  have l4 := len_row h1 h2 h3
  have k0 : (Str.ofString "row ").length = 4 := by decide +kernel
  have k1 : (Str.ofString " ").length = 1 := by decide +kernel
  have a1 : addD (.str (Str.ofString "row ")) (.str s) = some (.d (.str (Str.ofString "row " ++ s))) := add_strE (Nat.le_trans (show _ ≤ 100 by omega) (by decide))
  have a2 : addD (.str (Str.ofString "row " ++ s)) (.str (Str.ofString " ")) = some (.d (.str (Str.ofString "row " ++ s ++ Str.ofString " "))) := add_strE (by rw [strLen_append]; exact Nat.le_trans (show _ ≤ 100 by omega) (by decide))
  have a3 : addD (.str (Str.ofString "row " ++ s ++ Str.ofString " ")) (.str (msw ys)) = some (.d (.str (Str.ofString "row " ++ s ++ Str.ofString " " ++ msw ys))) := add_strE (by rw [strLen_append, strLen_append]; exact Nat.le_trans (show _ ≤ 100 by omega) (by decide))
  have e := cLc_mapY (v := 4) (fi := iSeq (cVar 3)) (f := cCall c_11 (cCons (cVar 4) cNil)) (s := ⟨[some (.d T), some (.own (fs.map Vl.d)), some (.d (.str s)), some (.d (.tuple ys)), none], st⟩) (ρ := [some (.d T), some (.own (fs.map Vl.d)), some (.d (.str s)), some (.d (.tuple ys)), none]) (st := st) (xs := ys) (fun x => .str (mw x))
    (by simp) (by simp [notOwn]) (Nat.le_trans h3 (by decide)) (fun x hx => by simp [r_11 (h2 x hx)])
  rw [map_str] at e
  have j := joinD_l (a := Str.ofString "") (ss := ys.map mw) (sum_ok (L := 2) _ h2 (fun x => mw_len) (by omega) (by decide))
  have hn := ne_row h2
  have hlim : fs.length < LIM := Nat.lt_of_le_of_lt hf (by decide)
  unfold msw at a3
  unfold rowS msw
  generalize hz : ys.map mw = zs at e j a3
  by_cases h0 : 0 < ys.length
  · rw [if_pos h0] at a3
    simp [w12, plcGet, plcSet, cMut, appD, a1, a2, a3, hn, h0, e, j, tupD, hlim, hz]
  · rw [if_neg h0] at a3
    simp [w12, plcGet, plcSet, cMut, appD, a1, a2, a3, hn, h0, tupD, hlim]
theorem r_12 {ps ds ls : List PyData} (T : T10 ps ds ls) : back ρ (c_12 [.d (tb ps ds ls)] st) = .ok (.d (.str (page10 ps ds ls))) ⟨ρ, st⟩ := by
  have hsw := sw_len (xs := ds) (fun x hx => wOk_of (T.dn x hx)) T.dl
  obtain ⟨s', es, a2, a3, rfl⟩ := for_inv (t := .tp (.cons (.nm 2) (.cons (.nm 3) (.nil)))) (f := w12)
    (fun i s => ∃ (a2 a3 : Option Vl), s = ⟨[some (.d (tb ps ds ls)), some (.own (((gl10 ds :: (rows10 ps ls).take i).map PyData.str).map Vl.d)), a2, a3, none], st⟩)
    (zipL ps ls) 0 ⟨[some (.d (tb ps ds ls)), some (.own (((gl10 ds :: (rows10 ps ls).take 0).map PyData.str).map Vl.d)), none, none, none], st⟩ ⟨none, none, rfl⟩ fun j x s hj hs => by
      obtain ⟨a2, a3, rfl⟩ := hs
      rw [Nat.zero_add]
      have hx := List.mem_of_getElem? hj
      have hjl := (List.getElem?_eq_some_iff.mp hj).1
      obtain ⟨s, ys, rfl, h1, h2, h3⟩ := zip_item T hx
      have hz := zip_len T
      have e := w12_is (st := st) (T := tb ps ds ls) (fs := (gl10 ds :: (rows10 ps ls).take j).map PyData.str) h1 h2 h3 (by rw [List.length_map, List.length_cons, List.length_take]; omega)
      have ht : gl10 ds :: (rows10 ps ls).take (j + 1) = (gl10 ds :: (rows10 ps ls).take j) ++ [rowS (.tuple [.str s, .tuple ys])] := by
        rw [List.take_add_one, rows10, List.getElem?_map, hj]
        rfl
      have ht' : (gl10 ds :: (rows10 ps ls).take (j + 1)).map PyData.str = (gl10 ds :: (rows10 ps ls).take j).map PyData.str ++ [.str (rowS (.tuple [.str s, .tuple ys]))] := by rw [ht, List.map_append]; rfl
      exact ⟨_, by simp, _, .inl e, some (.d (.str s)), some (.d (.tuple ys)), by rw [ht']⟩
  have hfull : (rows10 ps ls).take (0 + (zipL ps ls).length) = rows10 ps ls := by
    rw [Nat.zero_add, List.take_of_length_le]
    rw [rows10, List.length_map]
    exact Nat.le_refl _
  rw [hfull] at es
  have j1 : joinD (Str.ofString ",") [.tuple ds] = some (.d (.str (sw ds))) := by
    have := joinD_t (a := Str.ofString ",") (ss := ds.map wd) (sum_ok (L := 64) _ (fun x hx => wOk_of (T.dn x hx)) (fun x => wd_len) (by have := T.dl; omega) (by decide))
    rw [← names_str T.dn] at this
    exact this
  have g0 : (Str.ofString "gates ").length = 6 := by decide +kernel
  have a1 : addD (.str (Str.ofString "gates ")) (.str (sw ds)) = some (.d (.str (gl10 ds))) := add_strE (Nat.le_trans (show _ ≤ 2606 by omega) (by decide))
  have j2 := joinD_l (a := Str.ofString "\n") (page_sum T)
  unfold tb at es
  unfold page10
  generalize rows10 ps ls = rs at es j2 ⊢
  show back ρ (endF ((sSeq (sAsg 1 (cArgs lstD (cCons (cBin addD (cCon (.str "gates ")) (cMS joinD (cCon (.str ",")) (cCons (cRd 0 (cCon (.int 1))) (cNil)))) (cNil)))) (sSeq (sFor (.tp (.cons (.nm 2) (.cons (.nm 3) (.nil)))) (iArgs zipD (cCons (cRd 0 (cCon (.int 0))) (cCons (cRd 0 (cCon (.int 2))) (cNil)))) w12) (sSeq (sRet (cMS joinD (cCon (.str "\n")) (cCons (cVar 1) (cNil)))) (sNil)))) _)) = _
  simp only [List.map_cons, List.take_zero, List.map_nil] at es j2
  simp [tb, entry, cRd, isSet, plcGet, L2.atI, ixN, j1, a1, lstD, LIM, zipD, es, j2]
end
end Lw

/-! k10: measures, sizes. -/
namespace Lw
open PySem L2 Ev

theorem ok_app {x y : Str} (h : PyData.strOk x = true) (hy : PyData.strOk y = true) : PyData.strOk (x ++ y) = true := by
  unfold PyData.strOk at h hy ⊢
  show (x.cps ++ y.cps).all _ = true
  rw [Array.all_append, h, hy]
  rfl
theorem ok_of (s : String) : PyData.strOk (Str.ofString s) = true := by
  unfold PyData.strOk
  rw [Str.ofString_eq_toList]
  refine Array.all_eq_true'.mpr fun c hc => ?_
  have hc : c ∈ s.toList.map Char.toNat := by simpa using hc
  obtain ⟨ch, _, rfl⟩ := List.mem_map.mp hc
  have h1 : ch.toNat < 0x110000 := by
    rcases ch.valid with h | h
    · exact Nat.lt_trans h (by decide)
    · exact h.2
  exact decide_eq_true h1
theorem ok_join {a : Str} {ss : List Str} (ha : PyData.strOk a = true) (h : ∀ s ∈ ss, PyData.strOk s = true) : PyData.strOk (Txt.join a ss) = true := by
  rw [TL.join_eq]
  induction ss with
  | nil =>
    show PyData.strOk Str.empty = true
    decide +kernel
  | cons s r ih =>
    have h1 := h s List.mem_cons_self
    have h2 := ih fun x hx => h x (List.mem_cons_of_mem _ hx)
    cases r with
    | nil => exact h1
    | cons t u => exact ok_app (ok_app h1 ha) h2
theorem mw_ok (x : PyData) : PyData.strOk (mw x) = true := by
  cases x <;> first | exact ok_of _ | (show PyData.strOk Str.empty = true; decide +kernel)
theorem msw_ok (ys : List PyData) : PyData.strOk (msw ys) = true := by
  unfold msw
  split
  · exact ok_join (ok_of _) fun s hs => by
      obtain ⟨x, _, rfl⟩ := List.mem_map.mp hs
      exact mw_ok x
  · exact ok_of _
theorem wd_ok {x : PyData} (h : wOk x = true) : PyData.strOk (wd x) = true := by
  cases x with
  | str s =>
    simp only [wOk, Bool.and_eq_true] at h
    exact h.1
  | int i => exact ok_of _
  | _ => simp [wOk] at h
theorem sw_ok {xs : List PyData} (h : ∀ x ∈ xs, wOk x = true) : PyData.strOk (sw xs) = true := ok_join (ok_of _) fun s hs => by
  obtain ⟨x, hx, rfl⟩ := List.mem_map.mp hs
  exact wd_ok (h x hx)
/-- repr of a text -/
theorem repr_str {s : Str} (h : PyData.strOk s = true) (hl : s.length ≤ 20000) : reprD [.str s] = some (.d (.str (PyData.str s).shown)) :=
  repr_ok (B := 1) (by decide) (by simpa only [okd] using h) (by simp only [wt]; exact Nat.le_trans (show _ ≤ 200002 by omega) (by decide)) (by simp [PyData.depth])
theorem nmw_len {x : PyData} (h : nmOk x = true) : (wd x).length ≤ 8 := by
  cases x with
  | str s =>
    simp only [nmOk, Bool.and_eq_true, decide_eq_true_eq] at h
    exact h.2
  | _ => simp [nmOk] at h
theorem page_len {ps ds ls : List PyData} (T : T10 ps ds ls) : (page10 ps ds ls).length ≤ 20000 := by
  have h1 : (sw ds).length ≤ 40 * (8 + (Str.ofString ",").length) := len_ok (L := 8) (n := 40) (Str.ofString ",") T.dn (fun x => nmw_len) T.dl
  have e0 : (Str.ofString ",").length = 1 := by decide +kernel
  have e1 : (Str.ofString "gates ").length = 6 := by decide +kernel
  have e2 : (Str.ofString "\n").length = 1 := by decide +kernel
  have h2 : ∀ s ∈ gl10 ds :: rows10 ps ls, s.length ≤ 366 := fun s hs => by
    rcases List.mem_cons.mp hs with rfl | hs
    · unfold gl10
      rw [strLen_append]
      omega
    · obtain ⟨z, hz, rfl⟩ := List.mem_map.mp hs
      obtain ⟨s, ys, rfl, h1, h2, h3⟩ := zip_item T hz
      have := len_row h1 h2 h3
      simp only [rowS]
      omega
  have h3 := join_len (a := Str.ofString "\n") h2
  have hl : (gl10 ds :: rows10 ps ls).length ≤ 41 := by
    rw [List.length_cons, rows10, List.length_map]
    have := zip_len T
    omega
  rw [e2] at h3
  exact Nat.le_trans h3 (Nat.le_trans (Nat.mul_le_mul_right _ hl) (by decide))
theorem page_ok {ps ds ls : List PyData} (T : T10 ps ds ls) : PyData.strOk (page10 ps ds ls) = true := ok_join (ok_of _) fun s hs => by
  rcases List.mem_cons.mp hs with rfl | hs
  · exact ok_app (ok_of _) (sw_ok fun x hx => wOk_of (T.dn x hx))
  · obtain ⟨z, hz, rfl⟩ := List.mem_map.mp hs
    obtain ⟨i, hi⟩ := List.mem_iff_getElem?.mp hz
    obtain ⟨x, y, hx, hy, rfl⟩ := zipL_get hi
    have h1 := T.pn x (List.mem_of_getElem? hx)
    have h2 := T.rw y (List.mem_of_getElem? hy)
    cases x with
    | str s =>
      cases y with
      | tuple ys =>
        simp only [nmOk, Bool.and_eq_true] at h1
        exact ok_app (ok_app (ok_app (ok_of _) h1.1) (ok_of _)) (msw_ok ys)
      | _ => simp [rowR] at h2
    | _ => simp [nmOk] at h1
theorem wtA_le {L : Nat} : ∀ {xs : List PyData}, (∀ x ∈ xs, wt x ≤ L) → wtA xs ≤ xs.length * (L + 2)
  | [], _ => by simp [wtA]
  | x :: r, h => by
    have h1 := h x List.mem_cons_self
    have h2 := wtA_le fun y hy => h y (List.mem_cons_of_mem _ hy)
    rw [wtA, List.length_cons, Nat.succ_mul]
    omega
theorem nm_okd {x : PyData} (h : nmOk x = true) : okd 1 x = true ∧ x.depth = 0 ∧ wt x ≤ 82 := by
  cases x with
  | str s =>
    simp only [nmOk, Bool.and_eq_true, decide_eq_true_eq] at h
    exact ⟨by simpa only [okd] using h.1, by simp [PyData.depth], by simp only [wt]; omega⟩
  | _ => simp [nmOk] at h
theorem rowR_okd {x : PyData} (h : rowR x = true) : okd 1 x = true ∧ x.depth ≤ 1 ∧ wt x ≤ 2900 := by
  cases x with
  | tuple ys =>
    simp only [rowR, Bool.and_eq_true, decide_eq_true_eq, List.all_eq_true] at h
    obtain ⟨h1, h2⟩ := row_okd h.1
    have h3 := wtA_le (L := 70) fun y hy => (mk_okd (h.1 y hy)).2.2
    have h4 : ys.length * 72 ≤ 40 * 72 := Nat.mul_le_mul_right _ h.2
    exact ⟨h1, h2, by simp only [wt]; omega⟩
  | _ => simp [rowR] at h
theorem tab_repr {ps ds ls : List PyData} (T : T10 ps ds ls) : reprD [tb ps ds ls] = some (.d (.str (tb ps ds ls).shown)) := by
  have o1 : okdA 1 ps = true := okdA_all.mpr fun x hx => (nm_okd (T.pn x hx)).1
  have o2 : okdA 1 ds = true := okdA_all.mpr fun x hx => (nm_okd (T.dn x hx)).1
  have o3 : okdA 1 ls = true := okdA_all.mpr fun x hx => (rowR_okd (T.rw x hx)).1
  have d1 := depthA_le (n := 0) fun x hx => by rw [(nm_okd (T.pn x hx)).2.1]; exact Nat.le_refl _
  have d2 := depthA_le (n := 0) fun x hx => by rw [(nm_okd (T.dn x hx)).2.1]; exact Nat.le_refl _
  have d3 := depthA_le (n := 1) fun x hx => (rowR_okd (T.rw x hx)).2.1
  have w1 := Nat.le_trans (wtA_le (L := 82) fun x hx => (nm_okd (T.pn x hx)).2.2) (Nat.mul_le_mul_right _ T.pl)
  have w2 := Nat.le_trans (wtA_le (L := 82) fun x hx => (nm_okd (T.dn x hx)).2.2) (Nat.mul_le_mul_right _ T.dl)
  have w3 := Nat.le_trans (wtA_le (L := 2900) fun x hx => (rowR_okd (T.rw x hx)).2.2) (Nat.mul_le_mul_right _ T.ll)
  refine repr_ok (B := 1) (by decide) ?_ ?_ ?_
  · simp [tb, okd, okdA, o1, o2, o3]
  · simp only [tb, wt, wtA]
    exact Nat.le_trans (show _ ≤ 200000 by omega) (by decide)
  · simp only [tb, PyData.depth, PyData.depthAll]
    omega

/-! ### measures -/
def iOk : PyData → Bool
  | .int i => decide (i.natAbs ≤ 10 ^ 62)
  | _ => false
theorem iOk_w {x : PyData} (h : iOk x = true) : wOk x = true := by
  cases x with
  | int i => exact h
  | _ => simp [iOk] at h
structure M10 (xs ys : List PyData) : Prop where
  x : ∀ a ∈ xs, iOk a = true
  y : ∀ a ∈ ys, iOk a = true
  xl : xs.length ≤ 40
  yl : ys.length ≤ 40
def mline (xs ys : List PyData) : Str := Str.ofString "measure " ++ sw xs ++ Str.ofString " " ++ sw ys
theorem M10.lens {xs ys : List PyData} (M : M10 xs ys) : (sw xs).length ≤ 2600 ∧ (sw ys).length ≤ 2600 := ⟨sw_len (fun a h => iOk_w (M.x a h)) M.xl, sw_len (fun a h => iOk_w (M.y a h)) M.yl⟩
theorem mline_len {xs ys : List PyData} (M : M10 xs ys) : (mline xs ys).length ≤ 20000 := by
  obtain ⟨h1, h2⟩ := M.lens
  have e1 : (Str.ofString "measure ").length = 8 := by decide +kernel
  have e2 : (Str.ofString " ").length = 1 := by decide +kernel
  unfold mline
  rw [strLen_append, strLen_append, strLen_append]
  omega
theorem mline_ok {xs ys : List PyData} (M : M10 xs ys) : PyData.strOk (mline xs ys) = true := ok_app (ok_app (ok_app (ok_of _) (sw_ok fun a h => iOk_w (M.x a h))) (ok_of _)) (sw_ok fun a h => iOk_w (M.y a h))
section
variable {ρ : List (Option Vl)} {st : List Vl}
theorem r_4 {xs ys : List PyData} (M : M10 xs ys) : back ρ (c_4 [.d (.tuple [.tuple xs, .tuple ys])] st) = .ok (.d (.str (mline xs ys))) ⟨ρ, st⟩ := by
  obtain ⟨h1, h2⟩ := M.lens
  have e1 : (Str.ofString "measure ").length = 8 := by decide +kernel
  have e2 : (Str.ofString " ").length = 1 := by decide +kernel
  have q1 : (Str.ofString "measure ").length ≤ LIM := Nat.le_trans (show _ ≤ 20000 by omega) (by decide)
  have q2 : (Str.ofString "measure " ++ sw xs).length ≤ LIM := by rw [strLen_append]; exact Nat.le_trans (show _ ≤ 20000 by omega) (by decide)
  have q3 : (Str.ofString "measure " ++ sw xs ++ Str.ofString " ").length ≤ LIM := by rw [strLen_append, strLen_append]; exact Nat.le_trans (show _ ≤ 20000 by omega) (by decide)
  have q4 : (Str.ofString "measure " ++ sw xs ++ Str.ofString " " ++ sw ys).length ≤ LIM := Nat.le_trans (mline_len M) (by decide)
  have f1 : fmtD (.str (sw xs)) = some (.d (.str (sw xs))) := fmt_str (Nat.le_trans h1 (by decide))
  have f2 : fmtD (.str (sw ys)) = some (.d (.str (sw ys))) := fmt_str (Nat.le_trans h2 (by decide))
  have e0 := empty_str (Str.ofString "measure ")
  have r1 := fun ρ => r_2 (ρ := ρ) (st := st) (xs := xs) (fun a h => iOk_w (M.x a h)) M.xl
  have r2 := fun ρ => r_2 (ρ := ρ) (st := st) (xs := ys) (fun a h => iOk_w (M.y a h)) M.yl
  simp [c_4, e_4, e0, q1, q2, q3, q4, f1, f2, r1, r2, mline]
theorem strs_lc {v0 : Vl} {xs : List PyData} {k : Int} {L : List PyData} (h : ∀ a ∈ xs, iOk a = true) (hl : xs.length ≤ 40) (hk : L2.atI L k = some (.tuple xs)) :
    cLc [1] (iSeq (cRd 0 (cCon (.int k)))) (.nm 1) cYes (cArgs strD (cCons (cVar 1) cNil)) ⟨[some (.d (.tuple L)), none], st⟩ = .ok (.own (((xs.map wd).map PyData.str).map Vl.d)) ⟨[some (.d (.tuple L)), none], st⟩ := by
  have e := cLc_mapY (v := 1) (fi := iSeq (cRd 0 (cCon (.int k)))) (f := cArgs strD (cCons (cVar 1) cNil)) (s := ⟨[some (.d (.tuple L)), none], st⟩) (ρ := [some (.d (.tuple L)), none]) (st := st) (xs := xs) (fun x => .str (wd x))
    (by simp [cRd, isSet, plcGet, hk]) (by simp [notOwn]) (Nat.le_trans hl (by decide)) (fun x hx => by
      have hx := h x hx
      cases x with
      | int i =>
        simp only [iOk, decide_eq_true_eq] at hx
        simp [strD_int hx, wd]
      | _ => simp [iOk] at hx)
  rwa [map_str] at e
theorem r_13 {xs ys : List PyData} (M : M10 xs ys) : back ρ (c_13 [.d (.tuple [.tuple xs, .tuple ys])] st) = .ok (.d (.str (mline xs ys))) ⟨ρ, st⟩ := by
  obtain ⟨h1, h2⟩ := M.lens
  have e1 : (Str.ofString "measure ").length = 8 := by decide +kernel
  have e2 : (Str.ofString " ").length = 1 := by decide +kernel
  have l1 := strs_lc (v0 := .ref 0) (st := st) (L := [.tuple xs, .tuple ys]) (k := 0) M.x M.xl rfl
  have l2 := strs_lc (v0 := .ref 0) (st := st) (L := [.tuple xs, .tuple ys]) (k := 1) M.y M.yl rfl
  have j1 := joinD_l (a := Str.ofString ",") (ss := xs.map wd) (sum_ok (L := 64) _ (fun a h => iOk_w (M.x a h)) (fun x => wd_len) (by have := M.xl; omega) (by decide))
  have j2 := joinD_l (a := Str.ofString ",") (ss := ys.map wd) (sum_ok (L := 64) _ (fun a h => iOk_w (M.y a h)) (fun x => wd_len) (by have := M.yl; omega) (by decide))
  have a1 : addD (.str (Str.ofString "measure ")) (.str (sw xs)) = some (.d (.str (Str.ofString "measure " ++ sw xs))) := add_strE (Nat.le_trans (show _ ≤ 20000 by omega) (by decide))
  have a2 : addD (.str (Str.ofString "measure " ++ sw xs)) (.str (Str.ofString " ")) = some (.d (.str (Str.ofString "measure " ++ sw xs ++ Str.ofString " "))) := add_strE (by rw [strLen_append]; exact Nat.le_trans (show _ ≤ 20000 by omega) (by decide))
  have a3 : addD (.str (Str.ofString "measure " ++ sw xs ++ Str.ofString " ")) (.str (sw ys)) = some (.d (.str (mline xs ys))) := add_strE (by rw [strLen_append, strLen_append]; exact Nat.le_trans (show _ ≤ 20000 by omega) (by decide))
  unfold sw at a1 a2 a3
  generalize xs.map wd = us at l1 j1 a1 a2 a3
  generalize ys.map wd = vs at l2 j2 a3
  simp [c_13, e_13, l1, l2, j1, j2, a1, a2, a3]
end
end Lw

/-! k10: the law. -/
namespace Lw
open PySem L2 Ev
def b1_16 : FS := sSeq (sDrop (cMut 3 appD (cCons (cIf (cBin eqD (cBin modD (cArgs intD (cCons (cVar 4) (cNil))) (cCon (.int 2))) (cCon (.int 0))) (cCall c_8 (cCons (cVar 1) (cNil))) (cCall c_14 (cCons (cVar 1) (cNil)))) (cNil)))) (sNil)
def b2_16 : FS := sSeq (sAsg 6 (cArgs reprD (cCons (cVar 5) (cNil)))) (sSeq (sIf (cT (cOr (cBin neD (cArgs reprD (cCons (cCall c_3 (cCons (cVar 5) (cNil))) (cNil))) (cArgs reprD (cCons (cCall c_12 (cCons (cVar 5) (cNil))) (cNil)))) (cBin neD (cArgs reprD (cCons (cVar 5) (cNil))) (cVar 6)))) (sSeq (sRet (cCon (.bool false))) (sNil)) (sNil)) (sNil))
def b3_16 : FS := sSeq (sDrop (cMut 7 appD (cCons (cCall c_9 (cCons (cVar 1) (cCons (cBin addD (cCon (.int 1)) (cCall c_6 (cCons (cVar 1) (cCons (cCon (.int 5)) (cNil))))) (cCons (cBin addD (cCon (.int 1)) (cCall c_6 (cCons (cVar 1) (cCons (cCon (.int 5)) (cNil))))) (cNil))))) (cNil)))) (sNil)
def b4_16 : FS := sSeq (sAsg 6 (cArgs reprD (cCons (cVar 8) (cNil)))) (sSeq (sIf (cT (cOr (cBin neD (cArgs reprD (cCons (cCall c_4 (cCons (cVar 8) (cNil))) (cNil))) (cArgs reprD (cCons (cCall c_13 (cCons (cVar 8) (cNil))) (cNil)))) (cBin neD (cArgs reprD (cCons (cVar 8) (cNil))) (cVar 6)))) (sSeq (sRet (cCon (.bool false))) (sNil)) (sNil)) (sNil))
theorem e16 : e_16 = sSeq (sShare 1 (cCall c_5 (cCons (cVar 0) (cNil)))) (sSeq (sPar2 2 3 (cCons (cBin powD (cCon (.int 10)) (cCon (.int 59))) (cCons (cBin addD (cCall c_10 cNil) (cArgs lstD (cCons (cCall c_15 cNil) (cCons (cArgs tupD (cCons (cArgs tupD (cNil)) (cCons (cArgs tupD (cCons (cCon (.str "a")) (cNil))) (cCons (cArgs tupD (cNil)) (cNil))))) (cNil))))) (cNil)))) (sSeq (sFor (.nm 4) (iArgs rng1 (cCons (cCon (.int 10)) (cNil))) b1_16) (sSeq (sFor (.nm 5) (iSeq (cVar 3)) b2_16) (sSeq (sAsg 7 (cArgs lstD (cCons (cArgs tupD (cCons (cArgs tupD (cCons (cCon (.int 0)) (cNil))) (cCons (cArgs tupD (cCons (cCon (.int 0)) (cNil))) (cNil)))) (cCons (cArgs tupD (cCons (cArgs tupD (cCons (cVar 2) (cCons (cCon (.int 0)) (cCons (cCon (.int 12)) (cNil))))) (cCons (cArgs tupD (cCons (cCon (.int 7)) (cNil))) (cNil)))) (cCons (cArgs tupD (cCons (cArgs tupD (cCons (cBin mulX (cCon (.int 9)) (cVar 2)) (cNil))) (cCons (cArgs tupD (cCons (cCon (.int 1)) (cCons (cCon (.int 0)) (cCons (cVar 2) (cNil))))) (cNil)))) (cNil)))))) (sSeq (sAsg 7 (cBin addD (cVar 7) (cArgs lstD (cCons (cArgs tupD (cCons (cUn trgD (cCon (.int 30))) (cCons (cUn backD (cUn trgD (cCon (.int 30)))) (cNil)))) (cNil))))) (sSeq (sFor (.nm 4) (iArgs rng1 (cCons (cCon (.int 6)) (cNil))) b3_16) (sSeq (sFor (.nm 8) (iSeq (cVar 7)) b4_16) (sSeq (sRet (cBin eqD (cArgs lstD (cCons (cCall c_0 (cCons (cCon (.int 1)) (cNil))) (cCons (cCall c_0 (cCons (cCon (.int 0)) (cNil))) (cCons (cCall c_0 (cCons (cCon .none) (cNil))) (cNil))))) (cArgs lstD (cCons (cCon (.str "1")) (cCons (cCon (.str "0")) (cCons (cCon (.str "?")) (cNil))))))) (sNil))))))))) := rfl
def l14 : FS := sSeq (sDrop (cMut 3 appD (cCons (cArgs tupleD (cCons (cLc [5] (iArgs rng1 (cCons (cCall c_6 (cCons (cVar 0) (cCons (cCon (.int 6)) (cNil)))) (cNil))) (.nm 5) (cYes) (cBin ixD (cArgs lstD (cCons (cCon (.int 1)) (cCons (cCon (.int 0)) (cCons (cCon .none) (cNil))))) (cCall c_6 (cCons (cVar 0) (cCons (cCon (.int 3)) (cNil)))))) (cNil))) (cNil)))) (sNil)
theorem e14 : e_14 = sSeq (sAsg 1 (cSlc (cArgs tupD (cCons (cCon (.str "team")) (cCons (cCon (.str "basic")) (cCons (cCon (.str "basic")) (cCons (cCon (.str "row")) (cCons (cCon (.str "gates")) (cNil))))))) (some (cCall c_6 (cCons (cVar 0) (cCons (cCon (.int 6)) (cNil))))) (none))) (sSeq (sAsg 2 (cSlc (cArgs tupD (cCons (cCon (.str "x")) (cCons (cCon (.str "a")) (cCons (cCon (.str "a")) (cCons (cCon (.str "measure")) (cNil)))))) (some (cCall c_6 (cCons (cVar 0) (cCons (cCon (.int 4)) (cNil))))) (none))) (sSeq (sAsg 3 (cArgs lstD (cNil))) (sSeq (sFor (.nm 4) (iSeq (cVar 1)) l14) (sSeq (sRet (cArgs tupD (cCons (cVar 1) (cCons (cVar 2) (cCons (cArgs tupleD (cCons (cVar 3) (cNil))) (cNil)))))) (sNil))))) := rfl
def t10B : PyData → Bool
  | .tuple [.tuple ps, .tuple ds, .tuple ls] => ps.all nmOk && ds.all nmOk && ls.all rowR && decide (ps.length ≤ 40) && decide (ds.length ≤ 40) && decide (ls.length ≤ 40)
  | _ => false
theorem t10B_ok {t : PyData} (h : t10B t = true) : ∃ ps ds ls, t = tb ps ds ls ∧ T10 ps ds ls := by
  unfold t10B at h
  split at h
  · rename_i ps ds ls
    simp only [Bool.and_eq_true, decide_eq_true_eq, List.all_eq_true] at h
    exact ⟨ps, ds, ls, rfl, h.1.1.1.1.1, h.1.1.1.1.2, h.1.1.1.2, h.1.1.2, h.1.2, h.2⟩
  · cases h
def m10B : PyData → Bool
  | .tuple [.tuple xs, .tuple ys] => xs.all iOk && ys.all iOk && decide (xs.length ≤ 40) && decide (ys.length ≤ 40)
  | _ => false
theorem m10B_ok {t : PyData} (h : m10B t = true) : ∃ xs ys, t = .tuple [.tuple xs, .tuple ys] ∧ M10 xs ys := by
  unfold m10B at h
  split at h
  · rename_i xs ys
    simp only [Bool.and_eq_true, decide_eq_true_eq, List.all_eq_true] at h
    exact ⟨xs, ys, rfl, h.1.1.1, h.1.1.2, h.1.2, h.2⟩
  · cases h
/-! a loose table -/
def ps14 : List PyData := [.str "team", .str "basic", .str "basic", .str "row", .str "gates"]
def ds14 : List PyData := [.str "x", .str "a", .str "a", .str "measure"]
def mk14 : List PyData := [.int 1, .int 0, .none]
theorem mk14_ok : ∀ y ∈ mk14, mkOk y = true := List.all_eq_true.mp (by decide +kernel)
theorem cut_mem {xs : List PyData} {lo hi : Option Int} {x : PyData} (h : x ∈ cutD xs lo hi) : x ∈ xs := List.mem_of_mem_drop (List.mem_of_mem_take h)
theorem cut_le (xs : List PyData) (lo hi : Option Int) : (cutD xs lo hi).length ≤ xs.length := by
  unfold cutD
  rw [List.length_take, List.length_drop]
  omega
theorem l14_is {v1 v2 : Option Vl} {ls : List PyData} {x : PyData} {st : List Vl} {N : Int} (hR : Rd N st) (hN : N ≤ 2 ^ 39) (hl : ls.length ≤ 100) :
    ∃ (ys : List PyData) (st' : List Vl), rowR (.tuple ys) = true ∧ Rd (N + 20) st' ∧ l14 ⟨[some (.ref 0), v1, v2, some (.own (ls.map Vl.d)), some (.d x), none], st⟩ = .ok .nx ⟨[some (.ref 0), v1, v2, some (.own ((ls ++ [PyData.tuple ys]).map Vl.d)), some (.d x), none], st'⟩ := by
  obtain ⟨k, st1, k0, k1, R1, e1⟩ := dr hR (by omega) (m := 6) (by decide) (by decide)
  obtain ⟨n, rfl⟩ : ∃ n : Nat, k = n := ⟨k.toNat, by omega⟩
  have hr := rng1_ok (n := n) (by omega)
  obtain ⟨ys, st2, h1, h2, R2, e2⟩ := cLc_rd (v := 5) (fi := iArgs rng1 (cCons (cCall c_6 (cCons (cVar 0) (cCons (cCon (.int 6)) (cNil)))) (cNil))) (f := cBin ixD (cArgs lstD (cCons (cCon (.int 1)) (cCons (cCon (.int 0)) (cCons (cCon .none) (cNil))))) (cCall c_6 (cCons (cVar 0) (cCons (cCon (.int 3)) (cNil)))))
    (s := ⟨[some (.ref 0), v1, v2, some (.own (ls.map Vl.d)), some (.d x), none], st⟩) (ρ := [some (.ref 0), v1, v2, some (.own (ls.map Vl.d)), some (.d x), none]) (st := st1) (xs := rangeD 0 n) 1 (fun y => mkOk y = true)
    (by simp [e1, hr]) (by simp [notOwn]) (by rw [rangeD_len]; omega) R1 (by rw [rangeD_len]; omega) fun z _ M st hM hM2 => by
      obtain ⟨j, st', j0, j1, R', e⟩ := dr hM hM2 (m := 3) (by decide) (by decide)
      obtain ⟨y, _, q2, q3⟩ := atI_ok (xs := mk14) j0 (show j < (mk14.length : Int) by show j < 3; omega)
      unfold mk14 at q2
      exact ⟨y, st', mk14_ok y q3, R', by simp [lstD, LIM, e, q2]⟩
  rw [rangeD_len] at h1 R2
  have hlim : ls.length < LIM := Nat.lt_of_le_of_lt hl (by decide)
  refine ⟨ys, st2, ?_, R2.mono (by omega), ?_⟩
  · simp only [rowR, Bool.and_eq_true, decide_eq_true_eq, List.all_eq_true]
    exact ⟨h2, by omega⟩
  · simp [l14, cMut, plcGet, plcSet, e2, appD, hlim]
theorem loose {N : Int} {st : List Vl} (hR : Rd N st) (hN : N ≤ 2 ^ 38) : ∃ (ps ds ls : List PyData) (st' : List Vl), T10 ps ds ls ∧ Rd (N + 2000) st' ∧ ∀ ρ, back ρ (c_14 [.ref 0] st) = .ok (.d (tb ps ds ls)) ⟨ρ, st'⟩ := by
  obtain ⟨k1, st1, _, _, R1, e1⟩ := dr hR (by omega) (m := 6) (by decide) (by decide)
  obtain ⟨k2, st2, _, _, R2, e2⟩ := dr R1 (by omega) (m := 4) (by decide) (by decide)
  have hp : ∀ x ∈ cutD ps14 (some k1) none, nmOk x = true := fun x hx => List.all_eq_true.mp (show ps14.all nmOk = true by decide +kernel) x (cut_mem hx)
  have hd : ∀ x ∈ cutD ds14 (some k2) none, nmOk x = true := fun x hx => List.all_eq_true.mp (show ds14.all nmOk = true by decide +kernel) x (cut_mem hx)
  have lp := cut_le ps14 (some k1) none
  have ld := cut_le ds14 (some k2) none
  have l5 : ps14.length = 5 := rfl
  have l4 : ds14.length = 4 := rfl
  generalize hP : cutD ps14 (some k1) none = P at hp lp
  generalize hD : cutD ds14 (some k2) none = D at hd ld
  obtain ⟨s', es, ls, a4, st', rfl, g1, g2, g3⟩ := for_inv (t := .nm 4) (f := l14)
    (fun i s => ∃ (ls : List PyData) (a4 : Option Vl) (st : List Vl), s = ⟨[some (.ref 0), some (.d (.tuple P)), some (.d (.tuple D)), some (.own (ls.map Vl.d)), a4, none], st⟩ ∧ ls.length = i ∧ (∀ r ∈ ls, rowR r = true) ∧ Rd (N + 2 + 20 * (i : Int)) st)
    P 0 ⟨[some (.ref 0), some (.d (.tuple P)), some (.d (.tuple D)), some (.own []), none, none], st2⟩ ⟨[], none, st2, rfl, rfl, by simp, R2.mono (by omega)⟩ fun j x s hj hs => by
      obtain ⟨ls, a4, st, rfl, g1, g2, g3⟩ := hs
      have hjl := (List.getElem?_eq_some_iff.mp hj).1
      rw [Nat.zero_add] at g1 g3
      obtain ⟨ys, st', h1, R', e⟩ := l14_is (v1 := some (.d (.tuple P))) (v2 := some (.d (.tuple D))) (ls := ls) (x := x) g3 (by omega) (by omega)
      refine ⟨_, rfl, _, .inl e, ls ++ [.tuple ys], some (.d x), st', rfl, by simp [g1], fun z hz => ?_, R'.mono (by omega)⟩
      rcases List.mem_append.mp hz with h | h
      · exact g2 z h
      · rw [List.mem_singleton.mp h]; exact h1
  rw [Nat.zero_add] at g1 g3
  refine ⟨P, D, ls, st', ⟨hp, hd, g2, by omega, by omega, by omega⟩, g3.mono (by omega), fun ρ => ?_⟩
  show back ρ (runF 6 e_14 [.ref 0] st) = _
  rw [e14]
  unfold ps14 at hP
  unfold ds14 at hD
  simp [cSlc, cPart, slcD, e1, e2, hP, hD, lstD, tupD, LIM, es, tb]
end Lw

namespace Lw
open PySem L2 Ev
def far : Int := 10 ^ 59
def a16 : FS := sPar2 2 3 (cCons (cBin powD (cCon (.int 10)) (cCon (.int 59))) (cCons (cBin addD (cCall c_10 cNil) (cArgs lstD (cCons (cCall c_15 cNil) (cCons (cArgs tupD (cCons (cArgs tupD (cNil)) (cCons (cArgs tupD (cCons (cCon (.str "a")) (cNil))) (cCons (cArgs tupD (cNil)) (cNil))))) (cNil))))) (cNil)))
def lots0 : List PyData := match a16 ⟨[none, none, none, none, none, none, none, none, none], []⟩ with
  | .ok .nx ⟨[_, _, _, some (.own xs), _, _, _, _, _], _⟩ => (dat xs).getD []
  | _ => []
set_option maxHeartbeats 0 in
theorem lots0_all : lots0.all t10B = true := by decide +kernel
set_option maxHeartbeats 0 in
theorem lots0_len : decide (lots0.length ≤ 10) = true := by decide +kernel
set_option maxHeartbeats 0 in
theorem a16_is (v0 v1 v4 v5 v6 v7 v8 : Option Vl) (st : List Vl) : a16 ⟨[v0, v1, none, none, v4, v5, v6, v7, v8], st⟩ = .ok .nx ⟨[v0, v1, some (.d (.int far)), some (.own (lots0.map Vl.d)), v4, v5, v6, v7, v8], st⟩ := by kernel_rfl
def p16a : FS := sAsg 7 (cArgs lstD (cCons (cArgs tupD (cCons (cArgs tupD (cCons (cCon (.int 0)) (cNil))) (cCons (cArgs tupD (cCons (cCon (.int 0)) (cNil))) (cNil)))) (cCons (cArgs tupD (cCons (cArgs tupD (cCons (cVar 2) (cCons (cCon (.int 0)) (cCons (cCon (.int 12)) (cNil))))) (cCons (cArgs tupD (cCons (cCon (.int 7)) (cNil))) (cNil)))) (cCons (cArgs tupD (cCons (cArgs tupD (cCons (cBin mulX (cCon (.int 9)) (cVar 2)) (cNil))) (cCons (cArgs tupD (cCons (cCon (.int 1)) (cCons (cCon (.int 0)) (cCons (cVar 2) (cNil))))) (cNil)))) (cNil)))))
def p16b : FS := sAsg 7 (cBin addD (cVar 7) (cArgs lstD (cCons (cArgs tupD (cCons (cUn trgD (cCon (.int 30))) (cCons (cUn backD (cUn trgD (cCon (.int 30)))) (cNil)))) (cNil))))
def pairs0 : List PyData := match (sSeq p16a p16b) ⟨[none, none, some (.d (.int far)), none, none, none, none, none, none], []⟩ with
  | .ok .nx ⟨[_, _, _, _, _, _, _, some (.own xs), _], _⟩ => (dat xs).getD []
  | _ => []
set_option maxHeartbeats 0 in
theorem pairs0_all : pairs0.all m10B = true := by decide +kernel
set_option maxHeartbeats 0 in
theorem pairs0_len : decide (pairs0.length ≤ 10) = true := by decide +kernel
set_option maxHeartbeats 0 in
theorem p16_is (v0 v1 v3 v4 v5 v6 v8 : Option Vl) (st : List Vl) : (sSeq p16a p16b) ⟨[v0, v1, some (.d (.int far)), v3, v4, v5, v6, none, v8], st⟩ = .ok .nx ⟨[v0, v1, some (.d (.int far)), v3, v4, v5, v6, some (.own (pairs0.map Vl.d)), v8], st⟩ := by kernel_rfl
def z16 : F := cBin eqD (cArgs lstD (cCons (cCall c_0 (cCons (cCon (.int 1)) (cNil))) (cCons (cCall c_0 (cCons (cCon (.int 0)) (cNil))) (cCons (cCall c_0 (cCons (cCon .none) (cNil))) (cNil))))) (cArgs lstD (cCons (cCon (.str "1")) (cCons (cCon (.str "0")) (cCons (cCon (.str "?")) (cNil)))))
set_option maxHeartbeats 0 in
theorem z16_is (s : S) : z16 s = .ok (.d (.bool true)) s := by kernel_rfl
theorem seq_assoc (f g h : FS) (s : S) : sSeq f (sSeq g h) s = sSeq (sSeq f g) h s := by
  unfold sSeq
  cases f s with
  | ok fl s1 => cases fl <;> rfl
  | _ => rfl
theorem e16' : e_16 = sSeq (sShare 1 (cCall c_5 (cCons (cVar 0) (cNil)))) (sSeq a16 (sSeq (sFor (.nm 4) (iArgs rng1 (cCons (cCon (.int 10)) (cNil))) b1_16) (sSeq (sFor (.nm 5) (iSeq (cVar 3)) b2_16) (sSeq p16a (sSeq p16b (sSeq (sFor (.nm 4) (iArgs rng1 (cCons (cCon (.int 6)) (cNil))) b3_16) (sSeq (sFor (.nm 8) (iSeq (cVar 7)) b4_16) (sSeq (sRet z16) (sNil))))))))) := rfl
theorem t10_of {ps ds ls : List PyData} (T : Tb ps ds ls) : T10 ps ds ls := ⟨T.pn, T.dn, fun x hx => by
  have h := T.rw x hx
  cases x with
  | tuple ys =>
    simp only [rwOk, rowR, Bool.and_eq_true, decide_eq_true_eq] at h ⊢
    exact ⟨h.1, by have := T.d1; omega⟩
  | _ => simp [rwOk] at h, by have := T.p1; omega, by have := T.d1; omega, by have := T.ll; have := T.p1; omega⟩
def Is10 (t : PyData) : Prop := ∃ ps ds ls, t = tb ps ds ls ∧ T10 ps ds ls
def IsM (t : PyData) : Prop := ∃ xs ys, t = .tuple [.tuple xs, .tuple ys] ∧ M10 xs ys
theorem b2_is {v0 v1 v2 v3 v4 v6 v7 v8 : Option Vl} {t : PyData} {st : List Vl} (h : Is10 t) : ∃ w6 : Option Vl, b2_16 ⟨[v0, v1, v2, v3, v4, some (.d t), v6, v7, v8], st⟩ = .ok .nx ⟨[v0, v1, v2, v3, v4, some (.d t), w6, v7, v8], st⟩ := by
  obtain ⟨ps, ds, ls, rfl, T⟩ := h
  have h1 := tab_repr T
  have h2 := repr_str (page_ok T) (page_len T)
  have r3 := fun ρ => r_3 (ρ := ρ) (st := st) T
  have r12 := fun ρ => r_12 (ρ := ρ) (st := st) T
  simp [b2_16, h1, h2, r3, r12, ned_str]
theorem mea_repr {xs ys : List PyData} (M : M10 xs ys) : reprD [.tuple [.tuple xs, .tuple ys]] = some (.d (.str (PyData.tuple [.tuple xs, .tuple ys]).shown)) := by
  have key : ∀ {x : PyData}, iOk x = true → okd (10 ^ 62) x = true ∧ x.depth = 0 ∧ wt x = 70 := fun {x} h => by
    cases x with
    | int i => exact ⟨h, by simp [PyData.depth], by simp [wt]⟩
    | _ => simp [iOk] at h
  have o1 : okdA (10 ^ 62) xs = true := okdA_all.mpr fun x hx => (key (M.x x hx)).1
  have o2 : okdA (10 ^ 62) ys = true := okdA_all.mpr fun x hx => (key (M.y x hx)).1
  have d1 := depthA_le (n := 0) fun x hx => by rw [(key (M.x x hx)).2.1]; exact Nat.le_refl _
  have d2 := depthA_le (n := 0) fun x hx => by rw [(key (M.y x hx)).2.1]; exact Nat.le_refl _
  have w1 := Nat.le_trans (wtA_le (L := 70) fun x hx => Nat.le_of_eq (key (M.x x hx)).2.2) (Nat.mul_le_mul_right _ M.xl)
  have w2 := Nat.le_trans (wtA_le (L := 70) fun x hx => Nat.le_of_eq (key (M.y x hx)).2.2) (Nat.mul_le_mul_right _ M.yl)
  refine repr_ok (B := 10 ^ 62) (by decide) ?_ ?_ ?_
  · rw [okd, okdA, okdA, okdA, okd, okd, o1, o2]
    rfl
  · simp only [wt, wtA]
    exact Nat.le_trans (show _ ≤ 200000 by omega) (by decide)
  · simp only [PyData.depth, PyData.depthAll]
    omega
theorem b4_is {v0 v1 v2 v3 v4 v5 v6 v7 : Option Vl} {t : PyData} {st : List Vl} (h : IsM t) : ∃ w6 : Option Vl, b4_16 ⟨[v0, v1, v2, v3, v4, v5, v6, v7, some (.d t)], st⟩ = .ok .nx ⟨[v0, v1, v2, v3, v4, v5, w6, v7, some (.d t)], st⟩ := by
  obtain ⟨xs, ys, rfl, M⟩ := h
  have h1 := mea_repr M
  have h2 := repr_str (mline_ok M) (mline_len M)
  have r4 := fun ρ => r_4 (ρ := ρ) (st := st) M
  have r13 := fun ρ => r_13 (ρ := ρ) (st := st) M
  simp [b4_16, h1, h2, r4, r13, ned_str]
theorem law_ok : LawOk := by
  intro ns hl _
  have R0 : Rd 0 [rdr (ns.take 63) 0 0 0] := ⟨ns.take 63, 0, 0, 0, rfl, by omega, by omega, by rw [List.length_take]; omega⟩
  have n0 := of_decide_eq_true lots0_len
  have m0 := of_decide_eq_true pairs0_len
  obtain ⟨s1, E1, ls, a4, st1, rfl, g1, g2, g3⟩ := for_inv (t := .nm 4) (f := b1_16)
    (fun i s => ∃ (ls : List PyData) (a4 : Option Vl) (st : List Vl), s = ⟨[some (.d (.list (ns.map .int))), some (.ref 0), some (.d (.int far)), some (.own (ls.map Vl.d)), a4, none, none, none, none], st⟩ ∧ ls.length ≤ 10 + i ∧ (∀ t ∈ ls, Is10 t) ∧ Rd (2000 * (i : Int)) st)
    (rangeD 0 10) 0 ⟨[some (.d (.list (ns.map .int))), some (.ref 0), some (.d (.int far)), some (.own (lots0.map Vl.d)), none, none, none, none, none], [rdr (ns.take 63) 0 0 0]⟩
    ⟨lots0, none, _, rfl, n0, fun t ht => t10B_ok (List.all_eq_true.mp lots0_all t ht), R0.mono (by omega)⟩ fun j x s hj hs => by
      obtain ⟨ls, a4, st, rfl, g1, g2, g3⟩ := hs
      obtain ⟨hjl, rfl⟩ := rangeD_get 10 j hj
      rw [Nat.zero_add] at g1 g3
      have hlim : ls.length < LIM := Nat.lt_of_lt_of_le (show ls.length < 1000 by omega) (by decide)
      have done : ∀ (t : PyData) (st' : List Vl), Is10 t → Rd (2000 * (j : Int) + 2000) st' → b1_16 ⟨[some (.d (.list (ns.map .int))), some (.ref 0), some (.d (.int far)), some (.own (ls.map Vl.d)), some (.d (.int j)), none, none, none, none], st⟩ =
          .ok .nx ⟨[some (.d (.list (ns.map .int))), some (.ref 0), some (.d (.int far)), some (.own ((ls ++ [t]).map Vl.d)), some (.d (.int j)), none, none, none, none], st'⟩ →
          ∃ s1, Tg.set (.nm 4) (.int j) ⟨[some (.d (.list (ns.map .int))), some (.ref 0), some (.d (.int far)), some (.own (ls.map Vl.d)), a4, none, none, none, none], st⟩ = some s1 ∧ ∃ s2, (b1_16 s1 = .ok .nx s2 ∨ b1_16 s1 = .ok .cnt s2) ∧
            ∃ (ls : List PyData) (a4 : Option Vl) (st : List Vl), s2 = ⟨[some (.d (.list (ns.map .int))), some (.ref 0), some (.d (.int far)), some (.own (ls.map Vl.d)), a4, none, none, none, none], st⟩ ∧ ls.length ≤ 10 + (0 + j + 1) ∧ (∀ t ∈ ls, Is10 t) ∧ Rd (2000 * ((0 + j + 1 : Nat) : Int)) st :=
        fun t st' ht hR' e => ⟨_, rfl, _, .inl e, ls ++ [t], some (.d (.int j)), st', rfl, by rw [List.length_append, List.length_singleton]; omega, fun z hz => by
          rcases List.mem_append.mp hz with h | h
          · exact g2 z h
          · rw [List.mem_singleton.mp h]; exact ht, hR'.mono (by omega)⟩
      by_cases hp : (j : Int) % 2 = 0
      · obtain ⟨ps, ds, rs, us, ws, st', T, _, _, _, _, R', e⟩ := table g3 (by omega)
        exact done _ st' ⟨ps, ds, rs, rfl, t10_of T⟩ R' (by simp [b1_16, cMut, plcGet, plcSet, appD, intD, modD, hp, e, hlim])
      · obtain ⟨ps, ds, rs, st', T, R', e⟩ := loose g3 (by omega)
        exact done _ st' ⟨ps, ds, rs, rfl, T⟩ R' (by simp [b1_16, cMut, plcGet, plcSet, appD, intD, modD, hp, e, hlim])
  rw [rangeD_len] at g1 g3
  obtain ⟨s2, E2, a5, a6, rfl⟩ := for_all (t := .nm 5) (f := b2_16)
    (fun s => ∃ (a5 a6 : Option Vl), s = ⟨[some (.d (.list (ns.map .int))), some (.ref 0), some (.d (.int far)), some (.d (.list ls)), a4, a5, a6, none, none], st1⟩)
    ls ⟨[some (.d (.list (ns.map .int))), some (.ref 0), some (.d (.int far)), some (.d (.list ls)), a4, none, none, none, none], st1⟩ ⟨none, none, rfl⟩ fun x s hx hs => by
      obtain ⟨a5, a6, rfl⟩ := hs
      obtain ⟨w6, e⟩ := b2_is (v0 := some (.d (.list (ns.map .int)))) (v1 := some (.ref 0)) (v2 := some (.d (.int far))) (v3 := some (.d (.list ls))) (v4 := a4) (v6 := a6) (v7 := none) (v8 := none) (st := st1) (g2 x hx)
      exact ⟨_, rfl, _, .inl e, some (.d x), w6, rfl⟩
  obtain ⟨s3, E3, ps, b4, st3, rfl, k1, k2, k3⟩ := for_inv (t := .nm 4) (f := b3_16)
    (fun i s => ∃ (ps : List PyData) (a4 : Option Vl) (st : List Vl), s = ⟨[some (.d (.list (ns.map .int))), some (.ref 0), some (.d (.int far)), some (.d (.list ls)), a4, a5, a6, some (.own (ps.map Vl.d)), none], st⟩ ∧ ps.length ≤ 10 + i ∧ (∀ t ∈ ps, IsM t) ∧ Rd (20000 + 300 * (i : Int)) st)
    (rangeD 0 6) 0 ⟨[some (.d (.list (ns.map .int))), some (.ref 0), some (.d (.int far)), some (.d (.list ls)), a4, a5, a6, some (.own (pairs0.map Vl.d)), none], st1⟩
    ⟨pairs0, a4, st1, rfl, m0, fun t ht => m10B_ok (List.all_eq_true.mp pairs0_all t ht), g3.mono (by omega)⟩ fun j x s hj hs => by
      obtain ⟨ps, a4, st, rfl, k1, k2, k3⟩ := hs
      obtain ⟨hjl, rfl⟩ := rangeD_get 6 j hj
      rw [Nat.zero_add] at k1 k3
      have hlim : ps.length < LIM := Nat.lt_of_lt_of_le (show ps.length < 1000 by omega) (by decide)
      obtain ⟨p, st2, p0, p1, R2, e2⟩ := dr k3 (by omega) (m := 5) (by decide) (by decide)
      obtain ⟨q, st3, q0, q1, R3, e3⟩ := dr R2 (by omega) (m := 5) (by decide) (by decide)
      obtain ⟨xs, ys, st4, l1, l2, m1, m2, R4, e4⟩ := measure (a := (1 + p).toNat) (b := (1 + q).toNat) (by omega) (by omega) R3 (by omega)
      have c1 : ((1 + p).toNat : Int) = 1 + p := by omega
      have c2 : ((1 + q).toNat : Int) = 1 + q := by omega
      rw [c1, c2] at e4
      have i5 : ∀ y, small5 y → iOk y = true := fun y ⟨k, hk, h0, h1⟩ => by
        subst hk
        simp only [iOk, decide_eq_true_eq]
        omega
      refine ⟨_, rfl, _, .inl (by simp [b3_16, cMut, plcGet, plcSet, appD, e2, e3, e4, hlim]; rfl), ps ++ [.tuple [.tuple xs, .tuple ys]], some (.d (.int j)), st4, by simp, by rw [List.length_append, List.length_singleton]; omega, fun z hz => ?_, R4.mono (by omega)⟩
      rcases List.mem_append.mp hz with h | h
      · exact k2 z h
      · rw [List.mem_singleton.mp h]
        exact ⟨xs, ys, rfl, fun y hy => i5 y (m1 y hy), fun y hy => i5 y (m2 y hy), by omega, by omega⟩
  obtain ⟨s4, E4, c6, c8, rfl⟩ := for_all (t := .nm 8) (f := b4_16)
    (fun s => ∃ (a6 a8 : Option Vl), s = ⟨[some (.d (.list (ns.map .int))), some (.ref 0), some (.d (.int far)), some (.d (.list ls)), b4, a5, a6, some (.d (.list ps)), a8], st3⟩)
    ps ⟨[some (.d (.list (ns.map .int))), some (.ref 0), some (.d (.int far)), some (.d (.list ls)), b4, a5, a6, some (.d (.list ps)), none], st3⟩ ⟨a6, none, rfl⟩ fun x s hx hs => by
      obtain ⟨a6, a8, rfl⟩ := hs
      obtain ⟨w6, e⟩ := b4_is (v0 := some (.d (.list (ns.map .int)))) (v1 := some (.ref 0)) (v2 := some (.d (.int far))) (v3 := some (.d (.list ls))) (v4 := b4) (v5 := a5) (v6 := a6) (v7 := some (.d (.list ps))) (st := st3) (k2 x hx)
      exact ⟨_, rfl, _, .inl e, w6, some (.d x), rfl⟩
  have hr10 : rng1 [.int 10] = some (rangeD 0 10) := rng1_ok (n := 10) (by decide)
  have hr6 : rng1 [.int 6] = some (rangeD 0 6) := rng1_ok (n := 6) (by decide)
  refine ⟨⟨[some (.d (.list (ns.map .int))), some (.ref 0), some (.d (.int far)), some (.d (.list ls)), b4, a5, c6, some (.d (.list ps)), c8], st3⟩, ?_⟩
  show runF 9 e_16 [.d (.list (ns.map .int))] [] = _
  have rd := reader ns
  generalize ns.take 63 = zs at rd E1
  rw [e16']
  unfold rdr at rd E1
  have P := p16_is (some (.d (.list (ns.map .int)))) (some (.ref 0)) (some (.d (.list ls))) a4 a5 a6 none st1
  have seq : ∀ (h : FS) (s : S), sSeq p16a (sSeq p16b h) s = sSeq (sSeq p16a p16b) h s := fun h s => seq_assoc p16a p16b h s
  have unf : ∀ (f g : FS) (s s1 : S), f s = .ok .nx s1 → sSeq f g s = g s1 := fun f g s s1 e => by unfold sSeq; rw [e]
  have fin : (sSeq p16a (sSeq p16b (sSeq (sFor (.nm 4) (iArgs rng1 (cCons (cCon (.int 6)) (cNil))) b3_16) (sSeq (sFor (.nm 8) (iSeq (cVar 7)) b4_16) (sSeq (sRet z16) (sNil)))))) ⟨[some (.d (.list (ns.map .int))), some (.ref 0), some (.d (.int far)), some (.d (.list ls)), a4, a5, a6, none, none], st1⟩ =
      .ok (.ret (.d (.bool true))) ⟨[some (.d (.list (ns.map .int))), some (.ref 0), some (.d (.int far)), some (.d (.list ls)), b4, a5, c6, some (.d (.list ps)), c8], st3⟩ := by
    rw [seq, unf _ _ _ _ P]
    simp [hr6, E3, E4, z16_is]
  generalize (sSeq p16a (sSeq p16b (sSeq (sFor (.nm 4) (iArgs rng1 (cCons (cCon (.int 6)) (cNil))) b3_16) (sSeq (sFor (.nm 8) (iSeq (cVar 7)) b4_16) (sSeq (sRet z16) (sNil)))))) = rest at fin ⊢
  simp [rd, a16_is, hr10, E1, E2, fin]
end Lw

open PySem PySem.W PyProof.Rows
set_option maxHeartbeats 0 in
theorem PySem.Challenge.cw_bylevels_k10_texts_written_holds : PySem.Challenge.rw_bylevels_k10_texts_written.Holds := by
  w_on; o_law; k_head; (case hw => w_witness2)
  k_fill
  refine Ev.walk_ev (l := PySem.Challenge.rw_bylevels_k10_texts_written) (n := 63) (k := 4) (x := "_law_script") (XR := Ev.X0) (c := Lw.c_16) rfl (by decide) rfl ⟨rfl, by decide, by decide⟩ (fun w h Y => PySem.W.kIn_of Y) ?F Lw.law_ok
  case F =>
    intro w mg fa h KX G hmg
    refine' Lw.prg_mk KX G hmg ?a_0 ?l_0 ?k_0 ?p_0 ?a_1 ?l_1 ?k_1 ?p_1 ?a_2 ?l_2 ?k_2 ?p_2 ?a_3 ?l_3 ?k_3 ?p_3 ?a_4 ?l_4 ?k_4 ?p_4 ?a_5 ?l_5 ?k_5 ?p_5 ?a_6 ?l_6 ?k_6 ?p_6 ?a_7 ?l_7 ?k_7 ?p_7 ?a_8 ?l_8 ?k_8 ?p_8 ?a_9 ?l_9 ?k_9 ?p_9 ?a_10 ?l_10 ?k_10 ?p_10 ?a_11 ?l_11 ?k_11 ?p_11 ?a_12 ?l_12 ?k_12 ?p_12 ?a_13 ?l_13 ?k_13 ?p_13 ?a_14 ?l_14 ?k_14 ?p_14 ?a_15 ?l_15 ?k_15 ?p_15 ?a_16 ?l_16 ?k_16 ?p_16 ?z_int ?z_len ?z_range ?z_repr ?z_str ?z_tuple ?z_zip ?v_NO_MARKS ?v_UNKNOWN_WORD
    (case a_0 => k_is); (case l_0 => k_is); (case k_0 => k_is); (case p_0 => k_is); (case a_1 => k_is); (case l_1 => k_is); (case k_1 => k_is); (case p_1 => k_is); (case a_2 => k_is); (case l_2 => k_is); (case k_2 => k_is); (case p_2 => k_is); (case a_3 => k_is); (case l_3 => k_is); (case k_3 => k_is); (case p_3 => k_is); (case a_4 => k_is); (case l_4 => k_is); (case k_4 => k_is); (case p_4 => k_is); (case a_5 => k_is); (case l_5 => k_is); (case k_5 => k_is); (case p_5 => k_is); (case a_6 => k_is); (case l_6 => k_is); (case k_6 => k_is); (case p_6 => k_is); (case a_7 => k_is); (case l_7 => k_is); (case k_7 => k_is); (case p_7 => k_is); (case a_8 => k_is); (case l_8 => k_is); (case k_8 => k_is); (case p_8 => k_is); (case a_9 => k_is); (case l_9 => k_is); (case k_9 => k_is); (case p_9 => k_is); (case a_10 => k_is); (case l_10 => k_is); (case k_10 => k_is); (case p_10 => k_is); (case a_11 => k_is); (case l_11 => k_is); (case k_11 => k_is); (case p_11 => k_is); (case a_12 => k_is); (case l_12 => k_is); (case k_12 => k_is); (case p_12 => k_is); (case a_13 => k_is); (case l_13 => k_is); (case k_13 => k_is); (case p_13 => k_is); (case a_14 => k_is); (case l_14 => k_is); (case k_14 => k_is); (case p_14 => k_is); (case a_15 => k_is); (case l_15 => k_is); (case k_15 => k_is); (case p_15 => k_is); (case a_16 => k_is); (case l_16 => k_is); (case k_16 => k_is); (case p_16 => k_is); (case z_int => k_is); (case z_len => k_is); (case z_range => k_is); (case z_repr => k_is); (case z_str => k_is); (case z_tuple => k_is); (case z_zip => k_is); (case v_NO_MARKS => k_is); (case v_UNKNOWN_WORD => k_is)
