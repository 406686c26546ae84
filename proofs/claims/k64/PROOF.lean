import PyProof.Rows.All
import Wide.All
import OpenK.AllK
import Wide.FinOn
import HandS.ForMost
import HandS.Star
import HandS.Wide
import HandS.Gcd
import HandS.Flow
import HandS.Defaults
import HandS.TupAny
import KE.DataEq
import KE.DataCmp
import HandS.TupMul
import HandS.Style
import KE.DataIsa
import HandS.IsInst
import HandS.WordsDict
import HandS.Walk
import HandS.WordsExc
import HandS.ExcOwn
import KE.GoesEnumKw
import KE.GoesZip
import HandS.Iter
import HandS.SortKw
import HandS.HeadHook2
import HandS.HeadHook3
import KE.DataFind
import KE.KDictZip
import PyProof.ListNew
import HandS.TupSets
import KE.KDictKeyed
import KE.SortData
import HandS.IterVal
import HandS.Head0
import HandS.Head1
import HandS.Head2
import HandS.Head3
import HandS.HeadEnd
import KE.KStateDown
import PyProof.ReprRoads
import PySem.Challenge.RW_sweptfree_k64_whole_lean_ways
set_option Elab.async false
set_option linter.all false
set_option maxRecDepth 100000
namespace Ev
open PySem L2

/-! addresses of the evaluator's own store -/
inductive Ps where
  | h | o (p : Ps) | i (p : Ps)
  deriving DecidableEq
namespace Ps
def succ : Ps → Ps
  | .h => .o .h
  | .o p => .i p
  | .i p => .o p.succ
def nat : Ps → Nat
  | .h => 1
  | .o p => 2 * p.nat
  | .i p => 2 * p.nat + 1
theorem nat_pos : ∀ p : Ps, 0 < p.nat
  | .h => by simp [nat]
  | .o p => by have := nat_pos p; simp [nat]; omega
  | .i p => by simp [nat]
theorem nat_succ : ∀ p : Ps, p.succ.nat = p.nat + 1
  | .h => rfl
  | .o p => rfl
  | .i p => by simp [succ, nat, nat_succ p]; omega
theorem nat_inj : ∀ {p q : Ps}, p.nat = q.nat → p = q
  | .h, .h, _ => rfl
  | .h, .o q, e => by have := nat_pos q; simp [nat] at e; omega
  | .h, .i q, e => by have := nat_pos q; simp [nat] at e; omega
  | .o p, .h, e => by have := nat_pos p; simp [nat] at e; omega
  | .o p, .o q, e => by rw [nat_inj (p := p) (q := q) (by simp [nat] at e; omega)]
  | .o p, .i q, e => by simp [nat] at e; omega
  | .i p, .h, e => by have := nat_pos p; simp [nat] at e; omega
  | .i p, .o q, e => by simp [nat] at e; omega
  | .i p, .i q, e => by rw [nat_inj (p := p) (q := q) (by simp [nat] at e; omega)]
end Ps

inductive Tri (α : Type) where
  | nil | node (l : Tri α) (v : Option α) (r : Tri α)
namespace Tri
variable {α : Type}
def get : Ps → Tri α → Option α
  | .h, .node _ v _ => v
  | .h, .nil => none
  | .o p, .node l _ _ => get p l
  | .o _, .nil => none
  | .i p, .node _ _ r => get p r
  | .i _, .nil => none
def set : Ps → α → Tri α → Tri α
  | .h, x, .node l _ r => .node l (some x) r
  | .h, x, .nil => .node .nil (some x) .nil
  | .o p, x, .node l v r => .node (set p x l) v r
  | .o p, x, .nil => .node (set p x .nil) none .nil
  | .i p, x, .node l v r => .node l v (set p x r)
  | .i p, x, .nil => .node .nil none (set p x .nil)
theorem get_nil : ∀ p : Ps, (Tri.nil : Tri α).get p = none
  | .h => rfl
  | .o _ => rfl
  | .i _ => rfl
theorem get_set_same : ∀ (p : Ps) (x : α) (t : Tri α), (t.set p x).get p = some x
  | .h, _, .nil => rfl
  | .h, _, .node _ _ _ => rfl
  | .o p, x, .nil => get_set_same p x .nil
  | .o p, x, .node l _ _ => get_set_same p x l
  | .i p, x, .nil => get_set_same p x .nil
  | .i p, x, .node _ _ r => get_set_same p x r
theorem get_set_ne : ∀ (p q : Ps) (x : α) (t : Tri α), p ≠ q → (t.set p x).get q = t.get q
  | .h, .h, _, _, n => absurd rfl n
  | .h, .o q, _, .nil, _ => by show (Tri.nil : Tri α).get q = none; exact get_nil q
  | .h, .o _, _, .node _ _ _, _ => rfl
  | .h, .i q, _, .nil, _ => by show (Tri.nil : Tri α).get q = none; exact get_nil q
  | .h, .i _, _, .node _ _ _, _ => rfl
  | .o _, .h, _, .nil, _ => rfl
  | .o _, .h, _, .node _ _ _, _ => rfl
  | .o p, .o q, x, .nil, n => by
    show ((Tri.nil : Tri α).set p x).get q = none
    rw [get_set_ne p q x .nil (fun e => n (by rw [e])), get_nil]
  | .o p, .o q, x, .node l _ _, n => get_set_ne p q x l fun e => n (by rw [e])
  | .o _, .i q, _, .nil, _ => by show (Tri.nil : Tri α).get q = none; exact get_nil q
  | .o _, .i _, _, .node _ _ _, _ => rfl
  | .i _, .h, _, .nil, _ => rfl
  | .i _, .h, _, .node _ _ _, _ => rfl
  | .i _, .o q, _, .nil, _ => by show (Tri.nil : Tri α).get q = none; exact get_nil q
  | .i _, .o _, _, .node _ _ _, _ => rfl
  | .i p, .i q, x, .nil, n => by
    show ((Tri.nil : Tri α).set p x).get q = none
    rw [get_set_ne p q x .nil (fun e => n (by rw [e])), get_nil]
  | .i p, .i q, x, .node _ _ r, n => get_set_ne p q x r fun e => n (by rw [e])
end Tri

/-! values: trees; what can be changed stands in the store -/
inductive D where
  | non | bl (b : Bool) | int (i : Int) | str (s : List Nat) | tup (ds : List D) | ref (p : Ps)
inductive O where
  | lst (xs : List D)
  | frz (xs : List D)
  | dct (kvs : List (Key × D))
  | ins (c : Nat) (fs : List (Str × D))
structure S where
  t : Tri O
  n : Ps
namespace S
def get (s : S) (p : Ps) : Option O := s.t.get p
def set (s : S) (p : Ps) (o : O) : S := ⟨s.t.set p o, s.n⟩
def push (s : S) (o : O) : S := ⟨s.t.set s.n o, s.n.succ⟩
theorem get_set_same (s : S) (p : Ps) (o : O) : (s.set p o).get p = some o := Tri.get_set_same _ _ _
theorem get_set_ne {s : S} {p q : Ps} {o : O} (h : p ≠ q) : (s.set p o).get q = s.get q := Tri.get_set_ne _ _ _ _ h
theorem get_push_same (s : S) (o : O) : (s.push o).get s.n = some o := Tri.get_set_same _ _ _
theorem get_push_ne {s : S} {q : Ps} {o : O} (h : s.n ≠ q) : (s.push o).get q = s.get q := Tri.get_set_ne _ _ _ _ h
end S
abbrev Ro := Ps → Option Addr
def strV (s : List Nat) : V := .str ⟨s.toArray⟩
section
variable (K : PySem.W.Frag) (ro : Ro) (H : Hp)
mutual
inductive Rep : D → V → Prop
  | non : Rep .non .non
  | bl (b : Bool) : Rep (.bl b) (.bl b)
  | int (i : Int) : Rep (.int i) (.int i)
  | str (s : List Nat) : Rep (.str s) (strV s)
  | tup {ds : List D} {a : Addr} {vs : List V} : SqT K H a vs → Reps ds vs → Rep (.tup ds) (.ref a)
  | ref {p : Ps} {a : Addr} : ro p = some a → Rep (.ref p) (.ref a)
inductive Reps : List D → List V → Prop
  | nil : Reps [] []
  | cons {d : D} {ds : List D} {v : V} {vs : List V} : Rep d v → Reps ds vs → Reps (d :: ds) (v :: vs)
end
end
/-- what tuples there are stays, the numbers' addresses stay -/
structure Ext (K : PySem.W.Frag) (ro : Ro) (H : Hp) (ro' : Ro) (H' : Hp) : Prop where
  tup : ∀ a vs, SqT K H a vs → SqT K H' a vs
  ro : ∀ p a, ro p = some a → ro' p = some a
section
variable {K : PySem.W.Frag} {ro ro' ro2 : Ro} {H H' H2 : Hp}
theorem Ext.refl : Ext K ro H ro H := ⟨fun _ _ h => h, fun _ _ h => h⟩
theorem Ext.trans (a : Ext K ro H ro' H') (b : Ext K ro' H' ro2 H2) : Ext K ro H ro2 H2 := ⟨fun x y h => b.tup x y (a.tup x y h), fun x y h => b.ro x y (a.ro x y h)⟩
mutual
theorem Rep.mono (e : Ext K ro H ro' H') : ∀ (d : D) (v : V), Rep K ro H d v → Rep K ro' H' d v
  | .non, _, h => by cases h; exact .non
  | .bl b, _, h => by cases h; exact .bl b
  | .int i, _, h => by cases h; exact .int i
  | .str s, _, h => by cases h; exact .str s
  | .tup ds, _, h => by
    cases h with
    | tup h1 h2 => exact .tup (e.tup _ _ h1) (Reps.mono e ds _ h2)
  | .ref p, _, h => by
    cases h with
    | ref h1 => exact .ref (e.ro _ _ h1)
theorem Reps.mono (e : Ext K ro H ro' H') : ∀ (ds : List D) (vs : List V), Reps K ro H ds vs → Reps K ro' H' ds vs
  | [], _, h => by cases h; exact .nil
  | d :: ds, _, h => by
    cases h with
    | cons h1 h2 => exact .cons (Rep.mono e d _ h1) (Reps.mono e ds _ h2)
end
theorem Reps.length : ∀ {ds : List D} {vs : List V}, Reps K ro H ds vs → ds.length = vs.length
  | [], _, h => by cases h; rfl
  | _ :: _, _, h => by
    cases h with
    | cons _ h2 => simp [Reps.length h2]
theorem Reps.get : ∀ {ds : List D} {vs : List V} {i : Nat} {d : D}, Reps K ro H ds vs → ds[i]? = some d → ∃ v, vs[i]? = some v ∧ Rep K ro H d v
  | [], _, _, _, _, e => by simp at e
  | _ :: _, _, 0, _, h, e => by
    cases h with
    | cons h1 _ => simp at e; subst e; exact ⟨_, rfl, h1⟩
  | _ :: _, _, i + 1, _, h, e => by
    cases h with
    | cons _ h2 =>
      obtain ⟨v, e1, e2⟩ := Reps.get (i := i) h2 (by simpa using e)
      exact ⟨v, by simpa using e1, e2⟩
theorem Reps.get' : ∀ {ds : List D} {vs : List V} {i : Nat} {v : V}, Reps K ro H ds vs → vs[i]? = some v → ∃ d, ds[i]? = some d ∧ Rep K ro H d v
  | [], _, _, _, h, e => by cases h; simp at e
  | _ :: _, _, 0, _, h, e => by
    cases h with
    | cons h1 _ => simp at e; subst e; exact ⟨_, rfl, h1⟩
  | _ :: _, _, i + 1, _, h, e => by
    cases h with
    | cons _ h2 =>
      obtain ⟨v, e1, e2⟩ := Reps.get' (i := i) h2 (by simpa using e)
      exact ⟨v, by simpa using e1, e2⟩
theorem Reps.append : ∀ {ds es : List D} {vs us : List V}, Reps K ro H ds vs → Reps K ro H es us → Reps K ro H (ds ++ es) (vs ++ us)
  | [], _, _, _, h, q => by cases h; exact q
  | _ :: _, _, _, _, h, q => by
    cases h with
    | cons h1 h2 => exact .cons h1 (Reps.append h2 q)
theorem Reps.take : ∀ {ds : List D} {vs : List V} (n : Nat), Reps K ro H ds vs → Reps K ro H (ds.take n) (vs.take n)
  | _, _, 0, _ => by simp; exact .nil
  | [], _, n + 1, h => by cases h; exact .nil
  | _ :: _, _, n + 1, h => by
    cases h with
    | cons h1 h2 => exact .cons h1 (Reps.take n h2)
theorem Reps.drop : ∀ {ds : List D} {vs : List V} (n : Nat), Reps K ro H ds vs → Reps K ro H (ds.drop n) (vs.drop n)
  | _, _, 0, h => h
  | [], _, n + 1, h => by cases h; exact .nil
  | _ :: _, _, n + 1, h => by
    cases h with
    | cons h1 h2 => exact Reps.drop n h2
theorem Reps.reverse : ∀ {ds : List D} {vs : List V}, Reps K ro H ds vs → Reps K ro H ds.reverse vs.reverse
  | [], _, h => by cases h; exact .nil
  | _ :: _, _, h => by
    cases h with
    | cons h1 h2 => rw [List.reverse_cons, List.reverse_cons]; exact (Reps.reverse h2).append (.cons h1 .nil)
theorem Reps.set {d : D} {v : V} (r : Rep K ro H d v) : ∀ {ds : List D} {vs : List V} (i : Nat), Reps K ro H ds vs → Reps K ro H (ds.set i d) (vs.set i v)
  | [], _, _, h => by cases h; exact .nil
  | _ :: _, _, 0, h => by
    cases h with
    | cons _ h2 => exact .cons r h2
  | _ :: _, _, i + 1, h => by
    cases h with
    | cons h1 h2 => exact .cons h1 (Reps.set r i h2)
theorem Reps.dropLast {ds : List D} {vs : List V} (h : Reps K ro H ds vs) : Reps K ro H ds.dropLast vs.dropLast := by
  rw [List.dropLast_eq_take, List.dropLast_eq_take, ← h.length]
  exact h.take _
theorem Reps.eraseIdx : ∀ {ds : List D} {vs : List V} (i : Nat), Reps K ro H ds vs → Reps K ro H (ds.eraseIdx i) (vs.eraseIdx i)
  | [], _, _, h => by cases h; exact .nil
  | _ :: _, _, 0, h => by
    cases h with
    | cons _ h2 => exact h2
  | _ :: _, _, i + 1, h => by
    cases h with
    | cons h1 h2 => exact .cons h1 (Reps.eraseIdx i h2)
end
/-- pairs of a dict -/
inductive RepK (K : PySem.W.Frag) (ro : Ro) (H : Hp) : List (Key × D) → List (Key × V) → Prop
  | nil : RepK K ro H [] []
  | cons {k : Key} {d : D} {v : V} {ds : List (Key × D)} {vs : List (Key × V)} : Rep K ro H d v → RepK K ro H ds vs → RepK K ro H ((k, d) :: ds) ((k, v) :: vs)
inductive RepF (K : PySem.W.Frag) (ro : Ro) (H : Hp) : List (Str × D) → List (Str × V) → Prop
  | nil : RepF K ro H [] []
  | cons {k : Str} {d : D} {v : V} {ds : List (Str × D)} {vs : List (Str × V)} : Rep K ro H d v → RepF K ro H ds vs → RepF K ro H ((k, d) :: ds) ((k, v) :: vs)
/-- an object of the store stands at a; Cl: the address of the class with a number -/
inductive ORep (K : PySem.W.Frag) (Cl : Nat → Addr) (ro : Ro) (H : Hp) (a : Addr) : O → Prop
  | lst {xs : List D} {vs : List V} : H a = some (.lst vs) → Reps K ro H xs vs → ORep K Cl ro H a (.lst xs)
  | frz {xs : List D} {vs : List V} : ((∃ o, H a = some (.frz o (.lst vs))) ∨ ∀ H', SqL K H' a vs) → Reps K ro H xs vs → ORep K Cl ro H a (.frz xs)
  | dct {xs : List (Key × D)} {vs : List (Key × V)} : H a = some (.dK vs) → RepK K ro H xs vs → ORep K Cl ro H a (.dct xs)
  | ins {c : Nat} {dx : Addr} {fs : List (Str × D)} {vs : List (Str × V)} : H a = some (.ins (Cl c) dx vs) → RepF K ro H fs vs → ORep K Cl ro H a (.ins c fs)
def O.mu : O → Bool
  | .frz _ => false
  | _ => true
/-- the store stands in the heap -/
structure RelH (K : PySem.W.Frag) (Cl : Nat → Addr) (ro : Ro) (H : Hp) (s : S) : Prop where
  get : ∀ p o, s.get p = some o → ∃ a, ro p = some a ∧ ORep K Cl ro H a o
  inj : ∀ p q a o o', ro p = some a → ro q = some a → s.get p = some o → s.get q = some o' → o.mu = true → o'.mu = true → p = q
  dom : ∀ p a, ro p = some a → p.nat < s.n.nat
/-- slots -/
def RelS (K : PySem.W.Frag) (ro : Ro) (H : Hp) (e : List (Option D)) (σ : St) : Prop :=
  e.length = σ.length ∧ ∀ (i : Nat) (d : D), e[i]? = some (some d) → ∃ v, σ[i]? = some (some v) ∧ Rep K ro H d v
end Ev
set_option maxHeartbeats 1000000
namespace Ev
open PySem L2

inductive R (α : Type) where
  | ok (a : α) (s : S) | ex (c : Nat) (fs : List (Str × D)) (s : S) | bad
def R.bind {α β : Type} (r : R α) (f : α → S → R β) : R β := match r with
  | .ok a s => f a s
  | .ex c fs s => .ex c fs s
  | .bad => .bad
def R.wp {α : Type} (r : R α) (P : α → S → Prop) (E : Nat → List (Str × D) → S → Prop) : Prop := match r with
  | .ok a s => P a s
  | .ex c fs s => E c fs s
  | .bad => False
theorem wp_bind {α β : Type} {r : R α} {f : α → S → R β} {P : β → S → Prop} {E : Nat → List (Str × D) → S → Prop} : (r.bind f).wp P E = r.wp (fun a s => (f a s).wp P E) E := by
  cases r <;> rfl
theorem R.wp.mono {α : Type} {r : R α} {P P' : α → S → Prop} {E E' : Nat → List (Str × D) → S → Prop} (h : r.wp P E) (hp : ∀ a s, P a s → P' a s) (he : ∀ c fs s, E c fs s → E' c fs s) : r.wp P' E' := by
  cases r with
  | ok a s => exact hp a s h
  | ex c fs s => exact he c fs s h
  | bad => exact h
abbrev En := List (Option D)
abbrev SE := En → S → R D
abbrev SEs := En → S → R (List D)

/-- an exception: its class, its own dict -/
def XRep (K : PySem.W.Frag) (Cl : Nat → Addr) (ro : Ro) (H : Hp) (c : Nat) (fs : List (Str × D)) (cls : Value) (d : Option Addr) : Prop :=
  cls = .ref (Cl c) ∧ match fs with
    | [] => True
    | _ => ∃ a vs, d = some a ∧ H a = some (.xd vs) ∧ RepF K ro H fs vs
section
variable (K : PySem.W.Frag) (Cl : Nat → Addr) (W : WX)
def okQ (ro : Ro) (H : Hp) (Q : VK) : D → S → Prop := fun d s' => ∀ v H' ro', RelH K Cl ro' H' s' → Ext K ro H ro' H' → Rep K ro' H' d v → Q v H'
def okQs (ro : Ro) (H : Hp) (Q : List V → Hp → Prop) : List D → S → Prop := fun ds s' => ∀ vs H' ro', RelH K Cl ro' H' s' → Ext K ro H ro' H' → Reps K ro' H' ds vs → Q vs H'
def okT (ro : Ro) (H : Hp) (Q : Bool → Hp → Prop) : Bool → S → Prop := fun b s' => ∀ H' ro', RelH K Cl ro' H' s' → Ext K ro H ro' H' → Q b H'
def exQ (ro : Ro) (H : Hp) (σ : St) : Nat → List (Str × D) → S → Prop := fun c fs s' => ∀ H' ro' cls d, RelH K Cl ro' H' s' → Ext K ro H ro' H' → XRep K Cl ro' H' c fs cls d → W cls d σ H'
def rdE (f : SE) : TE := fun σ H Q => ∃ e s ro, RelS K ro H e σ ∧ RelH K Cl ro H s ∧ (f e s).wp (okQ K Cl ro H Q) (exQ K Cl W ro H σ)
def rdA (f : SEs) : TA := fun σ H Q => ∃ e s ro, RelS K ro H e σ ∧ RelH K Cl ro H s ∧ (f e s).wp (okQs K Cl ro H Q) (exQ K Cl W ro H σ)
def rdT (f : En → S → R Bool) : TT := fun σ H Q => ∃ e s ro, RelS K ro H e σ ∧ RelH K Cl ro H s ∧ (f e s).wp (okT K Cl ro H Q) (exQ K Cl W ro H σ)
end
section
variable {K : PySem.W.Frag} {Cl : Nat → Addr} {W : WX} {ro ro' : Ro} {H H' : Hp} {σ : St} {Q : VK}
theorem okQ.ext (x : Ext K ro H ro' H') {d : D} {s : S} (h : okQ K Cl ro H Q d s) : okQ K Cl ro' H' Q d s := fun v H2 ro2 r e p => h v H2 ro2 r (x.trans e) p
theorem okQs.ext (x : Ext K ro H ro' H') {Q : List V → Hp → Prop} {d : List D} {s : S} (h : okQs K Cl ro H Q d s) : okQs K Cl ro' H' Q d s := fun v H2 ro2 r e p => h v H2 ro2 r (x.trans e) p
theorem okT.ext (x : Ext K ro H ro' H') {Q : Bool → Hp → Prop} {d : Bool} {s : S} (h : okT K Cl ro H Q d s) : okT K Cl ro' H' Q d s := fun H2 ro2 r e => h H2 ro2 r (x.trans e)
theorem exQ.ext (x : Ext K ro H ro' H') {c : Nat} {fs : List (Str × D)} {s : S} (h : exQ K Cl W ro H σ c fs s) : exQ K Cl W ro' H' σ c fs s := fun H2 ro2 cls d r e p => h H2 ro2 cls d r (x.trans e) p
theorem RelS.ext (x : Ext K ro H ro' H') {e : En} (h : RelS K ro H e σ) : RelS K ro' H' e σ := ⟨h.1, fun i d q => by
  obtain ⟨v, a, b⟩ := h.2 i d q
  exact ⟨v, a, b.mono x⟩⟩
end
theorem _root_.L2.PE.imp {X : Cx} {e : Expr} {t t' : TE} (h : PE X e t) (i : ∀ σ H Q, t' σ H Q → t σ H Q) : PE X e t' := ⟨fun pins s σ H Q I q => h.run pins s σ H Q I (i σ H Q q)⟩
theorem _root_.L2.PT.imp {X : Cx} {e : Expr} {t t' : TT} (h : PT X e t) (i : ∀ σ H Q, t' σ H Q → t σ H Q) : PT X e t' := ⟨fun pins s σ H Q I q => h.run pins s σ H Q I (i σ H Q q)⟩
theorem _root_.L2.PW.imp {X : Cx} {e : Expr} {t t' : TT} (h : PW X e t) (i : ∀ σ H Q, t' σ H Q → t σ H Q) : PW X e t' := ⟨fun wh pins s σ H Q I q => h.run wh pins s σ H Q I (i σ H Q q)⟩
theorem _root_.L2.PA.imp {X : Cx} {e : List Expr} {t t' : TA} (h : PA X e t) (i : ∀ σ H Q, t' σ H Q → t σ H Q) : PA X e t' := ⟨fun p pins s σ H Q I q => h.run p pins s σ H Q I (i σ H Q q)⟩
theorem _root_.L2.PS.imp {X : Cx} {e : Stmt} {t t' : TS} (h : PS X e t) (i : ∀ D σ H, t' D σ H → t D σ H) : PS X e t' := ⟨fun pins s σ H D I q => h.run pins s σ H D I (i D σ H q)⟩
theorem _root_.L2.PSs.imp {X : Cx} {e : List Stmt} {t t' : TS} (h : PSs X e t) (i : ∀ D σ H, t' D σ H → t D σ H) : PSs X e t' := ⟨fun pins s σ H D I q => h.run pins s σ H D I (i D σ H q)⟩

/-! ### names, constants -/
def cVar (i : Nat) : SE := fun e s => match e[i]? with
  | some (some d) => .ok d s
  | _ => .bad
def cCst (d : D) : SE := fun _ s => .ok d s
section
variable {X : Cx} {Cl : Nat → Addr} {W : WX}
theorem s_var {i : Nat} {x : Str} {pos : Pos} (hN : X.N[i]? = some x) (hv : Vis X.env.scope x) (hd : (x == ("__debug__" : Str)) = false) (hcd : (x == ("__classdict__" : Str)) = false) : PE X (.Name x pos) (rdE X.K Cl W (cVar i)) := by
  refine (pe_var hN hv hd hcd).imp fun σ H Q h => ?_
  obtain ⟨e, s, ro, rs, rh, h⟩ := h
  unfold cVar at h
  cases q : e[i]? with
  | none => rw [q] at h; exact h.elim
  | some od =>
    cases od with
    | none => rw [q] at h; exact h.elim
    | some d =>
      rw [q] at h
      obtain ⟨v, a, b⟩ := rs.2 i d q
      exact ⟨v, a, h v H ro rh .refl b⟩
theorem s_cst {d : D} {v : V} {e : Expr} (he : PE X e (tC v)) (hv : ∀ K ro H, Rep K ro H d v) : PE X e (rdE X.K Cl W (cCst d)) := by
  refine he.imp fun σ H Q h => ?_
  obtain ⟨e, s, ro, rs, rh, h⟩ := h
  exact h v H ro rh .refl (hv _ _ _)

/-! ### one place, two places -/
/-- an operation on data is one on values -/
def OpS1 (K : PySem.W.Frag) (Cl : Nat → Addr) (f : D → S → R D) (r : V → Hp → VK → Prop) : Prop :=
  ∀ d v H ro s Q, Rep K ro H d v → RelH K Cl ro H s → (f d s).wp (okQ K Cl ro H Q) (fun _ _ _ => False) → r v H Q
def OpS2 (K : PySem.W.Frag) (Cl : Nat → Addr) (f : D → D → S → R D) (r : R2) : Prop :=
  ∀ d v d' v' H ro s Q, Rep K ro H d v → Rep K ro H d' v' → RelH K Cl ro H s → (f d d' s).wp (okQ K Cl ro H Q) (fun _ _ _ => False) → r v v' H Q
/-- no exception comes of it -/
def noX {α : Type} (r : R α) : R α := match r with
  | .ex _ _ _ => .bad
  | r => r
theorem noX_wp {α : Type} {r : R α} {P : α → S → Prop} {E E' : Nat → List (Str × D) → S → Prop} (h : (noX r).wp P E) : r.wp P E' := by
  cases r with
  | ok a s => exact h
  | ex c fs s => exact h.elim
  | bad => exact h
def cUn (f : D → S → R D) (a : SE) : SE := fun e s => (a e s).bind fun d s1 => noX (f d s1)
def cBin (f : D → D → S → R D) (a b : SE) : SE := fun e s => (a e s).bind fun d s1 => (b e s1).bind fun d' s2 => noX (f d d' s2)
theorem r_un {fa : SE} {f : D → S → R D} {r : V → Hp → VK → Prop} (o : OpS1 X.K Cl f r) {σ : St} {H : Hp} {Q : VK} (h : rdE X.K Cl W (cUn f fa) σ H Q) : tUn r (rdE X.K Cl W fa) σ H Q := by
  obtain ⟨e, s, ro, rs, rh, h⟩ := h
  refine ⟨e, s, ro, rs, rh, ?_⟩
  unfold cUn at h
  rw [wp_bind] at h
  refine h.mono (fun d s1 q v H1 ro1 rh1 x1 rp => ?_) fun _ _ _ q => q
  exact o d v H1 ro1 s1 Q rp rh1 ((noX_wp (E' := fun _ _ _ => False) q).mono (fun _ _ z => z.ext x1) fun _ _ _ z => z)
theorem r_bin {fa fb : SE} {f : D → D → S → R D} {r : R2} (o : OpS2 X.K Cl f r) {σ : St} {H : Hp} {Q : VK} (h : rdE X.K Cl W (cBin f fa fb) σ H Q) : tOp r (rdE X.K Cl W fa) (rdE X.K Cl W fb) σ H Q := by
  obtain ⟨e, s, ro, rs, rh, h⟩ := h
  refine ⟨e, s, ro, rs, rh, ?_⟩
  unfold cBin at h
  rw [wp_bind] at h
  refine h.mono (fun d s1 q v H1 ro1 rh1 x1 rp => ?_) fun _ _ _ q => q
  refine ⟨e, s1, ro1, rs.ext x1, rh1, ?_⟩
  rw [wp_bind] at q
  refine q.mono (fun d' s2 q v' H2 ro2 rh2 x2 rp' => ?_) fun _ _ _ q => q.ext x1
  exact o d v d' v' H2 ro2 s2 Q (rp.mono x2) rp' rh2 ((noX_wp (E' := fun _ _ _ => False) q).mono (fun _ _ z => z.ext (x1.trans x2)) fun _ _ _ z => z)

/-! ### lists of arguments -/
def cNil : SEs := fun _ s => .ok [] s
def cCons (a : SE) (r : SEs) : SEs := fun e s => (a e s).bind fun d s1 => (r e s1).bind fun ds s2 => .ok (d :: ds) s2
/-- the items of a tuple, of a list -/
def items (s : S) : D → Option (List D)
  | .tup ds => some ds
  | .ref p => match s.get p with
    | some (.lst xs) => some xs
    | some (.frz xs) => some xs
    | _ => none
  | _ => none
def cStar (a : SE) (r : SEs) : SEs := fun e s => (a e s).bind fun d s1 => match items s1 d with
  | some xs => (r e s1).bind fun ds s2 => .ok (xs ++ ds) s2
  | none => .bad
theorem items_ok {K : PySem.W.Frag} {ro : Ro} {H : Hp} {s : S} {d : D} {v : V} {xs : List D} (rh : RelH K Cl ro H s) (rp : Rep K ro H d v) (h : items s d = some xs) : ∃ a vs, v = .ref a ∧ (SqT K H a vs ∨ SqL K H a vs) ∧ Reps K ro H xs vs := by
  cases rp with
  | tup h1 h2 =>
    obtain rfl := Option.some.inj h
    exact ⟨_, _, rfl, .inl h1, h2⟩
  | ref h1 =>
    rename_i p a
    have h : (match s.get p with
      | some (.lst xs) => some xs
      | some (.frz xs) => some xs
      | _ => none) = some xs := h
    cases q : s.get p with
    | none => rw [q] at h; cases h
    | some o =>
      obtain ⟨a', e1, e2⟩ := rh.get p o q
      rw [h1] at e1; cases e1
      rw [q] at h
      cases o with
      | lst ys =>
        obtain rfl := Option.some.inj h
        cases e2 with
        | lst g1 g2 => exact ⟨_, _, rfl, .inr (SqL.of g1), g2⟩
      | frz ys =>
        obtain rfl := Option.some.inj h
        cases e2 with
        | frz g1 g2 =>
          refine ⟨_, _, rfl, .inr ?_, g2⟩
          rcases g1 with ⟨o, g1⟩ | g1
          · exact .inl (.inr ⟨o, g1⟩)
          · exact g1 H
      | dct _ => cases h
      | ins _ _ => cases h
  | _ => cases h
theorem s_nil : PA X [] (rdA X.K Cl W cNil) := pa_nil.imp fun σ H Q h => by
  obtain ⟨e, s, ro, rs, rh, h⟩ := h
  exact h [] H ro rh .refl .nil
theorem s_cons {e : Expr} {es : List Expr} {f : SE} {fs : SEs} (he : PE X e (rdE X.K Cl W f)) (hr : PA X es (rdA X.K Cl W fs)) (hs : starEach (e :: es) X.env = (false, eval e X.env) :: starEach es X.env) : PA X (e :: es) (rdA X.K Cl W (cCons f fs)) := by
  refine (pa_cons he hr hs).imp fun σ H Q h => ?_
  obtain ⟨e, s, ro, rs, rh, h⟩ := h
  refine ⟨e, s, ro, rs, rh, ?_⟩
  unfold cCons at h
  rw [wp_bind] at h
  refine h.mono (fun d s1 q v H1 ro1 rh1 x1 rp => ?_) fun _ _ _ q => q
  refine ⟨e, s1, ro1, rs.ext x1, rh1, ?_⟩
  rw [wp_bind] at q
  refine q.mono (fun ds s2 q vs H2 ro2 rh2 x2 rps => ?_) fun _ _ _ q => q.ext x1
  exact q _ H2 ro2 rh2 (x1.trans x2) (.cons (rp.mono x2) rps)
theorem s_star {e : Expr} {es : List Expr} {p : Pos} {f : SE} {fs : SEs} (he : PE X e (rdE X.K Cl W f)) (hr : PA X es (rdA X.K Cl W fs)) (hs : starEach (.Starred e p :: es) X.env = (true, eval e X.env) :: starEach es X.env) : PA X (.Starred e p :: es) (rdA X.K Cl W (cStar f fs)) := by
  refine (StX.pa_star he hr hs).imp fun σ H Q h => ?_
  obtain ⟨e, s, ro, rs, rh, h⟩ := h
  refine ⟨e, s, ro, rs, rh, ?_⟩
  unfold cStar at h
  rw [wp_bind] at h
  refine h.mono (fun d s1 q v H1 ro1 rh1 x1 rp => ?_) fun _ _ _ q => q
  cases z : items s1 d with
  | none => rw [z] at q; exact q.elim
  | some xs =>
    rw [z] at q
    obtain ⟨a, vs, rfl, hq, hr⟩ := items_ok rh1 rp z
    refine ⟨a, vs, rfl, hq, ?_⟩
    refine ⟨e, s1, ro1, rs.ext x1, rh1, ?_⟩
    have q : ((fs e s1).bind fun ds s2 => R.ok (xs ++ ds) s2).wp _ _ := q
    rw [wp_bind] at q
    refine q.mono (fun ds s2 q us H2 ro2 rh2 x2 rps => ?_) fun _ _ _ q => q.ext x1
    exact q _ H2 ro2 rh2 (x1.trans x2) ((hr.mono x2).append rps)
end
end Ev
set_option maxHeartbeats 1000000
namespace Ev
open PySem L2

/-- an object that a store changes -/
def Hm : HO → Prop
  | .tup _ => False
  | .frz _ _ => False
  | _ => True
section
variable {K : PySem.W.Frag} {Cl : Nat → Addr} {ro ro' : Ro} {H H' : Hp} {s : S} {a p : Addr} {q : Ps} {o : O} {ho ho' : HO}
theorem sqt_same (h : Same H H') {vs : List V} (x : SqT K H a vs) : SqT K H' a vs := by
  rcases x with (x | ⟨o, x⟩) | x
  · exact .inl (.inl (h _ _ x))
  · exact .inl (.inr ⟨o, h _ _ x⟩)
  · exact .inr x
theorem Ext.same (h : Same H H') : Ext K ro H ro H' := ⟨fun _ _ x => sqt_same h x, fun _ _ e => e⟩
theorem same_laid (hp : H p = none) : Same H (upd H p ho) := fun b o e => by rw [upd_ne (ne_of_none e hp)]; exact e
theorem ext_write (hm : H a = some ho) (hn : Hm ho) : Ext K ro H ro (upd H a ho') := ⟨fun b vs x => by
  have ne : ∀ z, H b = some z → ¬ Hm z → b ≠ a := fun z e n w => by subst w; rw [hm] at e; cases e; exact n hn
  rcases x with (x | ⟨o, x⟩) | x
  · exact .inl (.inl (by rw [upd_ne (ne _ x fun z => z)]; exact x))
  · exact .inl (.inr ⟨o, by rw [upd_ne (ne _ x fun z => z)]; exact x⟩)
  · exact .inr x, fun _ _ e => e⟩
theorem RepK.mono (e : Ext K ro H ro' H') : ∀ {ds : List (Key × D)} {vs : List (Key × V)}, RepK K ro H ds vs → RepK K ro' H' ds vs
  | _, _, .nil => .nil
  | _, _, .cons h t => .cons (h.mono e) (RepK.mono e t)
theorem RepF.mono (e : Ext K ro H ro' H') : ∀ {ds : List (Str × D)} {vs : List (Str × V)}, RepF K ro H ds vs → RepF K ro' H' ds vs
  | _, _, .nil => .nil
  | _, _, .cons h t => .cons (h.mono e) (RepF.mono e t)
/-- what an object's standing leans on -/
theorem ORep.stay (x : ORep K Cl ro H a o) (e : Ext K ro H ro' H') (k : ∀ z, H a = some z → H' a = some z) : ORep K Cl ro' H' a o := by
  cases x with
  | lst h r => exact .lst (k _ h) (r.mono e)
  | frz h r =>
    refine .frz ?_ (r.mono e)
    rcases h with ⟨z, h⟩ | h
    · exact .inl ⟨z, k _ h⟩
    · exact .inr h
  | dct h r => exact .dct (k _ h) (r.mono e)
  | ins h r => exact .ins (k _ h) (r.mono e)
theorem ORep.some (x : ORep K Cl ro H a o) (m : o.mu = true) : ∃ z, H a = some z ∧ Hm z := by
  cases x with
  | lst h r => exact ⟨_, h, trivial⟩
  | frz h r => cases m
  | dct h r => exact ⟨_, h, trivial⟩
  | ins h r => exact ⟨_, h, trivial⟩
theorem RelH.same (r : RelH K Cl ro H s) (h : Same H H') : RelH K Cl ro H' s := ⟨fun p o e => by
  obtain ⟨a, e1, x⟩ := r.get p o e
  exact ⟨a, e1, x.stay (.same h) fun z q => h _ _ q⟩, r.inj, r.dom⟩
/-- a new object -/
def ron (ro : Ro) (q : Ps) (p : Addr) : Ro := fun x => if x = q then some p else ro x
theorem ron_same : ron ro q p q = some p := if_pos rfl
theorem ron_ne {x : Ps} (h : x ≠ q) : ron ro q p x = ro x := if_neg h
theorem RelH.fresh (r : RelH K Cl ro H s) : ro s.n = none := by
  cases e : ro s.n with
  | none => rfl
  | some a => exact absurd (r.dom _ _ e) (Nat.lt_irrefl _)
theorem RelH.ne (r : RelH K Cl ro H s) {x : Ps} {b : Addr} (e : ro x = some b) : x ≠ s.n := fun z => by rw [z, r.fresh] at e; cases e
theorem ext_new (r : RelH K Cl ro H s) (hp : H p = none) : Ext K ro H (ron ro s.n p) (upd H p ho) := ⟨fun _ _ x => sqt_same (same_laid hp) x, fun x b e => by rw [ron_ne (r.ne e)]; exact e⟩
theorem RelH.new (r : RelH K Cl ro H s) (hp : H p = none) (x : ORep K Cl (ron ro s.n p) (upd H p ho) p o) : RelH K Cl (ron ro s.n p) (upd H p ho) (s.push o) where
  get := fun q o' e => by
    by_cases hq : q = s.n
    · subst hq
      rw [S.get_push_same] at e; cases e
      exact ⟨p, ron_same, x⟩
    · rw [S.get_push_ne (Ne.symm hq)] at e
      obtain ⟨b, e1, y⟩ := r.get q o' e
      exact ⟨b, by rw [ron_ne hq]; exact e1, y.stay (ext_new r hp) fun z w => same_laid hp _ _ w⟩
  inj := fun x1 x2 b o1 o2 e1 e2 g1 g2 m1 m2 => by
    have old : ∀ x o', x ≠ s.n → ron ro s.n p x = some b → (s.push o).get x = some o' → o'.mu = true → ro x = some b ∧ s.get x = some o' ∧ b ≠ p := fun x o' hx e g m => by
      rw [ron_ne hx] at e
      rw [S.get_push_ne (Ne.symm hx)] at g
      obtain ⟨b', q1, q2⟩ := r.get x o' g
      rw [e] at q1; cases q1
      obtain ⟨z, hz, _⟩ := q2.some m
      exact ⟨e, g, fun w => by rw [w, hp] at hz; cases hz⟩
    by_cases h1 : x1 = s.n
    · by_cases h2 : x2 = s.n
      · rw [h1, h2]
      · obtain ⟨_, _, n⟩ := old x2 o2 h2 e2 g2 m2
        rw [h1, ron_same] at e1; cases e1
        exact absurd rfl n
    · obtain ⟨a1, a2, n⟩ := old x1 o1 h1 e1 g1 m1
      by_cases h2 : x2 = s.n
      · rw [h2, ron_same] at e2; cases e2
        exact absurd rfl n
      · obtain ⟨b1, b2, _⟩ := old x2 o2 h2 e2 g2 m2
        exact r.inj x1 x2 b o1 o2 a1 b1 a2 b2 m1 m2
  dom := fun x b e => by
    show x.nat < s.n.succ.nat
    rw [Ps.nat_succ]
    by_cases hx : x = s.n
    · rw [hx]; exact Nat.lt_succ_self _
    · rw [ron_ne hx] at e
      exact Nat.lt_succ_of_lt (r.dom _ _ e)
theorem RelH.write {o' : O} (r : RelH K Cl ro H s) (g : s.get q = some o) (m : o.mu = true) (e : ro q = some a) (m' : o'.mu = true) (x : ORep K Cl ro (upd H a ho') a o') : RelH K Cl ro (upd H a ho') (s.set q o') := by
  obtain ⟨a', e', y⟩ := r.get q o g
  rw [e] at e'; cases e'
  obtain ⟨z, hz, hm⟩ := y.some m
  refine ⟨fun p o2 g2 => ?_, fun x1 x2 b o1 o2 e1 e2 g1 g2 m1 m2 => ?_, r.dom⟩
  · by_cases hq : q = p
    · subst hq
      rw [S.get_set_same] at g2; cases g2
      exact ⟨a, e, x⟩
    · rw [S.get_set_ne hq] at g2
      obtain ⟨b, e2, y2⟩ := r.get p o2 g2
      refine ⟨b, e2, ?_⟩
      by_cases hb : b = a
      · subst hb
        cases y2 with
        | frz h rr =>
          refine .frz ?_ (rr.mono (ext_write hz hm))
          rcases h with ⟨w, h⟩ | h
          · rw [hz] at h; cases h; exact hm.elim
          · exact .inr h
        | lst h rr => exact absurd (r.inj q p b _ _ e e2 g g2 m rfl) hq
        | dct h rr => exact absurd (r.inj q p b _ _ e e2 g g2 m rfl) hq
        | ins h rr => exact absurd (r.inj q p b _ _ e e2 g g2 m rfl) hq
      · exact y2.stay (ext_write hz hm) fun w h => by rw [upd_ne hb]; exact h
  · have back : ∀ y o3, (s.set q o').get y = some o3 → o3.mu = true → ∃ o4, s.get y = some o4 ∧ o4.mu = true := fun y o3 h h' => by
      by_cases hq : q = y
      · exact ⟨o, by rw [← hq]; exact g, m⟩
      · rw [S.get_set_ne hq] at h; exact ⟨o3, h, h'⟩
    obtain ⟨o3, h3, k3⟩ := back x1 o1 g1 m1
    obtain ⟨o4, h4, k4⟩ := back x2 o2 g2 m2
    exact r.inj x1 x2 b o3 o4 e1 e2 h3 h4 k3 k4
end

/-! ### tuples and lists made -/
def short {α : Type} : Nat → List α → Bool
  | _, [] => true
  | 0, _ :: _ => false
  | n + 1, _ :: r => short n r
theorem short_le {α : Type} : ∀ {n : Nat} {l : List α}, short n l = true → l.length ≤ n
  | _, [], _ => by simp
  | 0, _ :: _, h => by cases h
  | n + 1, _ :: r, h => by have := short_le (n := n) (l := r) h; simp; omega
theorem short_of {α : Type} : ∀ {n : Nat} {l : List α}, l.length ≤ n → short n l = true
  | _, [], _ => by cases ‹Nat› <;> rfl
  | 0, _ :: _, h => by simp at h
  | n + 1, _ :: r, h => short_of (n := n) (l := r) (by simp at h; omega)
/-- the greatest length of what is made here -/
def zLine : Nat := 1000000
theorem z_le : zLine ≤ sizeLine := by decide
def mkTup (ds : List D) (s : S) : R D := if short zLine ds then .ok (.tup ds) s else .bad
def mkLst (ds : List D) (s : S) : R D := if short zLine ds then .ok (.ref s.n) (s.push (.lst ds)) else .bad
section
variable {K : PySem.W.Frag} {Cl : Nat → Addr} {ro ro' : Ro} {H H' : Hp} {s : S} {Q : VK} {ds : List D} {vs : List V} {E : Nat → List (Str × D) → S → Prop}
theorem mkTup_ok (h : (mkTup ds s).wp (okQ K Cl ro H Q) E) (rh : RelH K Cl ro H s) (rp : Reps K ro H ds vs) : vs.length ≤ sizeLine ∧ ∀ p, H p = none → Q (.ref p) (upd H p (.tup vs)) := by
  unfold mkTup at h
  by_cases z : short zLine ds = true
  · rw [if_pos z] at h
    refine ⟨by rw [← rp.length]; exact Nat.le_trans (short_le z) z_le, fun p hp => ?_⟩
    have sm := same_laid (ho := .tup vs) hp
    exact h _ _ ro (rh.same sm) (.same sm) (.tup (SqT.of upd_same) (rp.mono (.same sm)))
  · rw [if_neg z] at h; exact h.elim
theorem mkLst_ok (h : (mkLst ds s).wp (okQ K Cl ro H Q) E) (rh : RelH K Cl ro H s) (rp : Reps K ro H ds vs) : vs.length ≤ sizeLine ∧ ∀ p, H p = none → Q (.ref p) (upd H p (.lst vs)) := by
  unfold mkLst at h
  by_cases z : short zLine ds = true
  · rw [if_pos z] at h
    refine ⟨by rw [← rp.length]; exact Nat.le_trans (short_le z) z_le, fun p hp => ?_⟩
    exact h _ _ (ron ro s.n p) (rh.new hp (.lst upd_same (rp.mono (ext_new rh hp)))) (ext_new rh hp) (.ref ron_same)
  · rw [if_neg z] at h; exact h.elim
end
def cTup (as : SEs) : SE := fun e s => (as e s).bind fun ds s1 => noX (mkTup ds s1)
def cLst (as : SEs) : SE := fun e s => (as e s).bind fun ds s1 => noX (mkLst ds s1)
section
variable {X : Cx} {Cl : Nat → Addr} {W : WX}
theorem s_tup {es : List Expr} {fs : SEs} {x1} {pos : Pos} (h : PA X es (rdA X.K Cl W fs)) : PE X (.Tuple es x1 pos) (rdE X.K Cl W (cTup fs)) := by
  refine (pe_tup h).imp fun σ H Q h => ?_
  obtain ⟨e, s, ro, rs, rh, h⟩ := h
  refine ⟨e, s, ro, rs, rh, ?_⟩
  unfold cTup at h
  rw [wp_bind] at h
  refine h.mono (fun ds s1 q vs H1 ro1 rh1 x1 rp => ?_) fun _ _ _ q => q
  exact mkTup_ok (E := fun _ _ _ => False) ((noX_wp (E' := fun _ _ _ => False) q).mono (fun _ _ z => z.ext x1) fun _ _ _ z => z) rh1 rp
theorem s_lst {es : List Expr} {fs : SEs} {pos : Pos} (h : PA X es (rdA X.K Cl W fs)) : PE X (.List es pos) (rdE X.K Cl W (cLst fs)) := by
  refine (pe_lst h).imp fun σ H Q h => ?_
  obtain ⟨e, s, ro, rs, rh, h⟩ := h
  refine ⟨e, s, ro, rs, rh, ?_⟩
  unfold cLst at h
  rw [wp_bind] at h
  refine h.mono (fun ds s1 q vs H1 ro1 rh1 x1 rp => ?_) fun _ _ _ q => q
  exact mkLst_ok (E := fun _ _ _ => False) ((noX_wp (E' := fun _ _ _ => False) q).mono (fun _ _ z => z.ext x1) fun _ _ _ z => z) rh1 rp
end
end Ev
set_option maxHeartbeats 1000000
namespace Ev
open PySem L2

/-! ### values read as data -/
def mapO {α β : Type} (f : α → Option β) : List α → Option (List β)
  | [] => some []
  | x :: r => match f x with
    | some y => match mapO f r with
      | some ys => some (y :: ys)
      | none => none
    | none => none
def toP (s : S) : Nat → D → Option PyData
  | 0, _ => none
  | _ + 1, .non => some .none
  | _ + 1, .bl b => some (.bool b)
  | _ + 1, .int i => some (.int i)
  | _ + 1, .str x => some (.str ⟨x.toArray⟩)
  | n + 1, .tup ds => match mapO (toP s n) ds with
    | some ps => some (.tuple ps)
    | none => none
  | n + 1, .ref p => match items s (.ref p) with
    | some xs => match mapO (toP s n) xs with
      | some ps => some (.list ps)
      | none => none
    | none => none
section
variable {K : PySem.W.Frag} {Cl : Nat → Addr} {ro : Ro} {H : Hp} {s : S}
theorem items_ref {p : Ps} {xs : List D} {a : Addr} (rh : RelH K Cl ro H s) (e : ro p = some a) (h : items s (.ref p) = some xs) : ∃ vs, SqL K H a vs ∧ Reps K ro H xs vs := by
  have h : (match s.get p with
    | some (.lst xs) => some xs
    | some (.frz xs) => some xs
    | _ => none) = some xs := h
  cases q : s.get p with
  | none => rw [q] at h; cases h
  | some o =>
    obtain ⟨a', e1, e2⟩ := rh.get p o q
    rw [e] at e1; cases e1
    rw [q] at h
    cases o with
    | lst ys =>
      obtain rfl := Option.some.inj h
      cases e2 with
      | lst g1 g2 => exact ⟨_, SqL.of g1, g2⟩
    | frz ys =>
      obtain rfl := Option.some.inj h
      cases e2 with
      | frz g1 g2 =>
        refine ⟨_, ?_, g2⟩
        rcases g1 with ⟨o, g1⟩ | g1
        · exact .inl (.inr ⟨o, g1⟩)
        · exact g1 H
    | dct _ => cases h
    | ins _ _ => cases h
theorem toPs_ok {n : Nat} (ih : ∀ (d : D) (v : V) (p : PyData), Rep K ro H d v → toP s n d = some p → Dp K H v p ∧ p.depth ≤ n ∧ p.plain = true) : ∀ (ds : List D) (vs : List V) (ps : List PyData),
    Reps K ro H ds vs → mapO (toP s n) ds = some ps → DpAll K H vs ps ∧ PyData.depthAll ps ≤ n ∧ PyData.plainAll ps = true
  | [], _, _, r, h => by
    cases r; cases h
    exact ⟨.nil, Nat.zero_le _, rfl⟩
  | d :: ds, _, ps, r, h => by
    cases r with
    | cons r1 r2 =>
      unfold mapO at h
      cases q1 : toP s n d with
      | none => rw [q1] at h; cases h
      | some p =>
        rw [q1] at h
        cases q2 : mapO (toP s n) ds with
        | none => rw [q2] at h; cases h
        | some qs =>
          rw [q2] at h
          obtain rfl := Option.some.inj h
          obtain ⟨a1, a2, a3⟩ := ih d _ p r1 q1
          obtain ⟨b1, b2, b3⟩ := toPs_ok ih ds _ qs r2 q2
          exact ⟨.cons a1 b1, by simp only [PyData.depthAll]; omega, by simp only [PyData.plainAll]; rw [a3, b3]; rfl⟩
theorem toP_ok (rh : RelH K Cl ro H s) : ∀ (n : Nat) (d : D) (v : V) (p : PyData), Rep K ro H d v → toP s n d = some p → Dp K H v p ∧ p.depth ≤ n ∧ p.plain = true
  | 0, _, _, _, _, h => by cases h
  | n + 1, d, v, p, r, h => by
    cases r with
    | non => cases h; exact ⟨.non, Nat.zero_le _, rfl⟩
    | bl b => cases h; exact ⟨.bl b, Nat.zero_le _, rfl⟩
    | int i => cases h; exact ⟨.int i, Nat.zero_le _, rfl⟩
    | str x => cases h; exact ⟨.str _, Nat.zero_le _, rfl⟩
    | tup h1 h2 =>
      rename_i ds a vs
      have h : (match mapO (toP s n) ds with
        | some ps => some (PyData.tuple ps)
        | none => none) = some p := h
      cases q : mapO (toP s n) ds with
      | none => rw [q] at h; cases h
      | some ps =>
        rw [q] at h
        obtain rfl := Option.some.inj h
        obtain ⟨b1, b2, b3⟩ := toPs_ok (fun d v p => toP_ok rh n d v p) ds _ ps h2 q
        exact ⟨.tup h1 b1, by simp only [PyData.depth]; omega, b3⟩
    | ref h1 =>
      rename_i x a
      have h : (match items s (.ref x) with
        | some xs => match mapO (toP s n) xs with
          | some ps => some (PyData.list ps)
          | none => none
        | none => none) = some p := h
      cases z : items s (.ref x) with
      | none => rw [z] at h; cases h
      | some xs =>
        rw [z] at h
        have h : (match mapO (toP s n) xs with
          | some ps => some (PyData.list ps)
          | none => none) = some p := h
        cases q : mapO (toP s n) xs with
        | none => rw [q] at h; cases h
        | some ps =>
          rw [q] at h
          obtain rfl := Option.some.inj h
          obtain ⟨vs, g1, g2⟩ := items_ref rh h1 z
          obtain ⟨b1, b2, b3⟩ := toPs_ok (fun d v p => toP_ok rh n d v p) xs _ ps g2 q
          exact ⟨.lst g1 b1, by simp only [PyData.depth]; omega, b3⟩
end
/-- as deep as data are compared -/
def dDeep : Nat := 40
def toQ (s : S) (d : D) : Option PyData := toP s dDeep d

/-! ### two data -/
/-- f over what two values read as -/
def onP (f : PyData → PyData → Option Bool) : D → D → S → R D := fun a b s => match toQ s a with
  | some p => match toQ s b with
    | some q => match f p q with
      | some k => .ok (.bl k) s
      | none => .bad
    | none => .bad
  | none => .bad
def rP (K : PySem.W.Frag) (f : PyData → PyData → Option Bool) : R2 := fun x y H Q => ∃ p q k, Dp K H x p ∧ Dp K H y q ∧ p.depth ≤ dDeep ∧ q.depth ≤ dDeep ∧ p.plain = true ∧ q.plain = true ∧ f p q = some k ∧ Q (.bl k) H
theorem onP_ok {K : PySem.W.Frag} {Cl : Nat → Addr} {f : PyData → PyData → Option Bool} : OpS2 K Cl (onP f) (rP K f) := by
  intro d v d' v' H ro s Q r r' rh h
  unfold onP at h
  cases q1 : toQ s d with
  | none => rw [q1] at h; exact h.elim
  | some p =>
    rw [q1] at h
    cases q2 : toQ s d' with
    | none => rw [q2] at h; exact h.elim
    | some q =>
      rw [q2] at h
      cases q3 : f p q with
      | none => simp only [q3] at h; exact h.elim
      | some k =>
        simp only [q3] at h
        obtain ⟨a1, a2, a3⟩ := toP_ok rh _ _ _ _ r q1
        obtain ⟨b1, b2, b3⟩ := toP_ok rh _ _ _ _ r' q2
        exact ⟨p, q, k, a1, b1, a2, b2, a3, b3, q3, h _ H ro rh .refl (.bl k)⟩
section
variable {X : Cx}
theorem opP {op : CmpOp} {f : PyData → PyData → Option Bool} (rule : ∀ (s : Shared) (v u : Value) (p q : PyData) (as bs : List Addr) (k : Bool) (Q : Value → Shared → Prop), Reads s.heap v p as → Reads s.heap u q bs → p.depth ≤ dDeep → q.depth ≤ dDeep → p.plain = true → q.plain = true →
    f p q = some k → Q (.bool k) s → wpAny (model X.prog X.w) X.A (compareOp op v u) Q X.xe s) : OpR X (compareOp op) (rP X.K f) := by
  intro pins s σ H x y v u Q I rx ry h
  obtain ⟨p, q, k, d1, d2, n1, n2, l1, l2, e, hq⟩ := h
  obtain ⟨as, r1⟩ := Dp.reads I p x v d1 rx
  obtain ⟨bs, r2⟩ := Dp.reads I q y u d2 ry
  exact rule s v u p q as bs k _ r1 r2 n1 n2 l1 l2 e ⟨.bl k, H, I, rfl, hq⟩
def pEq (p q : PyData) : Option Bool := some (p.eqv q)
def pNe (p q : PyData) : Option Bool := some (!p.eqv q)
def isNone : PyData → Bool
  | .none => true
  | _ => false
theorem isNone_ne {p : PyData} (h : isNone p = false) : p ≠ .none := fun e => by rw [e] at h; cases h
def pLt (p q : PyData) : Option Bool := if PySem.W.alike p q && !isNone p then some (PySem.W.dataLt p q) else none
def pGt (p q : PyData) : Option Bool := if PySem.W.alike p q && !isNone p then some (PySem.W.dataLt q p) else none
def pLe (p q : PyData) : Option Bool := if PySem.W.alike p q && !isNone p then some (!PySem.W.dataLt q p) else none
def pGe (p q : PyData) : Option Bool := if PySem.W.alike p q && !isNone p then some (!PySem.W.dataLt p q) else none
def pIn (p q : PyData) : Option Bool := match q with
  | .list xs => some (xs.any fun y => y.eqv p)
  | .tuple xs => some (xs.any fun y => y.eqv p)
  | _ => none
def pNi (p q : PyData) : Option Bool := match q with
  | .list xs => some (!xs.any fun y => y.eqv p)
  | .tuple xs => some (!xs.any fun y => y.eqv p)
  | _ => none
theorem room64 {A : Around} (hu : A.units + 64 < cLine) {p q : PyData} (h1 : p.depth ≤ dDeep) (h2 : q.depth ≤ dDeep) : A.units + min p.depth q.depth < cLine := by
  have : min p.depth q.depth ≤ p.depth := Nat.min_le_left _ _
  have : (dDeep : Nat) = 40 := rfl
  omega
theorem split_lt {p q : PyData} {b k : Bool} (h : (if PySem.W.alike p q && !isNone p then some b else none) = some k) : PySem.W.alike p q = true ∧ p ≠ .none ∧ b = k := by
  by_cases z : (PySem.W.alike p q && !isNone p) = true
  · rw [if_pos z] at h
    obtain ⟨z1, z2⟩ := Bool.and_eq_true_iff.mp z
    exact ⟨z1, isNone_ne (by simpa using z2), Option.some.inj h⟩
  · rw [if_neg z] at h; cases h
variable (hu : X.A.units + 64 < cLine)
include hu
theorem op_pEq : OpR X (compareOp .Eq) (rP X.K pEq) := opP fun s v u p q as bs k Q r1 r2 n1 n2 l1 l2 e h => by
  obtain rfl := Option.some.inj e
  exact PySem.SeqAt.eq_plain r1 r2 l1 l2 (room64 hu n1 n2) h
theorem op_pNe : OpR X (compareOp .NotEq) (rP X.K pNe) := opP fun s v u p q as bs k Q r1 r2 n1 n2 l1 l2 e h => by
  obtain rfl := Option.some.inj e
  exact PySem.SeqAt.ne_plain r1 r2 l1 l2 (room64 hu n1 n2) h
theorem op_pLt : OpR X (compareOp .Lt) (rP X.K pLt) := opP fun s v u p q as bs k Q r1 r2 n1 n2 l1 l2 e h => by
  obtain ⟨e1, e2, rfl⟩ := split_lt e
  exact PySem.W.lt_data r1 r2 e1 e2 (room64 hu n1 n2) h
theorem op_pGt : OpR X (compareOp .Gt) (rP X.K pGt) := opP fun s v u p q as bs k Q r1 r2 n1 n2 l1 l2 e h => by
  obtain ⟨e1, e2, rfl⟩ := split_lt e
  exact PySem.W.gt_data r1 r2 e1 e2 (room64 hu n1 n2) h
theorem op_pLe : OpR X (compareOp .LtE) (rP X.K pLe) := opP fun s v u p q as bs k Q r1 r2 n1 n2 l1 l2 e h => by
  obtain ⟨e1, e2, rfl⟩ := split_lt e
  exact PySem.W.le_data r1 r2 e1 e2 (room64 hu n1 n2) h
theorem op_pGe : OpR X (compareOp .GtE) (rP X.K pGe) := opP fun s v u p q as bs k Q r1 r2 n1 n2 l1 l2 e h => by
  obtain ⟨e1, e2, rfl⟩ := split_lt e
  exact PySem.W.ge_data r1 r2 e1 e2 (room64 hu n1 n2) h
omit hu in
theorem room_in {A : Around} (hu : A.units + 64 < cLine) {p : PyData} {xs : List PyData} (h1 : p.depth ≤ dDeep) : A.units + 1 + min (PyData.depthAll xs) p.depth < cLine := by
  have : min (PyData.depthAll xs) p.depth ≤ p.depth := Nat.min_le_right _ _
  have : (dDeep : Nat) = 40 := rfl
  omega
theorem op_pIn : OpR X (compareOp .In) (rP X.K pIn) := opP fun s v u p q as bs k Q r1 r2 n1 n2 l1 l2 e h => by
  cases q with
  | list xs => obtain rfl := Option.some.inj e; exact PySem.SeqAt.in_list_data r2 r1 l2 l1 (room_in hu n1) h
  | tuple xs => obtain rfl := Option.some.inj e; exact PySem.SeqAt.in_tuple_data r2 r1 l2 l1 (room_in hu n1) h
  | _ => cases e
theorem op_pNi : OpR X (compareOp .NotIn) (rP X.K pNi) := opP fun s v u p q as bs k Q r1 r2 n1 n2 l1 l2 e h => by
  cases q with
  | list xs => obtain rfl := Option.some.inj e; exact PySem.SeqAt.notIn_list_data r2 r1 l2 l1 (room_in hu n1) h
  | tuple xs => obtain rfl := Option.some.inj e; exact PySem.SeqAt.notIn_tuple_data r2 r1 l2 l1 (room_in hu n1) h
  | _ => cases e
end
end Ev
set_option maxHeartbeats 1000000
namespace Ev
open PySem L2

theorem _root_.L2.PE.or {X : Cx} {e : Expr} {t t' : TE} (h : PE X e t) (h' : PE X e t') : PE X e (fun σ H Q => t σ H Q ∨ t' σ H Q) :=
  ⟨fun pins s σ H Q I q => q.elim (h.run pins s σ H Q I) (h'.run pins s σ H Q I)⟩
theorem _root_.L2.PS.or {X : Cx} {e : Stmt} {t t' : TS} (h : PS X e t) (h' : PS X e t') : PS X e (fun D σ H => t D σ H ∨ t' D σ H) :=
  ⟨fun pins s σ H D I q => q.elim (h.run pins s σ H D I) (h'.run pins s σ H D I)⟩

/-! ### numbers -/
def bLog (i : Int) : Nat := i.natAbs.log2
def dAdd : D → D → S → R D
  | .int i, .int j, s => .ok (.int (i + j)) s
  | .tup a, .tup b, s => mkTup (a ++ b) s
  | .str a, .str b, s => if short zLine (a ++ b) then .ok (.str (a ++ b)) s else .bad
  | .ref p, .ref q, s => match s.get p, s.get q with
    | some (.lst a), some (.lst b) => mkLst (a ++ b) s
    | _, _ => .bad
  | _, _, _ => .bad
def rStr : R2 := fun x y H Q => ∃ i j, x = V.str i ∧ y = V.str j ∧ i.length + j.length ≤ sizeLine ∧ Q (V.str (i ++ j)) H
def rAdd (K : PySem.W.Frag) : R2 := fun x y H Q => (((rI0 fun i j => V.int (i + j)) x y H Q ∨ rCatA K x y H Q) ∨ rStr x y H Q) ∨ rCat x y H Q
theorem op_rAdd {X : Cx} : OpR X (binaryOp .Add) (rAdd X.K) := ((op_add.or op_catA).or op_add_str).or op_cat
theorem strV_append (a b : List Nat) : V.str ((⟨a.toArray⟩ : Str) ++ (⟨b.toArray⟩ : Str)) = strV (a ++ b) := by
  show V.str ⟨a.toArray ++ b.toArray⟩ = V.str ⟨(a ++ b).toArray⟩
  simp
section
variable {K : PySem.W.Frag} {Cl : Nat → Addr}
theorem dAdd_ok : OpS2 K Cl dAdd (rAdd K) := by
  intro d v d' v' H ro s Q r r' rh h
  cases r with
  | int i =>
    cases r' with
    | int j => exact .inl (.inl (.inl ⟨i, j, rfl, rfl, h _ H ro rh .refl (.int _)⟩))
    | _ => exact h.elim
  | str a =>
    cases r' with
    | str b =>
      have h : (if short zLine (a ++ b) then R.ok (D.str (a ++ b)) s else .bad).wp (okQ K Cl ro H Q) (fun _ _ _ => False) := h
      by_cases z : short zLine (a ++ b) = true
      · rw [if_pos z] at h
        refine .inl (.inr ⟨_, _, rfl, rfl, ?_, ?_⟩)
        · have q := short_le z
          have := z_le
          simp only [List.length_append] at q
          show a.toArray.size + b.toArray.size ≤ _
          simp only [List.size_toArray]; omega
        · rw [strV_append]
          exact h _ H ro rh .refl (.str _)
      · rw [if_neg z] at h; exact h.elim
    | _ => exact h.elim
  | tup h1 h2 =>
    rename_i ds a vs
    cases r' with
    | tup g1 g2 =>
      rename_i es b us
      obtain ⟨z, q⟩ := mkTup_ok (vs := vs ++ us) h rh (h2.append g2)
      refine .inl (.inl (.inr ⟨_, _, _, _, rfl, rfl, h1, g1, by simpa using z, fun e => ?_, fun e1 e2 => ?_, fun e1 e2 => ?_⟩))
      · subst e
        cases h2
        have h : (mkTup es s).wp (okQ K Cl ro H Q) (fun _ _ _ => False) := h
        unfold mkTup at h
        split at h
        · exact h _ H ro rh .refl (.tup g1 g2)
        · exact h.elim
      · subst e2
        cases g2
        have h : (mkTup (ds ++ []) s).wp (okQ K Cl ro H Q) (fun _ _ _ => False) := h
        rw [List.append_nil] at h
        unfold mkTup at h
        split at h
        · exact h _ H ro rh .refl (.tup h1 h2)
        · exact h.elim
      · exact q
    | _ => exact h.elim
  | ref h1 =>
    rename_i p a
    cases r' with
    | ref g1 =>
      rename_i q b
      have h : (match s.get p, s.get q with
        | some (.lst a), some (.lst b) => mkLst (a ++ b) s
        | _, _ => .bad).wp (okQ K Cl ro H Q) (fun _ _ _ => False) := h
      cases z1 : s.get p with
      | none => rw [z1] at h; exact h.elim
      | some o1 =>
        cases z2 : s.get q with
        | none => rw [z1, z2] at h; cases o1 <;> exact h.elim
        | some o2 =>
          rw [z1, z2] at h
          obtain ⟨a', e1, y1⟩ := rh.get p o1 z1
          obtain ⟨b', e2, y2⟩ := rh.get q o2 z2
          rw [h1] at e1; cases e1
          rw [g1] at e2; cases e2
          cases y1 with
          | lst k1 k2 =>
            cases y2 with
            | lst l1 l2 =>
              obtain ⟨w, n⟩ := mkLst_ok h rh (k2.append l2)
              exact .inr ⟨_, _, _, _, rfl, rfl, k1, l1, by simpa using w, n⟩
            | _ => exact h.elim
          | _ => exact h.elim
    | _ => exact h.elim
  | _ => exact h.elim
end
def dSub : D → D → S → R D
  | .int i, .int j, s => .ok (.int (i - j)) s
  | _, _, _ => .bad
theorem dSub_ok {K : PySem.W.Frag} {Cl : Nat → Addr} : OpS2 K Cl dSub (rI0 fun i j => V.int (i - j)) := by
  intro d v d' v' H ro s Q r r' rh h
  cases r with
  | int i => cases r' with
    | int j => exact ⟨i, j, rfl, rfl, h _ H ro rh .refl (.int _)⟩
    | _ => exact h.elim
  | _ => exact h.elim
def reps (n : Nat) (xs : List D) : List D := match n with
  | 0 => []
  | n + 1 => xs ++ reps n xs
theorem reps_eq (xs : List D) : ∀ n, reps n xs = (List.replicate n xs).flatten
  | 0 => rfl
  | n + 1 => by rw [reps, reps_eq xs n, List.replicate_succ, List.flatten_cons]
theorem Reps.reps {K : PySem.W.Frag} {ro : Ro} {H : Hp} {xs : List D} {vs : List V} (r : Reps K ro H xs vs) : ∀ n, Reps K ro H (reps n xs) (List.replicate n vs).flatten
  | 0 => .nil
  | n + 1 => by rw [Ev.reps, List.replicate_succ, List.flatten_cons]; exact r.append (Reps.reps r n)
def mulB (i j : Int) : Bool := Nat.ble i.natAbs 9223372036854775807 || (Nat.ble j.natAbs 9223372036854775807 || Nat.blt (bLog i + bLog j) 1000000)
theorem bits64 {i : Int} (h : i.natAbs ≤ 9223372036854775807) : Builtin.Int.intBits i ≤ 64 := intBits_le_64 (by omega) (by omega)
theorem mulB_ok {i j : Int} (h : mulB i j = true) : IntMulOk i j := by
  unfold mulB at h
  simp only [Bool.or_eq_true, Nat.ble_eq, Nat.blt_eq] at h
  rcases h with h | h | h
  · exact .of_left (bits64 h)
  · exact .of_right (bits64 h)
  · exact CMulW.ok h
theorem op_mulI {X : Cx} : OpR X (binaryOp .Mult) (rI IntMulOk fun i j => V.int (i * j)) := opI fun _ _ _ _ _ _ _ hc q => PyProof.Rows.mul_int q hc
def dMul : D → D → S → R D
  | .int i, .int j, s => if mulB i j = true then .ok (.int (i * j)) s else .bad
  | .tup a, .int k, s => if !a.isEmpty && (decide (2 ≤ k) && (decide (k ≤ 1000) && short 1000 a)) then .ok (.tup (reps k.toNat a)) s else .bad
  | .ref p, .int k, s => match s.get p with
    | some (.lst a) => if decide (-1000 ≤ k) && (decide (k ≤ 1000) && short 1000 a) then .ok (.ref s.n) (s.push (.lst (reps k.toNat a))) else .bad
    | _ => .bad
  | _, _, _ => .bad
def rMul (K : PySem.W.Frag) : R2 := fun x y H Q => (rI IntMulOk (fun i j => V.int (i * j)) x y H Q ∨ rRepT K x y H Q) ∨ rRep x y H Q
theorem op_rMul {X : Cx} : OpR X (binaryOp .Mult) (rMul X.K) := (op_mulI.or op_repT).or op_rep
theorem dMul_ok {K : PySem.W.Frag} {Cl : Nat → Addr} : OpS2 K Cl dMul (rMul K) := by
  intro d v d' v' H ro s Q r r' rh h
  cases r with
  | int i => cases r' with
    | int j =>
      have h : (if mulB i j = true then R.ok (D.int (i * j)) s else .bad).wp (okQ K Cl ro H Q) (fun _ _ _ => False) := h
      by_cases z : mulB i j = true
      · rw [if_pos z] at h
        exact .inl (.inl ⟨i, j, rfl, rfl, mulB_ok z, h _ H ro rh .refl (.int _)⟩)
      · rw [if_neg z] at h; exact h.elim
    | _ => exact h.elim
  | tup h1 h2 =>
    rename_i ds a vs
    cases r' with
    | int k =>
      have h : (if !ds.isEmpty && (decide (2 ≤ k) && (decide (k ≤ 1000) && short 1000 ds)) then R.ok (D.tup (reps k.toNat ds)) s else .bad).wp (okQ K Cl ro H Q) (fun _ _ _ => False) := h
      by_cases z : (!ds.isEmpty && (decide (2 ≤ k) && (decide (k ≤ 1000) && short 1000 ds))) = true
      · rw [if_pos z] at h
        simp only [Bool.and_eq_true, decide_eq_true_eq] at z
        obtain ⟨z0, z1, z2, z3⟩ := z
        refine .inl (.inr ⟨a, k, vs, rfl, rfl, h1, fun e => ?_, z1, z2, by rw [← h2.length]; exact short_le z3, fun p hp => ?_⟩)
        · subst e; cases h2; cases z0
        · have sm := same_laid (ho := .tup (List.replicate k.toNat vs).flatten) hp
          exact h _ _ ro (rh.same sm) (.same sm) (.tup (SqT.of upd_same) ((h2.reps _).mono (.same sm)))
      · rw [if_neg z] at h; exact h.elim
    | _ => exact h.elim
  | ref h1 =>
    rename_i p a
    cases r' with
    | int k =>
      have h : (match s.get p with
        | some (.lst a) => if decide (-1000 ≤ k) && (decide (k ≤ 1000) && short 1000 a) then R.ok (D.ref s.n) (s.push (.lst (reps k.toNat a))) else .bad
        | _ => .bad).wp (okQ K Cl ro H Q) (fun _ _ _ => False) := h
      cases z1 : s.get p with
      | none => rw [z1] at h; exact h.elim
      | some o =>
        rw [z1] at h
        obtain ⟨a', e1, y1⟩ := rh.get p o z1
        rw [h1] at e1; cases e1
        cases y1 with
        | lst k1 k2 =>
          rename_i xs vs
          have h : (if decide (-1000 ≤ k) && (decide (k ≤ 1000) && short 1000 xs) then R.ok (D.ref s.n) (s.push (.lst (reps k.toNat xs))) else .bad).wp (okQ K Cl ro H Q) (fun _ _ _ => False) := h
          by_cases z : (decide (-1000 ≤ k) && (decide (k ≤ 1000) && short 1000 xs)) = true
          · rw [if_pos z] at h
            simp only [Bool.and_eq_true, decide_eq_true_eq] at z
            obtain ⟨z1, z2, z3⟩ := z
            refine .inr ⟨a, k, vs, rfl, rfl, k1, by omega, by omega, ?_, fun p hp => ?_⟩
            · have l1 : vs.length ≤ 1000 := by rw [← k2.length]; exact short_le z3
              have l2 : k.toNat ≤ 1000 := by omega
              have := Nat.mul_le_mul l1 l2
              have e : sizeLine = 16777216 := sizeLine_eq
              omega
            · exact h _ _ (ron ro s.n p) (rh.new hp (.lst upd_same ((k2.reps _).mono (ext_new rh hp)))) (ext_new rh hp) (.ref ron_same)
          · rw [if_neg z] at h; exact h.elim
        | _ => exact h.elim
    | _ => exact h.elim
  | _ => exact h.elim
def dFdv : D → D → S → R D
  | .int i, .int j, s => if decide (j ≠ 0) && decide (bLog j < 9000) then .ok (.int (i.fdiv j)) s else .bad
  | _, _, _ => .bad
def CDivF (i j : Int) : Prop := j ≠ 0 ∧ bLog j < 9000
def rFdv : R2 := rI CDivF fun i j => V.int (i.fdiv j)
theorem op_rFdv {X : Cx} : OpR X (binaryOp .FloorDiv) rFdv := opI fun _ _ _ _ _ _ _ hc q => PyProof.Rows.floordiv_int hc.1 q (.inl (PyProof.noPylong_of_log2 hc.2))
theorem dFdv_ok {K : PySem.W.Frag} {Cl : Nat → Addr} : OpS2 K Cl dFdv rFdv := by
  intro d v d' v' H ro s Q r r' rh h
  cases r with
  | int i => cases r' with
    | int j =>
      have h : (if decide (j ≠ 0) && decide (bLog j < 9000) then R.ok (D.int (i.fdiv j)) s else .bad).wp (okQ K Cl ro H Q) (fun _ _ _ => False) := h
      by_cases z : (decide (j ≠ 0) && decide (bLog j < 9000)) = true
      · rw [if_pos z] at h
        simp only [Bool.and_eq_true, decide_eq_true_eq] at z
        exact ⟨i, j, rfl, rfl, ⟨z.1, z.2⟩, h _ H ro rh .refl (.int _)⟩
      · rw [if_neg z] at h; exact h.elim
    | _ => exact h.elim
  | _ => exact h.elim
def dMod : D → D → S → R D
  | .int i, .int j, s => if j = 0 then .bad else .ok (.int (i.fmod j)) s
  | _, _, _ => .bad
theorem dMod_ok {K : PySem.W.Frag} {Cl : Nat → Addr} : OpS2 K Cl dMod (rI (fun _ j => j ≠ 0) fun i j => V.int (i.fmod j)) := by
  intro d v d' v' H ro s Q r r' rh h
  cases r with
  | int i => cases r' with
    | int j =>
      have h : (if j = 0 then R.bad else R.ok (D.int (i.fmod j)) s).wp (okQ K Cl ro H Q) (fun _ _ _ => False) := h
      by_cases z : j = 0
      · rw [if_pos z] at h; exact h.elim
      · rw [if_neg z] at h; exact ⟨i, j, rfl, rfl, z, h _ H ro rh .refl (.int _)⟩
    | _ => exact h.elim
  | _ => exact h.elim
def dNeg : D → S → R D
  | .int i, s => .ok (.int (-i)) s
  | _, _ => .bad
theorem dNeg_ok {K : PySem.W.Frag} {Cl : Nat → Addr} : OpS1 K Cl dNeg (rU fun i => V.int (-i)) := by
  intro d v H ro s Q r rh h
  cases r with
  | int i => exact ⟨i, rfl, h _ H ro rh .refl (.int _)⟩
  | _ => exact h.elim
/-! ### is None -/
def dIsN : D → S → R D
  | .non, s => .ok (.bl true) s
  | _, s => .ok (.bl false) s
def dNotN : D → S → R D
  | .non, s => .ok (.bl false) s
  | _, s => .ok (.bl true) s
theorem dIsN_ok {K : PySem.W.Frag} {Cl : Nat → Addr} : OpS1 K Cl dIsN (fun x H Q => Q (.bl (decide (x = .non))) H) := by
  intro d v H ro s Q r rh h
  cases r <;> exact h _ H ro rh .refl (.bl _)
theorem dNotN_ok {K : PySem.W.Frag} {Cl : Nat → Addr} : OpS1 K Cl dNotN (fun x H Q => Q (.bl (!decide (x = .non))) H) := by
  intro d v H ro s Q r rh h
  cases r <;> exact h _ H ro rh .refl (.bl _)
end Ev
set_option maxHeartbeats 1000000
namespace Ev
open PySem L2
abbrev ST := En → S → R Bool

/-! ### truth -/
def dTru (s : S) : D → Option Bool
  | .non => some false
  | .bl b => some b
  | .int i => some (i != 0)
  | .str x => if short zLine x then some ((x.length : Int) != 0) else none
  | .tup ds => some (!ds.isEmpty)
  | .ref p => match s.get p with
    | some (.lst xs) => some (!xs.isEmpty)
    | some (.frz xs) => some (!xs.isEmpty)
    | some (.dct kvs) => some (!kvs.isEmpty)
    | _ => none
section
variable {K : PySem.W.Frag} {Cl : Nat → Addr} {ro : Ro} {H : Hp} {s : S}
theorem Reps.isEmpty {xs : List D} {vs : List V} (r : Reps K ro H xs vs) : (!xs.isEmpty) = !vs.isEmpty := by cases r <;> rfl
theorem RepK.isEmpty {xs : List (Key × D)} {vs : List (Key × V)} (r : RepK K ro H xs vs) : (!xs.isEmpty) = !vs.isEmpty := by cases r <;> rfl
theorem dTru_ok {d : D} {v : V} {k : Bool} (rh : RelH K Cl ro H s) (r : Rep K ro H d v) (h : dTru s d = some k) : TruV K v H k := by
  cases r with
  | non => cases h; rfl
  | bl b => cases h; rfl
  | int i => cases h; rfl
  | str x =>
    have h : (if short zLine x then some ((x.length : Int) != 0) else none) = some k := h
    by_cases z : short zLine x = true
    · rw [if_pos z] at h
      obtain rfl := Option.some.inj h
      refine ⟨?_, ?_⟩
      · show x.toArray.size ≤ _
        rw [List.size_toArray]
        exact Nat.le_trans (short_le z) z_le
      · show _ = (((x.toArray.size : Nat) : Int) != 0)
        rw [List.size_toArray]
    · rw [if_neg z] at h; cases h
  | tup h1 h2 =>
    cases h
    exact .inr (.inl ⟨_, h1, h2.isEmpty⟩)
  | ref h1 =>
    rename_i p a
    have h : (match s.get p with
      | some (.lst xs) => some (!xs.isEmpty)
      | some (.frz xs) => some (!xs.isEmpty)
      | some (.dct kvs) => some (!kvs.isEmpty)
      | _ => none) = some k := h
    cases q : s.get p with
    | none => rw [q] at h; cases h
    | some o =>
      obtain ⟨a', e1, y⟩ := rh.get p o q
      rw [h1] at e1; cases e1
      rw [q] at h
      cases y with
      | lst g1 g2 => cases h; exact .inl ⟨_, SqL.of g1, g2.isEmpty⟩
      | frz g1 g2 =>
        cases h
        refine .inl ⟨_, ?_, g2.isEmpty⟩
        rcases g1 with ⟨o, g1⟩ | g1
        · exact .inl (.inr ⟨o, g1⟩)
        · exact g1 H
      | dct g1 g2 => cases h; exact .inr (.inr ⟨_, g1, g2.isEmpty⟩)
      | ins g1 g2 => cases h
end
def cTru (a : SE) : ST := fun e s => (a e s).bind fun d s1 => match dTru s1 d with
  | some k => .ok k s1
  | none => .bad
/-- a value that is True or False -/
def cTst (a : SE) : ST := fun e s => (a e s).bind fun d s1 => match d with
  | .bl k => .ok k s1
  | _ => .bad
def cVal (a : ST) : SE := fun e s => (a e s).bind fun k s1 => .ok (.bl k) s1
def cNotT (a : ST) : ST := fun e s => (a e s).bind fun k s1 => .ok (!k) s1
def cAndT (a b : ST) : ST := fun e s => (a e s).bind fun k s1 => if k then b e s1 else .ok false s1
def cOrT (a b : ST) : ST := fun e s => (a e s).bind fun k s1 => if k then .ok true s1 else b e s1
def cIfE (c : ST) (a b : SE) : SE := fun e s => (c e s).bind fun k s1 => if k then a e s1 else b e s1
def cOrV (a b : SE) : SE := fun e s => (a e s).bind fun d s1 => match dTru s1 d with
  | some true => .ok d s1
  | some false => b e s1
  | none => .bad
def cAndV (a b : SE) : SE := fun e s => (a e s).bind fun d s1 => match dTru s1 d with
  | some true => b e s1
  | some false => .ok d s1
  | none => .bad
def cNotV (a : SE) : SE := fun e s => (a e s).bind fun d s1 => match dTru s1 d with
  | some k => .ok (.bl (!k)) s1
  | none => .bad
def cChain (f g : D → D → S → R D) (a b c : SE) : SE := fun e s => (a e s).bind fun x s1 => (b e s1).bind fun y s2 => (noX (f x y s2)).bind fun z s3 => match z with
  | .bl true => (c e s3).bind fun w s4 => noX (g y w s4)
  | .bl false => .ok (.bl false) s3
  | _ => .bad
section
variable {X : Cx} {Cl : Nat → Addr} {W : WX} {a b c : Expr} {fa fb fc : SE} {ta tb : ST} {pos : Pos}
theorem r_tst {t : TE} {f : SE} (i : ∀ σ H Q, rdE X.K Cl W f σ H Q → t σ H Q) {σ : St} {H : Hp} {Q : Bool → Hp → Prop} (h : rdT X.K Cl W (cTst f) σ H Q) : tTest t σ H Q := by
  refine i σ H _ ?_
  obtain ⟨e, s, ro, rs, rh, h⟩ := h
  refine ⟨e, s, ro, rs, rh, ?_⟩
  unfold cTst at h
  rw [wp_bind] at h
  refine h.mono (fun d s1 q v H1 ro1 rh1 x1 rp => ?_) fun _ _ _ q => q
  cases rp with
  | bl k => exact ⟨k, rfl, q H1 ro1 rh1 x1⟩
  | _ => exact q.elim
theorem r_tru {σ : St} {H : Hp} {Q : Bool → Hp → Prop} (h : rdT X.K Cl W (cTru fa) σ H Q) : rdE X.K Cl W fa σ H fun x H' => ∃ k, TruV X.K x H' k ∧ Q k H' := by
  obtain ⟨e, s, ro, rs, rh, h⟩ := h
  refine ⟨e, s, ro, rs, rh, ?_⟩
  unfold cTru at h
  rw [wp_bind] at h
  refine h.mono (fun d s1 q v H1 ro1 rh1 x1 rp => ?_) fun _ _ _ q => q
  cases z : dTru s1 d with
  | none => rw [z] at q; exact q.elim
  | some k => rw [z] at q; exact ⟨k, dTru_ok rh1 rp z, q H1 ro1 rh1 x1⟩
/-- any expression as a test -/
theorem s_tru (ha : PE X a (rdE X.K Cl W fa)) (he : ∀ whole, isTrue a X.env whole = (do let v ← whole; standAt a.pos; holding [v] (truthy v))) : PT X a (rdT X.K Cl W (cTru fa)) := (pt_truth ha he).imp fun σ H Q h => r_tru h
theorem s_notT (ha : PT X a (rdT X.K Cl W ta)) : PT X (.UnaryOp .Not a pos) (rdT X.K Cl W (cNotT ta)) := (pt_not ha).imp fun σ H Q h => by
  obtain ⟨e, s, ro, rs, rh, h⟩ := h
  refine ⟨e, s, ro, rs, rh, ?_⟩
  unfold cNotT at h
  rw [wp_bind] at h
  exact h.mono (fun d s1 q => q) fun _ _ _ q => q
theorem s_and1 (ha : PT X a (rdT X.K Cl W ta)) : PW X (.BoolOp .And [a] pos) (rdT X.K Cl W ta) := pw_and1 ha
theorem s_or1 (ha : PT X a (rdT X.K Cl W ta)) : PW X (.BoolOp .Or [a] pos) (rdT X.K Cl W ta) := pw_or1 ha
theorem s_andT {rest : List Expr} (ha : PT X a (rdT X.K Cl W ta)) (hb : PW X (.BoolOp .And (b :: rest) pos) (rdT X.K Cl W tb)) : PW X (.BoolOp .And (a :: b :: rest) pos) (rdT X.K Cl W (cAndT ta tb)) := (pw_and ha hb).imp fun σ H Q h => by
  obtain ⟨e, s, ro, rs, rh, h⟩ := h
  refine ⟨e, s, ro, rs, rh, ?_⟩
  unfold cAndT at h
  rw [wp_bind] at h
  refine h.mono (fun k s1 q H1 ro1 rh1 x1 => ?_) fun _ _ _ q => q
  cases k with
  | true => exact ⟨e, s1, ro1, rs.ext x1, rh1, q.mono (fun _ _ z => z.ext x1) fun _ _ _ z => z.ext x1⟩
  | false => exact q H1 ro1 rh1 x1
theorem s_orT {rest : List Expr} (ha : PT X a (rdT X.K Cl W ta)) (hb : PW X (.BoolOp .Or (b :: rest) pos) (rdT X.K Cl W tb)) : PW X (.BoolOp .Or (a :: b :: rest) pos) (rdT X.K Cl W (cOrT ta tb)) := (pw_or ha hb).imp fun σ H Q h => by
  obtain ⟨e, s, ro, rs, rh, h⟩ := h
  refine ⟨e, s, ro, rs, rh, ?_⟩
  unfold cOrT at h
  rw [wp_bind] at h
  refine h.mono (fun k s1 q H1 ro1 rh1 x1 => ?_) fun _ _ _ q => q
  cases k with
  | false => exact ⟨e, s1, ro1, rs.ext x1, rh1, q.mono (fun _ _ z => z.ext x1) fun _ _ _ z => z.ext x1⟩
  | true => exact q H1 ro1 rh1 x1
theorem s_ifE (hc : PT X c (rdT X.K Cl W ta)) (ha : PE X a (rdE X.K Cl W fa)) (hb : PE X b (rdE X.K Cl W fb)) : PE X (.IfExp c a b pos) (rdE X.K Cl W (cIfE ta fa fb)) := (pe_ifExp hc ha hb).imp fun σ H Q h => by
  obtain ⟨e, s, ro, rs, rh, h⟩ := h
  refine ⟨e, s, ro, rs, rh, ?_⟩
  unfold cIfE at h
  rw [wp_bind] at h
  refine h.mono (fun k s1 q H1 ro1 rh1 x1 => ?_) fun _ _ _ q => q
  cases k with
  | true => exact ⟨e, s1, ro1, rs.ext x1, rh1, q.mono (fun _ _ z => z.ext x1) fun _ _ _ z => z.ext x1⟩
  | false => exact ⟨e, s1, ro1, rs.ext x1, rh1, q.mono (fun _ _ z => z.ext x1) fun _ _ _ z => z.ext x1⟩
theorem s_orV {rest : List Expr} (ha : PE X a (rdE X.K Cl W fa)) (hb : PE X (.BoolOp .Or (b :: rest) pos) (rdE X.K Cl W fb)) : PE X (.BoolOp .Or (a :: b :: rest) pos) (rdE X.K Cl W (cOrV fa fb)) := (pe_orT ha hb).imp fun σ H Q h => by
  obtain ⟨e, s, ro, rs, rh, h⟩ := h
  refine ⟨e, s, ro, rs, rh, ?_⟩
  unfold cOrV at h
  rw [wp_bind] at h
  refine h.mono (fun d s1 q v H1 ro1 rh1 x1 rp => ?_) fun _ _ _ q => q
  cases z : dTru s1 d with
  | none => rw [z] at q; exact q.elim
  | some k =>
    rw [z] at q
    refine ⟨k, dTru_ok rh1 rp z, ?_⟩
    cases k with
    | true => exact q v H1 ro1 rh1 x1 rp
    | false => exact ⟨e, s1, ro1, rs.ext x1, rh1, R.wp.mono q (fun _ _ z => z.ext x1) fun _ _ _ z => z.ext x1⟩
theorem s_andV {rest : List Expr} (ha : PE X a (rdE X.K Cl W fa)) (hb : PE X (.BoolOp .And (b :: rest) pos) (rdE X.K Cl W fb)) : PE X (.BoolOp .And (a :: b :: rest) pos) (rdE X.K Cl W (cAndV fa fb)) := (pe_andT ha hb).imp fun σ H Q h => by
  obtain ⟨e, s, ro, rs, rh, h⟩ := h
  refine ⟨e, s, ro, rs, rh, ?_⟩
  unfold cAndV at h
  rw [wp_bind] at h
  refine h.mono (fun d s1 q v H1 ro1 rh1 x1 rp => ?_) fun _ _ _ q => q
  cases z : dTru s1 d with
  | none => rw [z] at q; exact q.elim
  | some k =>
    rw [z] at q
    refine ⟨k, dTru_ok rh1 rp z, ?_⟩
    cases k with
    | false => exact q v H1 ro1 rh1 x1 rp
    | true => exact ⟨e, s1, ro1, rs.ext x1, rh1, R.wp.mono q (fun _ _ z => z.ext x1) fun _ _ _ z => z.ext x1⟩
theorem s_oneV {op : BoolOp} (ha : PE X a (rdE X.K Cl W fa)) : PE X (.BoolOp op [a] pos) (rdE X.K Cl W fa) := pe_one ha
theorem s_notV (ha : PE X a (rdE X.K Cl W fa)) : PE X (.UnaryOp .Not a pos) (rdE X.K Cl W (cNotV fa)) := (pe_notT ha).imp fun σ H Q h => by
  obtain ⟨e, s, ro, rs, rh, h⟩ := h
  refine ⟨e, s, ro, rs, rh, ?_⟩
  unfold cNotV at h
  rw [wp_bind] at h
  refine h.mono (fun d s1 q v H1 ro1 rh1 x1 rp => ?_) fun _ _ _ q => q
  cases z : dTru s1 d with
  | none => rw [z] at q; exact q.elim
  | some k => rw [z] at q; exact ⟨k, dTru_ok rh1 rp z, q _ H1 ro1 rh1 x1 (.bl _)⟩
theorem r_chain {f g : D → D → S → R D} {r r' : R2} (o : OpS2 X.K Cl f r) (o' : OpS2 X.K Cl g r') {σ : St} {H : Hp} {Q : VK} (h : rdE X.K Cl W (cChain f g fa fb fc) σ H Q) : tChain r r' (rdE X.K Cl W fa) (rdE X.K Cl W fb) (rdE X.K Cl W fc) σ H Q := by
  obtain ⟨e, s, ro, rs, rh, h⟩ := h
  refine ⟨e, s, ro, rs, rh, ?_⟩
  unfold cChain at h
  rw [wp_bind] at h
  refine h.mono (fun d s1 q v H1 ro1 rh1 x1 rp => ?_) fun _ _ _ q => q
  refine ⟨e, s1, ro1, rs.ext x1, rh1, ?_⟩
  rw [wp_bind] at q
  refine q.mono (fun d' s2 q v' H2 ro2 rh2 x2 rp' => ?_) fun _ _ _ q => q.ext x1
  refine o d v d' v' H2 ro2 s2 _ (rp.mono x2) rp' rh2 ?_
  rw [wp_bind] at q
  cases zz : f d d' s2 with
  | ex _ _ _ => rw [zz] at q; exact q.elim
  | bad => rw [zz] at q; exact q.elim
  | ok z s3 =>
  rw [zz] at q
  intro v3 H3 ro3 rh3 x3 rp3
  cases rp3 with
  | bl k =>
    refine ⟨k, rfl, ?_⟩
    cases k with
    | false => exact q _ H3 ro3 rh3 (x1.trans (x2.trans x3)) (.bl _)
    | true =>
      have q : ((fc e s3).bind fun w s4 => noX (g d' w s4)).wp _ _ := q
      refine ⟨e, s3, ro3, rs.ext (x1.trans (x2.trans x3)), rh3, ?_⟩
      rw [wp_bind] at q
      refine q.mono (fun w s4 q v4 H4 ro4 rh4 x4 rp4 => ?_) fun _ _ _ q => q.ext (x1.trans (x2.trans x3))
      exact o' d' v' w v4 H4 ro4 s4 Q (rp'.mono (x3.trans x4)) rp4 rh4 ((noX_wp (E' := fun _ _ _ => False) q).mono (fun _ _ z => z.ext (x1.trans (x2.trans (x3.trans x4)))) fun _ _ _ z => z)
  | _ => exact q.elim
end

/-! ### subscripts -/
def toKey : D → Option Key
  | .int i => some (.inl i)
  | .str x => some (.inr ⟨x.toArray⟩)
  | _ => none
def dVal (kvs : List (Key × D)) (k : Key) : Option D := match kvs with
  | [] => none
  | (j, d) :: r => if j = k then some d else dVal r k
def dPut (kvs : List (Key × D)) (k : Key) (d : D) : List (Key × D) := match kvs with
  | [] => [(k, d)]
  | (j, x) :: r => if j = k then (j, d) :: r else (j, x) :: dPut r k d
def lIdx (xs : List D) (i : D) (s : S) : R D := match i with
  | .int k => match atI xs k with
    | some d => .ok d s
    | none => .bad
  | _ => .bad
def sIdx (x : List Nat) (i : D) (s : S) : R D := match i with
  | .int k => if short zLine x then match atI x k with
      | some z => .ok (.str [z]) s
      | none => .bad
    else .bad
  | _ => .bad
def kIdx (kvs : List (Key × D)) (i : D) (s : S) : R D := match toKey i with
  | some k => match dVal kvs k with
    | some d => .ok d s
    | none => .bad
  | none => .bad
def dIdx (c i : D) (s : S) : R D := match c with
  | .tup ds => lIdx ds i s
  | .str x => sIdx x i s
  | .ref p => match s.get p with
    | some (.dct kvs) => kIdx kvs i s
    | some (.lst xs) => lIdx xs i s
    | some (.frz xs) => lIdx xs i s
    | _ => .bad
  | _ => .bad
def rDGet : R2 := fun x y H Q => ∃ a v, x = V.ref a ∧ DGet H a y (some v) ∧ Q v H
def rIdx (K : PySem.W.Frag) : R2 := fun x y H Q => ((rIxL K x y H Q ∨ rIxT K x y H Q) ∨ rIxS x y H Q) ∨ rDGet x y H Q
section
variable {K : PySem.W.Frag} {Cl : Nat → Addr} {ro : Ro} {H : Hp} {s : S}
theorem Reps.atI {ds : List D} {vs : List V} {k : Int} {d : D} (r : Reps K ro H ds vs) (h : L2.atI ds k = some d) : ∃ v, L2.atI vs k = some v ∧ Rep K ro H d v := by
  unfold L2.atI at h ⊢
  rw [← r.length]
  cases z : ixN ds.length k with
  | none => rw [z] at h; cases h
  | some j =>
    rw [z] at h
    exact r.get h
theorem toKey_ok {d : D} {v : V} {k : Key} (r : Rep K ro H d v) (h : toKey d = some k) : v = kV k := by
  cases r with
  | int i => cases h; rfl
  | str x => cases h; rfl
  | _ => cases h
theorem RepK.val {kvs : List (Key × D)} {vs : List (Key × V)} (r : RepK K ro H kvs vs) {k : Key} {d : D} (h : dVal kvs k = some d) : ∃ v, valV vs k = some v ∧ Rep K ro H d v := by
  induction r with
  | nil => cases h
  | cons r1 r2 ih =>
    rename_i j x v ds us
    unfold dVal at h
    by_cases z : j = k
    · rw [if_pos z] at h
      obtain rfl := Option.some.inj h
      exact ⟨v, valV_pos z, r1⟩
    · rw [if_neg z] at h
      rw [valV_neg z]
      exact ih h
theorem RepK.val_none {kvs : List (Key × D)} {vs : List (Key × V)} (r : RepK K ro H kvs vs) {k : Key} (h : dVal kvs k = none) : valV vs k = none := by
  induction r with
  | nil => rfl
  | cons r1 r2 ih =>
    rename_i j x v ds us
    unfold dVal at h
    by_cases z : j = k
    · rw [if_pos z] at h; cases h
    · rw [if_neg z] at h
      rw [valV_neg z]
      exact ih h
theorem lIdx_ok {xs : List D} {vs : List V} {i : D} {v : V} {Q : VK} {E : Nat → List (Str × D) → S → Prop} (rh : RelH K Cl ro H s) (g : Reps K ro H xs vs) (r : Rep K ro H i v) (h : (lIdx xs i s).wp (okQ K Cl ro H Q) (fun _ _ _ => False)) : ∃ k u, v = .int k ∧ L2.atI vs k = some u ∧ Q u H := by
  unfold lIdx at h
  cases r with
  | int k =>
    simp only at h
    cases z : L2.atI xs k with
    | none => rw [z] at h; exact h.elim
    | some d =>
      rw [z] at h
      obtain ⟨u, e, ru⟩ := g.atI z
      exact ⟨k, u, rfl, e, h u H ro rh .refl ru⟩
  | _ => exact h.elim
theorem dIdx_ok : OpS2 K Cl dIdx (rIdx K) := by
  intro d v d' v' H ro s Q r r' rh h
  unfold dIdx at h
  cases r with
  | tup h1 h2 =>
    rename_i ds a vs
    obtain ⟨k, u, rfl, e, q⟩ := lIdx_ok (E := fun _ _ _ => False) rh h2 r' h
    exact .inl (.inl (.inr ⟨a, vs, k, u, rfl, rfl, h1, e, q⟩))
  | str x =>
    simp only [sIdx] at h
    cases r' with
    | int k =>
      simp only at h
      by_cases z : short zLine x = true
      · rw [if_pos z] at h
        cases z2 : L2.atI x k with
        | none => rw [z2] at h; exact h.elim
        | some c =>
          rw [z2] at h
          refine .inl (.inr ⟨⟨x.toArray⟩, k, c, rfl, rfl, ?_, by simpa using z2, ?_⟩)
          · show x.toArray.size ≤ _
            rw [List.size_toArray]; exact Nat.le_trans (short_le z) z_le
          · exact h _ H ro rh .refl (.str [c])
      · rw [if_neg z] at h; exact h.elim
    | _ => exact h.elim
  | ref h1 =>
    rename_i p a
    simp only at h
    cases q : s.get p with
    | none => rw [q] at h; exact h.elim
    | some o =>
      obtain ⟨a', e1, y⟩ := rh.get p o q
      rw [h1] at e1; cases e1
      rw [q] at h
      cases y with
      | lst g1 g2 =>
        obtain ⟨k, u, rfl, e, q⟩ := lIdx_ok (E := fun _ _ _ => False) rh g2 r' h
        exact .inl (.inl (.inl ⟨a, _, k, u, rfl, rfl, SqL.of g1, e, q⟩))
      | frz g1 g2 =>
        obtain ⟨k, u, rfl, e, q⟩ := lIdx_ok (E := fun _ _ _ => False) rh g2 r' h
        refine .inl (.inl (.inl ⟨a, _, k, u, rfl, rfl, ?_, e, q⟩))
        rcases g1 with ⟨o, g1⟩ | g1
        · exact .inl (.inr ⟨o, g1⟩)
        · exact g1 H
      | dct g1 g2 =>
        rename_i kvs vs
        simp only [kIdx] at h
        cases z : toKey d' with
        | none => rw [z] at h; exact h.elim
        | some k =>
          rw [z] at h
          simp only at h
          cases z2 : dVal kvs k with
          | none => rw [z2] at h; exact h.elim
          | some d =>
            rw [z2] at h
            obtain ⟨u, e, ru⟩ := g2.val z2
            obtain rfl := toKey_ok r' z
            exact .inr ⟨a, u, rfl, by rw [← e]; exact DGet.k g1, h u H ro rh .refl ru⟩
      | ins g1 g2 => exact h.elim
  | _ => exact h.elim
end
theorem ix_dict {X : Cx} (hu : X.A.units + 1 < cLine) : IxR X rDGet := by
  intro value slice pins s σ H x y v u Q I rx ry h hs
  obtain ⟨a, w, rfl, g, q⟩ := h
  obtain rfl : v = Value.ref a := rx
  exact PyProof.Rows.tail_any (ops := [.ref a, u]) (dict_typeIs I g) PySem.F.slot_dict_getitem.lookup (d_getItem hu I g ry fun w' s3 I3 rw' => ⟨w, H, I3, rw', q⟩) hs
section
variable {X : Cx} {Cl : Nat → Addr} {W : WX} {a b : Expr} {fa fb : SE} {pos : Pos}
theorem s_idx (hu : X.A.units + 64 < cLine) (ha : PE X a (rdE X.K Cl W fa)) (hb : PE X b (rdE X.K Cl W fb)) (hs : PlainIx b) : PE X (.Subscript a b pos) (rdE X.K Cl W (cBin dIdx fa fb)) :=
  (pe_ix (((ix_list.or ix_tup).or ix_str).or (ix_dict (by omega))) ha hb hs).imp fun σ H Q h => r_bin dIdx_ok h
theorem s_bin {op : Operator} {f : D → D → S → R D} {r : R2} (o : OpR X (binaryOp op) r) (h : OpS2 X.K Cl f r) (ha : PE X a (rdE X.K Cl W fa)) (hb : PE X b (rdE X.K Cl W fb)) : PE X (.BinOp a op b pos) (rdE X.K Cl W (cBin f fa fb)) := (pe_op o ha hb).imp fun _ _ _ q => r_bin h q
theorem s_cmp {op : CmpOp} {f : D → D → S → R D} {r : R2} (o : OpR X (compareOp op) r) (h : OpS2 X.K Cl f r) (ha : PE X a (rdE X.K Cl W fa)) (hb : PE X b (rdE X.K Cl W fb)) (hm : behindInMarks op b = false) : PE X (.Compare a [op] [b] pos) (rdE X.K Cl W (cBin f fa fb)) := (pe_cmpR o ha hb hm).imp fun _ _ _ q => r_bin h q
theorem s_cmpT {op : CmpOp} {f : D → D → S → R D} {r : R2} (o : OpR X (compareOp op) r) (h : OpS2 X.K Cl f r) (ha : PE X a (rdE X.K Cl W fa)) (hb : PE X b (rdE X.K Cl W fb)) (hm : behindInMarks op b = false) : PT X (.Compare a [op] [b] pos) (rdT X.K Cl W (cTst (cBin f fa fb))) := (pt_cmpR o ha hb hm).imp fun _ _ _ q => r_tst (fun _ _ _ q => r_bin h q) q
theorem s_neg (ha : PE X a (rdE X.K Cl W fa)) : PE X (.UnaryOp .USub a pos) (rdE X.K Cl W (cUn dNeg fa)) := (pe_un un_neg ha).imp fun _ _ _ q => r_un dNeg_ok q
theorem s_isN {j : Nat} {p2 : Pos} (ha : PE X a (rdE X.K Cl W fa)) : PE X (.Compare a [.Is] [.Constant .none j p2] pos) (rdE X.K Cl W (cUn dIsN fa)) := (pe_cmp (pc_isN ha)).imp fun _ _ _ q => r_un dIsN_ok q
theorem s_notN {j : Nat} {p2 : Pos} (ha : PE X a (rdE X.K Cl W fa)) : PE X (.Compare a [.IsNot] [.Constant .none j p2] pos) (rdE X.K Cl W (cUn dNotN fa)) := (pe_cmp (pc_notN ha)).imp fun _ _ _ q => r_un dNotN_ok q
theorem s_isNT {j : Nat} {p2 : Pos} (ha : PE X a (rdE X.K Cl W fa)) : PT X (.Compare a [.Is] [.Constant .none j p2] pos) (rdT X.K Cl W (cTst (cUn dIsN fa))) := (pt_cmp (pc_isN ha)).imp fun _ _ _ q => r_tst (t := tIsN (rdE X.K Cl W fa)) (fun _ _ _ q => r_un dIsN_ok q) q
theorem s_notNT {j : Nat} {p2 : Pos} (ha : PE X a (rdE X.K Cl W fa)) : PT X (.Compare a [.IsNot] [.Constant .none j p2] pos) (rdT X.K Cl W (cTst (cUn dNotN fa))) := (pt_cmp (pc_notN ha)).imp fun _ _ _ q => r_tst (t := tNotN (rdE X.K Cl W fa)) (fun _ _ _ q => r_un dNotN_ok q) q
theorem s_chain {c : Expr} {fc : SE} {op op' : CmpOp} {f g : D → D → S → R D} {r r' : R2} (o : OpR X (compareOp op) r) (o' : OpR X (compareOp op') r') (h : OpS2 X.K Cl f r) (h' : OpS2 X.K Cl g r') (ha : PE X a (rdE X.K Cl W fa)) (hb : PE X b (rdE X.K Cl W fb)) (hc : PE X c (rdE X.K Cl W fc))
    (hm : lastMarks [op, op'] [b, c] = false) : PE X (.Compare a [op, op'] [b, c] pos) (rdE X.K Cl W (cChain f g fa fb fc)) := (pe_chain o o' ha hb hc hm).imp fun _ _ _ q => r_chain h h' q
theorem s_chainT {c : Expr} {fc : SE} {op op' : CmpOp} {f g : D → D → S → R D} {r r' : R2} (o : OpR X (compareOp op) r) (o' : OpR X (compareOp op') r') (h : OpS2 X.K Cl f r) (h' : OpS2 X.K Cl g r') (ha : PE X a (rdE X.K Cl W fa)) (hb : PE X b (rdE X.K Cl W fb)) (hc : PE X c (rdE X.K Cl W fc))
    (hm : lastMarks [op, op'] [b, c] = false) : PT X (.Compare a [op, op'] [b, c] pos) (rdT X.K Cl W (cTst (cChain f g fa fb fc))) := (pt_chain o o' ha hb hc hm).imp fun _ _ _ q => r_tst (fun _ _ _ q => r_chain h h' q) q
end
end Ev
set_option maxHeartbeats 1000000
namespace Ev
open PySem L2

/-! ### in -/
def dIn (a c : D) (s : S) : R D := match c with
  | .ref p => match s.get p with
    | some (.dct kvs) => match toKey a with
      | some k => .ok (.bl (dVal kvs k).isSome) s
      | none => .bad
    | _ => onP pIn a c s
  | .str x => match a with
    | .str [z] => .ok (.bl (decide (z ∈ x))) s
    | _ => .bad
  | c => onP pIn a c s
def dNi (a c : D) (s : S) : R D := match c with
  | .ref p => match s.get p with
    | some (.dct kvs) => match toKey a with
      | some k => .ok (.bl (!(dVal kvs k).isSome)) s
      | none => .bad
    | _ => onP pNi a c s
  | .str x => match a with
    | .str [z] => .ok (.bl (!decide (z ∈ x))) s
    | _ => .bad
  | c => onP pNi a c s
def rDIn : R2 := fun y x H Q => ∃ a o, x = V.ref a ∧ DGet H a y o ∧ Q (.bl o.isSome) H
def rDNi : R2 := fun y x H Q => ∃ a o, x = V.ref a ∧ DGet H a y o ∧ Q (.bl (!o.isSome)) H
def rSIn : R2 := fun x y H Q => ∃ (c : Nat) (z : Str), x = .str ⟨#[c]⟩ ∧ y = .str z ∧ Q (.bl (decide (c ∈ z.cps.toList))) H
def rSNi : R2 := fun x y H Q => ∃ (c : Nat) (z : Str), x = .str ⟨#[c]⟩ ∧ y = .str z ∧ Q (.bl (!decide (c ∈ z.cps.toList))) H
def rIn' (K : PySem.W.Frag) : R2 := fun x y H Q => (rP K pIn x y H Q ∨ rDIn x y H Q) ∨ rSIn x y H Q
def rNi' (K : PySem.W.Frag) : R2 := fun x y H Q => (rP K pNi x y H Q ∨ rDNi x y H Q) ∨ rSNi x y H Q
section
variable {X : Cx}
theorem op_dIn (hu : X.A.units + 1 < cLine) : OpR X (compareOp .In) rDIn := by
  intro pins s σ H x y v u Q I rx ry h
  obtain ⟨a, o, rfl, g, q⟩ := h
  obtain rfl : u = Value.ref a := ry
  exact d_in hu I g rx fun s3 I3 => ⟨.bl o.isSome, H, I3, rfl, q⟩
theorem op_dNi (hu : X.A.units + 1 < cLine) : OpR X (compareOp .NotIn) rDNi := by
  intro pins s σ H x y v u Q I rx ry h
  obtain ⟨a, o, rfl, g, q⟩ := h
  obtain rfl : u = Value.ref a := ry
  exact d_notIn hu I g rx fun s3 I3 => ⟨.bl (!o.isSome), H, I3, rfl, q⟩
theorem op_rIn (hu : X.A.units + 64 < cLine) : OpR X (compareOp .In) (rIn' X.K) := ((op_pIn hu).or (op_dIn (by omega))).or op_in_sign
theorem op_rNi (hu : X.A.units + 64 < cLine) : OpR X (compareOp .NotIn) (rNi' X.K) := ((op_pNi hu).or (op_dNi (by omega))).or op_notIn_sign
variable {K : PySem.W.Frag} {Cl : Nat → Addr}
theorem dIn_ok : OpS2 K Cl dIn (rIn' K) := by
  intro d v d' v' H ro s Q r r' rh h
  unfold dIn at h
  have gen : (onP pIn d d' s).wp (okQ K Cl ro H Q) (fun _ _ _ => False) → rIn' K v v' H Q := fun h => .inl (.inl (onP_ok (Cl := Cl) d v d' v' H ro s Q r r' rh h))
  cases r' with
  | str x =>
    simp only at h
    cases r with
    | str y =>
      match y, h with
      | [], h => exact h.elim
      | [z], h => exact .inr ⟨z, ⟨x.toArray⟩, rfl, rfl, by simpa using h _ H ro rh .refl (.bl _)⟩
      | _ :: _ :: _, h => exact h.elim
    | _ => exact h.elim
  | ref h1 =>
    rename_i p a
    simp only at h
    cases q : s.get p with
    | none => rw [q] at h; exact gen h
    | some o =>
      rw [q] at h
      obtain ⟨a', e1, y⟩ := rh.get p o q
      rw [h1] at e1; cases e1
      cases y with
      | dct g1 g2 =>
        rename_i kvs vs
        simp only at h
        cases z : toKey d with
        | none => rw [z] at h; exact h.elim
        | some k =>
          rw [z] at h
          obtain rfl := toKey_ok r z
          refine .inl (.inr ⟨a, _, rfl, DGet.k g1, ?_⟩)
          have e : (valV vs k).isSome = (dVal kvs k).isSome := by
            cases w : dVal kvs k with
            | none => rw [g2.val_none w]; rfl
            | some d2 =>
              obtain ⟨u, e, _⟩ := g2.val w
              rw [e]; rfl
          rw [e]
          exact h _ H ro rh .refl (.bl _)
      | _ => exact gen h
  | _ => exact gen h
theorem dNi_ok : OpS2 K Cl dNi (rNi' K) := by
  intro d v d' v' H ro s Q r r' rh h
  unfold dNi at h
  have gen : (onP pNi d d' s).wp (okQ K Cl ro H Q) (fun _ _ _ => False) → rNi' K v v' H Q := fun h => .inl (.inl (onP_ok (Cl := Cl) d v d' v' H ro s Q r r' rh h))
  cases r' with
  | str x =>
    simp only at h
    cases r with
    | str y =>
      match y, h with
      | [], h => exact h.elim
      | [z], h => exact .inr ⟨z, ⟨x.toArray⟩, rfl, rfl, by simpa using h _ H ro rh .refl (.bl _)⟩
      | _ :: _ :: _, h => exact h.elim
    | _ => exact h.elim
  | ref h1 =>
    rename_i p a
    simp only at h
    cases q : s.get p with
    | none => rw [q] at h; exact gen h
    | some o =>
      rw [q] at h
      obtain ⟨a', e1, y⟩ := rh.get p o q
      rw [h1] at e1; cases e1
      cases y with
      | dct g1 g2 =>
        rename_i kvs vs
        simp only at h
        cases z : toKey d with
        | none => rw [z] at h; exact h.elim
        | some k =>
          rw [z] at h
          obtain rfl := toKey_ok r z
          refine .inl (.inr ⟨a, _, rfl, DGet.k g1, ?_⟩)
          have e : (valV vs k).isSome = (dVal kvs k).isSome := by
            cases w : dVal kvs k with
            | none => rw [g2.val_none w]; rfl
            | some d2 =>
              obtain ⟨u, e, _⟩ := g2.val w
              rw [e]; rfl
          rw [e]
          exact h _ H ro rh .refl (.bl _)
      | _ => exact gen h
  | _ => exact gen h
end

/-! ### slices -/
def cPart (f : Option SE) : En → S → R (Option Int) := fun e s => match f with
  | none => .ok none s
  | some f => (f e s).bind fun d s1 => match d with
    | .int i => .ok (some i) s1
    | _ => .bad
def rdO (K : PySem.W.Frag) (Cl : Nat → Addr) (W : WX) (f : En → S → R (Option Int)) : TO := fun σ H Q => ∃ e s ro, RelS K ro H e σ ∧ RelH K Cl ro H s ∧ (f e s).wp (fun o s' => ∀ H' ro', RelH K Cl ro' H' s' → Ext K ro H ro' H' → Q o H') (exQ K Cl W ro H σ)
def cutD (xs : List D) (lo hi : Option Int) : List D := (xs.drop (HT.sIx xs.length 0 lo)).take (HT.sIx xs.length xs.length hi - HT.sIx xs.length 0 lo)
def dSl (c : D) (lo hi : Option Int) (s : S) : R D := match c with
  | .tup ds => .ok (.tup (cutD ds lo hi)) s
  | .ref p => match items s (.ref p) with
    | some xs => .ok (.ref s.n) (s.push (.lst (cutD xs lo hi)))
    | none => .bad
  | _ => .bad
def cSl (a : SE) (lo hi : Option SE) : SE := fun e s => (a e s).bind fun d s1 => (cPart lo e s1).bind fun l s2 => (cPart hi e s2).bind fun u s3 => noX (dSl d l u s3)
def rSl (K : PySem.W.Frag) : V → Option Int → Option Int → Hp → VK → Prop := fun x lo hi H Q => rSlL K x lo hi H Q ∨ rSlA K x lo hi H Q
section
variable {K : PySem.W.Frag} {Cl : Nat → Addr} {ro : Ro} {H : Hp} {s : S}
theorem Reps.cut {ds : List D} {vs : List V} (r : Reps K ro H ds vs) (lo hi : Option Int) : Reps K ro H (cutD ds lo hi) (cutV vs lo hi) := by
  unfold cutD cutV
  rw [← r.length]
  exact (r.drop _).take _
theorem dSl_ok {d : D} {v : V} {lo hi : Option Int} {Q : VK} (r : Rep K ro H d v) (rh : RelH K Cl ro H s) (h : (dSl d lo hi s).wp (okQ K Cl ro H Q) (fun _ _ _ => False)) : rSl K v lo hi H Q := by
  unfold dSl at h
  cases r with
  | tup h1 h2 =>
    rename_i ds a vs
    simp only at h
    refine .inr ⟨a, vs, rfl, h1, fun w => ?_, fun w p hp => ?_⟩
    · have e : cutD ds lo hi = ds := by
        unfold cutD
        rw [h2.length, w.1, w.2, List.drop_zero, Nat.sub_zero, ← h2.length, List.take_length]
      rw [e] at h
      exact h _ H ro rh .refl (.tup h1 h2)
    · have sm := same_laid (ho := .tup (cutV vs lo hi)) hp
      exact h _ _ ro (rh.same sm) (.same sm) (.tup (SqT.of upd_same) ((h2.cut lo hi).mono (.same sm)))
  | ref h1 =>
    rename_i p a
    simp only at h
    cases z : items s (.ref p) with
    | none => rw [z] at h; exact h.elim
    | some xs =>
      rw [z] at h
      obtain ⟨vs, g1, g2⟩ := items_ref rh h1 z
      exact .inl ⟨a, vs, rfl, g1, fun q hq => h _ _ (ron ro s.n q) (rh.new hq (.lst upd_same ((g2.cut lo hi).mono (ext_new rh hq)))) (ext_new rh hq) (.ref ron_same)⟩
  | _ => exact h.elim
end
section
variable {X : Cx} {Cl : Nat → Addr} {W : WX} {e : Expr} {f : SE} {pos p2 : Pos}
theorem s_poN : PO X none (rdO X.K Cl W (cPart none)) := ⟨fun pins s σ H Q I h => by
  obtain ⟨e, s', ro, rs, rh, h⟩ := h
  exact po_none.run pins s σ H Q I (h H ro rh .refl)⟩
theorem s_poS (he : PE X e (rdE X.K Cl W f)) : PO X (some e) (rdO X.K Cl W (cPart (some f))) := ⟨fun pins s σ H Q I h => by
  refine (po_some he).run pins s σ H Q I ?_
  obtain ⟨e, s', ro, rs, rh, h⟩ := h
  refine ⟨e, s', ro, rs, rh, ?_⟩
  unfold cPart at h
  simp only at h
  rw [wp_bind] at h
  refine h.mono (fun d s1 q v H1 ro1 rh1 x1 rp => ?_) fun _ _ _ q => q
  cases rp with
  | int i => exact ⟨i, rfl, q H1 ro1 rh1 x1⟩
  | _ => exact q.elim⟩
theorem s_sl {lo hi : Option Expr} {fl fh : Option SE} (he : PE X e (rdE X.K Cl W f)) (hl : PO X lo (rdO X.K Cl W (cPart fl))) (hh : PO X hi (rdO X.K Cl W (cPart fh))) : PE X (.Subscript e (.Slice lo hi none p2) pos) (rdE X.K Cl W (cSl f fl fh)) :=
  (pe_slice (sl_list.or sl_tupA) he hl hh).imp fun σ H Q h => by
    obtain ⟨e, s, ro, rs, rh, h⟩ := h
    refine ⟨e, s, ro, rs, rh, ?_⟩
    unfold cSl at h
    rw [wp_bind] at h
    refine h.mono (fun d s1 q v H1 ro1 rh1 x1 rp => ?_) fun _ _ _ q => q
    refine ⟨e, s1, ro1, rs.ext x1, rh1, ?_⟩
    rw [wp_bind] at q
    refine q.mono (fun l s2 q H2 ro2 rh2 x2 => ?_) fun _ _ _ q => q.ext x1
    refine ⟨e, s2, ro2, rs.ext (x1.trans x2), rh2, ?_⟩
    rw [wp_bind] at q
    refine q.mono (fun u s3 q H3 ro3 rh3 x3 => ?_) fun _ _ _ q => q.ext (x1.trans x2)
    exact dSl_ok (rp.mono (x2.trans x3)) rh3 ((noX_wp (E' := fun _ _ _ => False) q).mono (fun _ _ z => z.ext (x1.trans (x2.trans x3))) fun _ _ _ z => z)
/-- xs[::-1] -/
def dRev (c : D) (s : S) : R D := match c with
  | .ref p => match items s (.ref p) with
    | some xs => .ok (.ref s.n) (s.push (.lst xs.reverse))
    | none => .bad
  | _ => .bad
theorem s_rev {k : Nat} {p1 p3 p4 : Pos} (he : PE X e (rdE X.K Cl W f)) : PE X (.Subscript e (.Slice none none (some (.UnaryOp .USub (.Constant (.int 1) k p1) p3)) p4) pos) (rdE X.K Cl W (cUn dRev f)) :=
  (pe_revL he).imp fun σ H Q h => by
    refine r_un (r := fun x H1 Q => ∃ a xs, x = V.ref a ∧ SqL X.K H1 a xs ∧ ∀ p, H1 p = none → Q (.ref p) (upd H1 p (.lst xs.reverse))) (fun d v H ro s Q r rh h => ?_) h
    unfold dRev at h
    cases r with
    | ref h1 =>
      rename_i p a
      simp only at h
      cases z : items s (.ref p) with
      | none => rw [z] at h; exact h.elim
      | some xs =>
        rw [z] at h
        obtain ⟨vs, g1, g2⟩ := items_ref rh h1 z
        exact ⟨a, vs, rfl, g1, fun q hq => h _ _ (ron ro s.n q) (rh.new hq (.lst upd_same (g2.reverse.mono (ext_new rh hq)))) (ext_new rh hq) (.ref ron_same)⟩
    | _ => exact h.elim
end

/-! ### calls of built-ins -/
def OpSs (K : PySem.W.Frag) (Cl : Nat → Addr) (f : List D → S → R D) (r : List V → Hp → VK → Prop) : Prop :=
  ∀ ds vs H ro s Q, Reps K ro H ds vs → RelH K Cl ro H s → (f ds s).wp (okQ K Cl ro H Q) (fun _ _ _ => False) → r vs H Q
def cCall (f : List D → S → R D) (as : SEs) : SE := fun e s => (as e s).bind fun ds s1 => noX (f ds s1)
section
variable {X : Cx} {Cl : Nat → Addr} {W : WX} {fs : SEs}
theorem r_call {f : List D → S → R D} {r : List V → Hp → VK → Prop} (o : OpSs X.K Cl f r) {σ : St} {H : Hp} {Q : VK} (h : rdE X.K Cl W (cCall f fs) σ H Q) : tCB r (rdA X.K Cl W fs) σ H Q := by
  obtain ⟨e, s, ro, rs, rh, h⟩ := h
  refine ⟨e, s, ro, rs, rh, ?_⟩
  unfold cCall at h
  rw [wp_bind] at h
  refine h.mono (fun ds s1 q vs H1 ro1 rh1 x1 rp => ?_) fun _ _ _ q => q
  exact o ds vs H1 ro1 s1 Q rp rh1 ((noX_wp (E' := fun _ _ _ => False) q).mono (fun _ _ z => z.ext x1) fun _ _ _ z => z)
end
def bLen (ds : List D) (s : S) : R D := match ds with
  | [.str x] => if short zLine x then .ok (.int x.length) s else .bad
  | [.tup xs] => .ok (.int xs.length) s
  | [.ref p] => match s.get p with
    | some (.dct kvs) => .ok (.int kvs.length) s
    | _ => match items s (.ref p) with
      | some xs => .ok (.int xs.length) s
      | none => .bad
  | _ => .bad
def bAbs (ds : List D) (s : S) : R D := match ds with
  | [.int i] => .ok (.int (if i < 0 then -i else i)) s
  | _ => .bad
def bInt (ds : List D) (s : S) : R D := match ds with
  | [.int i] => .ok (.int i) s
  | [.bl k] => .ok (.int (if k then 1 else 0)) s
  | _ => .bad
def bMax2 (ds : List D) (s : S) : R D := match ds with
  | [.int i, .int j] => .ok (.int (if j > i then j else i)) s
  | _ => .bad
def bMin2 (ds : List D) (s : S) : R D := match ds with
  | [.int i, .int j] => .ok (.int (if j < i then j else i)) s
  | _ => .bad
def bGcd (ds : List D) (s : S) : R D := match ds with
  | [.int i, .int j] => .ok (.int ((Nat.gcd i.natAbs j.natAbs : Nat) : Int)) s
  | _ => .bad
def bList (ds : List D) (s : S) : R D := match ds with
  | [d] => match items s d with
    | some xs => .ok (.ref s.n) (s.push (.lst xs))
    | none => .bad
  | _ => .bad
def bTuple (ds : List D) (s : S) : R D := match ds with
  | [d] => match items s d with
    | some xs => .ok (.tup xs) s
    | none => .bad
  | _ => .bad
def allInt : List D → Option (List Int)
  | [] => some []
  | .int i :: r => match allInt r with
    | some l => some (i :: l)
    | none => none
  | _ :: _ => none
def bools : List D → Option (List Bool)
  | [] => some []
  | .bl i :: r => match bools r with
    | some l => some (i :: l)
    | none => none
  | _ :: _ => none
def lItems (s : S) (d : D) : Option (List D) := match d with
  | .ref p => items s (.ref p)
  | _ => none
def bSum (ds : List D) (s : S) : R D := match ds with
  | [d] => match lItems s d with
    | some xs => match allInt xs with
      | some ns => .ok (.int ns.sum) s
      | none => .bad
    | none => .bad
  | _ => .bad
def bAll (ds : List D) (s : S) : R D := match ds with
  | [d] => match lItems s d with
    | some xs => match bools xs with
      | some ns => .ok (.bl (ns.all id)) s
      | none => .bad
    | none => .bad
  | _ => .bad
def bAny (ds : List D) (s : S) : R D := match ds with
  | [d] => match lItems s d with
    | some xs => match bools xs with
      | some ns => .ok (.bl (ns.any id)) s
      | none => .bad
    | none => .bad
  | _ => .bad
section
variable {K : PySem.W.Frag} {Cl : Nat → Addr} {ro : Ro} {H : Hp} {s : S}
theorem Reps.one {d : D} {vs : List V} (r : Reps K ro H [d] vs) : ∃ v, vs = [v] ∧ Rep K ro H d v := by
  cases r with
  | cons r1 r2 => cases r2; exact ⟨_, rfl, r1⟩
theorem Reps.two {d e : D} {vs : List V} (r : Reps K ro H [d, e] vs) : ∃ v u, vs = [v, u] ∧ Rep K ro H d v ∧ Rep K ro H e u := by
  cases r with
  | cons r1 r2 =>
    obtain ⟨u, rfl, r3⟩ := r2.one
    exact ⟨_, u, rfl, r1, r3⟩
theorem allInt_ok : ∀ {xs : List D} {vs : List V} {ns : List Int}, Reps K ro H xs vs → allInt xs = some ns → vs = ns.map V.int
  | [], _, _, r, h => by cases r; cases h; rfl
  | d :: ds, _, ns, r, h => by
    cases r with
    | cons r1 r2 =>
      cases r1 with
      | int i =>
        have h : (match allInt ds with
          | some l => some (i :: l)
          | none => none) = some ns := h
        cases z : allInt ds with
        | none => rw [z] at h; cases h
        | some l =>
          rw [z] at h
          obtain rfl := Option.some.inj h
          rw [List.map_cons, allInt_ok r2 z]
      | _ => cases h
theorem bools_ok : ∀ {xs : List D} {vs : List V} {ns : List Bool}, Reps K ro H xs vs → bools xs = some ns → vs = ns.map V.bl
  | [], _, _, r, h => by cases r; cases h; rfl
  | d :: ds, _, ns, r, h => by
    cases r with
    | cons r1 r2 =>
      cases r1 with
      | bl i =>
        have h : (match bools ds with
          | some l => some (i :: l)
          | none => none) = some ns := h
        cases z : bools ds with
        | none => rw [z] at h; cases h
        | some l =>
          rw [z] at h
          obtain rfl := Option.some.inj h
          rw [List.map_cons, bools_ok r2 z]
      | _ => cases h
theorem lItems_ok {d : D} {v : V} {xs : List D} (rh : RelH K Cl ro H s) (r : Rep K ro H d v) (h : lItems s d = some xs) : ∃ a vs, v = .ref a ∧ SqL K H a vs ∧ Reps K ro H xs vs := by
  cases r with
  | ref h1 =>
    obtain ⟨vs, g1, g2⟩ := items_ref rh h1 h
    exact ⟨_, vs, rfl, g1, g2⟩
  | _ => cases h
def rLen' (K : PySem.W.Frag) : List V → Hp → VK → Prop := fun xs H Q => (∃ x n, xs = [x] ∧ LenV K x H n ∧ Q (.int n) H) ∨ (∃ a kvs, xs = [V.ref a] ∧ H a = some (.dK kvs) ∧ Q (.int kvs.length) H)
theorem RepK.length {kvs : List (Key × D)} {vs : List (Key × V)} (r : RepK K ro H kvs vs) : kvs.length = vs.length := by
  induction r with
  | nil => rfl
  | cons _ _ ih => simp [ih]
theorem bLen_ok : OpSs K Cl bLen (rLen' K) := by
  intro ds vs H ro s Q r rh h
  unfold bLen at h
  split at h
  · rename_i x
    obtain ⟨v, rfl, ry⟩ := r.one
    cases ry
    by_cases z : short zLine x = true
    · rw [if_pos z] at h
      refine .inl ⟨_, x.length, rfl, ⟨?_, ?_⟩, h _ H ro rh .refl (.int _)⟩
      · show x.toArray.size ≤ _
        rw [List.size_toArray]; exact Nat.le_trans (short_le z) z_le
      · show _ = x.toArray.size
        rw [List.size_toArray]
    · rw [if_neg z] at h; exact h.elim
  · rename_i xs
    obtain ⟨v, rfl, ry⟩ := r.one
    cases ry with
    | tup h1 h2 => exact .inl ⟨_, xs.length, rfl, .inr ⟨_, h1, h2.length⟩, h _ H ro rh .refl (.int _)⟩
  · rename_i p
    obtain ⟨v, rfl, ry⟩ := r.one
    cases ry with
    | ref h1 =>
      rename_i a
      have lst : (match items s (.ref p) with
        | some xs => R.ok (D.int xs.length) s
        | none => .bad).wp (okQ K Cl ro H Q) (fun _ _ _ => False) → rLen' K [V.ref a] H Q := fun h => by
        cases z : items s (.ref p) with
        | none => rw [z] at h; exact h.elim
        | some xs =>
          rw [z] at h
          obtain ⟨vs, g1, g2⟩ := items_ref rh h1 z
          exact .inl ⟨_, xs.length, rfl, .inl ⟨vs, g1, g2.length⟩, h _ H ro rh .refl (.int _)⟩
      split at h
      · rename_i kvs q
        obtain ⟨a', e1, y⟩ := rh.get p _ q
        rw [h1] at e1; cases e1
        cases y with
        | dct g1 g2 =>
          refine .inr ⟨a, _, rfl, g1, ?_⟩
          rw [← g2.length]
          exact h _ H ro rh .refl (.int _)
      · exact lst h
  · exact h.elim
theorem bAbs_ok : OpSs K Cl bAbs (fun xs H Q => ∃ i, xs = [.int i] ∧ Q (.int (if i < 0 then -i else i)) H) := by
  intro ds vs H ro s Q r rh h
  unfold bAbs at h
  split at h
  · obtain ⟨v, rfl, ry⟩ := r.one
    cases ry
    exact ⟨_, rfl, h _ H ro rh .refl (.int _)⟩
  · exact h.elim
theorem bInt_ok : OpSs K Cl bInt (fun xs H Q => (∃ i, xs = [.int i] ∧ Q (.int i) H) ∨ ∃ k, xs = [.bl k] ∧ Q (.int (if k then 1 else 0)) H) := by
  intro ds vs H ro s Q r rh h
  unfold bInt at h
  split at h
  · obtain ⟨v, rfl, ry⟩ := r.one
    cases ry
    exact .inl ⟨_, rfl, h _ H ro rh .refl (.int _)⟩
  · obtain ⟨v, rfl, ry⟩ := r.one
    cases ry
    exact .inr ⟨_, rfl, h _ H ro rh .refl (.int _)⟩
  · exact h.elim
theorem bMax2_ok : OpSs K Cl bMax2 (fun xs H Q => ∃ i j, xs = [.int i, .int j] ∧ Q (.int (if j > i then j else i)) H) := by
  intro ds vs H ro s Q r rh h
  unfold bMax2 at h
  split at h
  · obtain ⟨v, u, rfl, r1, r2⟩ := r.two
    cases r1; cases r2
    exact ⟨_, _, rfl, h _ H ro rh .refl (.int _)⟩
  · exact h.elim
theorem bMin2_ok : OpSs K Cl bMin2 (fun xs H Q => ∃ i j, xs = [.int i, .int j] ∧ Q (.int (if j < i then j else i)) H) := by
  intro ds vs H ro s Q r rh h
  unfold bMin2 at h
  split at h
  · obtain ⟨v, u, rfl, r1, r2⟩ := r.two
    cases r1; cases r2
    exact ⟨_, _, rfl, h _ H ro rh .refl (.int _)⟩
  · exact h.elim
theorem bGcd_ok : OpSs K Cl bGcd rGcd := by
  intro ds vs H ro s Q r rh h
  unfold bGcd at h
  split at h
  · obtain ⟨v, u, rfl, r1, r2⟩ := r.two
    cases r1; cases r2
    exact ⟨_, _, rfl, h _ H ro rh .refl (.int _)⟩
  · exact h.elim
theorem bList_ok : OpSs K Cl bList (fun xs H Q => ∃ p ys, xs = [.ref p] ∧ (SqL K H p ys ∨ SqT K H p ys) ∧ ∀ l, H l = none → Q (.ref l) (upd H l (.lst ys))) := by
  intro ds vs H ro s Q r rh h
  unfold bList at h
  split at h
  · rename_i d
    obtain ⟨v, rfl, ry⟩ := r.one
    cases z : items s d with
    | none => rw [z] at h; exact h.elim
    | some xs =>
      rw [z] at h
      obtain ⟨a, vs, rfl, g1, g2⟩ := items_ok rh ry z
      exact ⟨a, vs, rfl, g1.symm, fun q hq => h _ _ (ron ro s.n q) (rh.new hq (.lst upd_same (g2.mono (ext_new rh hq)))) (ext_new rh hq) (.ref ron_same)⟩
  · exact h.elim
theorem bTuple_ok : OpSs K Cl bTuple (fun xs H Q => ∃ p ys, xs = [.ref p] ∧ ((SqL K H p ys ∧ ∀ l, H l = none → Q (.ref l) (upd H l (.tup ys))) ∨ (SqT K H p ys ∧ Q (.ref p) H))) := by
  intro ds vs H ro s Q r rh h
  unfold bTuple at h
  split at h
  · rename_i d
    obtain ⟨v, rfl, ry⟩ := r.one
    cases z : items s d with
    | none => rw [z] at h; exact h.elim
    | some xs =>
      rw [z] at h
      obtain ⟨a, vs, rfl, g1, g2⟩ := items_ok rh ry z
      refine ⟨a, vs, rfl, ?_⟩
      rcases g1 with g1 | g1
      · exact .inr ⟨g1, h _ H ro rh .refl (.tup g1 g2)⟩
      · refine .inl ⟨g1, fun q hq => ?_⟩
        have sm := same_laid (ho := .tup vs) hq
        exact h _ _ ro (rh.same sm) (.same sm) (.tup (SqT.of upd_same) (g2.mono (.same sm)))
  · exact h.elim
theorem bSum_ok : OpSs K Cl bSum (rSum K) := by
  intro ds vs H ro s Q r rh h
  unfold bSum at h
  split at h
  · rename_i d
    obtain ⟨v, rfl, ry⟩ := r.one
    cases z : lItems s d with
    | none => rw [z] at h; exact h.elim
    | some xs =>
      rw [z] at h
      simp only at h
      obtain ⟨a, vs, rfl, g1, g2⟩ := lItems_ok rh ry z
      cases z2 : allInt xs with
      | none => rw [z2] at h; exact h.elim
      | some ns =>
        rw [z2] at h
        rw [allInt_ok g2 z2] at g1
        exact ⟨a, ns, rfl, g1, h _ H ro rh .refl (.int _)⟩
  · exact h.elim
theorem bAll_ok : OpSs K Cl bAll (rAll K) := by
  intro ds vs H ro s Q r rh h
  unfold bAll at h
  split at h
  · rename_i d
    obtain ⟨v, rfl, ry⟩ := r.one
    cases z : lItems s d with
    | none => rw [z] at h; exact h.elim
    | some xs =>
      rw [z] at h
      simp only at h
      obtain ⟨a, vs, rfl, g1, g2⟩ := lItems_ok rh ry z
      cases z2 : bools xs with
      | none => rw [z2] at h; exact h.elim
      | some ns =>
        rw [z2] at h
        rw [bools_ok g2 z2] at g1
        exact ⟨a, ns, rfl, g1, h _ H ro rh .refl (.bl _)⟩
  · exact h.elim
theorem bAny_ok : OpSs K Cl bAny (rAny K) := by
  intro ds vs H ro s Q r rh h
  unfold bAny at h
  split at h
  · rename_i d
    obtain ⟨v, rfl, ry⟩ := r.one
    cases z : lItems s d with
    | none => rw [z] at h; exact h.elim
    | some xs =>
      rw [z] at h
      simp only at h
      obtain ⟨a, vs, rfl, g1, g2⟩ := lItems_ok rh ry z
      cases z2 : bools xs with
      | none => rw [z2] at h; exact h.elim
      | some ns =>
        rw [z2] at h
        rw [bools_ok g2 z2] at g1
        exact ⟨a, ns, rfl, g1, h _ H ro rh .refl (.bl _)⟩
  · exact h.elim
end
end Ev
set_option maxHeartbeats 1000000
namespace Ev
open PySem L2

/-! ### calls of the module's own defs -/
def exE (K : PySem.W.Frag) (Cl : Nat → Addr) (ro : Ro) (H : Hp) (E : XK) : Nat → List (Str × D) → S → Prop := fun c fs s' => ∀ H' ro' cls d, RelH K Cl ro' H' s' → Ext K ro H ro' H' → XRep K Cl ro' H' c fs cls d → E cls d H'
/-- what a def of n parameters promises: what f reckons -/
def spF (K : PySem.W.Frag) (Cl : Nat → Addr) (n : Nat) (f : List D → S → R D) : Sp := fun vs H Q E => vs.length = n ∧ ∃ ds s ro, Reps K ro H ds vs ∧ RelH K Cl ro H s ∧ (f ds s).wp (okQ K Cl ro H Q) (exE K Cl ro H E)
def cDef (f : List D → S → R D) (n : Nat) (as : SEs) : SE := fun e s => (as e s).bind fun ds s1 => if ds.length = n then f ds s1 else .bad
section
variable {X : Cx} {Cl : Nat → Addr} {W : WX} {k : Nat} {f : Addr} {fd : FuncData} {ps : List Str} {n : Nat} {F : List D → S → R D} {x : Str} {p pos : Pos} {e : Expr} {es : List Expr} {fs : SEs}
theorem r_def {σ : St} {H : Hp} {Q : VK} (h : rdE X.K Cl W (cDef F n fs) σ H Q) : tCallS (spF X.K Cl n F) (WE W) (rdA X.K Cl W fs) σ H Q := by
  obtain ⟨e, s, ro, rs, rh, h⟩ := h
  refine ⟨e, s, ro, rs, rh, ?_⟩
  unfold cDef at h
  rw [wp_bind] at h
  refine h.mono (fun ds s1 q vs H1 ro1 rh1 x1 rp => ?_) fun _ _ _ q => q
  by_cases z : ds.length = n
  · rw [if_pos z] at q
    exact ⟨by rw [← rp.length]; exact z, ds, s1, ro1, rp, rh1, q.mono (fun _ _ z => z.ext x1) fun c fs s2 z H2 ro2 cls d r2 x2 xr => z H2 ro2 cls d r2 (x1.trans x2) xr⟩
  · rw [if_neg z] at q; exact q.elim
theorem s_def (Fo : FnOk X.prog X.w X.K X.mg X.base (L2.CX X.prog X.w) k f fd ps (spF X.K Cl n F)) (hr : Room k X.A) (hg : Gl X x) (hm : X.mg x = some (.ref f)) (hk : PySem.W.keepIn X.K (.ref f) = true) (hb : Binds X.K fd ps []) (tk : Takes X W)
    (ha : PA X (e :: es) (rdA X.K Cl W fs)) (hdb : (x == ("__debug__" : Str)) = false) (he : starEach (e :: es) X.env = (false, eval e X.env) :: starEach es X.env) (hpl : (backTo pos (starEach es X.env)).any (·.1) = false) :
    PE X (.Call (.Name x p) (e :: es) [] pos) (rdE X.K Cl W (cDef F n fs)) :=
  (pe_callS Fo hr hg hm hk hb (fun σ => passAt tk σ) ha hdb he hpl).imp fun _ _ _ h => r_def h
theorem s_def0 (Fo : FnOk X.prog X.w X.K X.mg X.base (L2.CX X.prog X.w) k f fd ps (spF X.K Cl n F)) (hr : Room k X.A) (hg : Gl X x) (hm : X.mg x = some (.ref f)) (hk : PySem.W.keepIn X.K (.ref f) = true) (hb : Binds X.K fd ps []) (tk : Takes X W)
    (hdb : (x == ("__debug__" : Str)) = false) : PE X (.Call (.Name x p) [] [] pos) (rdE X.K Cl W (cDef F n cNil)) := by
  refine ⟨fun pins s σ H Q I h => ?_⟩
  refine wpAny_Call_Name_kw (ld_glob I hg hm ?_ hdb)
  refine PySem.W.callWith_K0 I.kIn hk (run_fnS (us := []) (E := WE W) Fo hr hb (passAt tk σ) I .nil ?_)
  obtain ⟨e, s, ro, rs, rh, h⟩ := h
  unfold cDef cNil at h
  rw [wp_bind] at h
  have h : (if ([] : List D).length = n then F [] s else R.bad).wp (okQ X.K Cl ro H Q) (exQ X.K Cl W ro H σ) := h
  by_cases z : ([] : List D).length = n
  · rw [if_pos z] at h
    exact ⟨z, [], s, ro, .nil, rh, h⟩
  · rw [if_neg z] at h; exact h.elim
end

/-! ### targets -/
mutual
inductive IT where
  | nm (i : Nat) | tp (ts : ITs)
inductive ITs where
  | nil | cons (t : IT) (r : ITs)
end
def ITs.len : ITs → Nat
  | .nil => 0
  | .cons _ r => r.len + 1
mutual
def IT.to : IT → D → En → Option En
  | .nm i, d, e => some (e.set i (some d))
  | .tp ts, d, e => match d with
    | .tup ds => ITs.to ts ds e
    | _ => none
def ITs.to : ITs → List D → En → Option En
  | .nil, ds, e => match ds with
    | [] => some e
    | _ => none
  | .cons t r, ds, e => match ds with
    | [] => none
    | d :: ds => match IT.to t d e with
      | some e' => ITs.to r ds e'
      | none => none
end
mutual
def IT.slots : IT → List Nat
  | .nm i => [i]
  | .tp ts => ITs.slots ts
def ITs.slots : ITs → List Nat
  | .nil => []
  | .cons t r => IT.slots t ++ ITs.slots r
end
mutual
def IT.g (K : PySem.W.Frag) : IT → TG
  | .nm i => gName i
  | .tp ts => gTup K ts.len (ITs.g K ts)
def ITs.g (K : PySem.W.Frag) : ITs → TGs
  | .nil => gNil
  | .cons t r => gCons (IT.g K t) (ITs.g K r)
end
theorem wipe_set (σ : St) (i : Nat) (v : Option V) : ∀ (vs : List Nat), i ∈ vs → wipe (σ.set i v) vs = wipe σ vs
  | [], h => by simp at h
  | j :: vs, h => by
    unfold wipe
    by_cases hi : i ∈ vs
    · rw [wipe_set σ i v vs hi]
    · have e : i = j := by
        rcases List.mem_cons.mp h with e | e
        · exact e
        · exact absurd e hi
      subst e
      have key : ∀ vs : List Nat, i ∉ vs → wipe (σ.set i v) vs = (wipe σ vs).set i v := by
        intro vs
        induction vs with
        | nil => intro _; rfl
        | cons w ws ih =>
          intro hn
          unfold wipe
          rw [ih fun z => hn (List.mem_cons_of_mem _ z), List.set_comm _ _ fun z => hn (by rw [z]; exact List.mem_cons_self)]
      rw [key vs hi, List.set_set]
theorem RelS.set {K : PySem.W.Frag} {ro : Ro} {H : Hp} {e : En} {σ : St} {i : Nat} {d : D} {v : V} (rs : RelS K ro H e σ) (r : Rep K ro H d v) : RelS K ro H (e.set i (some d)) (σ.set i (some v)) := by
  refine ⟨by simpa using rs.1, fun j d' h => ?_⟩
  by_cases hj : i = j
  · subst hj
    rw [List.getElem?_set] at h
    simp only [if_true] at h
    split at h
    · cases h
      rename_i hl
      exact ⟨v, by rw [List.getElem?_set_self (by rw [← rs.1]; exact hl)], r⟩
    · cases h
  · rw [List.getElem?_set_ne hj] at h ⊢
    exact rs.2 j d' h
theorem ITs.to_len : ∀ (t : ITs) (ds : List D) (e e' : En), t.to ds e = some e' → ds.length = t.len
  | .nil, [], _, _, _ => rfl
  | .nil, _ :: _, _, _, h => by cases h
  | .cons _ _, [], _, _, h => by cases h
  | .cons t r, d :: ds, e, e', h => by
    have h : (match t.to d e with
      | some e' => r.to ds e'
      | none => none) = some e' := h
    cases z : t.to d e with
    | none => rw [z] at h; cases h
    | some e1 =>
      rw [z] at h
      simp [ITs.len, ITs.to_len r ds e1 e' h]
mutual
theorem IT.ok {K : PySem.W.Frag} {ro : Ro} {H : Hp} : ∀ (t : IT) (d : D) (v : V) (e e' : En) (σ : St) (Q : St → Hp → Prop), Rep K ro H d v → RelS K ro H e σ → t.to d e = some e' →
    (∀ σ', RelS K ro H e' σ' → (∀ vs : List Nat, (∀ i ∈ t.slots, i ∈ vs) → wipe σ' vs = wipe σ vs) → Q σ' H) → t.g K v σ H Q
  | .nm i, d, v, e, e', σ, Q, r, rs, h, q => by
    obtain rfl := Option.some.inj h
    exact q _ (rs.set r) fun vs hv => wipe_set σ i _ vs (hv i (by simp [IT.slots]))
  | .tp ts, d, v, e, e', σ, Q, r, rs, h, q => by
    cases r with
    | tup h1 h2 =>
      have h : ts.to _ e = some e' := h
      obtain ⟨hl, hg⟩ := ITs.ok ts _ _ e e' σ Q h2 rs h q
      exact ⟨_, _, rfl, h1, hl, hg⟩
    | _ => cases h
theorem ITs.ok {K : PySem.W.Frag} {ro : Ro} {H : Hp} : ∀ (t : ITs) (ds : List D) (vs : List V) (e e' : En) (σ : St) (Q : St → Hp → Prop), Reps K ro H ds vs → RelS K ro H e σ → t.to ds e = some e' →
    (∀ σ', RelS K ro H e' σ' → (∀ vs : List Nat, (∀ i ∈ t.slots, i ∈ vs) → wipe σ' vs = wipe σ vs) → Q σ' H) → vs.length = t.len ∧ t.g K vs σ H Q
  | .nil, ds, vs, e, e', σ, Q, r, rs, h, q => by
    cases r with
    | nil =>
      obtain rfl := Option.some.inj h
      exact ⟨rfl, rfl, q σ rs fun _ _ => rfl⟩
    | cons _ _ => cases h
  | .cons t ts, ds, vs, e, e', σ, Q, r, rs, h, q => by
    cases r with
    | nil => cases h
    | cons r1 r2 =>
      rename_i d ds v vs
      have h : (match t.to d e with
        | some e' => ts.to ds e'
        | none => none) = some e' := h
      cases z : t.to d e with
      | none => rw [z] at h; cases h
      | some e1 =>
        rw [z] at h
        have len : vs.length = ts.len := by rw [← r2.length]; exact ITs.to_len ts ds e1 e' h
        refine ⟨by simp [ITs.len, len], v, vs, rfl, IT.ok t d v e e1 σ _ r1 rs z fun σ1 rs1 w1 => ?_⟩
        refine (ITs.ok ts ds vs e1 e' σ1 Q r2 rs1 h fun σ2 rs2 w2 => q σ2 rs2 fun ws hw => ?_).2
        rw [w2 ws fun i hi => hw i (by simp [ITs.slots, hi]), w1 ws fun i hi => hw i (by simp [ITs.slots, hi])]
end
end Ev
set_option maxHeartbeats 2000000
namespace Ev
open PySem L2
abbrev skw : List (Str × Value) := [(Str.ofString "strict", .bool true)]
theorem tc_zipS (a b : Value) : checkTypeCall "zip" ⟨[a, b], skw⟩ = pure () := by kernel_rfl
theorem nc_zipS (a b : Value) : checkBuiltinCall "zip.__new__" ⟨[.type "zip", a, b], skw⟩ = pure () := by kernel_rfl
theorem ai_zipS (o a b : Value) : argsOk "object.__init__" ⟨[o, a, b], skw⟩ := by
  unfold argsOk
  kernel_rfl
theorem tc_zipS3 (a b c : Value) : checkTypeCall "zip" ⟨[a, b, c], skw⟩ = pure () := by kernel_rfl
theorem nc_zipS3 (a b c : Value) : checkBuiltinCall "zip.__new__" ⟨[.type "zip", a, b, c], skw⟩ = pure () := by kernel_rfl
theorem ai_zipS3 (o a b c : Value) : argsOk "object.__init__" ⟨[o, a, b, c], skw⟩ := by
  unfold argsOk
  kernel_rfl
/-- the zip object of a strict zip -/
abbrev IsZipS (h : Heap) (z TI TO : Addr) (f0 : Value) : Prop :=
  h.get? z = some { cls := .type "zip", data := .fields #[f0, .bool false, .bool true, .ref TI, .ref TO] }
abbrev zsT (h : Heap) (o1 o2 : Obj) : Heap :=
  ((h.push o1).push o2).push
    { cls := .type "tuple", data := .seq #[.ref h.objs.size, .ref (h.push o1).objs.size] }
abbrev zsO (h : Heap) (o1 o2 : Obj) : Heap := (zsT h o1 o2).push
    { cls := .type "tuple", data := .seq #[.none, .none] }
abbrev zsZ (h : Heap) (o1 o2 : Obj) : Heap := (zsO h o1 o2).push
    { cls := .type "zip"
      data := .fields #[.none, .bool false, .bool true, .ref ((h.push o1).push o2).objs.size, .ref (zsT h o1 o2).objs.size] }
theorem meets_zipS {v1 v2 : Value} {o1 o2 : Obj} {H1 H2 : Heap → Prop} (B1 : Begins v1 o1 H1) (B2 : Begins v2 o2 H2) :
    Meets (Builtin.«zip.__new__» ⟨[.type "zip", v1, v2], skw⟩) (fun _ R s => (H1 s.heap ∧ H2 s.heap) ∧
      R (.ok (.ret (.ref (zsO s.heap o1 o2).objs.size))) { s with heap := zsZ s.heap o1 o2 }) :=
  .of_wp fun prog w A R s hh => by
    obtain ⟨hp, g, d, tk, os⟩ := s
    obtain ⟨⟨h1, h2⟩, h⟩ := hh
    have hsub := sub_zip
    have e1 : (Str.ofString "strict" == ("strict" : Str)) = true := by decide +kernel
    have e2 : (Str.ofString "strict" != ("strict" : Str)) = false := by decide +kernel
    have q1 : ∀ {A' : Around} {E : Value → Shared → Prop} {Q : Value → Shared → Prop},
        Q (.ref hp.objs.size) ⟨hp.push o1, g, d, tk, os⟩ → wpAny (model prog w) A' (pyIter v1) Q E ⟨hp, g, d, tk, os⟩ :=
      fun q => B1.iter prog w _ _ ⟨hp, g, d, tk, os⟩ _ h1 q
    have q2 : ∀ {A' : Around} {E : Value → Shared → Prop} {Q : Value → Shared → Prop},
        Q (.ref (hp.push o1).objs.size) ⟨(hp.push o1).push o2, g, d, tk, os⟩ → wpAny (model prog w) A' (pyIter v2) Q E ⟨hp.push o1, g, d, tk, os⟩ :=
      fun q => B2.iter prog w _ _ ⟨hp.push o1, g, d, tk, os⟩ _ (B2.keeps _ _ h2 fun b o' e => Heap.get?_push_of_some _ e) q
    wp_walk using q1, q2
    exact ⟨_, rfl, h⟩
end Ev
set_option maxHeartbeats 2000000
namespace Ev
open PySem L2
section
variable {prog : Program} {w : World} {A : Around} {E : Value → Shared → Prop} {s : Shared}
theorem noe_item {it : Addr} {fp : List Addr} {n i : Nat} {P : Nat → Value → Prop} {St : Nat → Heap → Prop} {Q : Option Value → Shared → Prop}
    (D : Draws prog w A it fp n P St) (hi : i < n) (st : St i s.heap)
    (hQ : ∀ x h' tk, P i x → St (i + 1) h' → Heap.SameBut it s.heap h' → Q (some x) { s with heap := h', toks := tk }) :
    wpAny (model prog w) A (Builtin.SmallTypes.nextOrEnd (.ref it)) Q E s := by
  unfold Builtin.SmallTypes.nextOrEnd
  exact wpAny_bind (wpAny_attempt (D.item i s _ _ hi st fun x h' tk a b c => wpAny_pure (hQ x h' tk a b c)))
theorem noe_end {it : Addr} {fp : List Addr} {n : Nat} {P : Nat → Value → Prop} {St : Nat → Heap → Prop} {Q : Option Value → Shared → Prop}
    (D : Draws prog w A it fp n P St) (st : St n s.heap)
    (hQ : ∀ h', Heap.ExtBut it s.heap h' → Q none { s with heap := h' }) :
    wpAny (model prog w) A (Builtin.SmallTypes.nextOrEnd (.ref it)) Q E s := by
  unfold Builtin.SmallTypes.nextOrEnd
  refine wpAny_bind (wpAny_attempt (D.done s _ _ st fun h' e hx he => ?_))
  obtain ⟨o, ho, hc⟩ := he
  exact wpAny_bind (wpAny_isInstance (T := "StopIteration") (b := true) ⟨o, ho, hc⟩ isSubtype_stop (wpAny_pure (hQ h' hx)))
variable {z TI TO i1 i2 : Addr} {fp1 fp2 : List Addr} {n1 n2 i : Nat} {P1 P2 : Nat → Value → Prop} {St1 St2 : Nat → Heap → Prop} {a1 a2 : Value}
theorem zipS_item {Q : Value → Shared → Prop} (S : ZipSep2 z TI TO i1 i2 fp1 fp2) (D1 : Draws prog w A i1 fp1 n1 P1 St1) (D2 : Draws prog w A i2 fp2 n2 P2 St2)
    (hz : IsZipS s.heap z TI TO .none) (hTI : IsTupOf2 s.heap TI (.ref i1) (.ref i2)) (hTO : IsTupOf2 s.heap TO a1 a2)
    (st1 : St1 i s.heap) (st2 : St2 i s.heap) (hlt1 : i < n1) (hlt2 : i < n2)
    (hQ : ∀ x1 x2 h' tk, P1 i x1 → P2 i x2 → IsZipS h' z TI TO (rawInt s.heap.objs.size) → IsTupOf2 h' TO x1 x2 → St1 (i + 1) h' → St2 (i + 1) h' →
      IsTupOf2 h' s.heap.objs.size x1 x2 → h'.objs.size = s.heap.objs.size + 1 →
      (∀ c o, c ≠ z → c ≠ TO → c ≠ i1 → c ≠ i2 → s.heap.get? c = some o → h'.get? c = some o) → Q (.ref s.heap.objs.size) { s with heap := h', toks := tk }) :
    wpAny (model prog w) A (Builtin.«zip.__next__» ⟨[.ref z], []⟩) (fun fin s' => ∃ v, fin = .done (.ret v) ∧ Q v s') E s := by
  obtain ⟨hp, g, d, t0, os⟩ := s
  show wpAny _ _ (field (.ref z) 2 >>= _) _ _ _
  refine wpAny_bind (wpAny_field hz rfl (x := .bool true) rfl ?_)
  show wpAny _ _ (field (.ref z) 3 >>= _) _ _ _
  refine wpAny_bind (wpAny_field hz rfl (x := .ref TI) rfl ?_)
  refine wpAny_bind (wpAny_seqItems hTI rfl ?_)
  show wpAny _ _ (Builtin.SmallTypes.ownedTupleIsFree (.ref z) >>= _) _ _ _
  refine wpAny_bind ?_
  unfold Builtin.SmallTypes.ownedTupleIsFree
  refine wpAny_bind (wpAny_field hz rfl (x := .none) rfl (wpAny_pure ?_))
  simp only [if_true]
  refine wpAny_bind (wpAny_rule ?_)
  refine wpAny_bind (wpAny_field hz rfl (x := .ref TO) rfl ?_)
  refine wpAny_bind (wpAny_setField_rec hz (by simp) fun k0 kz0 ks0 => ?_)
  replace kz0 : IsZipS k0 z TI TO .ellipsis := kz0
  replace ks0 : Heap.SameBut z hp k0 := ks0
  refine wpAny_bind ?_
  simp only [List.zipIdx_cons, List.zipIdx_nil, List.forIn_cons, List.forIn_nil]
  refine wpAny_bind (wpAny_bind (wpAny_onRaise ?_))
  show wpAny _ _ (Builtin.SmallTypes.nextOrEnd (.ref i1)) _ _ ⟨k0, g, d, t0, os⟩
  refine noe_item D1 hlt1 (D1.over st1 ks0 S.zf1) fun x1 p1 t1 hx1 sn1 hp1 => ?_
  replace hp1 : Heap.SameBut i1 k0 p1 := hp1
  have hU1 : IsTupOf2 p1 TO a1 a2 := hp1.extBut _ _ S.Ti1 (ks0.extBut _ _ S.TOz hTO)
  refine wpAny_bind (wpAny_seqItems (s := ⟨p1, g, d, t1, os⟩) hU1 rfl ?_)
  refine wpAny_bind (updateSeq_IsTupOf2 (s := ⟨p1, g, d, t1, os⟩) hU1 fun k1 kT1 ks1 => ?_)
  replace kT1 : IsTupOf2 k1 TO x1 a2 := kT1
  replace ks1 : Heap.SameBut TO p1 k1 := ks1
  refine wpAny_bind (wpAny_letGo (wpAny_pure ?_))
  refine wpAny_bind (wpAny_bind (wpAny_onRaise ?_))
  show wpAny _ _ (Builtin.SmallTypes.nextOrEnd (.ref i2)) _ _ ⟨k1, g, d, t1, os⟩
  refine noe_item D2 hlt2 (D2.over (D2.over (D2.over st2 ks0 S.zf2) hp1 S.sep1_2) ks1 S.Tf2) fun x2 p2 t2 hx2 sn2 hp2 => ?_
  replace hp2 : Heap.SameBut i2 k1 p2 := hp2
  have hU2 : IsTupOf2 p2 TO x1 a2 := hp2.extBut _ _ S.Ti2 kT1
  refine wpAny_bind (wpAny_seqItems (s := ⟨p2, g, d, t2, os⟩) hU2 rfl ?_)
  refine wpAny_bind (updateSeq_IsTupOf2 (s := ⟨p2, g, d, t2, os⟩) hU2 fun k2 kT2 ks2 => ?_)
  replace kT2 : IsTupOf2 k2 TO x1 x2 := kT2
  replace ks2 : Heap.SameBut TO p2 k2 := ks2
  refine wpAny_bind (wpAny_letGo (wpAny_pure (wpAny_pure ?_)))
  refine wpAny_bind (wpAny_seqItems (s := ⟨k2, g, d, t2, os⟩) kT2 rfl ?_)
  refine wpAny_bind (wpAny_newTuple ?_)
  have hsz : k2.objs.size = hp.objs.size := by rw [ks2.1, hp2.1, ks1.1, hp1.1, ks0.1]
  have kzz : IsZipS k2 z TI TO .ellipsis := ks2.extBut _ _ S.TOz.symm (hp2.extBut _ _ S.zi2 (ks1.extBut _ _ S.TOz.symm (hp1.extBut _ _ S.zi1 kz0)))
  have kk : ∀ c o, c ≠ z → c ≠ TO → c ≠ i1 → c ≠ i2 → hp.get? c = some o → k2.get? c = some o := fun c o cz cT c1 c2 e =>
    ks2.extBut _ _ cT (hp2.extBut _ _ c2 (ks1.extBut _ _ cT (hp1.extBut _ _ c1 (ks0.extBut _ _ cz e))))
  have j1 : St1 (i + 1) k2 := D1.over (D1.over (D1.over sn1 ks1 S.Tf1) hp2 S.sep2_1) ks2 S.Tf1
  have j2 : St2 (i + 1) k2 := D2.over sn2 ks2 S.Tf2
  have zlt : z < k2.objs.size := Heap.lt_size kzz
  show wpAny _ _ (Builtin.SmallTypes.ownedTupleHandOut (.ref z) (.ref k2.objs.size) >>= _) _ _ ⟨k2.push { cls := .type "tuple", data := .seq #[x1, x2] }, g, d, t2, os⟩
  refine wpAny_bind ?_
  unfold Builtin.SmallTypes.ownedTupleHandOut
  have kz6 : IsZipS (k2.push { cls := .type "tuple", data := .seq #[x1, x2] }) z TI TO .ellipsis := Heap.get?_push_of_some _ kzz
  refine wpAny_bind (wpAny_setField_rec kz6 (by simp) fun h7 kz7 ks7 => ?_)
  replace kz7 : IsZipS h7 z TI TO (rawInt k2.objs.size) := kz7
  refine wpAny_setField_rec kz7 (by simp) fun h8 kz8 ks8 => ?_
  replace kz8 : IsZipS h8 z TI TO (rawInt k2.objs.size) := kz8
  replace ks7 : Heap.SameBut z (k2.push { cls := .type "tuple", data := .seq #[x1, x2] }) h7 := ks7
  replace ks8 : Heap.SameBut z h7 h8 := ks8
  have up : ∀ c o, c ≠ z → k2.get? c = some o → h8.get? c = some o := fun c o c1 e => ks8.extBut _ _ c1 (ks7.extBut _ _ c1 (Heap.get?_push_of_some _ e))
  have kT8 : IsTupOf2 h8 k2.objs.size x1 x2 := ks8.extBut _ _ (Nat.ne_of_gt zlt) (ks7.extBut _ _ (Nat.ne_of_gt zlt) (Heap.get?_push_size _ rfl))
  have sz8 : h8.objs.size = k2.objs.size + 1 := by rw [ks8.1, ks7.1, Heap.size_push]
  rw [hsz] at kz8 kT8 sz8
  refine wpAny_pure ⟨_, rfl, ?_⟩
  show Q (.ref k2.objs.size) ⟨h8, g, d, t2, os⟩
  rw [hsz]
  exact hQ x1 x2 h8 t2 hx1 hx2 kz8 (up _ _ S.TOz kT2) (D1.frame _ _ _ j1 fun b hb o e => up b o (fun q => S.zf1 (q ▸ hb)) e)
    (D2.frame _ _ _ j2 fun b hb o e => up b o (fun q => S.zf2 (q ▸ hb)) e) kT8 sz8 fun c o cz cT c1 c2 e => up c o cz (kk c o cz cT c1 c2 e)
/-- both have ended -/
theorem zipS_end {Q : Fin → Shared → Prop} (hh : A.handled = none) (S : ZipSep2 z TI TO i1 i2 fp1 fp2) (D1 : Draws prog w A i1 fp1 n P1 St1) (D2 : Draws prog w A i2 fp2 n P2 St2)
    (hz : IsZipS s.heap z TI TO .none) (hTI : IsTupOf2 s.heap TI (.ref i1) (.ref i2)) (hTO : IsTupOf2 s.heap TO a1 a2)
    (st1 : St1 n s.heap) (st2 : St2 n s.heap) (hL2 : ∀ h h', St2 n h → Heap.ExtBut i1 h h' → St2 n h')
    (hE : ∀ h' tk e, (∀ c o, c ≠ z → c ≠ TO → c ≠ i1 → c ≠ i2 → s.heap.get? c = some o → h'.get? c = some o) →
      (∃ o, h'.get? e = some o ∧ o.cls = .type "StopIteration") → E (.ref e) { s with heap := h', toks := tk }) :
    wpAny (model prog w) A (Builtin.«zip.__next__» ⟨[.ref z], []⟩) Q E s := by
  obtain ⟨hp, g, d, t0, os⟩ := s
  show wpAny _ _ (field (.ref z) 2 >>= _) _ _ _
  refine wpAny_bind (wpAny_field hz rfl (x := .bool true) rfl ?_)
  show wpAny _ _ (field (.ref z) 3 >>= _) _ _ _
  refine wpAny_bind (wpAny_field hz rfl (x := .ref TI) rfl ?_)
  refine wpAny_bind (wpAny_seqItems hTI rfl ?_)
  show wpAny _ _ (Builtin.SmallTypes.ownedTupleIsFree (.ref z) >>= _) _ _ _
  refine wpAny_bind ?_
  unfold Builtin.SmallTypes.ownedTupleIsFree
  refine wpAny_bind (wpAny_field hz rfl (x := .none) rfl (wpAny_pure ?_))
  simp only [if_true]
  refine wpAny_bind (wpAny_rule ?_)
  refine wpAny_bind (wpAny_field hz rfl (x := .ref TO) rfl ?_)
  refine wpAny_bind (wpAny_setField_rec hz (by simp) fun k0 kz0 ks0 => ?_)
  replace kz0 : IsZipS k0 z TI TO .ellipsis := kz0
  replace ks0 : Heap.SameBut z hp k0 := ks0
  refine wpAny_bind ?_
  simp only [List.zipIdx_cons, List.zipIdx_nil, List.forIn_cons, List.forIn_nil]
  refine wpAny_bind (wpAny_bind (wpAny_onRaise ?_))
  show wpAny _ _ (Builtin.SmallTypes.nextOrEnd (.ref i1)) _ _ ⟨k0, g, d, t0, os⟩
  refine noe_end D1 (D1.over st1 ks0 S.zf1) fun p1 hp1 => ?_
  replace hp1 : Heap.ExtBut i1 k0 p1 := hp1
  have kz1 : IsZipS p1 z TI TO .ellipsis := hp1 _ _ S.zi1 kz0
  refine wpAny_bind (wpAny_setField_rec (s := ⟨p1, g, d, t0, os⟩) kz1 (by simp) fun k2 kz2 ks2 => ?_)
  replace ks2 : Heap.SameBut z p1 k2 := ks2
  have s2 : St2 n k2 := D2.over (hL2 _ _ (D2.over st2 ks0 S.zf2) hp1) ks2 S.zf2
  have q2 : ∀ {Q : Option Value → Shared → Prop} {E : Value → Shared → Prop}, (∀ h', Heap.ExtBut i2 k2 h' → Q none ⟨h', g, d, t0, os⟩) →
      wpAny (model prog w) A (Builtin.SmallTypes.nextOrEnd (.ref i2)) Q E ⟨k2, g, d, t0, os⟩ := fun q => noe_end (s := ⟨k2, g, d, t0, os⟩) D2 s2 q
  wp_walk using q2
  intro p3 hp3
  rw [if_neg (by decide)]
  refine wpAny_pure ?_
  show wpAny _ _ (pure _) _ _ _
  refine wpAny_pure (wpAny_bind (wpAny_rule ?_))
  unfold Builtin.SmallTypes.stopIteration
  refine wpAny_bind ?_
  simp only [newExc, newTuple]
  refine wpAny_bind (wpAny_newObj_type ?_ (by size_fits))
  refine wpAny_bind (m := firstArgMember _ _) (wpAny_of_eq (a := Value.none) (by first | rfl | (simp only [firstArgMember]; rfl)) ?_)
  refine wpAny_newObj_type ?_ (by size_fits)
  simp only [raiseNew]
  refine wpAny_bind (wpAny_handled ?_)
  rw [hh]
  refine wpAny_bind (wpAny_pure (wpAny_throw ?_))
  refine hE _ _ _ (fun c o cz cT c1 c2 e => ?_) ⟨_, Heap.get?_push_size _ rfl, rfl⟩
  exact Heap.get?_push_of_some _ (Heap.get?_push_of_some _ (hp3 _ _ c2 (ks2.extBut _ _ cz (hp1 _ _ c1 (ks0.extBut _ _ cz e)))))
end
end Ev
set_option maxHeartbeats 2000000
namespace Ev
open PySem L2
/-! ### what a zip or an enumerate walks: a list or a tuple -/
inductive Sk where
  | l | t
  deriving DecidableEq
def Sk.nm : Sk → String
  | .l => "list_iterator"
  | .t => "tuple_iterator"
def SqK (K : PySem.W.Frag) (H : Hp) : Sk → Addr → List V → Prop
  | .l => SqL K H
  | .t => SqT K H
def ItA (h : Heap) : Sk → Addr → Addr → Nat → Prop
  | .l => h.IsListIter
  | .t => h.IsTupleIter
def SqA (h : Heap) : Sk → Addr → Array Value → Prop
  | .l => h.IsList
  | .t => h.IsTuple
def Sk.obj (k : Sk) (a : Addr) : Obj := { cls := .type k.nm, data := .fields #[.ref a, .int 0 0] }
theorem ItA.mk {h : Heap} {k : Sk} {it a : Addr} (e : h.get? it = some (k.obj a)) : ItA h k it a 0 := by
  cases k <;> exact ⟨_, e, rfl, rfl⟩
theorem ItA.at {h h' : Heap} {k : Sk} {it a : Addr} {i : Nat} (x : ItA h k it a i) (q : ∀ o, h.get? it = some o → h'.get? it = some o) : ItA h' k it a i := by
  cases k
  · exact Heap.IsListIter.at x q
  · exact Heap.IsTupleIter.at x q
theorem ItA.obj {h : Heap} {k : Sk} {it a : Addr} {i : Nat} (x : ItA h k it a i) : ∃ o, h.get? it = some o ∧ ∀ v, o.data ≠ .cell v := by
  cases k
  · obtain ⟨o, e, _, d⟩ := x
    exact ⟨o, e, fun v q => by rw [d] at q; cases q⟩
  · obtain ⟨o, e, _, d⟩ := x
    exact ⟨o, e, fun v q => by rw [d] at q; cases q⟩
theorem SqA.at {h h' : Heap} {k : Sk} {a : Addr} {items : Array Value} (x : SqA h k a items) (q : ∀ o, h.get? a = some o → h'.get? a = some o) : SqA h' k a items := by
  cases k
  · exact Heap.IsList.at x q
  · exact Heap.IsTuple.at x q
theorem SqA.lt {h : Heap} {k : Sk} {a : Addr} {items : Array Value} (x : SqA h k a items) : a < h.objs.size := by
  cases k
  · obtain ⟨o, e, _⟩ := x; exact Heap.lt_size e
  · obtain ⟨o, e, _⟩ := x; exact Heap.lt_size e
theorem ItA.live {h : Heap} {k : Sk} {it a : Addr} {i : Nat} (x : ItA h k it a i) : it < h.objs.size := by
  obtain ⟨o, e, _⟩ := x.obj
  exact Heap.lt_size e
theorem drawsK {prog : Program} {w : World} {A : Around} (hh : A.handled = none) (k : Sk) (it a : Addr) (hne : a ≠ it) (items : Array Value) :
    Draws prog w A it [it, a] items.size (fun i v => items[i]? = some v) (fun i h => ItA h k it a i ∧ SqA h k a items) := by
  cases k
  · exact Draws.list hh it a hne items
  · exact Draws.tuple hh it a hne items
theorem beginsK (k : Sk) (a : Addr) (items : Array Value) : Begins (.ref a) (k.obj a) fun h => SqA h k a items := by
  cases k
  · exact begins_list a items
  · exact begins_tuple a items
theorem inv_sqk {X : Cx} {pins : List (Addr × Obj)} {σ : L2.St} {H : Hp} {s : Shared} {k : Sk} {a : Addr} {xs : List V} (I : Inv X pins σ H s) (h : SqK X.K H k a xs) : ∃ its, Vals xs its ∧ SqA s.heap k a its.toArray := by
  cases k
  · obtain ⟨its, rv, p, _⟩ := I.list h
    exact ⟨its, rv, p.isList⟩
  · obtain ⟨its, rv, p, _⟩ := I.tuple h
    exact ⟨its, rv, p⟩
theorem inv_sqk_inj {X : Cx} {pins : List (Addr × Obj)} {σ : L2.St} {H : Hp} {s : Shared} {k : Sk} {a : Addr} {xs ys : List V} (I : Inv X pins σ H s) (h : SqK X.K H k a xs) (h' : SqK X.K H k a ys) : xs = ys := by
  cases k
  · exact I.list_inj h h'
  · exact I.tuple_inj h h'

/-! ### a zip of two, strict or not -/
abbrev IsZipG (b : Bool) (h : Heap) (z TI TO : Addr) (f0 : Value) : Prop :=
  h.get? z = some { cls := .type "zip", data := .fields #[f0, .bool false, .bool b, .ref TI, .ref TO] }
section
variable {prog : Program} {w : World} {A : Around} {E : Value → Shared → Prop} {s : Shared}
variable {b : Bool} {k1 k2 : Sk} {z TI TO i1 i2 a1 a2 : Addr} {i : Nat} {u1 u2 : Value} {its1 its2 : Array Value}
/-- the cells apart -/
abbrev ZSep (z TI TO i1 i2 a1 a2 : Addr) : Prop := ZipSep2 z TI TO i1 i2 [i1, a1] [i2, a2]
theorem zsep_new (N a1 a2 : Addr) (h1 : a1 < N) (h2 : a2 < N) : ZSep (N + 4) (N + 2) (N + 3) N (N + 1) a1 a2 :=
  zip_sep2 (N := N) (fp1 := [a1]) (fp2 := [a2]) (fun c hc => by simp at hc; subst hc; exact h1) fun c hc => by simp at hc; subst hc; exact h2
theorem ZSep.n1 (S : ZSep z TI TO i1 i2 a1 a2) : a1 ≠ i1 ∨ a1 = i1 := (Classical.em (a1 = i1)).symm
theorem zipG_item {Q : Option Value → Shared → Prop} (hh : A.handled = none) (S : ZSep z TI TO i1 i2 a1 a2) (n1 : a1 ≠ i1) (n2 : a2 ≠ i2) (hz : IsZipG b s.heap z TI TO .none) (hTI : IsTupOf2 s.heap TI (.ref i1) (.ref i2)) (hTO : IsTupOf2 s.heap TO u1 u2)
    (j1 : ItA s.heap k1 i1 a1 i) (j2 : ItA s.heap k2 i2 a2 i) (g1 : SqA s.heap k1 a1 its1) (g2 : SqA s.heap k2 a2 its2) {x1 x2 : Value} (hx1 : its1[i]? = some x1) (hx2 : its2[i]? = some x2)
    (hQ : ∀ h' tk, IsZipG b h' z TI TO (rawInt s.heap.objs.size) → IsTupOf2 h' TO x1 x2 → ItA h' k1 i1 a1 (i + 1) → ItA h' k2 i2 a2 (i + 1) → IsTupOf2 h' s.heap.objs.size x1 x2 →
      (∀ c o, c ≠ z → c ≠ TO → c ≠ i1 → c ≠ i2 → s.heap.get? c = some o → h'.get? c = some o) → Q (some (.ref s.heap.objs.size)) { s with heap := h', toks := tk }) :
    wpAny (model prog w) A (pyNext (.ref z)) Q E s := by
  have D1 := drawsK (prog := prog) (w := w) (A := A.in1) hh k1 i1 a1 n1 its1
  have D2 := drawsK (prog := prog) (w := w) (A := A.in1) hh k2 i2 a2 n2 its2
  have l1 : i < its1.size := (Array.getElem?_eq_some_iff.mp hx1).1
  have l2 : i < its2.size := (Array.getElem?_eq_some_iff.mp hx2).1
  have fin : ∀ y1 y2 h' tk, its1[i]? = some y1 → its2[i]? = some y2 → IsZipG b h' z TI TO (rawInt s.heap.objs.size) → IsTupOf2 h' TO y1 y2 → (ItA h' k1 i1 a1 (i + 1) ∧ SqA h' k1 a1 its1) → (ItA h' k2 i2 a2 (i + 1) ∧ SqA h' k2 a2 its2) → IsTupOf2 h' s.heap.objs.size y1 y2 →
      (∀ c o, c ≠ z → c ≠ TO → c ≠ i1 → c ≠ i2 → s.heap.get? c = some o → h'.get? c = some o) → Q (some (.ref s.heap.objs.size)) { s with heap := h', toks := tk } := fun y1 y2 h' tk e1 e2 q1 q2 q3 q4 q5 q6 => by
    rw [hx1] at e1; rw [hx2] at e2
    cases e1; cases e2
    exact hQ h' tk q1 q2 q3.1 q4.1 q5 q6
  cases b with
  | false => exact wpAny_pyNext_zipD2_item S D1 D2 hz hTI hTO ⟨j1, g1⟩ ⟨j2, g2⟩ l1 l2 fun y1 y2 h' tk e1 e2 q1 q2 q3 q4 q5 _ q6 => fin y1 y2 h' tk e1 e2 q1 q2 q3 q4 q5 q6
  | true =>
    have hT : s.TypeIs (.ref z) "zip" := ⟨_, hz, rfl⟩
    unfold pyNext
    refine wpAny_bind (wpAny_attempt (wpAny_callSpecial?_slot (name := Str.ofString "__next__") hT F.slot_zip_next (wpAny_call_entry F.slot_zip_next hT F.entry_zip_next ?_ (F.args_zip_next_1 _))))
    exact zipS_item S D1 D2 hz hTI hTO ⟨j1, g1⟩ ⟨j2, g2⟩ l1 l2 fun y1 y2 h' tk e1 e2 q1 q2 q3 q4 q5 _ q6 => wpAny_pure (fin y1 y2 h' tk e1 e2 q1 q2 q3 q4 q5 q6)
/-- where it stops: strict: both at once -/
def zEnd (b : Bool) (i n1 n2 : Nat) : Prop := if b = true then n1 = i ∧ n2 = i else i ≤ n1 ∧ i ≤ n2 ∧ (i = n1 ∨ i = n2)
theorem zipG_end {Q : Option Value → Shared → Prop} (hh : A.handled = none) (S : ZSep z TI TO i1 i2 a1 a2) (n1 : a1 ≠ i1) (n2 : a2 ≠ i2) (hz : IsZipG b s.heap z TI TO .none) (hTI : IsTupOf2 s.heap TI (.ref i1) (.ref i2)) (hTO : IsTupOf2 s.heap TO u1 u2)
    (j1 : ItA s.heap k1 i1 a1 i) (j2 : ItA s.heap k2 i2 a2 i) (g1 : SqA s.heap k1 a1 its1) (g2 : SqA s.heap k2 a2 its2) (he : zEnd b i its1.size its2.size)
    (hQ : ∀ h' tk, (∀ c o, c ≠ z → c ≠ TO → c ≠ i1 → c ≠ i2 → s.heap.get? c = some o → h'.get? c = some o) → Q none { s with heap := h', toks := tk }) :
    wpAny (model prog w) A (pyNext (.ref z)) Q E s := by
  have D1 := drawsK (prog := prog) (w := w) (A := A.in1) hh k1 i1 a1 n1 its1
  have D2 := drawsK (prog := prog) (w := w) (A := A.in1) hh k2 i2 a2 n2 its2
  cases b with
  | false =>
    obtain ⟨e1, e2, e3⟩ : i ≤ its1.size ∧ i ≤ its2.size ∧ (i = its1.size ∨ i = its2.size) := he
    exact wpAny_pyNext_zipD2_end S D1 D2 hz hTI hTO ⟨j1, g1⟩ ⟨j2, g2⟩ e1 e2 e3 hQ
  | true =>
    obtain ⟨e1, e2⟩ : its1.size = i ∧ its2.size = i := he
    subst e1
    have hT : s.TypeIs (.ref z) "zip" := ⟨_, hz, rfl⟩
    unfold pyNext
    have D2' : Draws prog w A.in1 i2 [i2, a2] its1.size (fun i v => its2[i]? = some v) (fun i h => ItA h k2 i2 a2 i ∧ SqA h k2 a2 its2) := by rw [← e2]; exact D2
    refine wpAny_bind (wpAny_attempt (wpAny_callSpecial?_slot (name := Str.ofString "__next__") hT F.slot_zip_next (wpAny_call_entry F.slot_zip_next hT F.entry_zip_next
      (zipS_end hh S D1 D2' hz hTI hTO ⟨j1, g1⟩ ⟨j2, g2⟩ (fun h h' st x => ?_) fun h' tk e hk ho => ?_) (F.args_zip_next_1 _))))
    · have q1 : i2 ≠ i1 := fun q => S.sep1_2 (by rw [q]; simp)
      have q2 : a2 ≠ i1 := fun q => S.sep1_2 (by rw [q]; simp)
      exact ⟨st.1.at fun o e => x _ _ q1 e, st.2.at fun o e => x _ _ q2 e⟩
    · obtain ⟨o, ho, hc⟩ := ho
      exact wpAny_bind (wpAny_isInstance (T := "StopIteration") (b := true) ⟨o, ho, hc⟩ isSubtype_stop (wpAny_pure (hQ _ _ hk)))
theorem zipG_go {elts : List Expr} {kk : Nat} {pos : Pos} {T : Addr} {Q : Unit → Shared → Prop} (hz : IsZipG b s.heap z TI TO (rawInt T))
    (hQ : ∀ h', IsZipG b h' z TI TO .none → Heap.SameBut z s.heap h' → Q () { s with heap := h' }) : wpAny (model prog w) A (letOwnedTupleGo (.Tuple elts kk pos) (.ref z) (.ref T)) Q E s := by
  unfold letOwnedTupleGo
  refine wpAny_bind (wpAny_load hz ?_)
  show wpAny _ _ (if (["enumerate", "zip", "dict_itemiterator", "dict_reverseitemiterator", "odict_iterator", "itertools.zip_longest", "itertools.pairwise"].contains "zip" &&
      (#[rawInt T, .bool false, .bool b, .ref TI, .ref TO] : Array Value)[0]? == some (rawInt T)) = true then _ else _) Q E s
  rw [if_pos (by simp)]
  refine wpAny_bind (wpAny_rule ?_)
  exact wpAny_setField_rec hz (by simp) hQ
theorem zipG_iter {f0 : Value} {Q : Value → Shared → Prop} (hz : IsZipG b s.heap z TI TO f0) (h : Q (.ref z) s) : wpAny (model prog w) A (pyIter (.ref z)) Q E s := by
  have hT : s.TypeIs (.ref z) "zip" := ⟨_, hz, rfl⟩
  exact wpAny_pyIter_slot hT F.slot_zip_iter (wpAny_call_entry F.slot_zip_iter hT F.entry_zip_iter (wpAny_pure ⟨_, rfl, "zip", _, hT, F.slot_zip_next.lookup, h⟩) (F.args_zip_iter_1 _))
/-- its five new cells -/
def zkw : Bool → List (Str × Value)
  | true => skw
  | false => []
theorem zipG_new {o1 o2 : Obj} {v1 v2 : Value} {H1 H2 : Heap → Prop} {Q : Value → Shared → Prop} (B1 : Begins v1 o1 H1) (B2 : Begins v2 o2 H2) (h1 : H1 s.heap) (h2 : H2 s.heap)
    (h : ∀ h', IsZipG b h' (s.heap.objs.size + 4) (s.heap.objs.size + 2) (s.heap.objs.size + 3) .none → IsTupOf2 h' (s.heap.objs.size + 2) (.ref s.heap.objs.size) (.ref (s.heap.objs.size + 1)) →
      IsTupOf2 h' (s.heap.objs.size + 3) .none .none → h'.get? s.heap.objs.size = some o1 → h'.get? (s.heap.objs.size + 1) = some o2 →
      (∀ c o, s.heap.get? c = some o → h'.get? c = some o) → Q (.ref (s.heap.objs.size + 4)) { s with heap := h' }) :
    wpAny (model prog w) A (call (.type "zip") [v1, v2] (zkw b)) Q E s := by
  cases b with
  | false => exact zip_begins2 B1 B2 h1 h2 fun h' q1 q2 q3 q4 q5 _ q6 => h h' q1 q2 q3 q4 q5 q6
  | true =>
    refine callType_newKw F.called_zip (by decide) (tc_zipS _ _) (nc_zipS _ _) (fun obj => ai_zipS obj _ _) F.entry_zip_new (meets_zipS B1 B2) ⟨⟨h1, h2⟩, ?_⟩
    have z1 : (s.heap.push o1).objs.size = s.heap.objs.size + 1 := by rw [Heap.size_push]
    have z2 : ((s.heap.push o1).push o2).objs.size = s.heap.objs.size + 2 := by rw [Heap.size_push, z1]
    have zT : (zsT s.heap o1 o2).objs.size = s.heap.objs.size + 3 := by rw [Heap.size_push, z2]
    have zO : (zsO s.heap o1 o2).objs.size = s.heap.objs.size + 4 := by rw [Heap.size_push, zT]
    have up : ∀ {hp : Heap} {o : Obj} {c : Addr} {o' : Obj}, hp.get? c = some o' → (hp.push o).get? c = some o' := fun e => Heap.get?_push_of_some _ e
    have gZ : (zsZ s.heap o1 o2).get? (zsO s.heap o1 o2).objs.size = some { cls := .type "zip", data := .fields #[.none, .bool false, .bool true, .ref ((s.heap.push o1).push o2).objs.size, .ref (zsT s.heap o1 o2).objs.size] } := Heap.get?_push_size _ rfl
    have gO : (zsZ s.heap o1 o2).get? (zsT s.heap o1 o2).objs.size = some { cls := .type "tuple", data := .seq #[.none, .none] } := up (Heap.get?_push_size _ rfl)
    have gT : (zsZ s.heap o1 o2).get? ((s.heap.push o1).push o2).objs.size = some { cls := .type "tuple", data := .seq #[.ref s.heap.objs.size, .ref (s.heap.push o1).objs.size] } := up (up (Heap.get?_push_size _ rfl))
    have gA : (zsZ s.heap o1 o2).get? s.heap.objs.size = some o1 := up (up (up (up (Heap.get?_push_size _ B1.free))))
    have gB : (zsZ s.heap o1 o2).get? (s.heap.push o1).objs.size = some o2 := up (up (up (Heap.get?_push_size _ B2.free)))
    rw [zO, zT, z2] at gZ
    rw [zT] at gO
    rw [z2, z1] at gT
    rw [z1] at gB
    show _ ∧ _
    rw [zO]
    exact ⟨⟨_, gZ, rfl⟩, h _ gZ gT gO gA gB fun c o e => up (up (up (up (up e))))⟩
end
end Ev
set_option maxHeartbeats 2000000
namespace Ev
open PySem PySem.Spec PyProof.Rows L2
/-! ### enumerate, over what can be begun -/
def enO (at_ : Addr) : Obj := { cls := .type "enumerate", data := .fields #[.none, .bool false, .ref at_, rawInt 0, .none, .none] }
theorem en_new {v : Value} {o : Obj} {P1 : Heap → Prop} (B1 : Begins v o P1) :
    Meets (Builtin.«enumerate.__new__» ⟨[.type "enumerate", v], []⟩) (fun _ R s => P1 s.heap ∧ R (.ok (.ret (.ref (s.heap.push o).objs.size))) { s with heap := (s.heap.push o).push (enO s.heap.objs.size) }) :=
  .of_wp fun prog w A R s hp1 => by
    obtain ⟨hp, g, dr, tk, os⟩ := s
    obtain ⟨b1, fin⟩ := hp1
    have sub1 := sub_enumerate
    have it1 : ∀ {A1 : Around} {E1 : Value → Shared → Prop} {Q1 : Value → Shared → Prop}, Q1 (.ref hp.objs.size) ⟨hp.push o, g, dr, tk, os⟩ → wpAny (model prog w) A1 (pyIter v) Q1 E1 ⟨hp, g, dr, tk, os⟩ :=
      fun q => B1.iter prog w _ _ ⟨hp, g, dr, tk, os⟩ _ b1 q
    wp_walk using it1
    refine wpAny_stack_any fun _ => wpAny_pure ?_
    split
    · rename_i c _ _ _ _ _
      cases (c == Value.type "enumerate") <;> (wp_walk using it1; exact ⟨_, rfl, fin⟩)
    · wp_walk using it1
      exact ⟨_, rfl, fin⟩
section
variable {prog : Program} {w : World} {A : Around} {E : Value → Shared → Prop} {s : Shared}
theorem en_call {v : Value} {o : Obj} {P1 : Heap → Prop} {Q : Value → Shared → Prop} (B1 : Begins v o P1) (h1 : P1 s.heap)
    (fin : ∀ h', IsEnum h' (s.heap.objs.size + 1) s.heap.objs.size 0 .none → h'.get? s.heap.objs.size = some o → (∀ c ob, s.heap.get? c = some ob → h'.get? c = some ob) → Q (.ref (s.heap.objs.size + 1)) { s with heap := h' }) :
    wpAny (model prog w) A (call (.type "enumerate") [v]) Q E s := by
  refine callType_new F.called_enumerate (by decide) (F.typeCall_enumerate_1 _) (F.newCall_enumerate_1 _) (fun obj => F.args_object_init_2 obj _) F.entry_enumerate_new (en_new B1) ⟨h1, ?_⟩
  have sz : (s.heap.push o).objs.size = s.heap.objs.size + 1 := Heap.size_push ..
  have ge : ((s.heap.push o).push (enO s.heap.objs.size)).get? (s.heap.push o).objs.size = some (enO s.heap.objs.size) := Heap.get?_push_size _ rfl
  show _ ∧ _
  rw [sz] at ge ⊢
  exact ⟨⟨_, ge, rfl⟩, fin _ ge (Heap.get?_push_of_some _ (Heap.get?_push_size _ B1.free)) fun c ob e => Heap.get?_push_of_some _ (Heap.get?_push_of_some _ e)⟩
end
/-- each item in a new pair with its number -/
def ItE (K : PySem.W.Frag) (k : Sk) (a : Addr) : It :=
  ⟨fun i H => ∃ (xs : List V) (x : V), SqK K H k a xs ∧ xs[i]? = some x,
    fun i H v H' => ∃ T x, v = .ref T ∧ H T = none ∧ H' = upd H T (.tup [.int (i : Nat), x]) ∧ ∀ xs, SqK K H k a xs → xs[i]? = some x,
    fun i H => ∃ xs : List V, SqK K H k a xs ∧ xs.length = i⟩
theorem turn_en {P : Program} {w : World} {K : PySem.W.Frag} {elts : List Expr} {kk : Nat} {tpos : Pos} (k : Sk) (a e it : Addr) (nea : a ≠ it) (ne2 : e ≠ a) :
    Turn P w K (.Tuple elts kk tpos) (ItE K k a) [e, it] e (fun i h => (∃ old, IsEnum h e it ((i : Nat) : Int) old) ∧ ItA h k it a i ∧ e ≠ it) where
  mem := by simp
  obj := fun i h st c hc => by
    obtain ⟨⟨old, he⟩, hi, _⟩ := st
    rcases (show c = e ∨ c = it by simpa using hc) with q | q
    · subst q; exact ⟨_, he, fun v z => nomatch z⟩
    · subst q; exact hi.obj
  keep := fun i h h' st kp => by
    obtain ⟨⟨old, he⟩, hi, hne⟩ := st
    exact ⟨⟨old, kp e (by simp) _ he⟩, hi.at fun o q => kp it (by simp) o q, hne⟩
  item := by
    intro X hP hw hK hc i pins s σ H E I hf st hg
    subst hP hw hK
    obtain ⟨⟨old, he⟩, hit, hne⟩ := st
    obtain ⟨xs, x, hq, hx⟩ := hg
    obtain ⟨its, rv, p⟩ := inv_sqk I hq
    obtain ⟨u, hu, ru⟩ := rv.get hx
    have el : e < s.heap.objs.size := Heap.lt_size he
    have il : it < s.heap.objs.size := hit.live
    have hl : i < its.toArray.size := (Array.getElem?_eq_some_iff.mp (show its.toArray[i]? = some u by simpa using hu)).1
    refine wpAny_pyNext_enum_itemC (drawsK (A := X.A.in1) (I.ok.hd hc) k it a nea its.toArray) he ⟨hit, p⟩ hl hne (by simp [hne, ne2]) fun y h1 tk hy ho hit1 hT _ kp => ?_
    have hy' : y = u := by
      have : its.toArray[i]? = some u := by simpa using hu
      exact Option.some.inj (hy.symm.trans this)
    subst hy'
    refine ⟨_, rfl, wpAny_letOwnedTupleGo_enum (s := { s with heap := h1, toks := tk + 1 }) ho fun h2 he2 sb => ?_⟩
    have new : ObjOk X.prog X.w (upd H s.heap.objs.size (.tup [.int (i : Nat), x])) h2 s.heap.objs.size (.tup [.int (i : Nat), x]) :=
      ⟨by show 2 ≤ sizeLine; decide, [.int i tk, y], .cons ⟨_, rfl⟩ (.cons ru .nil), ⟨_, (sb.2 _ (Nat.ne_of_gt el)).trans hT, rfl, _, rfl⟩⟩
    have I1 : Inv X pins σ (upd H s.heap.objs.size (.tup [.int (i : Nat), x])) { s with heap := h2, toks := tk + 1 } :=
      I.turnedNew (ch := [e, it]) (fun c ob hb q => (sb.2 c (fun z => hb (by simp [z]))).trans (kp c ob (fun z => hb (by simp [z])) (fun z => hb (by simp [z])) q)) hf (Nat.le_refl _) new
    refine ⟨.ref s.heap.objs.size, _, I1, rfl, ⟨_, x, rfl, I.hok.fresh (Nat.le_refl _), rfl, fun ys hy => by rw [inv_sqk_inj I hy hq]; exact hx⟩, ⟨⟨y, ?_⟩, hit1.1.at fun o q => (sb.2 it (Ne.symm hne)).trans q, hne⟩, fun c hcc => ?_⟩
    · rw [show ((i + 1 : Nat) : Int) = (i : Int) + 1 by omega]; exact he2
    · have : c < s.heap.objs.size := by
        rcases (show c = e ∨ c = it by simpa using hcc) with q | q
        · rw [q]; exact el
        · rw [q]; exact il
      rw [upd_ne (Nat.ne_of_lt this)]
      exact (hf c hcc).1
  done := by
    intro X hP hw hK hc i pins s σ H E I hf st hg
    subst hP hw hK
    obtain ⟨⟨old, he⟩, hit, hne⟩ := st
    obtain ⟨xs, hq, hx⟩ := hg
    obtain ⟨its, rv, p⟩ := inv_sqk I hq
    have ln : its.toArray.size = i := by have := rv.length; simp; omega
    obtain ⟨f0, f1, f2, f3, f4, f5⟩ := hf it (by simp)
    have D := drawsK (prog := X.prog) (w := X.w) (A := X.A.in1) (I.ok.hd hc) k it a nea its.toArray
    exact wpAny_pyNext_enum_endD D he (by rw [ln]; exact ⟨hit, p⟩) fun h' eb => ⟨rfl, I.turned (t' := s.toks) (fun c o hb q => eb c o hb q) f0 f1 f3 f4 f5⟩
  self := fun A i s Q E st h => let ⟨⟨_, he⟩, _⟩ := st; wpAny_pyIter_enum he h
def iEn (K : PySem.W.Frag) (ta : TA) : TI := fun σ H R => ta σ H fun vs H1 => ∃ k a xs, vs = [.ref a] ∧ SqK K H1 k a xs ∧ R (ItE K k a) H1
theorem pi_en {X : Cx} {e : Expr} {ta : TA} {p pos tpos : Pos} {elts : List Expr} {kk : Nat} (hg : Gl X "enumerate") (hm : X.mg "enumerate" = none) (ha : PA X [e] ta) (hs : starEach [e] X.env = [(false, eval e X.env)]) :
    PI X (.Tuple elts kk tpos) (.Call (.Name "enumerate" p) [e] [] pos) (iEn X.K ta) := by
  refine ⟨fun pins s σ H R I h => ?_⟩
  refine Call_ (ld_blt I hg hm boot_enumerate (PyProof.Rows.callWith_type1 (thn (ha.run pos pins s σ H _ I h) fun us s1 ⟨vs, H1, I1, r1, q1⟩ => ?_) hs rfl))
  obtain ⟨k, a, xs, ex, hq, q⟩ := q1
  subst ex
  cases r1 with
  | cons r rr =>
    cases rr
    cases r
    obtain ⟨its, rv, p1⟩ := inv_sqk I1 hq
    have la : a < s1.heap.objs.size := p1.lt
    refine en_call (beginsK k a its.toArray) p1 fun h' he hit kp => wpAny_pyIter_enum he ?_
    have I2 : Inv X pins σ H1 { s1 with heap := h' } := I1.kept (t' := s1.toks) kp
    refine ⟨s1.heap.objs.size + 1, [s1.heap.objs.size + 1, s1.heap.objs.size], _, _, H1, rfl, I2, turn_en k a (s1.heap.objs.size + 1) s1.heap.objs.size (Nat.ne_of_lt la) (Nat.ne_of_gt (Nat.lt_succ_of_lt la)), ⟨⟨.none, he⟩, .mk hit, Nat.succ_ne_self _⟩, fun c hc => ?_, q⟩
    have hle : s1.heap.objs.size ≤ c := by
      rcases (show c = s1.heap.objs.size + 1 ∨ c = s1.heap.objs.size by simpa using hc) with z | z <;> rw [z]
      · exact Nat.le_add_right _ _
      · exact Nat.le_refl _
    exact I1.fpOk hle (I1.hok.fresh hle)

/-! ### a zip of two -/
def ItZ (K : PySem.W.Frag) (b : Bool) (k1 k2 : Sk) (a1 a2 : Addr) : It :=
  ⟨fun i H => ∃ (xs ys : List V) (x y : V), SqK K H k1 a1 xs ∧ SqK K H k2 a2 ys ∧ xs[i]? = some x ∧ ys[i]? = some y,
    fun i H v H' => ∃ T x y, v = .ref T ∧ H T = none ∧ H' = upd H T (.tup [x, y]) ∧ (∀ xs, SqK K H k1 a1 xs → xs[i]? = some x) ∧ ∀ ys, SqK K H k2 a2 ys → ys[i]? = some y,
    fun i H => ∃ xs ys : List V, SqK K H k1 a1 xs ∧ SqK K H k2 a2 ys ∧ zEnd b i xs.length ys.length⟩
theorem turn_zg {P : Program} {w : World} {K : PySem.W.Frag} {elts : List Expr} {kk : Nat} {tpos : Pos} {b : Bool} {k1 k2 : Sk} {a1 a2 z TI TO i1 i2 : Addr} (D : ZSep z TI TO i1 i2 a1 a2) (n1 : a1 ≠ i1) (n2 : a2 ≠ i2) :
    Turn P w K (.Tuple elts kk tpos) (ItZ K b k1 k2 a1 a2) [z, TI, TO, i1, i2] z (fun i h => IsZipG b h z TI TO .none ∧ IsTupOf2 h TI (.ref i1) (.ref i2) ∧ (∃ x y, IsTupOf2 h TO x y) ∧ ItA h k1 i1 a1 i ∧ ItA h k2 i2 a2 i) where
  mem := by simp
  obj := fun i h st c hc => by
    obtain ⟨hz, hTI, ⟨x, y, hTO⟩, j1, j2⟩ := st
    rcases (show c = z ∨ c = TI ∨ c = TO ∨ c = i1 ∨ c = i2 by simpa using hc) with q | q | q | q | q <;> subst q
    · exact ⟨_, hz, fun v q => nomatch q⟩
    · exact ⟨_, hTI, fun v q => nomatch q⟩
    · exact ⟨_, hTO, fun v q => nomatch q⟩
    · exact j1.obj
    · exact j2.obj
  keep := fun i h h' st kp => by
    obtain ⟨hz, hTI, ⟨x, y, hTO⟩, j1, j2⟩ := st
    exact ⟨kp z (by simp) _ hz, kp TI (by simp) _ hTI, ⟨x, y, kp TO (by simp) _ hTO⟩, j1.at fun o q => kp i1 (by simp) o q, j2.at fun o q => kp i2 (by simp) o q⟩
  item := by
    intro X hP hw hK hc i pins s σ H E I hf st hg
    subst hP hw hK
    obtain ⟨hz, hTI, ⟨x0, y0, hTO⟩, j1, j2⟩ := st
    obtain ⟨xs, ys, x, y, hqx, hqy, hx, hy⟩ := hg
    obtain ⟨its1, rv1, p1⟩ := inv_sqk I hqx
    obtain ⟨its2, rv2, p2⟩ := inv_sqk I hqy
    obtain ⟨u1, hu1, ru1⟩ := rv1.get hx
    obtain ⟨u2, hu2, ru2⟩ := rv2.get hy
    have zl : z < s.heap.objs.size := Heap.lt_size hz
    refine zipG_item (A := X.A) (I.ok.hd hc) D n1 n2 hz hTI hTO j1 j2 p1 p2 (x1 := u1) (x2 := u2) (by simpa using hu1) (by simpa using hu2) fun h1 tk hz1 hTO1 j1' j2' hT kp => ?_
    refine ⟨_, rfl, zipG_go (s := { s with heap := h1, toks := tk }) hz1 fun h2 hz2 sb => ?_⟩
    have new : ObjOk X.prog X.w (upd H s.heap.objs.size (.tup [x, y])) h2 s.heap.objs.size (.tup [x, y]) :=
      ⟨by show 2 ≤ sizeLine; decide, [u1, u2], .cons ru1 (.cons ru2 .nil), ⟨_, (sb.2 _ (Nat.ne_of_gt zl)).trans hT, rfl, _, rfl⟩⟩
    have I1 : Inv X pins σ (upd H s.heap.objs.size (.tup [x, y])) { s with heap := h2, toks := tk } :=
      I.turnedNew (ch := [z, TI, TO, i1, i2]) (fun c o hb q => (sb.2 c (fun w => hb (by simp [w]))).trans (kp c o (fun w => hb (by simp [w])) (fun w => hb (by simp [w])) (fun w => hb (by simp [w])) (fun w => hb (by simp [w])) q)) hf (Nat.le_refl _) new
    refine ⟨.ref s.heap.objs.size, _, I1, rfl, ⟨_, x, y, rfl, I.hok.fresh (Nat.le_refl _), rfl, fun l hl => by rw [inv_sqk_inj I hl hqx]; exact hx, fun l hl => by rw [inv_sqk_inj I hl hqy]; exact hy⟩, ⟨hz2, ?_, ⟨u1, u2, ?_⟩, ?_, ?_⟩, fun c hcm => ?_⟩
    · exact sb.extBut _ _ D.TIz (kp _ _ D.TIz D.TITO D.TIi1 D.TIi2 hTI)
    · exact sb.extBut _ _ D.TOz hTO1
    · exact j1'.at fun o q => sb.extBut _ _ (Ne.symm D.zi1) q
    · exact j2'.at fun o q => sb.extBut _ _ (Ne.symm D.zi2) q
    · have : c < s.heap.objs.size := by
        rcases (show c = z ∨ c = TI ∨ c = TO ∨ c = i1 ∨ c = i2 by simpa using hcm) with q | q | q | q | q <;> rw [q]
        · exact zl
        · exact Heap.lt_size hTI
        · exact Heap.lt_size hTO
        · exact j1.live
        · exact j2.live
      rw [upd_ne (Nat.ne_of_lt this)]
      exact (hf c hcm).1
  done := by
    intro X hP hw hK hc i pins s σ H E I hf st hg
    subst hP hw hK
    obtain ⟨hz, hTI, ⟨x0, y0, hTO⟩, j1, j2⟩ := st
    obtain ⟨xs, ys, hqx, hqy, hend⟩ := hg
    obtain ⟨its1, rv1, p1⟩ := inv_sqk I hqx
    obtain ⟨its2, rv2, p2⟩ := inv_sqk I hqy
    have e1 : its1.toArray.size = xs.length := by have := rv1.length; simp; omega
    have e2 : its2.toArray.size = ys.length := by have := rv2.length; simp; omega
    exact zipG_end (A := X.A) (I.ok.hd hc) D n1 n2 hz hTI hTO j1 j2 p1 p2 (by rw [e1, e2]; exact hend) fun h' tk kp => ⟨rfl, I.turnedL (ch := [z, TI, TO, i1, i2]) (fun c o hb q =>
      kp c o (fun w => hb (by simp [w])) (fun w => hb (by simp [w])) (fun w => hb (by simp [w])) (fun w => hb (by simp [w])) q) hf⟩
  self := fun A i s Q E st h => zipG_iter st.1 h
def iZg (K : PySem.W.Frag) (b : Bool) (ta : TA) : TI := fun σ H R => ta σ H fun vs H1 => ∃ k1 k2 a1 a2 xs ys, vs = [.ref a1, .ref a2] ∧ SqK K H1 k1 a1 xs ∧ SqK K H1 k2 a2 ys ∧ R (ItZ K b k1 k2 a1 a2) H1
/-- a call of a class with keywords -/
theorem cwT_kw {M : Model} {A : Around} {E : Value → Shared → Prop} {s : Shared} {env : Env} {pos : Pos} {T : String} {e : Expr} {rest : List Expr} {kws : List Keyword} {Q : Value → Shared → Prop}
    (h : wpAny M A (spliced (backTo pos (starEach (e :: rest) env))) (fun vs s1 => wpAny M A (evalAll ((backToKw pos (keywordEach kws env)).map (·.2)))
      (fun ks s2 => wpAny M A (call (.type T) vs (((backToKw pos (keywordEach kws env)).filterMap (·.1)).zip ks)) Q E s2) E s1) E s)
    (he : backTo pos (starEach (e :: rest) env) = (false, eval e env) :: backTo pos (starEach rest env)) (hpl : (backTo pos (starEach (e :: rest) env)).any (·.1) = false)
    (hall : (backToKw pos (keywordEach kws env)).all (·.1.isSome) = true) (hno : (backToKw pos (keywordEach kws env)).any (·.1.isNone) = false) :
    wpAny M A (callWith pos (.type T) [] (backTo pos (starEach (e :: rest) env)) (backToKw pos (keywordEach kws env))) Q E s := by
  rw [he] at h hpl ⊢
  unfold callWith
  refine wpAny_bind (wpAny_holding (wpAny_mono (evalArgs_kwB (f := .type T) (Q := fun a s1 => wpAny M A (call (.type T) a.pos a.kw) Q E s1) hall h) (fun a s1 h1 => wpAny_bind (wpAny_standAt ?_)) fun _ _ x => x))
  simp only [hpl, hno, Bool.or_false]
  refine wpAny_bind (wpAny_pure ?_)
  exact wpAny_bind (wpAny_mono h1 (fun r s2 hr => wpAny_bind (wpAny_holding (wpAny_point (wpAny_pure hr)))) fun _ _ x => x)
/-- behind the call -/
theorem zg_fin {X : Cx} {pins : List (Addr × Obj)} {σ : L2.St} {H1 : Hp} {s1 : Shared} {elts : List Expr} {kk : Nat} {tpos : Pos} {b : Bool} {vs : List V} {us : List Value} {R : It → Hp → Prop} (I1 : Inv X pins σ H1 s1) (r1 : Vals vs us)
    (q1 : ∃ k1 k2 a1 a2 xs ys, vs = [.ref a1, .ref a2] ∧ SqK X.K H1 k1 a1 xs ∧ SqK X.K H1 k2 a2 ys ∧ R (ItZ X.K b k1 k2 a1 a2) H1) :
    wpAny (model X.prog X.w) X.A (call (.type "zip") us (zkw b)) (fun v s2 => wpAny (model X.prog X.w) X.A (pyIter v) (PIE X pins σ (.Tuple elts kk tpos) R) X.xe s2) X.xe s1 := by
  obtain ⟨k1, k2, a1, a2, xs, ys, ex, hq1, hq2, q⟩ := q1
  subst ex
  cases r1 with
  | cons r rr =>
    cases rr with
    | cons r' rr =>
      cases rr
      cases r
      cases r'
      obtain ⟨its1, rv1, p1⟩ := inv_sqk I1 hq1
      obtain ⟨its2, rv2, p2⟩ := inv_sqk I1 hq2
      have l1 : a1 < s1.heap.objs.size := p1.lt
      have l2 : a2 < s1.heap.objs.size := p2.lt
      refine zipG_new (beginsK k1 a1 its1.toArray) (beginsK k2 a2 its2.toArray) p1 p2 fun h' hz hTI hTO g1 g2 kp => zipG_iter hz ?_
      have I2 : Inv X pins σ H1 { s1 with heap := h' } := I1.kept (t' := s1.toks) kp
      refine ⟨s1.heap.objs.size + 4, [s1.heap.objs.size + 4, s1.heap.objs.size + 2, s1.heap.objs.size + 3, s1.heap.objs.size, s1.heap.objs.size + 1], _, _, H1, rfl, I2,
        turn_zg (k1 := k1) (k2 := k2) (zsep_new s1.heap.objs.size a1 a2 l1 l2) (Nat.ne_of_lt l1) (Nat.ne_of_lt (Nat.lt_succ_of_lt l2)), ⟨hz, hTI, ⟨_, _, hTO⟩, .mk g1, .mk g2⟩, fun c hcm => ?_, q⟩
      have hle : s1.heap.objs.size ≤ c := by
        rcases (show c = s1.heap.objs.size + 4 ∨ c = s1.heap.objs.size + 2 ∨ c = s1.heap.objs.size + 3 ∨ c = s1.heap.objs.size ∨ c = s1.heap.objs.size + 1 by simpa using hcm) with w | w | w | w | w <;> rw [w] <;>
          first | exact Nat.le_refl _ | exact Nat.le_add_right _ _
      exact I1.fpOk hle (I1.hok.fresh hle)
theorem pi_zg {X : Cx} {e e2 : Expr} {ta : TA} {p pos tpos : Pos} {elts : List Expr} {kk : Nat} (hg : Gl X "zip") (hm : X.mg "zip" = none) (ha : PA X [e, e2] ta)
    (hs : starEach [e, e2] X.env = (false, eval e X.env) :: starEach [e2] X.env) (hpl : (backTo pos (starEach [e2] X.env)).any (·.1) = false) :
    PI X (.Tuple elts kk tpos) (.Call (.Name "zip" p) [e, e2] [] pos) (iZg X.K false ta) := by
  refine ⟨fun pins s σ H R I h => ?_⟩
  exact Call_ (ld_blt I hg hm PyProof.Rows.boot_zip (PyProof.Rows.callWith_type1 (thn (ha.run pos pins s σ H _ I h) fun us s1 ⟨vs, H1, I1, r1, q1⟩ => zg_fin (b := false) I1 r1 q1) hs hpl))
theorem pi_zgS {X : Cx} {e e2 ev : Expr} {ta : TA} {p pos tpos kp : Pos} {elts : List Expr} {kk : Nat} (hg : Gl X "zip") (hm : X.mg "zip" = none) (ha : PA X [e, e2] ta) (hv : PE X ev (tC (.bl true)))
    (hs : backTo pos (starEach [e, e2] X.env) = (false, eval e X.env) :: backTo pos (starEach [e2] X.env)) (hpl : (backTo pos (starEach [e, e2] X.env)).any (·.1) = false)
    (hall : (backToKw pos (keywordEach [⟨some (Str.ofString "strict"), ev, kp⟩] X.env)).all (·.1.isSome) = true) (hno : (backToKw pos (keywordEach [⟨some (Str.ofString "strict"), ev, kp⟩] X.env)).any (·.1.isNone) = false)
    (hks : (backToKw pos (keywordEach [⟨some (Str.ofString "strict"), ev, kp⟩] X.env)).filterMap (·.1) = [Str.ofString "strict"]) :
    PI X (.Tuple elts kk tpos) (.Call (.Name "zip" p) [e, e2] [⟨some (Str.ofString "strict"), ev, kp⟩] pos) (iZg X.K true ta) := by
  refine ⟨fun pins s σ H R I h => ?_⟩
  have pk := pk_cons (nm := some (Str.ofString "strict")) (kpos := kp) hv (pk_nil (X := X))
  refine wpAny_Call_Name_kw (ld_blt I hg hm PyProof.Rows.boot_zip (cwT_kw (thn (ha.run pos pins s σ H _ I h) fun us s1 ⟨vs, H1, I1, r1, q1⟩ => ?_) hs hpl hall hno))
  refine thn (pk.run pos pins s1 σ H1 (fun zs H2 => zs = [.bl true] ∧ H2 = H1) I1 ⟨rfl, rfl⟩) fun ws s2 ⟨zs, H2, I2, r2, e1, e2⟩ => ?_
  subst e1; subst e2
  rw [hks]
  cases r2 with
  | cons r rr =>
    cases rr
    cases r
    exact zg_fin (b := true) I2 r1 q1

/-! ### a list or a tuple, as it comes -/
def ItK (K : PySem.W.Frag) : Sk → Addr → It
  | .l => Itl K
  | .t => Itt K
def iSq (K : PySem.W.Frag) (te : TE) : TI := fun σ H R => te σ H fun x H1 => ∃ k a xs, x = .ref a ∧ SqK K H1 k a xs ∧ R (ItK K k a) H1
theorem pi_sq {X : Cx} {tg e : Expr} {te : TE} (he : PE X e te) : PI X tg e (iSq X.K te) := by
  refine ⟨fun pins s σ H R I h => ?_⟩
  refine thn (he.run pins s σ H _ I h) fun v s1 ⟨x, H1, I1, r1, q1⟩ => ?_
  obtain ⟨k, a, xs, ex, hq, q⟩ := q1
  subst ex
  cases r1
  have fp : ∀ b ∈ [s1.heap.objs.size], FpOk X pins H1 b := fun b hb => by
    have e : b = s1.heap.objs.size := by simpa using hb
    subst e
    exact I1.fpOk (Nat.le_refl _) (I1.hok.fresh (Nat.le_refl _))
  cases k with
  | l =>
    obtain ⟨its, rv, p⟩ := inv_sqk I1 hq
    exact wpAny_pyIter_list p ⟨s1.heap.objs.size, [s1.heap.objs.size], _, _, H1, rfl, I1.kept (t' := s1.toks) fun b o e => Heap.get?_push_of_some _ e, turn_list a _, ⟨_, Heap.get?_push_size _ rfl, rfl, rfl⟩, fp, q⟩
  | t =>
    obtain ⟨its, rv, p⟩ := inv_sqk I1 hq
    exact wpAny_pyIter_tuple p ⟨s1.heap.objs.size, [s1.heap.objs.size], _, _, H1, rfl, I1.kept (t' := s1.toks) fun b o e => Heap.get?_push_of_some _ e, turn_tuple a _, ⟨_, Heap.get?_push_size _ rfl, rfl, rfl⟩, fp, q⟩
end Ev
set_option maxHeartbeats 1000000
namespace Ev
open PySem L2

/-! ### what is walked -/
abbrev Jn := Nat → S → Option (Option D)
structure ItOk (K : PySem.W.Frag) (Cl : Nat → Addr) (ro : Ro) (H : Hp) (j : Jn) (J : It) : Prop where
  item : ∀ (i : Nat) (H1 : Hp) (ro1 : Ro) (s : S) (d : D), Ext K ro H ro1 H1 → RelH K Cl ro1 H1 s → j i s = some (some d) → J.go i H1 ∧ ∀ x H2, J.yld i H1 x H2 → ∃ ro2, RelH K Cl ro2 H2 s ∧ Ext K ro1 H1 ro2 H2 ∧ Rep K ro2 H2 d x
  stop : ∀ (i : Nat) (H1 : Hp) (ro1 : Ro) (s : S), Ext K ro H ro1 H1 → RelH K Cl ro1 H1 s → j i s = some none → J.stop i H1
abbrev SI := En → S → R Jn
def okJ (K : PySem.W.Frag) (Cl : Nat → Addr) (ro : Ro) (H : Hp) (Rj : It → Hp → Prop) : Jn → S → Prop := fun j s' => ∀ J H' ro', RelH K Cl ro' H' s' → Ext K ro H ro' H' → ItOk K Cl ro' H' j J → Rj J H'
def rdI (K : PySem.W.Frag) (Cl : Nat → Addr) (W : WX) (f : SI) : TI := fun σ H Rj => ∃ e s ro, RelS K ro H e σ ∧ RelH K Cl ro H s ∧ (f e s).wp (okJ K Cl ro H Rj) (exQ K Cl W ro H σ)
theorem _root_.L2.PI.imp {X : Cx} {tg e : Expr} {t t' : TI} (h : PI X tg e t) (i : ∀ σ H Q, t' σ H Q → t σ H Q) : PI X tg e t' := ⟨fun pins s σ H Q I q => h.run pins s σ H Q I (i σ H Q q)⟩
def kd : D → Sk
  | .tup _ => .t
  | _ => .l
theorem items_kd {K : PySem.W.Frag} {Cl : Nat → Addr} {ro : Ro} {H : Hp} {s : S} {d : D} {v : V} {xs : List D} (rh : RelH K Cl ro H s) (rp : Rep K ro H d v) (h : items s d = some xs) : ∃ a vs, v = .ref a ∧ SqK K H (kd d) a vs ∧ Reps K ro H xs vs := by
  cases rp with
  | tup h1 h2 =>
    obtain rfl := Option.some.inj h
    exact ⟨_, _, rfl, h1, h2⟩
  | ref h1 =>
    rename_i p a
    have h : (match s.get p with
      | some (.lst xs) => some xs
      | some (.frz xs) => some xs
      | _ => none) = some xs := h
    cases q : s.get p with
    | none => rw [q] at h; cases h
    | some o =>
      obtain ⟨a', e1, e2⟩ := rh.get p o q
      rw [h1] at e1; cases e1
      rw [q] at h
      cases o with
      | lst ys =>
        obtain rfl := Option.some.inj h
        cases e2 with
        | lst g1 g2 => exact ⟨_, _, rfl, SqL.of g1, g2⟩
      | frz ys =>
        obtain rfl := Option.some.inj h
        cases e2 with
        | frz g1 g2 =>
          refine ⟨_, _, rfl, ?_, g2⟩
          rcases g1 with ⟨o, g1⟩ | g1
          · exact .inl (.inr ⟨o, g1⟩)
          · exact g1 H
      | dct _ => cases h
      | ins _ _ => cases h
  | _ => cases h
/-- the same one stays where it is -/
theorem items_at {K : PySem.W.Frag} {Cl : Nat → Addr} {ro ro1 : Ro} {H H1 : Hp} {s : S} {d : D} {a : Addr} {xs : List D} (rh : RelH K Cl ro1 H1 s) (rp : Rep K ro H d (.ref a)) (x : Ext K ro H ro1 H1) (h : items s d = some xs) : ∃ vs, SqK K H1 (kd d) a vs ∧ Reps K ro1 H1 xs vs := by
  obtain ⟨a', vs, e, h1, h2⟩ := items_kd rh (rp.mono x) h
  cases e
  exact ⟨vs, h1, h2⟩
def oSq : Option (List D) → Nat → Option (Option D)
  | some xs, i => some xs[i]?
  | none, _ => none
def jSq (d : D) : Jn := fun i s => oSq (items s d) i
theorem ok_jSq {K : PySem.W.Frag} {Cl : Nat → Addr} {ro : Ro} {H : Hp} {d : D} {a : Addr} (rp : Rep K ro H d (.ref a)) : ItOk K Cl ro H (jSq d) (ItK K (kd d) a) where
  item := fun i H1 ro1 s x e rh h => by
    unfold jSq at h
    cases q : items s d with
    | none => rw [q] at h; cases h
    | some xs =>
      rw [q] at h
      have h : xs[i]? = some x := Option.some.inj h
      obtain ⟨vs, h1, h2⟩ := items_at rh rp e q
      obtain ⟨v, hv, rv⟩ := h2.get h
      generalize kd d = k at h1 ⊢
      cases k with
      | l => exact ⟨⟨vs, v, h1, hv⟩, fun y H2 ⟨z1, z2⟩ => by subst z1; rw [z2 vs h1] at hv; cases hv; exact ⟨ro1, rh, .refl, rv⟩⟩
      | t => exact ⟨⟨vs, v, h1, hv⟩, fun y H2 ⟨z1, z2⟩ => by subst z1; rw [z2 vs h1] at hv; cases hv; exact ⟨ro1, rh, .refl, rv⟩⟩
  stop := fun i H1 ro1 s e rh h => by
    unfold jSq at h
    cases q : items s d with
    | none => rw [q] at h; cases h
    | some xs =>
      rw [q] at h
      have h : xs[i]? = none := Option.some.inj h
      obtain ⟨vs, h1, h2⟩ := items_at rh rp e q
      have l : vs.length ≤ i := by rw [← h2.length]; exact List.getElem?_eq_none_iff.mp h
      generalize kd d = k at h1 ⊢
      cases k with
      | l => exact ⟨vs, h1, l⟩
      | t => exact ⟨vs, h1, l⟩
def cIt (a : SE) : SI := fun e s => (a e s).bind fun d s1 => if (items s1 d).isSome = true then .ok (jSq d) s1 else .bad
section
variable {X : Cx} {Cl : Nat → Addr} {W : WX}
theorem r_it {fa : SE} {σ : L2.St} {H : Hp} {Rj : It → Hp → Prop} (h : rdI X.K Cl W (cIt fa) σ H Rj) : iSq X.K (rdE X.K Cl W fa) σ H Rj := by
  obtain ⟨e, s, ro, rs, rh, h⟩ := h
  refine ⟨e, s, ro, rs, rh, ?_⟩
  unfold cIt at h
  rw [wp_bind] at h
  refine h.mono (fun d s1 q v H1 ro1 rh1 x1 rp => ?_) fun _ _ _ q => q
  by_cases z : (items s1 d).isSome = true
  · rw [if_pos z] at q
    obtain ⟨xs, hx⟩ := Option.isSome_iff_exists.mp z
    obtain ⟨a, vs, rfl, h1, h2⟩ := items_kd rh1 rp hx
    exact ⟨kd d, a, vs, rfl, h1, q _ H1 ro1 rh1 x1 (ok_jSq rp)⟩
  · rw [if_neg z] at q; exact q.elim
theorem s_it {tg l : Expr} {f : SE} (h : PE X l (rdE X.K Cl W f)) : PI X tg l (rdI X.K Cl W (cIt f)) := (pi_sq h).imp fun _ _ _ q => r_it q

/-! ### range -/
def jRg (lo : Int) (n : Nat) : Jn := fun i _ => if i < n then some (some (.int (lo + i))) else some none
theorem ok_jRg {K : PySem.W.Frag} {ro : Ro} {H : Hp} {lo : Int} {n : Nat} : ItOk K Cl ro H (jRg lo n) (Itr lo n) where
  item := fun i H1 ro1 s x e rh h => by
    unfold jRg at h
    by_cases z : i < n
    · rw [if_pos z] at h
      cases h
      exact ⟨z, fun y H2 ⟨z1, z2⟩ => by subst z1; subst z2; exact ⟨ro1, rh, .refl, .int _⟩⟩
    · rw [if_neg z] at h; cases h
  stop := fun i H1 ro1 s e rh h => by
    unfold jRg at h
    by_cases z : i < n
    · rw [if_pos z] at h; cases h
    · exact Nat.le_of_not_lt z
@[irreducible] def w62 (i : Int) : Bool := decide (-(2 ^ 62) ≤ i) && decide (i < 2 ^ 62)
theorem w62_ok {i : Int} (h : w62 i = true) : -(2 ^ 62) ≤ i ∧ i < 2 ^ 62 := by
  unfold w62 at h
  rw [Bool.and_eq_true] at h
  exact ⟨of_decide_eq_true h.1, of_decide_eq_true h.2⟩
def gRg : List D → S → R Jn
  | [.int j], s => if w62 j = true then .ok (jRg 0 j.toNat) s else .bad
  | [.int i, .int j], s => if (w62 i && w62 j) = true then .ok (jRg i (j - i).toNat) s else .bad
  | _, _ => .bad
/-- one, two arguments -/
def cRg1 (a : SE) : SI := fun e s => (a e s).bind fun d s1 => gRg [d] s1
def cRg2 (a b : SE) : SI := fun e s => (a e s).bind fun d s1 => (b e s1).bind fun d' s2 => gRg [d, d'] s2
theorem r_rg1' {f : SE} {σ : L2.St} {H : Hp} {Rj : It → Hp → Prop} (h : rdI X.K Cl W (cRg1 f) σ H Rj) : iRng1 (tCons (rdE X.K Cl W f) tNil) σ H Rj := by
  obtain ⟨e, s, ro, rs, rh, h⟩ := h
  refine ⟨e, s, ro, rs, rh, ?_⟩
  unfold cRg1 at h
  rw [wp_bind] at h
  refine h.mono (fun d s1 h v H1 ro1 rh1 x1 rp => ?_) fun _ _ _ q => q
  cases rp with
  | int j =>
    have h : (if w62 j = true then R.ok (jRg 0 j.toNat) s1 else R.bad).wp (okJ X.K Cl ro H Rj) (exQ X.K Cl W ro H σ) := h
    by_cases z : w62 j = true
    · rw [if_pos z] at h
      obtain ⟨z1, z2⟩ := w62_ok z
      exact ⟨j, rfl, z1, z2, h _ H1 ro1 rh1 x1 ok_jRg⟩
    · rw [if_neg z] at h; exact h.elim
  | _ => exact h.elim
theorem r_rg2' {f g : SE} {σ : L2.St} {H : Hp} {Rj : It → Hp → Prop} (h : rdI X.K Cl W (cRg2 f g) σ H Rj) : iRng2 (tCons (rdE X.K Cl W f) (tCons (rdE X.K Cl W g) tNil)) σ H Rj := by
  obtain ⟨e, s, ro, rs, rh, h⟩ := h
  refine ⟨e, s, ro, rs, rh, ?_⟩
  unfold cRg2 at h
  rw [wp_bind] at h
  refine h.mono (fun d s1 h v H1 ro1 rh1 x1 rp => ?_) fun _ _ _ q => q
  refine ⟨e, s1, ro1, rs.ext x1, rh1, ?_⟩
  rw [wp_bind] at h
  refine h.mono (fun d' s2 h v' H2 ro2 rh2 x2 rp' => ?_) fun _ _ _ q => q.ext x1
  cases rp with
  | int i =>
    cases rp' with
    | int j =>
      have h : (if (w62 i && w62 j) = true then R.ok (jRg i (j - i).toNat) s2 else R.bad).wp (okJ X.K Cl ro H Rj) (exQ X.K Cl W ro H σ) := h
      by_cases z : (w62 i && w62 j) = true
      · rw [if_pos z] at h
        rw [Bool.and_eq_true] at z
        obtain ⟨z1, z2⟩ := w62_ok z.1
        obtain ⟨z3, z4⟩ := w62_ok z.2
        exact ⟨i, j, rfl, ⟨z1, z2, z3, z4⟩, h _ H2 ro2 rh2 (x1.trans x2) ok_jRg⟩
      · rw [if_neg z] at h; exact h.elim
    | _ => exact h.elim
  | _ => exact h.elim
theorem s_rg1 {tg a : Expr} {f : SE} {p pos : Pos} (hg : Gl X "range") (hm : X.mg "range" = none) (ha : PE X a (rdE X.K Cl W f)) (hs : starEach [a] X.env = [(false, eval a X.env)]) : PI X tg (.Call (.Name "range" p) [a] [] pos) (rdI X.K Cl W (cRg1 f)) :=
  (pi_range1 hg hm (pa_cons ha pa_nil hs) hs).imp fun _ _ _ q => r_rg1' q
theorem s_rg2 {tg a b : Expr} {f g : SE} {p pos : Pos} (hg : Gl X "range") (hm : X.mg "range" = none) (ha : PE X a (rdE X.K Cl W f)) (hb : PE X b (rdE X.K Cl W g)) (hs : starEach [a, b] X.env = [(false, eval a X.env), (false, eval b X.env)]) (hs2 : starEach [b] X.env = [(false, eval b X.env)]) :
    PI X tg (.Call (.Name "range" p) [a, b] [] pos) (rdI X.K Cl W (cRg2 f g)) :=
  (pi_range2 hg hm (pa_cons ha (pa_cons hb pa_nil hs2) (by rw [hs, hs2])) hs hs2).imp fun _ _ _ q => r_rg2' q

/-! ### enumerate, zip -/
def oEn : Option (List D) → Nat → Option (Option D)
  | some xs, i => match xs[i]? with
    | some x => some (some (.tup [.int i, x]))
    | none => if xs.length = i then some none else none
  | none, _ => none
def jEn (d : D) : Jn := fun i s => oEn (items s d) i
theorem newTup {K : PySem.W.Frag} {ro : Ro} {H : Hp} {T : Addr} {vs : List V} {ds : List D} {s : S} (rh : RelH K Cl ro H s) (hT : H T = none) (r : Reps K ro H ds vs) : RelH K Cl ro (upd H T (.tup vs)) s ∧ Ext K ro H ro (upd H T (.tup vs)) ∧ Rep K ro (upd H T (.tup vs)) (.tup ds) (.ref T) :=
  have x : Ext K ro H ro (upd H T (.tup vs)) := Ext.same (same_laid hT)
  ⟨rh.same (same_laid hT), x, .tup (.inl (.inl (upd_same ..))) (r.mono x)⟩
theorem ok_jEn {K : PySem.W.Frag} {ro : Ro} {H : Hp} {d : D} {a : Addr} (rp : Rep K ro H d (.ref a)) : ItOk K Cl ro H (jEn d) (ItE K (kd d) a) where
  item := fun i H1 ro1 s x e rh h => by
    unfold jEn at h
    cases q : items s d with
    | none => rw [q] at h; cases h
    | some xs =>
      rw [q] at h
      have h : (match xs[i]? with
        | some x => some (some (D.tup [.int i, x]))
        | none => if xs.length = i then some none else none) = some (some x) := h
      obtain ⟨vs, h1, h2⟩ := items_at rh rp e q
      cases z : xs[i]? with
      | none =>
        rw [z] at h
        have h : (if xs.length = i then some none else none) = some (some x) := h
        by_cases w : xs.length = i
        · rw [if_pos w] at h; cases h
        · rw [if_neg w] at h; cases h
      | some y =>
        rw [z] at h
        cases h
        obtain ⟨v, hv, rv⟩ := h2.get z
        refine ⟨⟨vs, v, h1, hv⟩, fun u H2 ⟨T, w, z1, z2, z3, z4⟩ => ?_⟩
        have := z4 vs h1
        rw [hv] at this
        cases this
        subst z1; subst z3
        exact ⟨ro1, newTup rh z2 (.cons (.int _) (.cons rv .nil))⟩
  stop := fun i H1 ro1 s e rh h => by
    unfold jEn at h
    cases q : items s d with
    | none => rw [q] at h; cases h
    | some xs =>
      rw [q] at h
      have h : (match xs[i]? with
        | some x => some (some (D.tup [.int i, x]))
        | none => if xs.length = i then some none else none) = some none := h
      obtain ⟨vs, h1, h2⟩ := items_at rh rp e q
      cases z : xs[i]? with
      | some y => rw [z] at h; cases h
      | none =>
        rw [z] at h
        have h : (if xs.length = i then some none else none) = some (none : Option D) := h
        by_cases w : xs.length = i
        · exact ⟨vs, h1, by rw [← h2.length]; exact w⟩
        · rw [if_neg w] at h; cases h
def cEn (a : SE) : SI := fun e s => (a e s).bind fun d s1 => if (items s1 d).isSome = true then .ok (jEn d) s1 else .bad
theorem s_en {f : SE} {a : Expr} {p pos tpos : Pos} {elts : List Expr} {kk : Nat} (hg : Gl X "enumerate") (hm : X.mg "enumerate" = none) (ha : PE X a (rdE X.K Cl W f)) (hs : starEach [a] X.env = [(false, eval a X.env)]) :
    PI X (.Tuple elts kk tpos) (.Call (.Name "enumerate" p) [a] [] pos) (rdI X.K Cl W (cEn f)) := by
  refine (pi_en hg hm (pa_cons ha pa_nil hs) hs).imp fun σ H Q h => ?_
  obtain ⟨e, s, ro, rs, rh, h⟩ := h
  refine ⟨e, s, ro, rs, rh, ?_⟩
  unfold cEn at h
  rw [wp_bind] at h
  refine h.mono (fun d s1 q v H1 ro1 rh1 x1 rp => ?_) fun _ _ _ q => q
  by_cases z : (items s1 d).isSome = true
  · rw [if_pos z] at q
    obtain ⟨xs, hx⟩ := Option.isSome_iff_exists.mp z
    obtain ⟨a, vs, rfl, h1, h2⟩ := items_kd rh1 rp hx
    exact ⟨kd d, a, vs, rfl, h1, q _ H1 ro1 rh1 x1 (ok_jEn rp)⟩
  · rw [if_neg z] at q; exact q.elim
def zStop (b : Bool) (i n m : Nat) : Bool := if b = true then n == i && m == i else Nat.ble i n && Nat.ble i m && (i == n || i == m)
theorem zStop_ok {b : Bool} {i n m : Nat} (h : zStop b i n m = true) : zEnd b i n m := by
  unfold zStop at h
  unfold zEnd
  cases b with
  | true => simpa using h
  | false =>
    simp only [Bool.false_eq_true, if_false, Bool.and_eq_true, Nat.ble_eq, Bool.or_eq_true, beq_iff_eq] at h ⊢
    exact ⟨h.1.1, h.1.2, h.2⟩
def oZ2 (b : Bool) (xs ys : List D) (i : Nat) : Option D → Option D → Option (Option D)
  | some x, some y => some (some (.tup [x, y]))
  | _, _ => if zStop b i xs.length ys.length = true then some none else none
def oZ (b : Bool) : Option (List D) → Option (List D) → Nat → Option (Option D)
  | some xs, some ys, i => oZ2 b xs ys i xs[i]? ys[i]?
  | _, _, _ => none
def jZ (b : Bool) (d d' : D) : Jn := fun i s => oZ b (items s d) (items s d') i
theorem ok_jZ {K : PySem.W.Frag} {ro : Ro} {H : Hp} {b : Bool} {d d' : D} {a a' : Addr} (rp : Rep K ro H d (.ref a)) (rp' : Rep K ro H d' (.ref a')) : ItOk K Cl ro H (jZ b d d') (ItZ K b (kd d) (kd d') a a') where
  item := fun i H1 ro1 s x e rh h => by
    unfold jZ at h
    cases q : items s d with
    | none => rw [q] at h; cases h
    | some xs =>
      cases q' : items s d' with
      | none => rw [q, q'] at h; cases h
      | some ys =>
        rw [q, q'] at h
        have h : oZ2 b xs ys i xs[i]? ys[i]? = some (some x) := h
        obtain ⟨vs, h1, h2⟩ := items_at rh rp e q
        obtain ⟨us, h3, h4⟩ := items_at rh rp' e q'
        have no : ∀ {c : Bool}, (if c = true then some none else none) ≠ some (some x) := fun {c} => by cases c <;> simp
        cases z : xs[i]? with
        | none => rw [z] at h; exact (no h).elim
        | some y =>
          cases z' : ys[i]? with
          | none => rw [z, z'] at h; exact (no h).elim
          | some y' =>
            rw [z, z'] at h
            cases h
            obtain ⟨v, hv, rv⟩ := h2.get z
            obtain ⟨u, hu, ru⟩ := h4.get z'
            refine ⟨⟨vs, us, v, u, h1, h3, hv, hu⟩, fun w H2 ⟨T, w1, w2, z1, z2, z3, z4, z5⟩ => ?_⟩
            have t1 := z4 vs h1
            have t2 := z5 us h3
            rw [hv] at t1
            rw [hu] at t2
            cases t1; cases t2
            subst z1; subst z3
            exact ⟨ro1, newTup rh z2 (.cons rv (.cons ru .nil))⟩
  stop := fun i H1 ro1 s e rh h => by
    unfold jZ at h
    cases q : items s d with
    | none => rw [q] at h; cases h
    | some xs =>
      cases q' : items s d' with
      | none => rw [q, q'] at h; cases h
      | some ys =>
        rw [q, q'] at h
        have h : oZ2 b xs ys i xs[i]? ys[i]? = some none := h
        obtain ⟨vs, h1, h2⟩ := items_at rh rp e q
        obtain ⟨us, h3, h4⟩ := items_at rh rp' e q'
        have fin : (if zStop b i xs.length ys.length = true then some none else none) = some (none : Option D) → (ItZ K b (kd d) (kd d') a a').stop i H1 := fun h => by
          by_cases w : zStop b i xs.length ys.length = true
          · exact ⟨vs, us, h1, h3, by rw [← h2.length, ← h4.length]; exact zStop_ok w⟩
          · rw [if_neg w] at h; cases h
        cases z : xs[i]? with
        | none => rw [z] at h; exact fin h
        | some y =>
          cases z' : ys[i]? with
          | none => rw [z, z'] at h; exact fin h
          | some y' => rw [z, z'] at h; cases h
def cZ (b : Bool) (f g : SE) : SI := fun e s => (f e s).bind fun d s1 => (g e s1).bind fun d' s2 => if ((items s2 d).isSome && (items s2 d').isSome) = true then .ok (jZ b d d') s2 else .bad
theorem r_z {b : Bool} {f g : SE} {σ : L2.St} {H : Hp} {Rj : It → Hp → Prop} (h : rdI X.K Cl W (cZ b f g) σ H Rj) : iZg X.K b (tCons (rdE X.K Cl W f) (tCons (rdE X.K Cl W g) tNil)) σ H Rj := by
  obtain ⟨e, s, ro, rs, rh, h⟩ := h
  refine ⟨e, s, ro, rs, rh, ?_⟩
  unfold cZ at h
  rw [wp_bind] at h
  refine h.mono (fun d s1 h v H1 ro1 rh1 x1 rp => ?_) fun _ _ _ q => q
  refine ⟨e, s1, ro1, rs.ext x1, rh1, ?_⟩
  rw [wp_bind] at h
  refine h.mono (fun d' s2 q v' H2 ro2 rh2 x2 rp' => ?_) fun _ _ _ q => q.ext x1
  by_cases z : ((items s2 d).isSome && (items s2 d').isSome) = true
  · rw [if_pos z] at q
    rw [Bool.and_eq_true] at z
    obtain ⟨xs, hx⟩ := Option.isSome_iff_exists.mp z.1
    obtain ⟨ys, hy⟩ := Option.isSome_iff_exists.mp z.2
    have rp2 := rp.mono x2
    obtain ⟨a, vs, rfl, h1, h2⟩ := items_kd rh2 rp2 hx
    obtain ⟨a', us, rfl, h3, h4⟩ := items_kd rh2 rp' hy
    exact ⟨kd d, kd d', a, a', vs, us, rfl, h1, h3, q _ H2 ro2 rh2 (x1.trans x2) (ok_jZ rp2 rp')⟩
  · rw [if_neg z] at q; exact q.elim
theorem s_z {f g : SE} {a a2 : Expr} {p pos tpos : Pos} {elts : List Expr} {kk : Nat} (hg : Gl X "zip") (hm : X.mg "zip" = none) (h1 : PE X a (rdE X.K Cl W f)) (h2 : PE X a2 (rdE X.K Cl W g))
    (hs : starEach [a, a2] X.env = [(false, eval a X.env), (false, eval a2 X.env)]) (hs2 : starEach [a2] X.env = [(false, eval a2 X.env)]) :
    PI X (.Tuple elts kk tpos) (.Call (.Name "zip" p) [a, a2] [] pos) (rdI X.K Cl W (cZ false f g)) :=
  (pi_zg hg hm (pa_cons h1 (pa_cons h2 pa_nil hs2) (by rw [hs, hs2])) (by rw [hs, hs2]) (by rw [hs2]; rfl)).imp fun _ _ _ q => r_z q
theorem s_zS {f g : SE} {a a2 ev : Expr} {p pos tpos kp : Pos} {elts : List Expr} {kk : Nat} (hg : Gl X "zip") (hm : X.mg "zip" = none) (h1 : PE X a (rdE X.K Cl W f)) (h2 : PE X a2 (rdE X.K Cl W g)) (hv : PE X ev (tC (.bl true)))
    (hs : starEach [a, a2] X.env = [(false, eval a X.env), (false, eval a2 X.env)]) (hs2 : starEach [a2] X.env = [(false, eval a2 X.env)]) :
    PI X (.Tuple elts kk tpos) (.Call (.Name "zip" p) [a, a2] [⟨some (Str.ofString "strict"), ev, kp⟩] pos) (rdI X.K Cl W (cZ true f g)) :=
  (pi_zgS hg hm (pa_cons h1 (pa_cons h2 pa_nil hs2) (by rw [hs, hs2])) hv (by rw [hs, hs2]; rfl) (by rw [hs]; rfl) rfl rfl rfl).imp fun _ _ _ q => r_z q
end
end Ev
set_option maxHeartbeats 1000000
namespace Ev
open PySem L2

/-! ### list comprehensions -/
def wipeE (e : En) : List Nat → En
  | [] => e
  | v :: vs => (wipeE e vs).set v none
theorem RelS.wipe {K : PySem.W.Frag} {ro : Ro} {H : Hp} {e : En} {σ : L2.St} (r : RelS K ro H e σ) : ∀ vs : List Nat, RelS K ro H (wipeE e vs) (L2.wipe σ vs)
  | [] => r
  | v :: vs => by
    have ih := RelS.wipe r vs
    unfold wipeE L2.wipe
    refine ⟨by simpa using ih.1, fun i d h => ?_⟩
    by_cases hv : v = i
    · subst hv
      rw [List.getElem?_set] at h
      simp only [if_true] at h
      split at h <;> cases h
    · rw [List.getElem?_set_ne hv] at h ⊢
      exact ih.2 i d h
theorem wipe_out (σ : L2.St) {v : Nat} : ∀ {vs : List Nat}, v ∈ vs → (L2.wipe σ vs).set v none = L2.wipe σ vs
  | [], h => by simp at h
  | w :: vs, h => by
    unfold L2.wipe
    by_cases hv : v ∈ vs
    · by_cases hw : w = v
      · subst hw; rw [List.set_set]
      · rw [List.set_comm _ _ hw, wipe_out σ hv]
    · have e : v = w := by
        rcases List.mem_cons.mp h with e | e
        · exact e
        · exact absurd e hv
      subst e
      rw [List.set_set]
theorem wipe_wipe (σ : L2.St) (vs : List Nat) : ∀ us : List Nat, (∀ i ∈ us, i ∈ vs) → L2.wipe (L2.wipe σ vs) us = L2.wipe σ vs
  | [], _ => rfl
  | u :: us, h => by
    show (L2.wipe (L2.wipe σ vs) us).set u none = _
    rw [wipe_wipe σ vs us fun i hi => h i (List.mem_cons_of_mem _ hi)]
    exact wipe_out σ (h u List.mem_cons_self)
abbrev ET := En → S → R Bool
def cYes : ET := fun _ s => .ok true s
def lcPut (ih : Nat → S → R D) (i : Nat) (p : Ps) (y : D) (s : S) : Option O → R D
  | some (.lst acc) => if short zLine acc = true then ih (i + 1) (s.set p (.lst (acc ++ [y]))) else .bad
  | _ => .bad
def lcGo (tt : ET) (te : SE) (p : Ps) (ih : Nat → S → R D) (i : Nat) (s : S) : Option En → R D
  | none => .bad
  | some e1 => (noX (tt e1 s)).bind fun b s1 => if b = true then (noX (te e1 s1)).bind fun y s2 => lcPut ih i p y s2 (s2.get p) else ih (i + 1) s1
def lcTurn (g : IT) (tt : ET) (te : SE) (e0 : En) (p : Ps) (ih : Nat → S → R D) (i : Nat) (s : S) : Option (Option D) → R D
  | none => .bad
  | some none => .ok (.ref p) s
  | some (some d) => lcGo tt te p ih i s (g.to d e0)
def lcLoop (j : Jn) (g : IT) (tt : ET) (te : SE) (e0 : En) (p : Ps) (fuel : Nat) : Nat → S → R D :=
  Nat.rec (fun _ _ => .bad) (fun _ ih i s => lcTurn g tt te e0 p ih i s (j i s)) fuel
theorem lcLoop_succ (j : Jn) (g : IT) (tt : ET) (te : SE) (e0 : En) (p : Ps) (m i : Nat) (s : S) : lcLoop j g tt te e0 p (m + 1) i s = lcTurn g tt te e0 p (lcLoop j g tt te e0 p m) i s (j i s) := rfl
@[irreducible] def fuelN : Nat := 2 ^ 10000
def cLc (it : SI) (g : IT) (tt : ET) (te : SE) (own : List Nat) : SE := fun e s => (it e s).bind fun j s1 => lcLoop j g tt te (wipeE e own) s1.n fuelN 0 (s1.push (.lst []))
section
variable {X : Cx} {Cl : Nat → Addr} {W : WX}
/-- no exception in a block -/
abbrev WF : WX := fun _ _ _ _ => False
theorem r_lc {it : SI} {g : IT} {tt : ET} {te : SE} {own : List Nat} (hsl : ∀ i ∈ g.slots, i ∈ own) {wi : TI} {σ : L2.St} {H : Hp} {Q : VK} (hi : ∀ Rj, rdI X.K Cl W it σ H Rj → wi σ H Rj) (h : rdE X.K Cl W (cLc it g tt te own) σ H Q) :
    tLc wi (g.g X.K) (rdT X.K Cl WF tt) (rdE X.K Cl WF te) own σ H Q := by
  refine hi _ ?_
  obtain ⟨e, s, ro, rs, rh, h⟩ := h
  refine ⟨e, s, ro, rs, rh, ?_⟩
  unfold cLc at h
  rw [wp_bind] at h
  refine h.mono (fun j s1 h J H1 ro1 rh1 x1 jo D hD => ?_) fun _ _ _ q => q
  refine ⟨fun i m Hc => ∃ sc roc, RelH X.K Cl roc Hc sc ∧ Ext X.K ro1 H1 roc Hc ∧ roc s1.n = some D ∧ (lcLoop j g tt te (wipeE e own) s1.n m i sc).wp (okQ X.K Cl ro H Q) (exQ X.K Cl W ro H σ), ⟨fuelN, s1.push (.lst []), ron ro1 s1.n D,
    rh1.new hD (.lst (upd_same ..) .nil), ext_new rh1 hD, ron_same, h⟩, ?_⟩
  rintro i m Hc ⟨sc, roc, rhc, xc, hp, hc⟩
  cases m with
  | zero => exact hc.elim
  | succ m =>
    rw [lcLoop_succ] at hc
    cases hj : j i sc with
    | none => rw [hj] at hc; exact hc.elim
    | some od =>
      rw [hj] at hc
      cases od with
      | none => exact .inl ⟨jo.stop i Hc roc sc xc rhc hj, hc (.ref D) Hc roc rhc (x1.trans xc) (.ref hp)⟩
      | some d =>
        obtain ⟨hgo, hy⟩ := jo.item i Hc roc sc d xc rhc hj
        refine .inr ⟨hgo, fun Hn => ∃ sc roc, RelH X.K Cl roc Hn sc ∧ Ext X.K ro1 H1 roc Hn ∧ roc s1.n = some D ∧ (lcLoop j g tt te (wipeE e own) s1.n m (i + 1) sc).wp (okQ X.K Cl ro H Q) (exQ X.K Cl W ro H σ), fun Hn hn => ⟨m, Nat.lt_succ_self _, hn⟩, fun x H2 hx => ?_⟩
        obtain ⟨ro2, rh2, x2, rd⟩ := hy x H2 hx
        have xx := xc.trans x2
        have hc : (lcGo tt te s1.n (lcLoop j g tt te (wipeE e own) s1.n m) i sc (g.to d (wipeE e own))).wp (okQ X.K Cl ro H Q) (exQ X.K Cl W ro H σ) := hc
        cases hg : g.to d (wipeE e own) with
        | none => rw [hg] at hc; exact hc.elim
        | some e1 =>
          rw [hg] at hc
          have hc : ((noX (tt e1 sc)).bind fun b s1' => if b = true then (noX (te e1 s1')).bind fun y s2 => lcPut (lcLoop j g tt te (wipeE e own) s1.n m) i s1.n y s2 (s2.get s1.n) else lcLoop j g tt te (wipeE e own) s1.n m (i + 1) s1').wp (okQ X.K Cl ro H Q) (exQ X.K Cl W ro H σ) := hc
          refine IT.ok g d x _ e1 _ _ rd (((rs.ext x1).ext xx).wipe own) hg fun σ2 rs2 hw => ⟨?_, ?_⟩
          · rw [hw own hsl, wipe_wipe σ own own fun _ h => h]
          rw [wp_bind] at hc
          refine ⟨e1, sc, ro2, rs2, rh2, (noX_wp (E' := exQ X.K Cl WF ro2 H2 σ2) hc).mono (fun b s3 q H3 ro3 rh3 x3 => ?_) fun _ _ _ z => z⟩
          have xx3 := xx.trans x3
          cases b with
          | false => exact ⟨s3, ro3, rh3, xx3, x3.ro _ _ (x2.ro _ _ hp), q⟩
          | true =>
            have q : ((noX (te e1 s3)).bind fun y s2 => lcPut (lcLoop j g tt te (wipeE e own) s1.n m) i s1.n y s2 (s2.get s1.n)).wp (okQ X.K Cl ro H Q) (exQ X.K Cl W ro H σ) := q
            rw [wp_bind] at q
            refine ⟨e1, s3, ro3, rs2.ext x3, rh3, (noX_wp (E' := exQ X.K Cl WF ro3 H3 σ2) q).mono (fun y s4 q v H4 ro4 rh4 x4 ry => ?_) fun _ _ _ z => z⟩
            have hp4 : ro4 s1.n = some D := x4.ro _ _ (x3.ro _ _ (x2.ro _ _ hp))
            cases hl : s4.get s1.n with
            | none => rw [hl] at q; exact q.elim
            | some o =>
              rw [hl] at q
              cases o with
              | lst acc =>
                have q : (if short zLine acc = true then lcLoop j g tt te (wipeE e own) s1.n m (i + 1) (s4.set s1.n (.lst (acc ++ [y]))) else R.bad).wp (okQ X.K Cl ro H Q) (exQ X.K Cl W ro H σ) := q
                by_cases hs : short zLine acc = true
                · rw [if_pos hs] at q
                  obtain ⟨a, e1', o2⟩ := rh4.get _ _ hl
                  rw [hp4] at e1'; cases e1'
                  cases o2 with
                  | lst g1 g2 =>
                    rename_i vs
                    refine ⟨vs, g1, ?_, s4.set s1.n (.lst (acc ++ [y])), ro4, rh4.write hl rfl hp4 rfl (.lst (upd_same ..) ((g2.append (.cons ry .nil)).mono (ext_write g1 trivial))), xx3.trans (x4.trans (ext_write g1 trivial)), hp4, q⟩
                    rw [← g2.length]
                    exact Nat.lt_of_le_of_lt (short_le hs) (by decide)
                · rw [if_neg hs] at q; exact q.elim
              | frz _ => exact q.elim
              | dct _ => exact q.elim
              | ins _ _ => exact q.elim
theorem _root_.L2.PTs.imp {X : Cx} {e : List Expr} {t t' : TT} (h : PTs X e t) (i : ∀ σ H Q, t' σ H Q → t σ H Q) : PTs X e t' := ⟨fun pins s σ H Q I q => h.run pins s σ H Q I (i σ H Q q)⟩
theorem s_pts0 : PTs X [] (rdT X.K Cl W cYes) := pts_nil.imp fun σ H Q h => by
  obtain ⟨e, s, ro, rs, rh, h⟩ := h
  exact h H ro rh .refl
theorem s_pts1 {c : Expr} {t : ET} (h : PT X c (rdT X.K Cl W t)) : PTs X [c] (rdT X.K Cl W t) := pts_one h
theorem s_lc {it : SI} {g : IT} {tt : ET} {te : SE} {elt tg iter : Expr} {ifs : List Expr} {scope : Scope} {own : List (Str × Nat)} {pos : Pos} (hc : X.calm = true) (hN : X.N.Nodup) (hi : PI X tg iter (rdI X.K Cl W it)) (ok : BlkOk X.N X.env.scope scope own)
    (hg : ∀ (s : Shared) (H : Hp) (C : Addr) (cl : List (Str × Addr)) (fp : List Addr), PG (X.blk s H scope (compEnvC scope cl C X.env) fp) tg (g.g X.K)) (ht : ∀ (s : Shared) (H : Hp) (C : Addr) (cl : List (Str × Addr)) (fp : List Addr), PTs (X.blk s H scope (compEnvC scope cl C X.env) fp) ifs (rdT X.K Cl WF tt))
    (he : ∀ (s : Shared) (H : Hp) (C : Addr) (cl : List (Str × Addr)) (fp : List Addr), PE (X.blk s H scope (compEnvC scope cl C X.env) fp) elt (rdE X.K Cl WF te)) (hsl : ∀ i ∈ g.slots, i ∈ own.map (·.2)) (hs : ∀ x, foldedSetIterable iter X.env x = pure x) :
    PE X (.ListComp elt [⟨tg, iter, ifs, 0⟩] scope pos) (rdE X.K Cl W (cLc it g tt te (own.map (·.2)))) :=
  (pe_lc hc hN hi ok hg ht he hs).imp fun σ H Q h => r_lc hsl (fun _ q => q) h
end

/-! ### statements -/
inductive RS where
  | nx (e : En) (s : S) | rt (d : D) (s : S) | bk (e : En) (s : S) | ct (e : En) (s : S) | ex (c : Nat) (fs : List (Str × D)) (e : En) (s : S) | bad
structure EQ where
  nx : En → S → Prop
  rt : D → S → Prop
  bk : En → S → Prop
  ct : En → S → Prop
  ex : Nat → List (Str × D) → En → S → Prop
def RS.wp (r : RS) (P : EQ) : Prop := match r with
  | .nx e s => P.nx e s
  | .rt d s => P.rt d s
  | .bk e s => P.bk e s
  | .ct e s => P.ct e s
  | .ex c fs e s => P.ex c fs e s
  | .bad => False
theorem RS.wp.mono {r : RS} {P P' : EQ} (h : r.wp P) (h1 : ∀ e s, P.nx e s → P'.nx e s) (h2 : ∀ d s, P.rt d s → P'.rt d s) (h3 : ∀ e s, P.bk e s → P'.bk e s) (h4 : ∀ e s, P.ct e s → P'.ct e s) (h5 : ∀ c fs e s, P.ex c fs e s → P'.ex c fs e s) : r.wp P' := by
  cases r with
  | nx e s => exact h1 e s h
  | rt d s => exact h2 d s h
  | bk e s => exact h3 e s h
  | ct e s => exact h4 e s h
  | ex c fs e s => exact h5 c fs e s h
  | bad => exact h
abbrev SS := En → S → RS
def R.toS {α : Type} (r : R α) (e : En) (k : α → S → RS) : RS := match r with
  | .ok a s => k a s
  | .ex c fs s => .ex c fs e s
  | .bad => .bad
theorem toS_wp {α : Type} {r : R α} {e : En} {k : α → S → RS} {P : EQ} : (r.toS e k).wp P = r.wp (fun a s => (k a s).wp P) (fun c fs s => P.ex c fs e s) := by
  cases r <;> rfl
section
variable (K : PySem.W.Frag) (Cl : Nat → Addr) (W : WX)
def toEn (ro : Ro) (H : Hp) (q : L2.St → Hp → Prop) : En → S → Prop := fun e s => ∀ σ' H' ro', RelS K ro' H' e σ' → RelH K Cl ro' H' s → Ext K ro H ro' H' → q σ' H'
def endQ (ro : Ro) (H : Hp) (D : Ends) : EQ where
  nx := toEn K Cl ro H D.nx
  rt := okQ K Cl ro H D.rt
  bk := toEn K Cl ro H D.bk
  ct := toEn K Cl ro H D.ct
  ex := fun c fs e s => ∀ σ' H' ro' cls d, RelS K ro' H' e σ' → RelH K Cl ro' H' s → Ext K ro H ro' H' → XRep K Cl ro' H' c fs cls d → W cls d σ' H'
def rdS (f : SS) : TS := fun D σ H => ∃ e s ro, RelS K ro H e σ ∧ RelH K Cl ro H s ∧ (f e s).wp (endQ K Cl W ro H D)
end
section
variable {K : PySem.W.Frag} {Cl : Nat → Addr} {W : WX} {ro ro' : Ro} {H H' : Hp} {σ : L2.St} {D : Ends}
theorem toEn.ext (x : Ext K ro H ro' H') {q : L2.St → Hp → Prop} {e : En} {s : S} (h : toEn K Cl ro H q e s) : toEn K Cl ro' H' q e s := fun σ2 H2 ro2 a b c => h σ2 H2 ro2 a b (x.trans c)
theorem endQ.ext (x : Ext K ro H ro' H') {r : RS} (h : r.wp (endQ K Cl W ro H D)) : r.wp (endQ K Cl W ro' H' D) :=
  h.mono (fun _ _ q => q.ext x) (fun _ _ q => q.ext x) (fun _ _ q => q.ext x) (fun _ _ q => q.ext x) fun _ _ _ _ q σ2 H2 ro2 cls d a b c => q σ2 H2 ro2 cls d a b (x.trans c)
theorem ex_at {e : En} (rs : RelS K ro H e σ) {c : Nat} {fs : List (Str × Ev.D)} {s : S} (h : (endQ K Cl W ro H D).ex c fs e s) : exQ K Cl W ro H σ c fs s := fun H2 ro2 cls d a b x => h σ H2 ro2 cls d (rs.ext b) a b x
/-- the end of an expression, then a statement's -/
theorem toS_rd {α : Type} {r : R α} {e : En} {k : α → S → RS} (rs : RelS K ro H e σ) (h : (r.toS e k).wp (endQ K Cl W ro H D)) : r.wp (fun a s => (k a s).wp (endQ K Cl W ro H D)) (exQ K Cl W ro H σ) := by
  rw [toS_wp] at h
  exact h.mono (fun _ _ q => q) fun _ _ _ q => ex_at rs q
end
def cAs (g : IT) (f : SE) : SS := fun e s => (f e s).toS e fun d s1 => match g.to d e with
  | some e1 => .nx e1 s1
  | none => .bad
def cPar (g : ITs) (f : SEs) : SS := fun e s => (f e s).toS e fun ds s1 => match g.to ds e with
  | some e1 => .nx e1 s1
  | none => .bad
def cRet (f : SE) : SS := fun e s => (f e s).toS e fun d s1 => .rt d s1
def cRetN : SS := fun _ s => .rt .non s
def cDrop (f : SE) : SS := fun e s => (f e s).toS e fun _ s1 => .nx e s1
def cPass : SS := fun e s => .nx e s
def cBrk : SS := fun e s => .bk e s
def cCt : SS := fun e s => .ct e s
def RS.seq (r : RS) (k : En → S → RS) : RS := match r with
  | .nx e s => k e s
  | r => r
def cSeq (f g : SS) : SS := fun e s => (f e s).seq g
def cIf (t : ET) (f g : SS) : SS := fun e s => (t e s).toS e fun b s1 => if b = true then f e s1 else g e s1
/-- a turn's end -/
def RS.turn (r : RS) (k : En → S → RS) : RS := match r with
  | .nx e s => k e s
  | .ct e s => k e s
  | .bk e s => .nx e s
  | r => r
def forGo (body : SS) (ih : Nat → En → S → RS) (i : Nat) (s : S) : Option En → RS
  | none => .bad
  | some e1 => (body e1 s).turn (ih (i + 1))
def forTurn (g : IT) (body : SS) (ih : Nat → En → S → RS) (i : Nat) (e : En) (s : S) : Option (Option D) → RS
  | none => .bad
  | some none => .nx e s
  | some (some d) => forGo body ih i s (g.to d e)
def forLoop (j : Jn) (g : IT) (body : SS) (fuel : Nat) : Nat → En → S → RS :=
  Nat.rec (fun _ _ _ => .bad) (fun _ ih i e s => forTurn g body ih i e s (j i s)) fuel
theorem forLoop_succ (j : Jn) (g : IT) (body : SS) (m i : Nat) (e : En) (s : S) : forLoop j g body (m + 1) i e s = forTurn g body (forLoop j g body m) i e s (j i s) := rfl
def cFor (it : SI) (g : IT) (body : SS) : SS := fun e s => (it e s).toS e fun j s1 => forLoop j g body fuelN 0 e s1
def whTurn (t : ET) (body : SS) (ih : En → S → RS) (e : En) (s : S) : RS := (t e s).toS e fun b s1 => if b = true then (body e s1).turn ih else .nx e s1
def whLoop (t : ET) (body : SS) (fuel : Nat) : En → S → RS := Nat.rec (fun _ _ => .bad) (fun _ ih e s => whTurn t body ih e s) fuel
theorem whLoop_succ (t : ET) (body : SS) (m : Nat) (e : En) (s : S) : whLoop t body (m + 1) e s = whTurn t body (whLoop t body m) e s := rfl
def cWh (t : ET) (body : SS) : SS := whLoop t body fuelN
section
variable {X : Cx} {Cl : Nat → Addr} {W : WX} {pos : Pos}
theorem r_as {g : IT} {f : SE} {te : TE} {D : Ends} {σ : L2.St} {H : Hp} (ht : ∀ Q, rdE X.K Cl W f σ H Q → te σ H Q) (h : rdS X.K Cl W (cAs g f) D σ H) : tAsg te (g.g X.K) D σ H := by
  obtain ⟨e, s, ro, rs, rh, h⟩ := h
  refine ht _ ⟨e, s, ro, rs, rh, (toS_rd rs h).mono (fun d s1 q v H1 ro1 rh1 x1 rp => ?_) fun _ _ _ q => q⟩
  cases z : g.to d e with
  | none =>
    have q : (match g.to d e with
      | some e1 => RS.nx e1 s1
      | none => RS.bad).wp (endQ X.K Cl W ro H D) := q
    rw [z] at q; exact q.elim
  | some e1 =>
    have q : (match g.to d e with
      | some e1 => RS.nx e1 s1
      | none => RS.bad).wp (endQ X.K Cl W ro H D) := q
    rw [z] at q
    exact IT.ok g d v e e1 σ _ rp (rs.ext x1) z fun σ2 rs2 _ => q σ2 H1 ro1 rs2 rh1 x1
theorem s_as {g : IT} {f : SE} {tg e : Expr} (he : PE X e (rdE X.K Cl W f)) (hg : PG X tg (g.g X.K)) (hs : swapsWithSole [tg] e pos.line X.env = pure false) (hw : swappedStores [tg] e X.env = pure none) (h1 : (assignEach [tg] X.env).map (·.2) = [assign tg X.env]) :
    PS X (.Assign [tg] e pos) (rdS X.K Cl W (cAs g f)) := (ps_asg he hg hs hw h1).imp fun _ _ _ h => r_as (fun _ q => q) h
theorem s_set {i : Nat} {x : Str} {f : SE} {e : Expr} {p : Pos} (hN : X.N.Nodup) (hi : X.N[i]? = some x) (hx : X.env.scope.names.lookup x = some .local) (he : PE X e (rdE X.K Cl W f)) (hs : swapsWith e (some (.Name x p)) pos.line X.env = pure false) :
    PS X (.Assign [.Name x p] e pos) (rdS X.K Cl W (cAs (.nm i) f)) := (ps_set hN hi (.inl hx) he hs (.inr hx)).imp fun _ _ _ h => r_as (g := .nm i) (fun _ q => q) h
theorem s_setLc {i : Nat} {y : Str} {py : Pos} {it : SI} {g : IT} {tt : ET} {te : SE} {elt tg iter : Expr} {ifs : List Expr} {scope : Scope} {own : List (Str × Nat)} {pos spos : Pos} (hc : X.calm = true) (hN : X.N.Nodup) (hy : X.N[i]? = some y) (hyl : X.env.scope.names.lookup y = some .local)
    (hsw : swapsWith (.ListComp elt [⟨tg, iter, ifs, 0⟩] scope pos) (some (.Name y py)) spos.line X.env = pure true) (hi : PI X tg iter (rdI X.K Cl W it)) (ok : BlkOk X.N X.env.scope scope own)
    (hg : ∀ (s : Shared) (H : Hp) (C : Addr) (cl : List (Str × Addr)) (fp : List Addr), PG (X.blk s H scope (compEnvC scope cl C X.env) fp) tg (g.g X.K)) (ht : ∀ (s : Shared) (H : Hp) (C : Addr) (cl : List (Str × Addr)) (fp : List Addr), PTs (X.blk s H scope (compEnvC scope cl C X.env) fp) ifs (rdT X.K Cl WF tt))
    (he : ∀ (s : Shared) (H : Hp) (C : Addr) (cl : List (Str × Addr)) (fp : List Addr), PE (X.blk s H scope (compEnvC scope cl C X.env) fp) elt (rdE X.K Cl WF te)) (hsl : ∀ i ∈ g.slots, i ∈ own.map (·.2)) (hs : ∀ x, foldedSetIterable iter X.env x = pure x) :
    PS X (.Assign [.Name y py] (.ListComp elt [⟨tg, iter, ifs, 0⟩] scope pos) spos) (rdS X.K Cl W (cAs (.nm i) (cLc it g tt te (own.map (·.2))))) :=
  (ps_setLc hc hN hy hyl hsw hi ok hg ht he hs).imp fun _ _ _ h => r_as (g := .nm i) (fun _ q => r_lc hsl (fun _ q => q) q) h
theorem s_par {i j : Nat} {x y : Str} {a b : Expr} {fs : SEs} {px py pt : Pos} {kt k2 pt2} (hc : X.calm = true) (hN : X.N.Nodup) (hi : X.N[i]? = some x) (hj : X.N[j]? = some y) (hij : i ≠ j)
    (hx : X.env.scope.names.lookup x = some .local) (hy : X.env.scope.names.lookup y = some .local) (ha : PA X [a, b] (rdA X.K Cl W fs))
    (hw : swappedStores [.Tuple [.Name x px, .Name y py] kt pt] (.Tuple [a, b] k2 pt2) X.env = pure (some [x, y])) :
    PS X (.Assign [.Tuple [.Name x px, .Name y py] kt pt] (.Tuple [a, b] k2 pt2) pos) (rdS X.K Cl W (cPar (.cons (.nm i) (.cons (.nm j) .nil)) fs)) := by
  refine (ps_par hc hN hi hj hij hx hy ha hw).imp fun D σ H h => ?_
  obtain ⟨e, s, ro, rs, rh, h⟩ := h
  refine ⟨e, s, ro, rs, rh, (toS_rd rs h).mono (fun ds s1 q vs H1 ro1 rh1 x1 rps => ?_) fun _ _ _ q => q⟩
  cases rps with
  | nil => exact q.elim
  | cons r1 rps =>
    cases rps with
    | nil => exact q.elim
    | cons r2 rps =>
      cases rps with
      | cons _ _ => exact q.elim
      | nil => exact ⟨_, _, rfl, q _ H1 ro1 (((rs.ext x1).set r1).set r2) rh1 x1⟩
theorem s_ret {e : Expr} {f : SE} (he : PE X e (rdE X.K Cl W f)) : PS X (.Return (some e) pos) (rdS X.K Cl W (cRet f)) := (ps_ret he).imp fun D σ H h => by
  obtain ⟨e, s, ro, rs, rh, h⟩ := h
  exact ⟨e, s, ro, rs, rh, (toS_rd rs h).mono (fun _ _ q => q) fun _ _ _ q => q⟩
theorem s_retN : PS X (.Return none pos) (rdS X.K Cl W cRetN) := ps_retN.imp fun D σ H h => by
  obtain ⟨e, s, ro, rs, rh, h⟩ := h
  exact h .non H ro rh .refl .non
theorem s_drop {e : Expr} {f : SE} (he : PE X e (rdE X.K Cl W f)) (hs : swapsWith e none pos.line X.env = pure false) : PS X (.Expr e pos) (rdS X.K Cl W (cDrop f)) := (ps_expr he hs).imp fun D σ H h => by
  obtain ⟨e, s, ro, rs, rh, h⟩ := h
  exact ⟨e, s, ro, rs, rh, (toS_rd rs h).mono (fun d s1 q v H1 ro1 rh1 x1 _ => q σ H1 ro1 (rs.ext x1) rh1 x1) fun _ _ _ q => q⟩
theorem s_pass : PS X (.Pass pos) (rdS X.K Cl W cPass) := ps_pass.imp fun D σ H h => by
  obtain ⟨e, s, ro, rs, rh, h⟩ := h
  exact h σ H ro rs rh .refl
theorem s_brk : PS X (.Break pos) (rdS X.K Cl W cBrk) := ps_break.imp fun D σ H h => by
  obtain ⟨e, s, ro, rs, rh, h⟩ := h
  exact h σ H ro rs rh .refl
theorem s_ct : PS X (.Continue pos) (rdS X.K Cl W cCt) := ps_continue.imp fun D σ H h => by
  obtain ⟨e, s, ro, rs, rh, h⟩ := h
  exact h σ H ro rs rh .refl
theorem s_end : PSs X [] (rdS X.K Cl W cPass) := pss_nil.imp fun D σ H h => by
  obtain ⟨e, s, ro, rs, rh, h⟩ := h
  exact h σ H ro rs rh .refl
theorem s_one {st : Stmt} {f : SS} (h : PS X st (rdS X.K Cl W f)) : PSs X [st] (rdS X.K Cl W f) := pss_one h
theorem s_seq {st : Stmt} {rest : List Stmt} {f g : SS} (h1 : PS X st (rdS X.K Cl W f)) (h2 : PSs X rest (rdS X.K Cl W g)) : PSs X (st :: rest) (rdS X.K Cl W (cSeq f g)) := by
  refine (pss_cons h1 h2).imp fun D σ H h => ?_
  obtain ⟨e, s, ro, rs, rh, h⟩ := h
  refine ⟨e, s, ro, rs, rh, ?_⟩
  unfold cSeq at h
  cases z : f e s with
  | nx e1 s1 =>
    rw [z] at h
    exact fun σ1 H1 ro1 rs1 rh1 x1 => ⟨e1, s1, ro1, rs1, rh1, endQ.ext x1 h⟩
  | rt d s1 => rw [z] at h; exact h
  | bk e1 s1 => rw [z] at h; exact h
  | ct e1 s1 => rw [z] at h; exact h
  | ex c fs e1 s1 => rw [z] at h; exact h
  | bad => rw [z] at h; exact h.elim
theorem s_if {c : Expr} {a b : List Stmt} {t : ET} {f g : SS} (hc : PT X c (rdT X.K Cl W t)) (ha : PSs X a (rdS X.K Cl W f)) (hb : PSs X b (rdS X.K Cl W g)) : PS X (.If c a b pos) (rdS X.K Cl W (cIf t f g)) := by
  refine (ps_if hc ha hb).imp fun D σ H h => ?_
  obtain ⟨e, s, ro, rs, rh, h⟩ := h
  refine ⟨e, s, ro, rs, rh, (toS_rd rs h).mono (fun b s1 q H1 ro1 rh1 x1 => ?_) fun _ _ _ q => q⟩
  cases b with
  | true => exact ⟨e, s1, ro1, rs.ext x1, rh1, endQ.ext x1 q⟩
  | false => exact ⟨e, s1, ro1, rs.ext x1, rh1, endQ.ext x1 q⟩
theorem s_for {it : SI} {g : IT} {f : SS} {tg iter : Expr} {body : List Stmt} (hp : PassesOwn (model X.prog X.w) X.A X.env X.xe) (hc : X.calm = true) (hi : PI X tg iter (rdI X.K Cl W it)) (hg : PG X tg (g.g X.K)) (hb : PSs X body (rdS X.K Cl W f))
    (hs : ∀ x, foldedSetIterable iter X.env x = pure x) : PS X (.For tg iter body [] pos) (rdS X.K Cl W (cFor it g f)) := by
  refine (ps_for hp hc hi hg hb hs).imp fun D σ H h => ?_
  obtain ⟨e, s, ro, rs, rh, h⟩ := h
  refine ⟨e, s, ro, rs, rh, (toS_rd rs h).mono (fun j s1 q J H1 ro1 rh1 x1 jo => ?_) fun _ _ _ q => q⟩
  refine ⟨fun i m σ2 H2 => ∃ e2 s2 ro2, RelS X.K ro2 H2 e2 σ2 ∧ RelH X.K Cl ro2 H2 s2 ∧ Ext X.K ro1 H1 ro2 H2 ∧ (forLoop j g f m i e2 s2).wp (endQ X.K Cl W ro H D), ⟨fuelN, e, s1, ro1, rs.ext x1, rh1, .refl, q⟩, ?_⟩
  rintro i m σ2 H2 ⟨e2, s2, ro2, rs2, rh2, x2, q⟩
  cases m with
  | zero => exact q.elim
  | succ m =>
    rw [forLoop_succ] at q
    cases hj : j i s2 with
    | none => rw [hj] at q; exact q.elim
    | some od =>
      rw [hj] at q
      cases od with
      | none => exact .inl ⟨jo.stop i H2 ro2 s2 x2 rh2 hj, q σ2 H2 ro2 rs2 rh2 (x1.trans x2)⟩
      | some d =>
        obtain ⟨hgo, hy⟩ := jo.item i H2 ro2 s2 d x2 rh2 hj
        refine .inr ⟨hgo, fun σ3 H3 => ∃ e3 s3 ro3, RelS X.K ro3 H3 e3 σ3 ∧ RelH X.K Cl ro3 H3 s3 ∧ Ext X.K ro1 H1 ro3 H3 ∧ (forLoop j g f m (i + 1) e3 s3).wp (endQ X.K Cl W ro H D), fun σ3 H3 h3 => ⟨m, Nat.lt_succ_self _, h3⟩, fun x H3 hx => ?_⟩
        obtain ⟨ro3, rh3, x3, rd⟩ := hy x H3 hx
        have q : (forGo f (forLoop j g f m) i s2 (g.to d e2)).wp (endQ X.K Cl W ro H D) := q
        cases hg : g.to d e2 with
        | none => rw [hg] at q; exact q.elim
        | some e3 =>
          rw [hg] at q
          have q : ((f e3 s2).turn (forLoop j g f m (i + 1))).wp (endQ X.K Cl W ro H D) := q
          refine IT.ok g d x e2 e3 σ2 _ rd (rs2.ext x3) hg fun σ3 rs3 _ => ⟨e3, s2, ro3, rs3, rh3, ?_⟩
          have xx := x2.trans x3
          have y := x1.trans xx
          cases z : f e3 s2 with
          | nx e4 s4 => rw [z] at q; exact fun σ4 H4 ro4 rs4 rh4 x4 => ⟨e4, s4, ro4, rs4, rh4, xx.trans x4, q⟩
          | ct e4 s4 => rw [z] at q; exact fun σ4 H4 ro4 rs4 rh4 x4 => ⟨e4, s4, ro4, rs4, rh4, xx.trans x4, q⟩
          | bk e4 s4 => rw [z] at q; exact fun σ4 H4 ro4 rs4 rh4 x4 => q σ4 H4 ro4 rs4 rh4 (y.trans x4)
          | rt d4 s4 => rw [z] at q; exact fun v H4 ro4 rh4 x4 r4 => q v H4 ro4 rh4 (y.trans x4) r4
          | ex c fs e4 s4 => rw [z] at q; exact fun σ4 H4 ro4 cls dd rs4 rh4 x4 xr => q σ4 H4 ro4 cls dd rs4 rh4 (y.trans x4) xr
          | bad => rw [z] at q; exact q.elim
theorem s_wh {t : ET} {f : SS} {c : Expr} {body : List Stmt} (hp : PassesOwn (model X.prog X.w) X.A X.env X.xe) (hc : PT X c (rdT X.K Cl W t)) (hb : PSs X body (rdS X.K Cl W f)) : PS X (.While c body [] pos) (rdS X.K Cl W (cWh t f)) := by
  refine (ps_while hp hc hb).imp fun D σ H h => ?_
  obtain ⟨e, s, ro, rs, rh, h⟩ := h
  refine ⟨fun m σ2 H2 => ∃ e2 s2 ro2, RelS X.K ro2 H2 e2 σ2 ∧ RelH X.K Cl ro2 H2 s2 ∧ Ext X.K ro H ro2 H2 ∧ (whLoop t f m e2 s2).wp (endQ X.K Cl W ro H D), ⟨fuelN, e, s, ro, rs, rh, .refl, h⟩, ?_⟩
  rintro m σ2 H2 ⟨e2, s2, ro2, rs2, rh2, x2, q⟩
  cases m with
  | zero => exact q.elim
  | succ m =>
    rw [whLoop_succ] at q
    unfold whTurn at q
    rw [toS_wp] at q
    refine ⟨e2, s2, ro2, rs2, rh2, q.mono (fun b s3 q H3 ro3 rh3 x3 => ?_) fun c fs s3 q H' ro' cls d a b x => q σ2 H' ro' cls d (rs2.ext b) a (x2.trans b) x⟩
    have y := x2.trans x3
    cases b with
    | false => exact q σ2 H3 ro3 (rs2.ext x3) rh3 y
    | true =>
      have q : ((f e2 s3).turn (whLoop t f m)).wp (endQ X.K Cl W ro H D) := q
      refine ⟨fun σ4 H4 => ∃ e4 s4 ro4, RelS X.K ro4 H4 e4 σ4 ∧ RelH X.K Cl ro4 H4 s4 ∧ Ext X.K ro H ro4 H4 ∧ (whLoop t f m e4 s4).wp (endQ X.K Cl W ro H D), fun σ4 H4 h4 => ⟨m, Nat.lt_succ_self _, h4⟩, e2, s3, ro3, rs2.ext x3, rh3, ?_⟩
      cases z : f e2 s3 with
      | nx e4 s4 => rw [z] at q; exact fun σ4 H4 ro4 rs4 rh4 x4 => ⟨e4, s4, ro4, rs4, rh4, y.trans x4, q⟩
      | ct e4 s4 => rw [z] at q; exact fun σ4 H4 ro4 rs4 rh4 x4 => ⟨e4, s4, ro4, rs4, rh4, y.trans x4, q⟩
      | bk e4 s4 => rw [z] at q; exact fun σ4 H4 ro4 rs4 rh4 x4 => q σ4 H4 ro4 rs4 rh4 (y.trans x4)
      | rt d4 s4 => rw [z] at q; exact fun v H4 ro4 rh4 x4 r4 => q v H4 ro4 rh4 (y.trans x4) r4
      | ex c fs e4 s4 => rw [z] at q; exact fun σ4 H4 ro4 cls dd rs4 rh4 x4 xr => q σ4 H4 ro4 cls dd rs4 rh4 (y.trans x4) xr
      | bad => rw [z] at q; exact q.elim
end
end Ev
set_option maxHeartbeats 1000000
namespace Ev
open PySem L2
section
variable {K : PySem.W.Frag} {Cl : Nat → Addr} {ro : Ro} {H : Hp} {s : S}
theorem RepK.put {k : Key} {d : D} {v : V} (r : Rep K ro H d v) : ∀ {ds : List (Key × D)} {vs : List (Key × V)}, RepK K ro H ds vs → (ds.any fun kv => decide (kv.1 = k)) = (vs.any fun kv => decide (kv.1 = k)) ∧
    ((ds.any fun kv => decide (kv.1 = k)) = false → dPut ds k d = ds ++ [(k, d)] ∧ RepK K ro H (ds ++ [(k, d)]) (vs ++ [(k, v)])) := by
  intro ds vs rr
  induction rr with
  | nil => exact ⟨rfl, fun _ => ⟨rfl, .cons r .nil⟩⟩
  | cons r1 r2 ih =>
    rename_i j x y ds vs
    obtain ⟨i1, i2⟩ := ih
    refine ⟨by simp only [List.any_cons, i1], fun h => ?_⟩
    simp only [List.any_cons, Bool.or_eq_false_iff] at h
    obtain ⟨h1, h2⟩ := h
    obtain ⟨i3, i4⟩ := i2 h2
    refine ⟨?_, .cons r1 i4⟩
    show (if j = k then (j, d) :: ds else (j, x) :: dPut ds k d) = _
    rw [if_neg (of_decide_eq_false h1), i3]
    rfl
def Nd : List (Key × D) → Prop := fun ds => (ds.map (·.1)).Nodup
/-- dPut at a key that is there: the first one alone; so it is all of them where there are no two -/
theorem RepK.put_in {k : Key} {d : D} {v : V} (r : Rep K ro H d v) : ∀ {ds : List (Key × D)} {vs : List (Key × V)}, RepK K ro H ds vs → (vs.map (·.1)).Nodup → (vs.any fun kv => decide (kv.1 = k)) = true →
    RepK K ro H (dPut ds k d) (vs.map fun kv => if kv.1 = k then (kv.1, v) else kv) := by
  intro ds vs rr
  induction rr with
  | nil => intro _ h; simp at h
  | cons r1 r2 ih =>
    rename_i j x y ds vs
    intro nd h
    simp only [List.map_cons, List.nodup_cons] at nd
    obtain ⟨n1, n2⟩ := nd
    show RepK K ro H (if j = k then (j, d) :: ds else (j, x) :: dPut ds k d) _
    by_cases e : j = k
    · rw [if_pos e]
      have same : vs.map (fun kv => if kv.1 = k then (kv.1, v) else kv) = vs := by
        have : ∀ p ∈ vs, (fun kv : Key × V => if kv.1 = k then (kv.1, v) else kv) p = p := fun p hp => if_neg fun z => n1 (by rw [e, ← z]; exact List.mem_map_of_mem hp)
        exact (List.map_congr_left this).trans (List.map_id' vs)
      rw [List.map_cons, same, if_pos e]
      exact .cons r r2
    · rw [if_neg e]
      rw [List.map_cons, if_neg e]
      refine .cons r1 (ih n2 ?_)
      simpa [e] using h
end
/-- a dict in the heap has no key twice -/
theorem dk_nodup {X : Cx} {pins : List (Addr × Obj)} {σ : L2.St} {H : Hp} {s : Shared} {a : Addr} {vs : List (Key × V)} (I : Inv X pins σ H s) (e : H a = some (.dK vs)) : (vs.map (·.1)).Nodup := by
  obtain ⟨z, hd, us, rel, dd⟩ := dk_of I.hok e
  have h : (us.map (·.1)).Nodup := by
    obtain ⟨o, es, ep, ho, hx, hdt, he, nd⟩ := dd
    exact nd.2
  have : vs.map (·.1) = us.map (·.1) := by
    clear h dd e z
    unfold KV at rel
    induction rel with
    | nil => rfl
    | cons h t ih => simp only [List.map_cons]; rw [ih, h.1]
  rw [this]; exact h
theorem RepK.putK {X : Cx} {Cl : Nat → Addr} {ro : Ro} {pins : List (Addr × Obj)} {σ : L2.St} {H : Hp} {s : Shared} {a : Addr} {ds : List (Key × D)} {vs : List (Key × V)} {k : Key} {d : D} {v : V} (I : Inv X pins σ H s) (e : H a = some (.dK vs)) (r : Rep X.K ro H d v) (rr : RepK X.K ro H ds vs) :
    RepK X.K ro H (dPut ds k d) (L2.putK vs k v) := by
  unfold L2.putK
  by_cases z : (vs.any fun kv => decide (kv.1 = k)) = true
  · rw [if_pos z]
    exact RepK.put_in r rr (dk_nodup I e) z
  · rw [if_neg z]
    obtain ⟨h1, h2⟩ := RepK.put (k := k) r rr
    have z' : (ds.any fun kv => decide (kv.1 = k)) = false := by rw [h1]; exact Bool.eq_false_iff.mpr z
    obtain ⟨h3, h4⟩ := h2 z'
    rw [h3]
    exact h4

/-! ### o[i] = .. -/
def stoL (p : Ps) (xs : List D) (d : D) (s : S) : D → Option S
  | .int k => match ixN xs.length k with
    | some j => some (s.set p (.lst (xs.set j d)))
    | none => none
  | _ => none
def stoK (p : Ps) (kvs : List (Key × D)) (d : D) (s : S) : Option Key → Option S
  | some k => if short zLine kvs = true then some (s.set p (.dct (dPut kvs k d))) else none
  | none => none
def stoO (p : Ps) (i d : D) (s : S) : Option O → Option S
  | some (.lst xs) => stoL p xs d s i
  | some (.dct kvs) => stoK p kvs d s (toKey i)
  | _ => none
def dSto (o i d : D) (s : S) : Option S := match o with
  | .ref p => stoO p i d s (s.get p)
  | _ => none
def RS.of (e : En) : Option S → RS
  | some s => .nx e s
  | none => .bad
def cPut (fo fi fv : SE) : SS := fun e s => (fv e s).toS e fun d s1 => (fo e s1).toS e fun o s2 => (fi e s2).toS e fun i s3 => .of e (dSto o i d s3)
section
variable {X : Cx} {Cl : Nat → Addr} {W : WX} {pos pos' : Pos} {o i value : Expr} {fo fi fv : SE}
/-- what the store is to do -/
def tPut (to ti tv : TE) (W' : V → V → V → Hp → (Hp → Prop) → Prop) : TS := fun D σ H => tv σ H fun r H1 => to σ H1 fun x H2 => ti σ H2 fun y H3 => W' x y r H3 fun H4 => D.nx σ H4
theorem ps_put {t : TSet} {to ti tv : TE} (ho : PE X o to) (hi : PE X i ti) (hv : PE X value tv) (hset : PSet X t) (hs : swapsWith value (some (.Subscript o i pos')) pos.line X.env = pure false) : PS X (.Assign [.Subscript o i pos'] value pos) (tPut to ti tv t) := by
  refine ⟨fun pins s σ H D I h => ?_⟩
  exact wpAny_Assign_Subscript (thn (hv.run pins s σ H _ I h) fun r s1 ⟨v, H1, I1, rv, q1⟩ => thn (ho.run pins s1 σ H1 _ I1 q1) fun u s2 ⟨x, H2, I2, rx, q2⟩ => thn (hi.run pins s2 σ H2 _ I2 q2) fun iv s3 ⟨y, H3, I3, ry, q3⟩ =>
    thn (hset pins s3 σ H3 x y v u iv r _ I3 rx ry rv q3) fun _ s4 ⟨H4, I4, q4⟩ => ⟨σ, H4, I4, q4⟩) hs
/-- by the store -/
def rSto (K : PySem.W.Frag) (Cl : Nat → Addr) : TSet := fun o i v H Q => ∃ ro s od id vd s', Rep K ro H od o ∧ Rep K ro H id i ∧ Rep K ro H vd v ∧ RelH K Cl ro H s ∧ dSto od id vd s = some s' ∧ ∀ H' ro', RelH K Cl ro' H' s' → Ext K ro H ro' H' → Q H'
theorem set_sto (hu : X.A.units + 1 < cLine) : PSet X (rSto X.K Cl) := by
  intro pins s σ H o i v ov iv u Q I r1 r2 r3 h
  obtain ⟨ro, sd, od, id, vd, s', q1, q2, q3, rh, hd, hQ⟩ := h
  cases q1 with
  | ref hp =>
    rename_i p a
    cases r1
    have hd : stoO p id vd sd (sd.get p) = some s' := hd
    cases hg : sd.get p with
    | none => rw [hg] at hd; cases hd
    | some ob =>
      rw [hg] at hd
      obtain ⟨a', e1, o2⟩ := rh.get p ob hg
      rw [hp] at e1; cases e1
      cases ob with
      | lst xs =>
        cases o2 with
        | lst g1 g2 =>
          rename_i vs
          cases q2 with
          | int k =>
            have hd : (match ixN xs.length k with
              | some j => some (sd.set p (.lst (xs.set j vd)))
              | none => none) = some s' := hd
            cases z : ixN xs.length k with
            | none => rw [z] at hd; cases hd
            | some j =>
              rw [z] at hd
              cases hd
              refine set_list pins s σ H (V.ref a) _ _ _ _ _ _ I rfl r2 r3 ⟨a, vs, k, j, rfl, rfl, g1, by rw [← g2.length]; exact z, ?_⟩
              have x := ext_write (K := X.K) (ro := ro) (ho' := .lst (vs.set j v)) g1 trivial
              exact hQ _ ro (rh.write hg rfl hp rfl (.lst (upd_same ..) ((g2.set q3 j).mono x))) x
          | _ => cases hd
      | dct kvs =>
        cases o2 with
        | dct g1 g2 =>
          rename_i vs
          have hd : stoK p kvs vd sd (toKey id) = some s' := hd
          cases z : toKey id with
          | none => rw [z] at hd; cases hd
          | some k =>
            rw [z] at hd
            have hd : (if short zLine kvs = true then some (sd.set p (.dct (dPut kvs k vd))) else none) = some s' := hd
            by_cases hs : short zLine kvs = true
            · rw [if_pos hs] at hd
              cases hd
              have hl : vs.length < sizeLine := by rw [← g2.length]; exact Nat.lt_of_le_of_lt (short_le hs) (by decide)
              obtain rfl := toKey_ok q2 z
              refine d_setItem (A := X.A) hu I (DPut.k g1 hl) r2 r3 fun s4 I4 => ⟨_, I4, ?_⟩
              have x := ext_write (K := X.K) (ro := ro) (ho' := .dK (L2.putK vs k v)) g1 trivial
              exact hQ _ ro (rh.write hg rfl hp rfl (.dct (upd_same ..) ((RepK.putK (Cl := Cl) (k := k) I g1 q3 g2).mono x))) x
            · rw [if_neg hs] at hd; cases hd
      | frz _ => cases hd
      | ins _ _ => cases hd
  | _ => cases hd
theorem s_put (hu : X.A.units + 64 < cLine) (ho : PE X o (rdE X.K Cl W fo)) (hi : PE X i (rdE X.K Cl W fi)) (hv : PE X value (rdE X.K Cl W fv)) (hs : swapsWith value (some (.Subscript o i pos')) pos.line X.env = pure false) :
    PS X (.Assign [.Subscript o i pos'] value pos) (rdS X.K Cl W (cPut fo fi fv)) := by
  refine (ps_put ho hi hv (set_sto (Cl := Cl) (by omega)) hs).imp fun D σ H h => ?_
  obtain ⟨e, s, ro, rs, rh, h⟩ := h
  unfold cPut at h
  rw [toS_wp] at h
  refine ⟨e, s, ro, rs, rh, h.mono (fun d s1 q v H1 ro1 rh1 x1 r1 => ?_) fun _ _ _ q => ex_at rs q⟩
  rw [toS_wp] at q
  refine ⟨e, s1, ro1, rs.ext x1, rh1, q.mono (fun od s2 q u H2 ro2 rh2 x2 r2 => ?_) fun c fs s3 q => (ex_at rs q).ext x1⟩
  rw [toS_wp] at q
  have x12 := x1.trans x2
  refine ⟨e, s2, ro2, rs.ext x12, rh2, q.mono (fun id s3 q y H3 ro3 rh3 x3 r3 => ?_) fun c fs s3 q => (ex_at rs q).ext x12⟩
  cases z : dSto od id d s3 with
  | none => rw [z] at q; exact q.elim
  | some s4 =>
    rw [z] at q
    have q : toEn X.K Cl ro H D.nx e s4 := q
    exact ⟨ro3, s3, od, id, d, s4, r2.mono x3, r3, (r1.mono x2).mono x3, rh3, z, fun H' ro' rh' x' => q σ H' ro' (rs.ext ((x12.trans x3).trans x')) rh' ((x12.trans x3).trans x')⟩
end

/-! ### methods of lists -/
def isLst (s : S) : D → Bool
  | .ref p => match s.get p with
    | some (.lst _) => true
    | _ => false
  | _ => false
def cM (f : D → List D → S → R D) (o : SE) (as : SEs) : SE := fun e s => (o e s).bind fun d s1 => if isLst s1 d = true then (as e s1).bind fun ds s2 => noX (f d ds s2) else .bad
def MtS (K : PySem.W.Frag) (Cl : Nat → Addr) (f : D → List D → S → R D) (r : V → List V → Hp → VK → Prop) : Prop :=
  ∀ d v ds vs H ro s Q, Rep K ro H d v → Reps K ro H ds vs → RelH K Cl ro H s → (f d ds s).wp (okQ K Cl ro H Q) (fun _ _ _ => False) → r v vs H Q
/-- the list itself -/
def onL (g : List D → Option (D × List D)) (p : Ps) (s : S) : Option O → R D
  | some (.lst xs) => match g xs with
    | some (d, ys) => .ok d (s.set p (.lst ys))
    | none => .bad
  | _ => .bad
def mL (g : List D → S → List D → Option (D × List D)) : D → List D → S → R D := fun o ds s => match o with
  | .ref p => onL (g ds s) p s (s.get p)
  | _ => .bad
def gApp (ds : List D) (_ : S) (xs : List D) : Option (D × List D) := match ds with
  | [d] => if short zLine xs = true then some (.non, xs ++ [d]) else none
  | _ => none
def popAt (xs : List D) : Option Nat → Option (D × List D)
  | some k => match xs[k]? with
    | some d => some (d, xs.eraseIdx k)
    | none => none
  | none => none
def gPop (ds : List D) (_ : S) (xs : List D) : Option (D × List D) := match ds with
  | [] => match xs[xs.length - 1]? with
    | some d => some (d, xs.dropLast)
    | none => none
  | [.int i] => if short zLine xs = true then popAt xs (ixN xs.length i) else none
  | _ => none
def gExt (ds : List D) (s : S) (xs : List D) : Option (D × List D) := match ds with
  | [d] => match lItems s d with
    | some ys => if short zLine (xs ++ ys) = true then some (.non, xs ++ ys) else none
    | none => none
  | _ => none
def gIns (ds : List D) (_ : S) (xs : List D) : Option (D × List D) := match ds with
  | [.int i, d] => if (short zLine xs && decide (0 ≤ i) && decide (i < 2 ^ 63)) = true then some (.non, xs.take i.toNat ++ [d] ++ xs.drop i.toNat) else none
  | _ => none
section
variable {K : PySem.W.Frag} {Cl : Nat → Addr} {X : Cx} {W : WX}
/-- what is common to them -/
theorem mL_ok {g : List D → S → List D → Option (D × List D)} {r : V → List V → Hp → VK → Prop}
    (h : ∀ (a : Addr) (ds : List D) (vs : List V) (H : Hp) (ro : Ro) (s : S) (Q : VK) (p : Ps) (xs ys : List D) (us : List V) (d : D), ro p = some a → s.get p = some (.lst xs) → H a = some (.lst us) → Reps K ro H xs us → Reps K ro H ds vs → RelH K Cl ro H s → g ds s xs = some (d, ys) →
      (∀ (v : V) (ws : List V), Rep K ro H d v → Reps K ro H ys ws → Q v (upd H a (.lst ws))) → r (.ref a) vs H Q) : MtS K Cl (mL g) r := by
  intro d v ds vs H ro s Q r1 r2 rh hw
  cases r1 with
  | ref hp =>
    rename_i p a
    have hw : (onL (g ds s) p s (s.get p)).wp (okQ K Cl ro H Q) (fun _ _ _ => False) := hw
    cases hg : s.get p with
    | none => rw [hg] at hw; exact hw.elim
    | some ob =>
      rw [hg] at hw
      cases ob with
      | lst xs =>
        obtain ⟨a', e1, o2⟩ := rh.get p _ hg
        rw [hp] at e1; cases e1
        cases o2 with
        | lst g1 g2 =>
          rename_i us
          have hw : (match g ds s xs with
            | some (d, ys) => R.ok d (s.set p (.lst ys))
            | none => R.bad).wp (okQ K Cl ro H Q) (fun _ _ _ => False) := hw
          cases z : g ds s xs with
          | none => rw [z] at hw; exact hw.elim
          | some dy =>
            obtain ⟨d, ys⟩ := dy
            rw [z] at hw
            refine h a ds vs H ro s Q p xs ys us d hp hg g1 g2 r2 rh z fun v ws rv rw' => ?_
            have x := ext_write (K := K) (ro := ro) (ho' := .lst ws) g1 trivial
            exact hw v _ ro (rh.write hg rfl hp rfl (.lst (upd_same ..) (rw'.mono x))) x (rv.mono x)
      | _ => exact hw.elim
  | _ => exact hw.elim
theorem mApp_ok : MtS K Cl (mL gApp) rAppend := mL_ok fun a ds vs H ro s Q p xs ys us d hp hg g1 g2 r2 rh z fin => by
  match ds, z, r2 with
  | [e], z, r2 =>
    obtain ⟨v, rfl, rv⟩ := r2.one
    have z : (if short zLine xs = true then some (D.non, xs ++ [e]) else none) = some (d, ys) := z
    by_cases hs : short zLine xs = true
    · rw [if_pos hs] at z
      cases z
      exact ⟨a, us, v, rfl, rfl, g1, by rw [← g2.length]; exact Nat.lt_of_le_of_lt (short_le hs) (by decide), fin .non _ .non (g2.append (.cons rv .nil))⟩
    · rw [if_neg hs] at z; cases z
theorem mPop_ok : MtS K Cl (mL gPop) (fun x vs H Q => rPop x vs H Q ∨ rPopAt x vs H Q) := mL_ok fun a ds vs H ro s Q p xs ys us d hp hg g1 g2 r2 rh z fin => by
  match ds, z, r2 with
  | [], z, r2 =>
    cases r2
    have z : (match xs[xs.length - 1]? with
      | some d => some (d, xs.dropLast)
      | none => none) = some (d, ys) := z
    cases w : xs[xs.length - 1]? with
    | none => rw [w] at z; cases z
    | some e =>
      rw [w] at z
      cases z
      obtain ⟨v, hv, rv⟩ := g2.get w
      exact .inl ⟨a, us, v, rfl, rfl, g1, by rw [← g2.length]; exact hv, fin v _ rv g2.dropLast⟩
  | [.int i], z, r2 =>
    obtain ⟨v, rfl, rv⟩ := r2.one
    cases rv
    have z : (if short zLine xs = true then popAt xs (ixN xs.length i) else none) = some (d, ys) := z
    by_cases hs : short zLine xs = true
    · rw [if_pos hs] at z
      have hl := short_le hs
      cases w : ixN xs.length i with
      | none => rw [w] at z; cases z
      | some k =>
        rw [w] at z
        have z : (match xs[k]? with
          | some d => some (d, xs.eraseIdx k)
          | none => none) = some (d, ys) := z
        cases w2 : xs[k]? with
        | none => rw [w2] at z; cases z
        | some e =>
          rw [w2] at z
          cases z
          obtain ⟨v, hv, rv⟩ := g2.get w2
          obtain ⟨h1, h2, h3, h4⟩ := ixN_seq w
          have hn : zLine < 2 ^ 62 := by decide
          exact .inr ⟨a, us, i, k, v, rfl, rfl, g1, by omega, by omega, by rw [← g2.length]; exact h1, hv, fin v _ rv (g2.eraseIdx k)⟩
    · rw [if_neg hs] at z; cases z
theorem mExt_ok : MtS K Cl (mL gExt) (fun x vs H Q => ∃ l b xs zs, x = .ref l ∧ vs = [.ref b] ∧ H l = some (.lst xs) ∧ SqL K H b zs ∧ xs.length + zs.length ≤ sizeLine ∧ Q .non (upd H l (.lst (xs ++ zs)))) := mL_ok fun a ds vs H ro s Q p xs ys us d hp hg g1 g2 r2 rh z fin => by
  match ds, z, r2 with
  | [e], z, r2 =>
    obtain ⟨v, rfl, rv⟩ := r2.one
    have z : (match lItems s e with
      | some ys => if short zLine (xs ++ ys) = true then some (D.non, xs ++ ys) else none
      | none => none) = some (d, ys) := z
    cases w : lItems s e with
    | none => rw [w] at z; cases z
    | some zs =>
      rw [w] at z
      have z : (if short zLine (xs ++ zs) = true then some (D.non, xs ++ zs) else none) = some (d, ys) := z
      by_cases hs : short zLine (xs ++ zs) = true
      · rw [if_pos hs] at z
        cases z
        obtain ⟨b, ws, rfl, h1, h2⟩ := lItems_ok rh rv w
        have hl := short_le hs
        have e1 := g2.length
        have e2 := h2.length
        rw [List.length_append] at hl
        exact ⟨a, b, us, ws, rfl, rfl, g1, h1, by have : zLine ≤ sizeLine := by decide
                                                  omega, fin .non _ .non (g2.append h2)⟩
      · rw [if_neg hs] at z; cases z
end
end Ev
set_option maxHeartbeats 1000000
namespace Ev
open PySem PySem.Spec PyProof.Rows L2
section
variable {X : Cx} {Cl : Nat → Addr} {W : WX} {o e : Expr} {es : List Expr} {fo : SE} {fs : SEs} {name : Str} {apos cpos : Pos} {id : String} {r : V → List V → Hp → VK → Prop} {f : D → List D → S → R D}
theorem isLst_ok {K : PySem.W.Frag} {ro : Ro} {H : Hp} {s : S} {d : D} {v : V} (rh : RelH K Cl ro H s) (rp : Rep K ro H d v) (h : isLst s d = true) : tyV K "list" v H := by
  cases rp with
  | ref hp =>
    rename_i p a
    have h : (match s.get p with
      | some (.lst _) => true
      | _ => false) = true := h
    cases q : s.get p with
    | none => rw [q] at h; cases h
    | some ob =>
      rw [q] at h
      cases ob with
      | lst xs =>
        obtain ⟨a', e1, o2⟩ := rh.get p _ q
        rw [hp] at e1; cases e1
        cases o2 with
        | lst g1 g2 => exact .inl ⟨rfl, _, SqL.of g1⟩
      | _ => cases h
  | _ => cases h
theorem s_m (slot : Slot "list" name id) (hty : typeOf (.builtin id) = pure (.type "method_descriptor")) (hm : MtR X id r) (hf : MtS X.K Cl f r) (ho : PE X o (rdE X.K Cl W fo)) (ha : PA X (e :: es) (rdA X.K Cl W fs))
    (hbase : attributeBase o name X.env (eval o X.env) = eval o X.env)
    (hfew : ((backTo cpos (starEach (e :: es) X.env)).all (fun x => !x.1) && (backToKw cpos (keywordEach [] X.env)).all (fun x => x.1.isSome)
      && decide ((e :: es).length + ([] : List Keyword).length + (if ([] : List Keyword).isEmpty then 0 else 1) < 30)) = true)
    (hline : (apos.endLine == cpos.line) = true) (hs : starEach (e :: es) X.env = (false, eval e X.env) :: starEach es X.env) (hpl : (backTo cpos (starEach es X.env)).any (·.1) = false) :
    PE X (.Call (.Attribute o name apos) (e :: es) [] cpos) (rdE X.K Cl W (cM f fo fs)) := by
  refine (pe_bm F.plainAttrs_list slot hty hm ho ha hbase hfew hline hs hpl).imp fun σ H Q h => ?_
  obtain ⟨e, s, ro, rs, rh, h⟩ := h
  unfold cM at h
  rw [wp_bind] at h
  refine ⟨e, s, ro, rs, rh, h.mono (fun d s1 q v H1 ro1 rh1 x1 rp => ?_) fun _ _ _ q => q⟩
  by_cases z : isLst s1 d = true
  · rw [if_pos z, wp_bind] at q
    refine ⟨isLst_ok rh1 rp z, e, s1, ro1, rs.ext x1, rh1, q.mono (fun ds s2 q vs H2 ro2 rh2 x2 rps => ?_) fun _ _ _ q => q.ext x1⟩
    exact hf d v ds vs H2 ro2 s2 Q (rp.mono x2) rps rh2 ((noX_wp (E' := fun _ _ _ => False) q).mono (fun _ _ z => z.ext (x1.trans x2)) fun _ _ _ z => z)
  · rw [if_neg z] at q; exact q.elim
theorem s_m0 (slot : Slot "list" name id) (hty : typeOf (.builtin id) = pure (.type "method_descriptor")) (hm : MtR X id r) (hf : MtS X.K Cl f r) (ho : PE X o (rdE X.K Cl W fo))
    (hbase : attributeBase o name X.env (eval o X.env) = eval o X.env) (hline : (apos.endLine == cpos.line) = true) :
    PE X (.Call (.Attribute o name apos) [] [] cpos) (rdE X.K Cl W (cM f fo cNil)) := by
  refine (pe_bm0 F.plainAttrs_list slot hty hm ho hbase hline).imp fun σ H Q h => ?_
  obtain ⟨e, s, ro, rs, rh, h⟩ := h
  unfold cM at h
  rw [wp_bind] at h
  refine ⟨e, s, ro, rs, rh, h.mono (fun d s1 q v H1 ro1 rh1 x1 rp => ?_) fun _ _ _ q => q⟩
  by_cases z : isLst s1 d = true
  · rw [if_pos z] at q
    have q : (noX (f d [] s1)).wp (okQ X.K Cl ro H Q) (exQ X.K Cl W ro H σ) := q
    exact ⟨isLst_ok rh1 rp z, hf d v [] [] H1 ro1 s1 Q rp .nil rh1 ((noX_wp (E' := fun _ _ _ => False) q).mono (fun _ _ z => z.ext x1) fun _ _ _ z => z)⟩
  · rw [if_neg z] at q; exact q.elim
theorem s_append (ho : PE X o (rdE X.K Cl W fo)) (ha : PA X [e] (rdA X.K Cl W fs)) (hbase : attributeBase o "append" X.env (eval o X.env) = eval o X.env) (hs : starEach [e] X.env = [(false, eval e X.env)]) (hline : (apos.endLine == cpos.line) = true) :
    PE X (.Call (.Attribute o "append" apos) [e] [] cpos) (rdE X.K Cl W (cM (mL gApp) fo fs)) :=
  s_m F.slot_list_append F.type_list_append mt_append mApp_ok ho ha hbase (by rw [hs]; rfl) hline hs rfl
theorem mt_pop' : MtR X "list.pop" (fun x vs H Q => rPop x vs H Q ∨ rPopAt x vs H Q) := MtR.or mt_pop mt_popAt
theorem s_pop (ho : PE X o (rdE X.K Cl W fo)) (ha : PA X [e] (rdA X.K Cl W fs)) (hbase : attributeBase o "pop" X.env (eval o X.env) = eval o X.env) (hs : starEach [e] X.env = [(false, eval e X.env)]) (hline : (apos.endLine == cpos.line) = true) :
    PE X (.Call (.Attribute o "pop" apos) [e] [] cpos) (rdE X.K Cl W (cM (mL gPop) fo fs)) :=
  s_m F.slot_list_pop F.type_list_pop mt_pop' mPop_ok ho ha hbase (by rw [hs]; rfl) hline hs rfl
theorem s_pop0 (ho : PE X o (rdE X.K Cl W fo)) (hbase : attributeBase o "pop" X.env (eval o X.env) = eval o X.env) (hline : (apos.endLine == cpos.line) = true) :
    PE X (.Call (.Attribute o "pop" apos) [] [] cpos) (rdE X.K Cl W (cM (mL gPop) fo cNil)) :=
  s_m0 F.slot_list_pop F.type_list_pop mt_pop' mPop_ok ho hbase hline
end

/-! ### {k: v, ..} -/
def dspGo : List (SE × SE) → En → S → R (List (Key × D))
  | [], _, s => .ok [] s
  | (fk, fv) :: r, e, s => (fk e s).bind fun k s1 => (fv e s1).bind fun v s2 => (dspGo r e s2).bind fun ps s3 => match toKey k with
    | some k => .ok ((k, v) :: ps) s3
    | none => .bad
def dMrg (acc more : List (Key × D)) : List (Key × D) := more.foldl (fun acc kv => dPut acc kv.1 kv.2) acc
def dspEnd (p : Ps) (kvs : List (Key × D)) (s : S) : Option O → R D
  | some (.dct []) => if short 15 kvs = true then .ok (.ref p) (s.set p (.dct (dMrg [] kvs))) else .bad
  | _ => .bad
def cDsp (prs : List (SE × SE)) : SE := fun e s => (dspGo prs e (s.push (.dct []))).bind fun kvs s2 => dspEnd s.n kvs s2 (s2.get s.n)
section
variable {X : Cx} {Cl : Nat → Addr} {W : WX}
/-- the readings of the pairs -/
def rdPr (K : PySem.W.Frag) (Cl : Nat → Addr) (W : WX) (prs : List (SE × SE)) : List (TE × TE) := prs.map fun p => (rdE K Cl W p.1, rdE K Cl W p.2)
theorem r_prs {K : PySem.W.Frag} {σ : L2.St} {e : En} : ∀ (prs : List (SE × SE)) (s : S) (H : Hp) (ro : Ro) (P : List (Key × D) → S → Prop) (E : Nat → List (Str × D) → S → Prop) (Q : List (V × V) → Hp → Prop), RelS K ro H e σ → RelH K Cl ro H s → (dspGo prs e s).wp P E → (∀ c fs s, E c fs s → exQ K Cl W ro H σ c fs s) →
    (∀ kvs s' H' ro' (vs : List (Key × V)), P kvs s' → RelH K Cl ro' H' s' → Ext K ro H ro' H' → RepK K ro' H' kvs vs → Q (vs.map fun kv => (kV kv.1, kv.2)) H') → tPairs (rdPr K Cl W prs) σ H Q
  | [], s, H, ro, P, E, Q, rs, rh, h, hE, fin => fin [] s H ro [] h rh .refl .nil
  | (fk, fv) :: prs, s, H, ro, P, E, Q, rs, rh, h, hE, fin => by
    have h : ((fk e s).bind fun k s1 => (fv e s1).bind fun v s2 => (dspGo prs e s2).bind fun ps s3 => match toKey k with
      | some k => R.ok ((k, v) :: ps) s3
      | none => R.bad).wp P E := h
    rw [wp_bind] at h
    refine ⟨e, s, ro, rs, rh, h.mono (fun k s1 h kv H1 ro1 rh1 x1 rk => ?_) hE⟩
    rw [wp_bind] at h
    refine ⟨e, s1, ro1, rs.ext x1, rh1, h.mono (fun d s2 h v H2 ro2 rh2 x2 rd => ?_) fun c fs s2 q => (hE c fs s2 q).ext x1⟩
    rw [wp_bind] at h
    have x12 := x1.trans x2
    refine r_prs (K := K) prs s2 H2 ro2 _ _ _ (rs.ext x12) rh2 h (fun c fs s3 q => (hE c fs s3 q).ext x12) fun kvs s3 H3 ro3 vs q rh3 x3 rr => ?_
    cases z : toKey k with
    | none => rw [z] at q; exact q.elim
    | some j =>
      rw [z] at q
      have ek := toKey_ok (rk.mono (x2.trans x3)) z
      subst ek
      exact fin ((j, d) :: kvs) s3 H3 ro3 ((j, v) :: vs) q rh3 (x12.trans x3) (.cons (rd.mono x3) rr)
theorem RepK.any {K : PySem.W.Frag} {ro : Ro} {H : Hp} {ds : List (Key × D)} {vs : List (Key × V)} (r : RepK K ro H ds vs) : ds.map (·.1) = vs.map (·.1) := by
  induction r with
  | nil => rfl
  | cons _ _ ih => simp [ih]
theorem any_key {α : Type} (k : Key) : ∀ (l : List (Key × α)), (l.any fun kv => decide (kv.1 = k)) = true ↔ k ∈ l.map (·.1)
  | [] => by simp
  | (j, x) :: l => by
    rw [List.any_cons, Bool.or_eq_true, any_key k l, List.map_cons, List.mem_cons, decide_eq_true_iff]
    exact or_congr eq_comm Iff.rfl
theorem RepK.putN {K : PySem.W.Frag} {ro : Ro} {H : Hp} {ds : List (Key × D)} {vs : List (Key × V)} {k : Key} {d : D} {v : V} (nd : (vs.map (·.1)).Nodup) (r : Rep K ro H d v) (rr : RepK K ro H ds vs) : RepK K ro H (dPut ds k d) (L2.putK vs k v) ∧ ((L2.putK vs k v).map (·.1)).Nodup := by
  unfold L2.putK
  by_cases z : (vs.any fun kv => decide (kv.1 = k)) = true
  · rw [if_pos z]
    refine ⟨RepK.put_in r rr nd z, ?_⟩
    rw [List.map_map]
    have : ((fun x : Key × V => x.1) ∘ fun kv => if kv.1 = k then (kv.1, v) else kv) = fun x => x.1 := by
      funext p
      by_cases e : p.1 = k <;> simp [e]
    rw [this]; exact nd
  · rw [if_neg z]
    obtain ⟨h1, h2⟩ := RepK.put (k := k) r rr
    obtain ⟨h3, h4⟩ := h2 (by rw [h1]; exact Bool.eq_false_iff.mpr z)
    rw [h3]
    refine ⟨h4, ?_⟩
    rw [any_key] at z
    simp only [List.map_append, List.map_cons, List.map_nil]
    refine List.nodup_append.mpr ⟨nd, by simp, fun a ha b hb => ?_⟩
    simp only [List.mem_singleton] at hb
    subst hb
    rintro rfl
    exact z ha
theorem RepK.mrg {K : PySem.W.Frag} {ro : Ro} {H : Hp} : ∀ {more : List (Key × D)} {us : List (Key × V)} {ds : List (Key × D)} {vs : List (Key × V)}, RepK K ro H more us → RepK K ro H ds vs → (vs.map (·.1)).Nodup → RepK K ro H (dMrg ds more) (mergeK vs us)
  | _, _, _, _, .nil, rr, _ => rr
  | _, _, _, _, .cons r t, rr, nd => by
    obtain ⟨h1, h2⟩ := RepK.putN nd r rr
    have q := RepK.mrg t h1 h2
    exact q
theorem s_dsp {pos : Pos} {keys : List (Option Expr)} {values : List Expr} {prs : List (SE × SE)} (h : PPs X pos keys values (rdPr X.K Cl W prs)) (hall : keys.all (·.isSome) = true) (hl : keys.length = values.length) (h0 : keys ≠ [])
    (h15 : keys.length ≤ 15) : PE X (.Dict keys values pos) (rdE X.K Cl W (cDsp prs)) := by
  refine (pe_disp h hall hl h0 h15).imp fun σ H Q h => ?_
  obtain ⟨e, s, ro, rs, rh, h⟩ := h
  intro p hp
  unfold cDsp at h
  rw [wp_bind] at h
  have x0 := ext_new (K := X.K) (ho := .dK []) rh hp
  refine r_prs prs _ _ _ _ _ _ (rs.ext x0) (rh.new hp (.dct (upd_same ..) .nil)) h (fun c fs s1 q => q.ext x0) fun kvs s2 H2 ro2 vs q rh2 x2 rr => ?_
  have hp2 : ro2 s.n = some p := x2.ro _ _ ron_same
  cases z : s2.get s.n with
  | none => rw [z] at q; exact q.elim
  | some ob =>
    rw [z] at q
    cases ob with
    | dct l =>
      cases l with
      | cons _ _ => exact q.elim
      | nil =>
        obtain ⟨a, e1, o2⟩ := rh2.get _ _ z
        rw [hp2] at e1; cases e1
        cases o2 with
        | dct g1 g2 =>
          cases g2
          have q : (if short 15 kvs = true then R.ok (D.ref s.n) (s2.set s.n (.dct (dMrg [] kvs))) else R.bad).wp (okQ X.K Cl ro H Q) (exQ X.K Cl W ro H σ) := q
          by_cases hs : short 15 kvs = true
          · rw [if_pos hs] at q
            have x3 := ext_write (K := X.K) (ro := ro2) (ho' := .dK (mergeK [] vs)) g1 trivial
            refine ⟨g1, vs, rfl, by rw [← rr.length]; exact short_le hs, q (.ref p) _ ro2 (rh2.write z rfl hp2 rfl (.dct (upd_same ..) ((RepK.mrg rr .nil List.nodup_nil).mono x3))) ((x0.trans x2).trans x3) (.ref hp2)⟩
          · rw [if_neg hs] at q; exact q.elim
    | _ => exact q.elim
def cDsp0 : SE := fun _ s => .ok (.ref s.n) (s.push (.dct []))
theorem s_dsp0 {pos : Pos} : PE X (.Dict [] [] pos) (rdE X.K Cl W cDsp0) := pe_dnewK.imp fun σ H Q h => by
  obtain ⟨e, s, ro, rs, rh, h⟩ := h
  intro p hp
  exact h (.ref p) _ (ron ro s.n p) (rh.new hp (.dct (upd_same ..) .nil)) (ext_new rh hp) (.ref ron_same)
theorem s_pr0 {pos : Pos} : PPs X pos [] [] (rdPr X.K Cl W []) := pps_nil
theorem s_prc {pos : Pos} {k v : Expr} {ks : List (Option Expr)} {vs : List Expr} {fk fv : SE} {prs : List (SE × SE)} (hk : PE X k (rdE X.K Cl W fk)) (hv : PE X v (rdE X.K Cl W fv)) (hr : PPs X pos ks vs (rdPr X.K Cl W prs)) :
    PPs X pos (some k :: ks) (v :: vs) (rdPr X.K Cl W ((fk, fv) :: prs)) := pps_cons hk hv hr
end

/-! ### the module's defs -/
/-- a body, run at the parameters -/
def RS.fin : RS → R D
  | .nx _ s => .ok .non s
  | .rt d s => .ok d s
  | .ex c fs _ s => .ex c fs s
  | _ => .bad
def fnE (n : Nat) (body : SS) : List D → S → R D := fun ds s => (body (ds.map some ++ List.replicate (n - ds.length) none) s).fin
structure Defd (P : Program) (w : World) (K : PySem.W.Frag) (mg : Str → Option Value) (base : Heap) (Cl : Nat → Addr) (x : Str) (n k : Nat) (F : List D → S → R D) : Prop where
  ex : ∃ (f : Addr) (fd : FuncData) (ps : List Str), mg x = some (.ref f) ∧ PySem.W.keepIn K (.ref f) = true ∧ Binds K fd ps [] ∧ FnOk P w K mg base (L2.CX P w) k f fd ps (spF K Cl n F)
theorem start_rel {K : PySem.W.Frag} {ro : Ro} {H : Hp} {N : List Str} {ds : List D} {vs : List V} (r : Reps K ro H ds vs) : RelS K ro H (ds.map some ++ List.replicate (N.length - ds.length) none) (L2.start N vs) := by
  unfold L2.start
  have hl := r.length
  refine ⟨by simp [hl], fun i d h => ?_⟩
  by_cases hi : i < ds.length
  · rw [List.getElem?_append_left (by simpa using hi), List.getElem?_map] at h
    cases z : ds[i]? with
    | none => rw [z] at h; cases h
    | some d' =>
      rw [z] at h
      cases h
      obtain ⟨v, hv, rv⟩ := r.get z
      exact ⟨v, by rw [List.getElem?_append_left (by simpa [← hl] using hi), List.getElem?_map, hv]; rfl, rv⟩
  · rw [List.getElem?_append_right (by simpa using hi), List.getElem?_replicate] at h
    split at h <;> cases h
section
variable {P : Program} {w : World} {K : PySem.W.Frag} {mg : Str → Option Value} {base : Heap} {Cl : Nat → Addr}
/-- the context of a def's body, its wish -/
abbrev cxD (P : Program) (w : World) (K : PySem.W.Frag) (mg : Str → Option Value) (base : Heap) (N : List Str) (qual : Str) (scope : Scope) (f : Addr) (cd : Value) (A : Around) (outer : List Env) (s : Shared) (H : Hp) (E : XK) : Cx := cxOf (L2.CX P w) P w K mg base N qual scope f cd A outer s H E
theorem FnOk_of {x qual : Str} {params : Arguments} {body : List Stmt} {scope : Scope} {kws : List (Str × V)} {f : Addr} {fd : FuncData} {N ps : List Str} {n k : Nat} {b : SS} (F : FunD K x qual params body scope [] kws f fd) (S : FnScope N ps scope) (hn : ps.length = n)
    (hb : ∀ (cdv : Value) (A : Around) (outer : List Env) (s : Shared) (H : Hp) (E : XK), Room k (A.deeper (envOfC qual scope s.heap.objs.size f cdv)) →
      PSs (cxD P w K mg base N qual scope f cdv A outer s H E) body (rdS K Cl (fun cls d _ H => E cls d H) b)) :
    FnOk P w K mg base (L2.CX P w) (k + 1) f fd ps (spF K Cl n (fnE N.length b)) := by
  refine F.ok S (fun vs H Q E h => h.1.trans hn.symm) fun cdv A outer s H vs Q E hr h => ⟨_, hb cdv A outer s H E hr, ?_⟩
  obtain ⟨hl, ds, sd, ro, rps, rh, hw⟩ := h
  refine ⟨_, sd, ro, start_rel rps, rh, ?_⟩
  unfold fnE at hw
  generalize b (ds.map some ++ List.replicate (N.length - ds.length) none) sd = r at hw
  cases r with
  | nx e s' => exact fun σ' H' ro' _ rh' x' => hw .non H' ro' rh' x' .non
  | rt d s' => exact fun v H' ro' rh' x' rv => hw v H' ro' rh' x' rv
  | ex c fs e s' => exact fun σ' H' ro' cls d _ rh' x' xr => hw H' ro' cls d rh' x' xr
  | bk _ _ => exact hw.elim
  | ct _ _ => exact hw.elim
  | bad => exact hw.elim
theorem Defd.mk' {x qual : Str} {params : Arguments} {body : List Stmt} {scope : Scope} {kws : List (Str × V)} {f : Addr} {fd : FuncData} {N ps : List Str} {n k : Nat} {b : SS} (hm : mg x = some (.ref f)) (F : FunD K x qual params body scope [] kws f fd) (S : FnScope N ps scope) (hn : ps.length = n)
    (hbi : ∀ (kV doc pm : Value) (an : Option Addr) (cdv ct : Value) (us : List Value), us.length = ps.length → bindArgs (PySem.W.fnOf x qual params body scope .none kV doc pm an cdv ct) ⟨us, []⟩ = pure (ps.zip us))
    (hb : ∀ (cdv : Value) (A : Around) (outer : List Env) (s : Shared) (H : Hp) (E : XK), Room k (A.deeper (envOfC qual scope s.heap.objs.size f cdv)) →
      PSs (cxD P w K mg base N qual scope f cdv A outer s H E) body (rdS K Cl (fun cls d _ H => E cls d H) b)) :
    Defd P w K mg base Cl x n (k + 1) (fnE N.length b) :=
  ⟨f, fd, ps, hm, F.kp, F.bindsN hbi, FnOk_of F S hn hb⟩
theorem Defd.up {x : Str} {n j k : Nat} {F : List D → S → R D} (h : Defd P w K mg base Cl x n j F) (hk : j ≤ k) : Defd P w K mg base Cl x n k F := by
  obtain ⟨f, fd, ps, h1, h2, h3, h4⟩ := h.ex
  exact ⟨f, fd, ps, h1, h2, h3, h4.mono hk⟩
end
section
variable {X : Cx} {Cl : Nat → Addr} {W : WX} {x : Str} {p pos : Pos} {e : Expr} {es : List Expr} {fs : SEs} {n k : Nat} {F : List D → S → R D}
/-- a call of one -/
theorem s_fn (hd : Defd X.prog X.w X.K X.mg X.base Cl x n k F) (hr : Room k X.A) (hg : Gl X x) (tk : Takes X W) (ha : PA X (e :: es) (rdA X.K Cl W fs)) (hdb : (x == ("__debug__" : Str)) = false)
    (he : starEach (e :: es) X.env = (false, eval e X.env) :: starEach es X.env) (hpl : (backTo pos (starEach es X.env)).any (·.1) = false) :
    PE X (.Call (.Name x p) (e :: es) [] pos) (rdE X.K Cl W (cDef F n fs)) := by
  obtain ⟨f, fd, ps, h1, h2, h3, h4⟩ := hd.ex
  exact s_def h4 hr hg h1 h2 h3 tk ha hdb he hpl
theorem s_fn0 (hd : Defd X.prog X.w X.K X.mg X.base Cl x n k F) (hr : Room k X.A) (hg : Gl X x) (tk : Takes X W) (hdb : (x == ("__debug__" : Str)) = false) :
    PE X (.Call (.Name x p) [] [] pos) (rdE X.K Cl W (cDef F n cNil)) := by
  obtain ⟨f, fd, ps, h1, h2, h3, h4⟩ := hd.ex
  exact s_def0 h4 hr hg h1 h2 h3 tk hdb
end
end Ev
set_option maxHeartbeats 1000000
namespace Ev
open PySem PySem.Spec PyProof.Rows L2
/-! ### conditions that a reckoning answers -/
def visB (sc : Scope) (x : Str) : Bool := match sc.names.lookup x with
  | some .local => true
  | some .cell => true
  | some .free => true
  | _ => false
theorem vis_of {sc : Scope} {x : Str} (h : visB sc x = true) : Vis sc x := by
  unfold visB at h
  unfold Vis
  split at h <;> first | (rename_i e; rw [e]; simp) | cases h
def locB (sc : Scope) (x : Str) : Bool := match sc.names.lookup x with
  | some .local => true
  | some .cell => true
  | _ => false
theorem loc_of {sc : Scope} {x : Str} (h : locB sc x = true) : L2.Loc sc x := by
  unfold locB at h
  unfold L2.Loc
  split at h <;> first | (rename_i e; rw [e]; simp) | cases h
def eqS (a b : Str) : Bool := a == b
theorem eqS_of {a b : Str} (h : eqS a b = true) : a = b := by simpa [eqS] using h
def optS (o : Option Str) (x : Str) : Bool := match o with
  | some y => eqS y x
  | none => false
theorem optS_of {o : Option Str} {x : Str} (h : optS o x = true) : o = some x := by
  cases o with
  | none => cases h
  | some y => rw [eqS_of h]
def varB (N : List Str) (sc : Scope) (i : Nat) (x : Str) : Bool := optS N[i]? x && (visB sc x && (!eqS x "__debug__" && !eqS x "__classdict__"))
section
variable {X : Cx} {Cl : Nat → Addr} {W : WX}
theorem s_v {i : Nat} {x : Str} {pos : Pos} (h : varB X.N X.env.scope i x = true) : PE X (.Name x pos) (rdE X.K Cl W (cVar i)) := by
  unfold varB at h
  simp only [Bool.and_eq_true, Bool.not_eq_true'] at h
  exact s_var (optS_of h.1) (vis_of h.2.1) h.2.2.1 h.2.2.2
/-- names that are stored to -/
def stoB (N : List Str) (sc : Scope) (i : Nat) (x : Str) : Bool := optS N[i]? x && locB sc x
theorem s_st {i : Nat} {x : Str} {f : SE} {e : Expr} {p pos : Pos} (hN : X.N.Nodup) (hi : stoB X.N X.env.scope i x = true) (he : PE X e (rdE X.K Cl W f)) (hs : swapsWith e (some (.Name x p)) pos.line X.env = pure false) (hf : X.fn x = true ∨ X.env.scope.names.lookup x = some .local) :
    PS X (.Assign [.Name x p] e pos) (rdS X.K Cl W (cAs (.nm i) f)) := by
  unfold stoB at hi
  rw [Bool.and_eq_true] at hi
  exact (ps_set hN (optS_of hi.1) (loc_of hi.2) he hs hf).imp fun _ _ _ h => r_as (g := .nm i) (fun _ q => q) h
theorem g_nm {i : Nat} {x : Str} {pos : Pos} (hN : X.N.Nodup) (hi : stoB X.N X.env.scope i x = true) (hf : X.fn x = true ∨ X.env.scope.names.lookup x = some .local) : PG X (.Name x pos) ((IT.nm i).g X.K) := by
  unfold stoB at hi
  rw [Bool.and_eq_true] at hi
  exact pg_name hN (optS_of hi.1) (loc_of hi.2) hf
theorem g_tp {es : List Expr} {k : Nat} {ts : ITs} {pos : Pos} (hc : X.calm = true) (h : PGs X es (ts.g X.K)) (hn : (assignEach es X.env).length = ts.len) (hst : (assignEach es X.env).findIdx? (·.1) = none) : PG X (.Tuple es k pos) ((IT.tp ts).g X.K) := pg_tup hc h hn hst
theorem g_nil : PGs X [] (ITs.nil.g X.K) := pgs_nil
theorem g_cons {e : Expr} {es : List Expr} {t : IT} {ts : ITs} (h1 : PG X e (t.g X.K)) (h2 : PGs X es (ts.g X.K)) (hs : (assignEach (e :: es) X.env).map (·.2) = assign e X.env :: (assignEach es X.env).map (·.2)) : PGs X (e :: es) ((ITs.cons t ts).g X.K) := pgs_cons h1 h2 hs
/-! ### constants -/
theorem s_int {i : Int} {k : Nat} {pos : Pos} : PE X (.Constant (.int i) k pos) (rdE X.K Cl W (cCst (.int i))) := s_cst pe_int fun _ _ _ => .int i
theorem s_non {k : Nat} {pos : Pos} : PE X (.Constant .none k pos) (rdE X.K Cl W (cCst .non)) := s_cst pe_non fun _ _ _ => .non
theorem s_bl {b : Bool} {k : Nat} {pos : Pos} : PE X (.Constant (.bool b) k pos) (rdE X.K Cl W (cCst (.bl b))) := s_cst pe_bl fun _ _ _ => .bl b
theorem s_str {x : Str} {l : List Nat} {k : Nat} {pos : Pos} (h : x = ⟨l.toArray⟩) : PE X (.Constant (.str x) k pos) (rdE X.K Cl W (cCst (.str l))) := by
  subst h
  exact s_cst pe_str fun _ _ _ => .str l
/-! ### built-in functions -/
variable {e : Expr} {es : List Expr} {fs : SEs} {p pos : Pos}
theorem _root_.L2.CallR.or' {f : Value} {r r' : List V → Hp → VK → Prop} (h : CallR X f r) (h' : CallR X f r') : CallR X f (fun xs H Q => r xs H Q ∨ r' xs H Q) := by
  intro pins s σ H xs us Q I r q
  rcases q with q | q
  · exact h pins s σ H xs us Q I r q
  · exact h' pins s σ H xs us Q I r q
theorem s_b {x : Str} {id : String} {r : List V → Hp → VK → Prop} {f : List D → S → R D} (hc : CallR X (.builtin id) r) (ho : OpSs X.K Cl f r) (hv : bootBuiltins x = some (.builtin id)) (hn : x ≠ "__name__") (hdb : (x == ("__debug__" : Str)) = false)
    (hg : Gl X x) (hm : X.mg x = none) (ha : PA X (e :: es) (rdA X.K Cl W fs)) (he : starEach (e :: es) X.env = (false, eval e X.env) :: starEach es X.env) (hpl : (backTo pos (starEach es X.env)).any (·.1) = false) :
    PE X (.Call (.Name x p) (e :: es) [] pos) (rdE X.K Cl W (cCall f fs)) := (pe_callB hc hg hm hv ha hn hdb he hpl).imp fun _ _ _ h => r_call ho h
theorem s_t {x : Str} {T : String} {r : List V → Hp → VK → Prop} {f : List D → S → R D} (hc : CallR X (.type T) r) (ho : OpSs X.K Cl f r) (hv : bootBuiltins x = some (.type T)) (hn : x ≠ "__name__") (hdb : (x == ("__debug__" : Str)) = false)
    (hg : Gl X x) (hm : X.mg x = none) (ha : PA X (e :: es) (rdA X.K Cl W fs)) (he : starEach (e :: es) X.env = (false, eval e X.env) :: starEach es X.env) (hpl : (backTo pos (starEach es X.env)).any (·.1) = false) :
    PE X (.Call (.Name x p) (e :: es) [] pos) (rdE X.K Cl W (cCall f fs)) := (pe_callTy hc hg hm hv ha hn hdb he hpl).imp fun _ _ _ h => r_call ho h
theorem s_len (hg : Gl X "len") (hm : X.mg "len" = none) (ha : PA X (e :: es) (rdA X.K Cl W fs)) (he : starEach (e :: es) X.env = (false, eval e X.env) :: starEach es X.env) (hpl : (backTo pos (starEach es X.env)).any (·.1) = false) :
    PE X (.Call (.Name "len" p) (e :: es) [] pos) (rdE X.K Cl W (cCall bLen fs)) := s_b (call_len.or' call_lenD) bLen_ok boot_len (by decide) (by decide) hg hm ha he hpl
theorem s_abs (hg : Gl X "abs") (hm : X.mg "abs" = none) (ha : PA X (e :: es) (rdA X.K Cl W fs)) (he : starEach (e :: es) X.env = (false, eval e X.env) :: starEach es X.env) (hpl : (backTo pos (starEach es X.env)).any (·.1) = false) :
    PE X (.Call (.Name "abs" p) (e :: es) [] pos) (rdE X.K Cl W (cCall bAbs fs)) := s_b call_abs bAbs_ok boot_abs (by decide) (by decide) hg hm ha he hpl
theorem s_max2 (hc : X.calm = true) (hg : Gl X "max") (hm : X.mg "max" = none) (ha : PA X (e :: es) (rdA X.K Cl W fs)) (he : starEach (e :: es) X.env = (false, eval e X.env) :: starEach es X.env) (hpl : (backTo pos (starEach es X.env)).any (·.1) = false) :
    PE X (.Call (.Name "max" p) (e :: es) [] pos) (rdE X.K Cl W (cCall bMax2 fs)) := s_b (call_max2 hc) bMax2_ok boot_max (by decide) (by decide) hg hm ha he hpl
theorem s_min2 (hc : X.calm = true) (hg : Gl X "min") (hm : X.mg "min" = none) (ha : PA X (e :: es) (rdA X.K Cl W fs)) (he : starEach (e :: es) X.env = (false, eval e X.env) :: starEach es X.env) (hpl : (backTo pos (starEach es X.env)).any (·.1) = false) :
    PE X (.Call (.Name "min" p) (e :: es) [] pos) (rdE X.K Cl W (cCall bMin2 fs)) := s_b (call_min2 hc) bMin2_ok boot_min (by decide) (by decide) hg hm ha he hpl
theorem s_sum (hc : X.calm = true) (hg : Gl X "sum") (hm : X.mg "sum" = none) (ha : PA X (e :: es) (rdA X.K Cl W fs)) (he : starEach (e :: es) X.env = (false, eval e X.env) :: starEach es X.env) (hpl : (backTo pos (starEach es X.env)).any (·.1) = false) :
    PE X (.Call (.Name "sum" p) (e :: es) [] pos) (rdE X.K Cl W (cCall bSum fs)) := s_b (cr_sum hc) bSum_ok boot_sum (by decide) (by decide) hg hm ha he hpl
theorem s_all (hc : X.calm = true) (hg : Gl X "all") (hm : X.mg "all" = none) (ha : PA X (e :: es) (rdA X.K Cl W fs)) (he : starEach (e :: es) X.env = (false, eval e X.env) :: starEach es X.env) (hpl : (backTo pos (starEach es X.env)).any (·.1) = false) :
    PE X (.Call (.Name "all" p) (e :: es) [] pos) (rdE X.K Cl W (cCall bAll fs)) := s_b (cr_all hc) bAll_ok boot_all (by decide) (by decide) hg hm ha he hpl
theorem s_any (hc : X.calm = true) (hg : Gl X "any") (hm : X.mg "any" = none) (ha : PA X (e :: es) (rdA X.K Cl W fs)) (he : starEach (e :: es) X.env = (false, eval e X.env) :: starEach es X.env) (hpl : (backTo pos (starEach es X.env)).any (·.1) = false) :
    PE X (.Call (.Name "any" p) (e :: es) [] pos) (rdE X.K Cl W (cCall bAny fs)) := s_b (cr_any hc) bAny_ok boot_any (by decide) (by decide) hg hm ha he hpl
theorem s_intc (hg : Gl X "int") (hm : X.mg "int" = none) (ha : PA X (e :: es) (rdA X.K Cl W fs)) (he : starEach (e :: es) X.env = (false, eval e X.env) :: starEach es X.env) (hpl : (backTo pos (starEach es X.env)).any (·.1) = false) :
    PE X (.Call (.Name "int" p) (e :: es) [] pos) (rdE X.K Cl W (cCall bInt fs)) := s_t call_int1 bInt_ok boot_int (by decide) (by decide) hg hm ha he hpl
theorem s_list (hg : Gl X "list") (hm : X.mg "list" = none) (ha : PA X (e :: es) (rdA X.K Cl W fs)) (he : starEach (e :: es) X.env = (false, eval e X.env) :: starEach es X.env) (hpl : (backTo pos (starEach es X.env)).any (·.1) = false) :
    PE X (.Call (.Name "list" p) (e :: es) [] pos) (rdE X.K Cl W (cCall bList fs)) := s_t call_list_of bList_ok boot_list (by decide) (by decide) hg hm ha he hpl
theorem s_tuple (hg : Gl X "tuple") (hm : X.mg "tuple" = none) (ha : PA X (e :: es) (rdA X.K Cl W fs)) (he : starEach (e :: es) X.env = (false, eval e X.env) :: starEach es X.env) (hpl : (backTo pos (starEach es X.env)).any (·.1) = false) :
    PE X (.Call (.Name "tuple" p) (e :: es) [] pos) (rdE X.K Cl W (cCall bTuple fs)) := s_t call_tuple_of bTuple_ok boot_tuple (by decide) (by decide) hg hm ha he hpl
theorem s_gcd (hg : Gl X "gcd") (hm : X.mg "gcd" = some (.builtin "math.gcd")) (ha : PA X (e :: es) (rdA X.K Cl W fs)) (he : starEach (e :: es) X.env = (false, eval e X.env) :: starEach es X.env) (hpl : (backTo pos (starEach es X.env)).any (·.1) = false) :
    PE X (.Call (.Name "gcd" p) (e :: es) [] pos) (rdE X.K Cl W (cCall bGcd fs)) := (pe_callBfun cr_gcd hg hm ha (by decide) he hpl).imp fun _ _ _ h => r_call bGcd_ok h
end
end Ev
set_option maxHeartbeats 1000000
namespace Ev
open PySem PySem.Spec PyProof.Rows L2
section
variable {X : Cx} {Cl : Nat → Addr} {W : WX} {a b : Expr} {fa fb : SE} {pos : Pos}
theorem s_add (ha : PE X a (rdE X.K Cl W fa)) (hb : PE X b (rdE X.K Cl W fb)) : PE X (.BinOp a .Add b pos) (rdE X.K Cl W (cBin dAdd fa fb)) := s_bin op_rAdd dAdd_ok ha hb
theorem s_sub (ha : PE X a (rdE X.K Cl W fa)) (hb : PE X b (rdE X.K Cl W fb)) : PE X (.BinOp a .Sub b pos) (rdE X.K Cl W (cBin dSub fa fb)) := s_bin op_sub dSub_ok ha hb
theorem s_mul (ha : PE X a (rdE X.K Cl W fa)) (hb : PE X b (rdE X.K Cl W fb)) : PE X (.BinOp a .Mult b pos) (rdE X.K Cl W (cBin dMul fa fb)) := s_bin op_rMul dMul_ok ha hb
theorem s_fdv (ha : PE X a (rdE X.K Cl W fa)) (hb : PE X b (rdE X.K Cl W fb)) : PE X (.BinOp a .FloorDiv b pos) (rdE X.K Cl W (cBin dFdv fa fb)) := s_bin op_rFdv dFdv_ok ha hb
theorem s_mod (ha : PE X a (rdE X.K Cl W fa)) (hb : PE X b (rdE X.K Cl W fb)) : PE X (.BinOp a .Mod b pos) (rdE X.K Cl W (cBin dMod fa fb)) := s_bin op_modN dMod_ok ha hb
variable (hu : X.A.units + 64 < cLine)
include hu
theorem s_eq (ha : PE X a (rdE X.K Cl W fa)) (hb : PE X b (rdE X.K Cl W fb)) (hm : behindInMarks .Eq b = false) : PE X (.Compare a [.Eq] [b] pos) (rdE X.K Cl W (cBin (onP pEq) fa fb)) := s_cmp (op_pEq hu) onP_ok ha hb hm
theorem s_ne (ha : PE X a (rdE X.K Cl W fa)) (hb : PE X b (rdE X.K Cl W fb)) (hm : behindInMarks .NotEq b = false) : PE X (.Compare a [.NotEq] [b] pos) (rdE X.K Cl W (cBin (onP pNe) fa fb)) := s_cmp (op_pNe hu) onP_ok ha hb hm
theorem s_lt (ha : PE X a (rdE X.K Cl W fa)) (hb : PE X b (rdE X.K Cl W fb)) (hm : behindInMarks .Lt b = false) : PE X (.Compare a [.Lt] [b] pos) (rdE X.K Cl W (cBin (onP pLt) fa fb)) := s_cmp (op_pLt hu) onP_ok ha hb hm
theorem s_gt (ha : PE X a (rdE X.K Cl W fa)) (hb : PE X b (rdE X.K Cl W fb)) (hm : behindInMarks .Gt b = false) : PE X (.Compare a [.Gt] [b] pos) (rdE X.K Cl W (cBin (onP pGt) fa fb)) := s_cmp (op_pGt hu) onP_ok ha hb hm
theorem s_le (ha : PE X a (rdE X.K Cl W fa)) (hb : PE X b (rdE X.K Cl W fb)) (hm : behindInMarks .LtE b = false) : PE X (.Compare a [.LtE] [b] pos) (rdE X.K Cl W (cBin (onP pLe) fa fb)) := s_cmp (op_pLe hu) onP_ok ha hb hm
theorem s_ge (ha : PE X a (rdE X.K Cl W fa)) (hb : PE X b (rdE X.K Cl W fb)) (hm : behindInMarks .GtE b = false) : PE X (.Compare a [.GtE] [b] pos) (rdE X.K Cl W (cBin (onP pGe) fa fb)) := s_cmp (op_pGe hu) onP_ok ha hb hm
theorem s_in (ha : PE X a (rdE X.K Cl W fa)) (hb : PE X b (rdE X.K Cl W fb)) (hm : behindInMarks .In b = false) : PE X (.Compare a [.In] [b] pos) (rdE X.K Cl W (cBin dIn fa fb)) := s_cmp (op_rIn hu) dIn_ok ha hb hm
theorem s_ni (ha : PE X a (rdE X.K Cl W fa)) (hb : PE X b (rdE X.K Cl W fb)) (hm : behindInMarks .NotIn b = false) : PE X (.Compare a [.NotIn] [b] pos) (rdE X.K Cl W (cBin dNi fa fb)) := s_cmp (op_rNi hu) dNi_ok ha hb hm
theorem t_eq (ha : PE X a (rdE X.K Cl W fa)) (hb : PE X b (rdE X.K Cl W fb)) (hm : behindInMarks .Eq b = false) : PT X (.Compare a [.Eq] [b] pos) (rdT X.K Cl W (cTst (cBin (onP pEq) fa fb))) := s_cmpT (op_pEq hu) onP_ok ha hb hm
theorem t_ne (ha : PE X a (rdE X.K Cl W fa)) (hb : PE X b (rdE X.K Cl W fb)) (hm : behindInMarks .NotEq b = false) : PT X (.Compare a [.NotEq] [b] pos) (rdT X.K Cl W (cTst (cBin (onP pNe) fa fb))) := s_cmpT (op_pNe hu) onP_ok ha hb hm
theorem t_lt (ha : PE X a (rdE X.K Cl W fa)) (hb : PE X b (rdE X.K Cl W fb)) (hm : behindInMarks .Lt b = false) : PT X (.Compare a [.Lt] [b] pos) (rdT X.K Cl W (cTst (cBin (onP pLt) fa fb))) := s_cmpT (op_pLt hu) onP_ok ha hb hm
theorem t_gt (ha : PE X a (rdE X.K Cl W fa)) (hb : PE X b (rdE X.K Cl W fb)) (hm : behindInMarks .Gt b = false) : PT X (.Compare a [.Gt] [b] pos) (rdT X.K Cl W (cTst (cBin (onP pGt) fa fb))) := s_cmpT (op_pGt hu) onP_ok ha hb hm
theorem t_le (ha : PE X a (rdE X.K Cl W fa)) (hb : PE X b (rdE X.K Cl W fb)) (hm : behindInMarks .LtE b = false) : PT X (.Compare a [.LtE] [b] pos) (rdT X.K Cl W (cTst (cBin (onP pLe) fa fb))) := s_cmpT (op_pLe hu) onP_ok ha hb hm
theorem t_ge (ha : PE X a (rdE X.K Cl W fa)) (hb : PE X b (rdE X.K Cl W fb)) (hm : behindInMarks .GtE b = false) : PT X (.Compare a [.GtE] [b] pos) (rdT X.K Cl W (cTst (cBin (onP pGe) fa fb))) := s_cmpT (op_pGe hu) onP_ok ha hb hm
theorem t_in (ha : PE X a (rdE X.K Cl W fa)) (hb : PE X b (rdE X.K Cl W fb)) (hm : behindInMarks .In b = false) : PT X (.Compare a [.In] [b] pos) (rdT X.K Cl W (cTst (cBin dIn fa fb))) := s_cmpT (op_rIn hu) dIn_ok ha hb hm
theorem t_ni (ha : PE X a (rdE X.K Cl W fa)) (hb : PE X b (rdE X.K Cl W fb)) (hm : behindInMarks .NotIn b = false) : PT X (.Compare a [.NotIn] [b] pos) (rdT X.K Cl W (cTst (cBin dNi fa fb))) := s_cmpT (op_rNi hu) dNi_ok ha hb hm
end
end Ev
set_option maxHeartbeats 1000000
namespace Ev
open PySem PySem.Spec PyProof.Rows L2
/-! ### data that stand at the module's names -/
mutual
def datB (K : PySem.W.Frag) : D → Value → Bool
  | .non, v => match v with
    | .none => true
    | _ => false
  | .bl b, v => match v with
    | .bool c => b == c
    | _ => false
  | .int i, v => match v with
    | .int j _ => decide (i = j)
    | _ => false
  | .str l, v => match v with
    | .str x _ => eqS ⟨l.toArray⟩ x
    | _ => false
  | .tup ds, v => match v with
    | .ref a => match K.lookup a with
      | some ⟨.type T, _, .seq its _, _⟩ => T == "tuple" && Nat.ble its.size zLine && datsB K ds its.toList
      | _ => false
    | _ => false
  | .ref _, _ => false
def datsB (K : PySem.W.Frag) : List D → List Value → Bool
  | [], vs => vs.isEmpty
  | d :: ds, vs => match vs with
    | v :: vs => datB K d v && datsB K ds vs
    | [] => false
end
mutual
theorem datB_ok {K : PySem.W.Frag} : ∀ (d : D) (v : Value), datB K d v = true → ∃ x, RelV x v ∧ ∀ ro H, Rep K ro H d x
  | .non, v, h => by
    cases v with
    | none => exact ⟨.non, rfl, fun _ _ => .non⟩
    | _ => cases h
  | .bl b, v, h => by
    cases v with
    | bool c =>
      have e : b = c := by simpa using (show (b == c) = true from h)
      subst e
      exact ⟨.bl b, rfl, fun _ _ => .bl b⟩
    | _ => cases h
  | .int i, v, h => by
    cases v with
    | int j t =>
      have e : i = j := of_decide_eq_true h
      subst e
      exact ⟨.int i, ⟨t, rfl⟩, fun _ _ => .int i⟩
    | _ => cases h
  | .str l, v, h => by
    cases v with
    | str x t =>
      have e := eqS_of (show eqS ⟨l.toArray⟩ x = true from h)
      subst e
      exact ⟨strV l, ⟨t, rfl⟩, fun _ _ => .str l⟩
    | _ => cases h
  | .tup ds, v, h => by
    cases v with
    | ref a =>
      have h : (match K.lookup a with
        | some ⟨.type T, _, .seq its _, _⟩ => T == "tuple" && Nat.ble its.size zLine && datsB K ds its.toList
        | _ => false) = true := h
      split at h
      · rename_i T od its n sl e
        simp only [Bool.and_eq_true, beq_iff_eq, Nat.ble_eq] at h
        obtain ⟨⟨h1, h2⟩, h3⟩ := h
        subst h1
        obtain ⟨xs, rv, rr⟩ := datsB_ok ds its.toList h3
        exact ⟨.ref a, rfl, fun ro H => .tup (.inr ⟨_, its, n, e, rfl, rfl, Nat.le_trans h2 (by decide), rv⟩) (rr ro H)⟩
      · cases h
    | _ => cases h
  | .ref _, _, h => by cases h
theorem datsB_ok {K : PySem.W.Frag} : ∀ (ds : List D) (vs : List Value), datsB K ds vs = true → ∃ xs, Vals xs vs ∧ ∀ ro H, Reps K ro H ds xs
  | [], vs, h => by
    cases vs with
    | nil => exact ⟨[], .nil, fun _ _ => .nil⟩
    | cons _ _ => cases h
  | d :: ds, vs, h => by
    cases vs with
    | nil => cases h
    | cons v vs =>
      obtain ⟨h1, h2⟩ := Bool.and_eq_true_iff.mp (show (datB K d v && datsB K ds vs) = true from h)
      obtain ⟨x, r1, p1⟩ := datB_ok d v h1
      obtain ⟨xs, r2, p2⟩ := datsB_ok ds vs h2
      exact ⟨x :: xs, .cons r1 r2, fun ro H => .cons (p1 ro H) (p2 ro H)⟩
end
/-- facts beside the head's own -/
inductive GF where
  | bi (x : Str) (id : String)
  | dat (x : Str) (d : D)
def GF.ok (K : PySem.W.Frag) : GF → Bool
  | .bi x id => He.eqO (PySem.W.nsIn K mainGlobals x) (some (some (.builtin id)))
  | .dat x d => match PySem.W.nsIn K mainGlobals x with
    | some (some v) => datB K d v
    | _ => false
/-- that a module's name holds a datum -/
def MDat (K : PySem.W.Frag) (mg : Str → Option Value) (x : Str) (d : D) : Prop := ∃ u v, mg x = some u ∧ RelV v u ∧ ∀ ro H, Rep K ro H d v
section
variable {K : PySem.W.Frag} {h : Heap} {mg : Str → Option Value}
theorem gf_bi (X : K.In h) (G : h.Ns mainGlobals mg) {x : Str} {id : String} (c : (GF.bi x id).ok K = true) : mg x = some (.builtin id) := PySem.W.mg_of X G (He.eqO_ok c)
theorem gf_dat (X : K.In h) (G : h.Ns mainGlobals mg) {x : Str} {d : D} (c : (GF.dat x d).ok K = true) : MDat K mg x d := by
  have c : (match PySem.W.nsIn K mainGlobals x with
    | some (some v) => datB K d v
    | _ => false) = true := c
  split at c
  · rename_i v e
    obtain ⟨y, r, p⟩ := datB_ok d v c
    exact ⟨v, y, PySem.W.mg_of X G e, r, p⟩
  · cases c
end
theorem s_gc {X : Cx} {Cl : Nat → Addr} {W : WX} {x : Str} {d : D} {pos : Pos} (hg : Gl X x) (hm : MDat X.K X.mg x d) (hd : (x == ("__debug__" : Str)) = false) : PE X (.Name x pos) (rdE X.K Cl W (cCst d)) := by
  obtain ⟨u, v, h1, h2, h3⟩ := hm
  refine ⟨fun pins s σ H Q I q => ld_glob I hg h1 ?_ hd⟩
  obtain ⟨e, s', ro, rs, rh, q⟩ := q
  exact ⟨v, H, I, h2, q v H ro rh .refl (h3 ro H)⟩
abbrev AlX : Type := He.AlD × Bool
def obsX (fa : List He.Fa) (fn : List He.DefD) (gf : List GF) (K : PySem.W.Frag) : AlX := (He.obsD fa fn K, gf.all fun g => g.ok K)
def valX (fn : List He.DefD) : AlX := (He.valD fn, true)
def obsXG (n : Nat) (fa : List He.Fa) (fn : List He.DefD) (gf : List GF) (g : Addr → Option Obj) : AlX := obsX fa fn gf (He.frG g (He.asD g n))
def SaysX (fa : List He.Fa) (fn : List He.DefD) (gf : List GF) (K : PySem.W.Frag) : Prop := obsX fa fn gf K = valX fn
def hookX (n : Nat) (fa : List He.Fa) (fn : List He.DefD) (gf : List GF) : PySem.W.Hook where
  α := AlX
  obs := fun s => obsXG n fa fn gf s.heap.get?
  val := fun _ => valX fn
  says := fun _ h => ∃ K : PySem.W.Frag, K.In h ∧ SaysX fa fn gf K
  of := fun _ _ e => ⟨_, He.frG_in, e⟩
  keeps := fun _ _ _ ⟨K, hK, c⟩ k => ⟨K, PySem.W.Frag.In.keeps hK k, c⟩
theorem obsXG_eq {n : Nat} {fa : List He.Fa} {fn : List He.DefD} {gf : List GF} {g : Addr → Option Obj} {s : Shared} (h : ∀ a, g a = s.heap.get? a) : obsXG n fa fn gf g = (hookX n fa fn gf).obs s := by
  have e : g = s.heap.get? := funext h
  rw [e] <;> rfl
section
variable {fa : List He.Fa} {fn : List He.DefD} {gf : List GF} {K : PySem.W.Frag}
theorem SaysX.d (c : SaysX fa fn gf K) : He.SaysD fa fn K := congrArg (fun z : AlX => z.1) c
theorem SaysX.at_ (c : SaysX fa fn gf K) (i : Nat) {g : GF} (h : gf[i]? = some g) : g.ok K = true := by
  have c2 : (gf.all fun g => g.ok K) = true := congrArg (fun z : AlX => z.2) c
  exact List.all_eq_true.mp c2 g (List.mem_of_getElem? h)
end
end Ev
set_option maxHeartbeats 1000000
namespace Ev
open PySem PySem.Spec PyProof.Rows L2
/-- where a global def stands -/
abbrev fAdr (K : PySem.W.Frag) (x : Str) : Addr := He.fAd K (x, none)
theorem gl_of {X : Cx} {x : Str} (h : X.env.kindOf x = some .globalImplicit) : Gl X x := h
def gdS (st : Stmt) (n : Str) : He.DefD := ⟨(n, none), n, n, defArgs st, defBody st, defScope st, [], []⟩
theorem def_gd {fas : List He.Fa} {dfs : List He.DefD} {gfs : List GF} {K : PySem.W.Frag} (c : SaysX fas dfs gfs K) (i : Nat) (st : Stmt) (n : Str) (h : dfs[i]? = some (gdS st n)) : ∃ fd, FunD K n n (defArgs st) (defBody st) (defScope st) [] [] (He.ga K n) fd := c.d.def_ i h
theorem fa_glo {fas : List He.Fa} {dfs : List He.DefD} {gfs : List GF} {K : PySem.W.Frag} {h : Heap} {mg : Str → Option Value} (c : SaysX fas dfs gfs K) (X : K.In h) (G : h.Ns mainGlobals mg) (i : Nat) (x : Str) (e : fas[i]? = some (.glo x)) : mg x = some (.ref (He.ga K x)) := He.glo_ok X G (c.d.fact i e)
theorem fa_free {fas : List He.Fa} {dfs : List He.DefD} {gfs : List GF} {K : PySem.W.Frag} {h : Heap} {mg : Str → Option Value} (c : SaysX fas dfs gfs K) (X : K.In h) (G : h.Ns mainGlobals mg) (i : Nat) (x : Str) (e : fas[i]? = some (.free x)) : mg x = none := He.free_ok X G (c.d.fact i e)
theorem fa_bi {fas : List He.Fa} {dfs : List He.DefD} {gfs : List GF} {K : PySem.W.Frag} {h : Heap} {mg : Str → Option Value} (c : SaysX fas dfs gfs K) (X : K.In h) (G : h.Ns mainGlobals mg) (i : Nat) (x : Str) (id : String) (e : gfs[i]? = some (.bi x id)) : mg x = some (.builtin id) := gf_bi X G (c.at_ i e)
theorem fa_dat {fas : List He.Fa} {dfs : List He.DefD} {gfs : List GF} {K : PySem.W.Frag} {h : Heap} {mg : Str → Option Value} (c : SaysX fas dfs gfs K) (X : K.In h) (G : h.Ns mainGlobals mg) (i : Nat) (x : Str) (d : D) (e : gfs[i]? = some (.dat x d)) : MDat K mg x d := gf_dat X G (c.at_ i e)
/-! ### blocks -/
def blkB (N : List Str) (sc scope : Scope) (own : List (Str × Nat)) : Bool :=
  (match scope.kind with
    | .function => true
    | _ => false) && (scope.names.all (fun y => match scope.names.lookup y.1 with
    | some k => decide (k = y.2)
    | none => false) && (own.all (fun p => optS N[p.2]? p.1) && (scope.names.all (fun y => match y.2 with
    | .free => (match sc.names.lookup y.1 with
      | some .cell => true
      | some .free => true
      | _ => false)
    | .local => own.any (fun p => eqS p.1 y.1) || !N.any (fun z => eqS z y.1)
    | .cell => own.any (fun p => eqS p.1 y.1) || !N.any (fun z => eqS z y.1)
    | _ => true))))
theorem blk_of {N : List Str} {sc scope : Scope} {own : List (Str × Nat)} (h : blkB N sc scope own = true) : BlkOk N sc scope own := by
  unfold blkB at h
  simp only [Bool.and_eq_true, List.all_eq_true] at h
  obtain ⟨h1, h2, h3, h4⟩ := h
  have key : ∀ y : Str, (own.any (fun p => eqS p.1 y) || !N.any (fun z => eqS z y)) = true → y ∈ own.map (·.1) ∨ y ∉ N := fun y h => by
    rw [Bool.or_eq_true] at h
    rcases h with h | h
    · obtain ⟨p, hp, e⟩ := List.any_eq_true.mp h
      exact .inl (List.mem_map.mpr ⟨p, hp, eqS_of e⟩)
    · refine .inr fun hm => ?_
      have : N.any (fun z => eqS z y) = true := List.any_eq_true.mpr ⟨y, hm, by simp [eqS]⟩
      rw [this] at h; cases h
  refine ⟨?_, fun y hy => ?_, fun p hp => optS_of (h3 p hp), fun y hy e => ?_, fun y hy e => ?_⟩
  · split at h1
    · assumption
    · cases h1
  · have q := h2 y hy
    cases z : scope.names.lookup y.1 with
    | none => rw [z] at q; cases q
    | some k =>
      rw [z] at q
      have : k = y.2 := of_decide_eq_true q
      rw [this]
  · have q := h4 y hy
    obtain ⟨a, k⟩ := y
    subst e
    have q : (match sc.names.lookup a with
      | some .cell => true
      | some .free => true
      | _ => false) = true := q
    show sc.names.lookup a = some .cell ∨ sc.names.lookup a = some .free
    split at q
    · rename_i w; exact .inl w
    · rename_i w; exact .inr w
    · cases q
  · have q := h4 y hy
    obtain ⟨a, k⟩ := y
    rcases e with e | e <;> (subst e; exact key a q)
end Ev
set_option maxHeartbeats 1000000
namespace Ev
open PySem PySem.Spec PyProof.Rows L2
/-! ### isinstance -/
inductive Ty where
  | int_ | bool_ | tuple_ | list_ | str_ | dict_
def Ty.nm : Ty → String
  | .int_ => "int"
  | .bool_ => "bool"
  | .tuple_ => "tuple"
  | .list_ => "list"
  | .str_ => "str"
  | .dict_ => "dict"
def Ty.has : Ty → PyData → Bool
  | .int_ => PyData.isInt
  | .bool_ => PyData.isBool
  | .tuple_ => PyData.isTuple
  | .list_ => PyData.isList
  | .str_ => PyData.isStr
  | .dict_ => PyData.isDict
def bIsaO (s : S) (t : Ty) : Option PyData → R D
  | some p => .ok (.bl (t.has p)) s
  | none => .bad
def bIsa (t : Ty) (ds : List D) (s : S) : R D := match ds with
  | [d] => bIsaO s t (toQ s d)
  | _ => .bad
def rIsa (K : PySem.W.Frag) (t : Ty) : List V → Hp → VK → Prop := fun xs H Q => ∃ x p, xs = [x, .ty t.nm] ∧ Dp K H x p ∧ Q (.bl (t.has p)) H
section
variable {X : Cx} {Cl : Nat → Addr} {W : WX} {p pos : Pos} {e a b c : Expr} {f : SE} {fs : SEs} {es : List Expr}
theorem cr_isa (t : Ty) : CallR X (.builtin "isinstance") (rIsa X.K t) := by
  intro pins s σ H xs us Q I r h
  obtain ⟨x, q, rfl, d, hq⟩ := h
  obtain ⟨u, u2, rfl, ru, r2⟩ := r.two
  cases r2
  obtain ⟨as, rd⟩ := Dp.reads I q x u d ru
  have fin : ∀ tk, s.toks ≤ tk → EP X pins σ Q (.bool (t.has q)) { s with toks := tk } := fun tk _ => ⟨.bl (t.has q), H, I.tok tk, rfl, hq⟩
  cases t with
  | int_ => exact PySem.W.isinstance_int_data rd fin
  | bool_ => exact PySem.W.isinstance_bool_data rd fin
  | tuple_ => exact PySem.W.isinstance_tuple_data rd fin
  | list_ => exact PySem.W.isinstance_list_data rd fin
  | str_ => exact PySem.W.isinstance_str_data rd fin
  | dict_ => exact PySem.W.isinstance_dict_data rd fin
/-- the name of a built-in type -/
theorem pe_ty {x : Str} {T : String} (hg : Gl X x) (hm : X.mg x = none) (hv : bootBuiltins x = some (.type T)) (hn : x ≠ "__name__") (hd : (x == ("__debug__" : Str)) = false) : PE X (.Name x pos) (tC (.ty T)) :=
  ⟨fun pins s σ H Q I h => ld_blt I hg hm hv ⟨.ty T, H, I, rfl, h⟩ hn hd⟩
theorem s_isa {x : Str} {py : Pos} (t : Ty) (hv : bootBuiltins x = some (.type t.nm)) (hn : x ≠ "__name__") (hd : (x == ("__debug__" : Str)) = false) (hg : Gl X "isinstance") (hm : X.mg "isinstance" = none) (hg2 : Gl X x) (hm2 : X.mg x = none) (ha : PE X e (rdE X.K Cl W f))
    (he : starEach [e, .Name x py] X.env = (false, eval e X.env) :: starEach [.Name x py] X.env) : PE X (.Call (.Name "isinstance" p) [e, .Name x py] [] pos) (rdE X.K Cl W (cCall (bIsa t) (cCons f cNil))) := by
  refine (pe_callB (cr_isa t) hg hm PyProof.Rows.boot_isinstance (pa_cons ha (pa_cons (pe_ty hg2 hm2 hv hn hd) pa_nil rfl) he) (by decide) (by decide) he rfl).imp fun σ H Q h => ?_
  obtain ⟨e, s, ro, rs, rh, h⟩ := h
  unfold cCall cCons at h
  rw [wp_bind, wp_bind] at h
  refine ⟨e, s, ro, rs, rh, h.mono (fun d s1 q v H1 ro1 rh1 x1 rp => ?_) fun _ _ _ q => q⟩
  have q : (noX (bIsaO s1 t (toQ s1 d))).wp (okQ X.K Cl ro H Q) (exQ X.K Cl W ro H σ) := q
  cases z : toQ s1 d with
  | none => rw [z] at q; exact q.elim
  | some pd =>
    rw [z] at q
    obtain ⟨a1, a2, a3⟩ := toP_ok rh1 _ _ _ _ rp z
    exact ⟨v, pd, rfl, a1, q _ H1 ro1 rh1 x1 (.bl _)⟩
theorem s_isa_int {py : Pos} (hg : Gl X "isinstance") (hm : X.mg "isinstance" = none) (hg2 : Gl X "int") (hm2 : X.mg "int" = none) (ha : PE X e (rdE X.K Cl W f))
    (he : starEach [e, .Name "int" py] X.env = (false, eval e X.env) :: starEach [.Name "int" py] X.env) : PE X (.Call (.Name "isinstance" p) [e, .Name "int" py] [] pos) (rdE X.K Cl W (cCall (bIsa .int_) (cCons f cNil))) := s_isa .int_ boot_int (by decide) (by decide) hg hm hg2 hm2 ha he
theorem s_isa_bool {py : Pos} (hg : Gl X "isinstance") (hm : X.mg "isinstance" = none) (hg2 : Gl X "bool") (hm2 : X.mg "bool" = none) (ha : PE X e (rdE X.K Cl W f))
    (he : starEach [e, .Name "bool" py] X.env = (false, eval e X.env) :: starEach [.Name "bool" py] X.env) : PE X (.Call (.Name "isinstance" p) [e, .Name "bool" py] [] pos) (rdE X.K Cl W (cCall (bIsa .bool_) (cCons f cNil))) := s_isa .bool_ (by decide +kernel) (by decide) (by decide) hg hm hg2 hm2 ha he
theorem s_isa_tuple {py : Pos} (hg : Gl X "isinstance") (hm : X.mg "isinstance" = none) (hg2 : Gl X "tuple") (hm2 : X.mg "tuple" = none) (ha : PE X e (rdE X.K Cl W f))
    (he : starEach [e, .Name "tuple" py] X.env = (false, eval e X.env) :: starEach [.Name "tuple" py] X.env) : PE X (.Call (.Name "isinstance" p) [e, .Name "tuple" py] [] pos) (rdE X.K Cl W (cCall (bIsa .tuple_) (cCons f cNil))) := s_isa .tuple_ boot_tuple (by decide) (by decide) hg hm hg2 hm2 ha he
theorem s_isa_str {py : Pos} (hg : Gl X "isinstance") (hm : X.mg "isinstance" = none) (hg2 : Gl X "str") (hm2 : X.mg "str" = none) (ha : PE X e (rdE X.K Cl W f))
    (he : starEach [e, .Name "str" py] X.env = (false, eval e X.env) :: starEach [.Name "str" py] X.env) : PE X (.Call (.Name "isinstance" p) [e, .Name "str" py] [] pos) (rdE X.K Cl W (cCall (bIsa .str_) (cCons f cNil))) := s_isa .str_ (by decide +kernel) (by decide) (by decide) hg hm hg2 hm2 ha he

/-! ### the least of a list of ints -/
def minI : Int → List Int → Int
  | m, [] => m
  | m, x :: r => minI (if x < m then x else m) r
def maxI : Int → List Int → Int
  | m, [] => m
  | m, x :: r => maxI (if m < x then x else m) r
theorem minI_ok : ∀ (l : List Int) (m : Int), (minI m l = m ∨ minI m l ∈ l) ∧ minI m l ≤ m ∧ ∀ y ∈ l, minI m l ≤ y
  | [], m => ⟨.inl rfl, Int.le_refl _, fun y h => by simp at h⟩
  | x :: l, m => by
    obtain ⟨h1, h2, h3⟩ := minI_ok l (if x < m then x else m)
    unfold minI
    by_cases c : x < m
    · rw [if_pos c] at h1 h2 h3 ⊢
      exact ⟨.inr (h1.elim (fun e => by rw [e]; simp) fun e => List.mem_cons_of_mem _ e), by omega, fun y hy => (List.mem_cons.mp hy).elim (fun e => by rw [e]; exact h2) (h3 y)⟩
    · rw [if_neg c] at h1 h2 h3 ⊢
      exact ⟨h1.imp id fun e => List.mem_cons_of_mem _ e, h2, fun y hy => (List.mem_cons.mp hy).elim (fun e => by rw [e]; omega) (h3 y)⟩
theorem maxI_ok : ∀ (l : List Int) (m : Int), (maxI m l = m ∨ maxI m l ∈ l) ∧ m ≤ maxI m l ∧ ∀ y ∈ l, y ≤ maxI m l
  | [], m => ⟨.inl rfl, Int.le_refl _, fun y h => by simp at h⟩
  | x :: l, m => by
    obtain ⟨h1, h2, h3⟩ := maxI_ok l (if m < x then x else m)
    unfold maxI
    by_cases c : m < x
    · rw [if_pos c] at h1 h2 h3 ⊢
      exact ⟨.inr (h1.elim (fun e => by rw [e]; simp) fun e => List.mem_cons_of_mem _ e), by omega, fun y hy => (List.mem_cons.mp hy).elim (fun e => by rw [e]; exact h2) (h3 y)⟩
    · rw [if_neg c] at h1 h2 h3 ⊢
      exact ⟨h1.imp id fun e => List.mem_cons_of_mem _ e, h2, fun y hy => (List.mem_cons.mp hy).elim (fun e => by rw [e]; omega) (h3 y)⟩
def minO (g : Int → List Int → Int) (s : S) : Option (List Int) → R D
  | some (m :: r) => .ok (.int (g m r)) s
  | _ => .bad
def bMinL (ds : List D) (s : S) : R D := match ds with
  | [d] => minO minI s ((lItems s d).bind allInt)
  | _ => .bad
def bMaxL (ds : List D) (s : S) : R D := match ds with
  | [d] => minO maxI s ((lItems s d).bind allInt)
  | _ => .bad
theorem minL_ok {K : PySem.W.Frag} {ro : Ro} {H : Hp} {s : S} {Q : VK} {ds : List D} {vs : List V} {g : Int → List Int → Int} (r : Reps K ro H ds vs) (rh : RelH K Cl ro H s) (h : ∃ d, ds = [d] ∧ (minO g s ((lItems s d).bind allInt)).wp (okQ K Cl ro H Q) (fun _ _ _ => False)) :
    ∃ (a : Addr) (m : Int) (ns : List Int), vs = [.ref a] ∧ SqL K H a ((m :: ns).map V.int) ∧ Q (.int (g m ns)) H := by
  obtain ⟨d, rfl, h⟩ := h
  obtain ⟨v, rfl, rv⟩ := r.one
  cases z : lItems s d with
  | none => rw [z] at h; exact h.elim
  | some xs =>
    rw [z] at h
    have h : (minO g s (allInt xs)).wp (okQ K Cl ro H Q) (fun _ _ _ => False) := h
    cases z2 : allInt xs with
    | none => rw [z2] at h; exact h.elim
    | some l =>
      rw [z2] at h
      cases l with
      | nil => exact h.elim
      | cons m ns =>
        obtain ⟨a, us, rfl, h1, h2⟩ := lItems_ok rh rv z
        have e := allInt_ok h2 z2
        subst e
        exact ⟨a, m, ns, rfl, h1, h _ H ro rh .refl (.int _)⟩
theorem bMinL_ok {K : PySem.W.Frag} : OpSs K Cl bMinL (rMin K) := fun ds vs H ro s Q r rh h => by
  match ds, r, h with
  | [d], r, h =>
    obtain ⟨a, m, ns, rfl, h1, q⟩ := minL_ok r rh ⟨d, rfl, h⟩
    refine ⟨a, m :: ns, rfl, h1, Nat.succ_pos _, fun k hk hl => ?_⟩
    obtain ⟨p1, p2, p3⟩ := minI_ok ns m
    have e : k = minI m ns := by
      have a1 : k ≤ minI m ns := by
        rcases p1 with p1 | p1
        · rw [p1]; exact hl m List.mem_cons_self
        · exact hl _ (List.mem_cons_of_mem _ p1)
      have a2 : minI m ns ≤ k := (List.mem_cons.mp hk).elim (fun e => by rw [e]; exact p2) (p3 k)
      omega
    rw [e]; exact q
theorem s_minL (hc : X.calm = true) (hg : Gl X "min") (hm : X.mg "min" = none) (ha : PA X (e :: es) (rdA X.K Cl W fs)) (he : starEach (e :: es) X.env = (false, eval e X.env) :: starEach es X.env) (hpl : (backTo pos (starEach es X.env)).any (·.1) = false) :
    PE X (.Call (.Name "min" p) (e :: es) [] pos) (rdE X.K Cl W (cCall bMinL fs)) := s_b (cr_min hc) bMinL_ok boot_min (by decide) (by decide) hg hm ha he hpl

/-! ### is True -/
def dIsT : D → S → R D
  | .bl b, s => .ok (.bl b) s
  | _, _ => .bad
def dNotTr : D → S → R D
  | .bl b, s => .ok (.bl (!b)) s
  | _, _ => .bad
theorem s_notTrT {j : Nat} {p2 : Pos} (ha : PE X a (rdE X.K Cl W f)) : PT X (.Compare a [.IsNot] [.Constant (.bool true) j p2] pos) (rdT X.K Cl W (cTst (cUn dNotTr f))) :=
  (pt_cmpR op_notBl ha (s_bl (W := W)) rfl).imp fun _ _ _ q => r_tst (t := tOp rNotB (rdE X.K Cl W f) (rdE X.K Cl W (cCst (.bl true)))) (fun σ H Q h => by
    obtain ⟨e, s, ro, rs, rh, h⟩ := h
    unfold cUn at h
    rw [wp_bind] at h
    refine ⟨e, s, ro, rs, rh, h.mono (fun d s1 q v H1 ro1 rh1 x1 rp => ⟨e, s1, ro1, rs.ext x1, rh1, fun w H2 ro2 rh2 x2 rw' => ?_⟩) fun _ _ _ q => q⟩
    cases rw'
    cases rp with
    | bl k =>
      have q : (R.ok (D.bl (!k)) s1).wp (okQ X.K Cl ro H Q) (exQ X.K Cl W ro H σ) := q
      refine ⟨k, true, rfl, rfl, ?_⟩
      have e : decide (k = true) = k := by cases k <;> rfl
      rw [e]
      exact q _ H2 ro2 rh2 (x1.trans x2) (.bl _)
    | _ => exact q.elim) q

/-! ### three at once -/
theorem s_par3 {i j l : Nat} {x y z : Str} {fs : SEs} {px py pz pt : Pos} {kt k2 pt2} (hc : X.calm = true) (hN : X.N.Nodup) (hi : X.N[i]? = some x) (hj : X.N[j]? = some y) (hl : X.N[l]? = some z) (hij : i ≠ j) (hil : i ≠ l) (hjl : j ≠ l)
    (hx : X.env.scope.names.lookup x = some .local) (hy : X.env.scope.names.lookup y = some .local) (hz : X.env.scope.names.lookup z = some .local) (ha : PA X [a, b, c] (rdA X.K Cl W fs))
    (hw : swappedStores [.Tuple [.Name x px, .Name y py, .Name z pz] kt pt] (.Tuple [a, b, c] k2 pt2) X.env = pure (some [x, y, z])) :
    PS X (.Assign [.Tuple [.Name x px, .Name y py, .Name z pz] kt pt] (.Tuple [a, b, c] k2 pt2) pos) (rdS X.K Cl W (cPar (.cons (.nm i) (.cons (.nm j) (.cons (.nm l) .nil))) fs)) := by
  refine (ps_par3 hc hN hi hj hl hij hil hjl hx hy hz ha hw).imp fun D σ H h => ?_
  obtain ⟨e, s, ro, rs, rh, h⟩ := h
  refine ⟨e, s, ro, rs, rh, (toS_rd rs h).mono (fun ds s1 q vs H1 ro1 rh1 x1 rps => ?_) fun _ _ _ q => q⟩
  cases rps with
  | nil => exact q.elim
  | cons r1 rps =>
    cases rps with
    | nil => exact q.elim
    | cons r2 rps =>
      cases rps with
      | nil => exact q.elim
      | cons r3 rps =>
        cases rps with
        | cons _ _ => exact q.elim
        | nil => exact ⟨_, _, _, rfl, q _ H1 ro1 ((((rs.ext x1).set r1).set r2).set r3) rh1 x1⟩

/-! ### l.remove(x) -/
def gRem (ds : List D) (s : S) (xs : List D) : Option (D × List D) := match ds with
  | [d] => match toQ s d with
    | some p => match mapO (toQ s) xs with
      | some ps => match SeqAt.dataPlace ps p with
        | some j => if short zLine xs = true then some (.non, xs.eraseIdx j) else none
        | none => none
      | none => none
    | none => none
  | _ => none
def rRem (K : PySem.W.Frag) : V → List V → Hp → VK → Prop := fun x vs H Q => ∃ (l : Addr) (xs : List V) (y : V) (ps : List PyData) (p : PyData) (j : Nat), x = .ref l ∧ vs = [y] ∧ H l = some (.lst xs) ∧ DpAll K H xs ps ∧ Dp K H y p ∧ PyData.plainAll ps = true ∧ p.plain = true ∧ PyData.depth p ≤ 40 ∧
  SeqAt.dataPlace ps p = some j ∧ Q .non (upd H l (.lst (xs.eraseIdx j)))
theorem mt_rem (hu : X.A.units + 64 < cLine) : MtR X "list.remove" (rRem X.K) := by
  intro pins s σ H x vs v us Q I rx rv h
  obtain ⟨l, xs, y, ps, pd, j, rfl, rfl, hH, d1, d2, n1, n2, dp, hj, q⟩ := h
  cases rx
  obtain ⟨u, rfl, ru⟩ := rv.one
  obtain ⟨z, its, n, r, hl, e⟩ := I.lstM hH
  obtain ⟨as, rs⟩ := Dp.readsAll I ps xs its d1 r
  obtain ⟨bs, rd⟩ := Dp.reads I pd y u d2 ru
  have hd : min (PyData.depthAll ps) pd.depth ≤ pd.depth := Nat.min_le_right _ _
  refine SeqAt.remove_list_data (l := l) (vs := its.toArray) ⟨_, e, rfl, n, rfl⟩ rs rd n1 n2 (by omega) hj (by rw [List.size_toArray, ← hl]; exact z) ⟨.non, _, I.lset (t' := s.toks) (its' := its.eraseIdx j) hH e ?_ (r.eraseIdx j) ?_, rfl, q⟩
  · rw [List.eraseIdxIfInBounds_toArray]
  · have := len_erase xs j
    omega
theorem mRem_ok {K : PySem.W.Frag} : MtS K Cl (mL gRem) (rRem K) := mL_ok fun a ds vs H ro s Q p xs ys us d hp hg g1 g2 r2 rh z fin => by
  match ds, z, r2 with
  | [e], z, r2 =>
    obtain ⟨v, rfl, rv⟩ := r2.one
    have z : (match toQ s e with
      | some p => match mapO (toQ s) xs with
        | some ps => match SeqAt.dataPlace ps p with
          | some j => if short zLine xs = true then some (D.non, xs.eraseIdx j) else none
          | none => none
        | none => none
      | none => none) = some (d, ys) := z
    cases z1 : toQ s e with
    | none => rw [z1] at z; cases z
    | some pd =>
      rw [z1] at z
      have z : (match mapO (toQ s) xs with
        | some ps => match SeqAt.dataPlace ps pd with
          | some j => if short zLine xs = true then some (D.non, xs.eraseIdx j) else none
          | none => none
        | none => none) = some (d, ys) := z
      cases z2 : mapO (toQ s) xs with
      | none => rw [z2] at z; cases z
      | some ps =>
        rw [z2] at z
        have z : (match SeqAt.dataPlace ps pd with
          | some j => if short zLine xs = true then some (D.non, xs.eraseIdx j) else none
          | none => none) = some (d, ys) := z
        cases z3 : SeqAt.dataPlace ps pd with
        | none => rw [z3] at z; cases z
        | some j =>
          rw [z3] at z
          have z : (if short zLine xs = true then some (D.non, xs.eraseIdx j) else none) = some (d, ys) := z
          by_cases hs : short zLine xs = true
          · rw [if_pos hs] at z
            cases z
            obtain ⟨a1, a2, a3⟩ := toP_ok rh _ _ _ _ rv z1
            obtain ⟨b1, b2, b3⟩ := toPs_ok (fun d v p => toP_ok rh dDeep d v p) xs us ps g2 z2
            exact ⟨a, us, v, ps, pd, j, rfl, rfl, g1, b1, a1, b3, a3, a2, z3, fin .non _ .non (g2.eraseIdx j)⟩
          · rw [if_neg hs] at z; cases z
theorem s_remove {o : Expr} {fo : SE} {apos cpos : Pos} (hu : X.A.units + 64 < cLine) (ho : PE X o (rdE X.K Cl W fo)) (ha : PA X [e] (rdA X.K Cl W fs)) (hbase : attributeBase o "remove" X.env (eval o X.env) = eval o X.env) (hs : starEach [e] X.env = [(false, eval e X.env)]) (hline : (apos.endLine == cpos.line) = true) :
    PE X (.Call (.Attribute o "remove" apos) [e] [] cpos) (rdE X.K Cl W (cM (mL gRem) fo fs)) :=
  s_m F.slot_list_remove F.type_list_remove (mt_rem hu) mRem_ok ho ha hbase (by rw [hs]; rfl) hline hs rfl
end
end Ev
set_option maxHeartbeats 2000000
namespace Ev
open PySem PySem.Spec PyProof.Rows L2
open Sem (wp)
/-! ### list(zip(a, b)): the pairs are kept -/
theorem zip_nolen : typeLookup (.type "zip") "__len__" = pure none := by rw [typeLookup_type, builtinLookup_eq_fast]; kernel_rfl
theorem zip_nohint : typeLookup (.type "zip") "__length_hint__" = pure none := by rw [typeLookup_type, builtinLookup_eq_fast]; kernel_rfl
section
variable {prog : Program} {w : World} {A : Around} {E : Value → Shared → Prop} {s : Shared}
variable {z TI TO i1 i2 : Addr} {fp1 fp2 : List Addr} {n1 n2 i : Nat} {P1 P2 : Nat → Value → Prop} {St1 St2 : Nat → Heap → Prop} {T : Addr} {fl : Bool} {oT : Obj}
/-- the next pair, the last one still held -/
theorem zipH_item {Q : Value → Shared → Prop} (S : ZipSep2 z TI TO i1 i2 fp1 fp2) (D1 : Draws prog w A i1 fp1 n1 P1 St1) (D2 : Draws prog w A i2 fp2 n2 P2 St2) (hz : PySem.IsZipHeld s.heap z TI TO T fl) (hT : s.heap.get? T = some oT)
    (hTI : IsTupOf2 s.heap TI (.ref i1) (.ref i2)) (st1 : St1 i s.heap) (st2 : St2 i s.heap) (lt1 : i < n1) (lt2 : i < n2)
    (fin : ∀ x1 x2 h' tk, P1 i x1 → P2 i x2 → PySem.IsZipHeld h' z TI TO T true → St1 (i + 1) h' → St2 (i + 1) h' → IsTupOf2 h' s.heap.objs.size x1 x2 →
      (∀ c o, c ≠ z → c ≠ i1 → c ≠ i2 → s.heap.get? c = some o → h'.get? c = some o) → Q (.ref s.heap.objs.size) { s with heap := h', toks := tk }) :
    wpAny (model prog w) A (Builtin.«zip.__next__» ⟨[.ref z], []⟩) (fun fin s' => ∃ v, fin = .done (.ret v) ∧ Q v s') E s := by
  obtain ⟨hp, g, d, t0, os⟩ := s
  show wpAny _ _ (field (.ref z) 2 >>= _) _ _ _
  refine wpAny_bind (wpAny_field hz rfl (x := .bool false) rfl ?_)
  show wpAny _ _ (field (.ref z) 3 >>= _) _ _ _
  refine wpAny_bind (wpAny_field hz rfl (x := .ref TI) rfl ?_)
  refine wpAny_bind (wpAny_seqItems hTI rfl ?_)
  show wpAny _ _ (Builtin.SmallTypes.ownedTupleIsFree (.ref z) >>= _) _ _ _
  refine wpAny_bind (wpAny_tupleHeld_zip hz hT fun p0 hz0 ks0 => ?_)
  replace ks0 : Heap.SameBut z hp p0 := ks0
  simp only [Bool.false_eq_true, if_false]
  refine wpAny_bind ?_
  rw [← Array.forIn_toList]
  simp only [List.forIn_cons, List.forIn_nil]
  refine wpAny_bind (wpAny_bind (wpAny_holding ?_))
  show wpAny _ _ (Builtin.SmallTypes.nextOf (.ref i1) >>= _) _ _ ⟨p0, g, d, t0, os⟩
  refine wpAny_bind (D1.item i _ _ _ lt1 (D1.over st1 ks0 S.zf1) fun x1 p1 t1 e1 sn1 ks1 => wpAny_pure ?_)
  replace ks1 : Heap.SameBut i1 p0 p1 := ks1
  refine wpAny_pure ?_
  refine wpAny_bind (wpAny_bind (wpAny_holding ?_))
  show wpAny _ _ (Builtin.SmallTypes.nextOf (.ref i2) >>= _) _ _ ⟨p1, g, d, t1, os⟩
  refine wpAny_bind (D2.item i _ _ _ lt2 (D2.over (D2.over st2 ks0 S.zf2) ks1 S.sep1_2) fun x2 p2 t2 e2 sn2 ks2 => wpAny_pure ?_)
  replace ks2 : Heap.SameBut i2 p1 p2 := ks2
  refine wpAny_pure (wpAny_pure ?_)
  show wpAny _ _ (newTuple [x1, x2] >>= _) _ _ ⟨p2, g, d, t2, os⟩
  refine wpAny_bind (wpAny_newTuple ?_)
  have sz : p2.objs.size = hp.objs.size := by rw [ks2.1, ks1.1, ks0.1]
  have hz2 : PySem.IsZipHeld p2 z TI TO T true := ks2.extBut _ _ S.zi2 (ks1.extBut _ _ S.zi1 hz0)
  have old : ∀ c o, c ≠ z → c ≠ i1 → c ≠ i2 → hp.get? c = some o → p2.get? c = some o := fun c o c0 c1 c2 e => ks2.extBut _ _ c2 (ks1.extBut _ _ c1 (ks0.extBut _ _ c0 e))
  refine wpAny_pure ⟨_, rfl, ?_⟩
  show Q (.ref p2.objs.size) ⟨p2.push { cls := .type "tuple", data := .seq #[x1, x2] }, g, d, t2, os⟩
  have hp2 : IsTupOf2 (p2.push { cls := .type "tuple", data := .seq #[x1, x2] }) p2.objs.size x1 x2 := Heap.get?_push_size _ rfl
  rw [sz] at hp2 ⊢
  have up : ∀ c o, p2.get? c = some o → (p2.push { cls := .type "tuple", data := .seq #[x1, x2] }).get? c = some o := fun c o e => Heap.get?_push_of_some _ e
  exact fin x1 x2 _ t2 e1 e2 (up _ _ hz2) (D1.frame _ _ _ (D1.over sn1 ks2 S.sep2_1) fun b _ o e => up b o e) (D2.frame _ _ _ sn2 fun b _ o e => up b o e) hp2 fun c o c0 c1 c2 e => up c o (old c o c0 c1 c2 e)
theorem zipH_end {Q : Fin → Shared → Prop} (S : ZipSep2 z TI TO i1 i2 fp1 fp2) (D1 : Draws prog w A i1 fp1 n1 P1 St1) (D2 : Draws prog w A i2 fp2 n2 P2 St2) (hz : PySem.IsZipHeld s.heap z TI TO T fl) (hT : s.heap.get? T = some oT)
    (hTI : IsTupOf2 s.heap TI (.ref i1) (.ref i2)) (st1 : St1 i s.heap) (st2 : St2 i s.heap) (le1 : i ≤ n1) (le2 : i ≤ n2) (he : i = n1 ∨ i = n2)
    (fin : ∀ h' tk e, (∀ c o, c ≠ z → c ≠ i1 → c ≠ i2 → s.heap.get? c = some o → h'.get? c = some o) → (∃ o, h'.get? e = some o ∧ o.cls = .type "StopIteration") → E (.ref e) { s with heap := h', toks := tk }) :
    wpAny (model prog w) A (Builtin.«zip.__next__» ⟨[.ref z], []⟩) Q E s := by
  obtain ⟨hp, g, d, t0, os⟩ := s
  show wpAny _ _ (field (.ref z) 2 >>= _) _ _ _
  refine wpAny_bind (wpAny_field hz rfl (x := .bool false) rfl ?_)
  show wpAny _ _ (field (.ref z) 3 >>= _) _ _ _
  refine wpAny_bind (wpAny_field hz rfl (x := .ref TI) rfl ?_)
  refine wpAny_bind (wpAny_seqItems hTI rfl ?_)
  show wpAny _ _ (Builtin.SmallTypes.ownedTupleIsFree (.ref z) >>= _) _ _ _
  refine wpAny_bind (wpAny_tupleHeld_zip hz hT fun p0 hz0 ks0 => ?_)
  replace ks0 : Heap.SameBut z hp p0 := ks0
  simp only [Bool.false_eq_true, if_false]
  refine wpAny_bind ?_
  rw [← Array.forIn_toList]
  simp only [List.forIn_cons, List.forIn_nil]
  refine wpAny_bind (wpAny_bind (wpAny_holding ?_))
  show wpAny _ _ (Builtin.SmallTypes.nextOf (.ref i1) >>= _) _ _ ⟨p0, g, d, t0, os⟩
  by_cases c1 : i = n1
  · subst c1
    refine wpAny_bind (D1.done _ _ _ (D1.over st1 ks0 S.zf1) fun p1 e kx ho => ?_)
    exact fin p1 t0 e (fun c o a b _ q => kx _ _ b (ks0.extBut _ _ a q)) ho
  · have c2 : i = n2 := he.resolve_left c1
    subst c2
    refine wpAny_bind (D1.item i _ _ _ (by omega) (D1.over st1 ks0 S.zf1) fun x1 p1 t1 e1 sn1 ks1 => wpAny_pure ?_)
    replace ks1 : Heap.SameBut i1 p0 p1 := ks1
    refine wpAny_pure ?_
    refine wpAny_bind (wpAny_bind (wpAny_holding ?_))
    show wpAny _ _ (Builtin.SmallTypes.nextOf (.ref i2) >>= _) _ _ ⟨p1, g, d, t1, os⟩
    refine wpAny_bind (D2.done ⟨p1, g, d, t1, os⟩ _ _ (D2.over (D2.over st2 ks0 S.zf2) ks1 S.sep1_2) fun p2 e kx ho => ?_)
    exact fin p2 t1 e (fun c o a b b2 q => kx _ _ b2 (ks1.extBut _ _ b (ks0.extBut _ _ a q))) ho
end
section
variable {prog : Program} {w : World} {A : Around} {E : Value → Shared → Prop} {s : Shared}
variable {k1 k2 : Sk} {z TI TO i1 i2 a1 a2 : Addr} {i : Nat} {its1 its2 : Array Value}
/-- a zip that hands out pairs which are kept: L may be written -/
structure ZHeld (h : Heap) (k1 k2 : Sk) (z TI TO i1 i2 a1 a2 L : Addr) (its1 its2 : Array Value) (i : Nat) : Prop where
  tI : IsTupOf2 h TI (.ref i1) (.ref i2)
  tO : ∃ o, h.get? TO = some o
  j1 : ItA h k1 i1 a1 i
  j2 : ItA h k2 i2 a2 i
  g1 : SqA h k1 a1 its1
  g2 : SqA h k2 a2 its2
  zz : (IsZipG false h z TI TO .none ∧ ∃ x y, IsTupOf2 h TO x y) ∨ ∃ T f oT, PySem.IsZipHeld h z TI TO T f ∧ h.get? T = some oT ∧ T ≠ z ∧ T ≠ i1 ∧ T ≠ i2 ∧ T ≠ L
theorem ZHeld.keep {h h' : Heap} {L : Addr} (Z : ZHeld h k1 k2 z TI TO i1 i2 a1 a2 L its1 its2 i) (n : ∀ b ∈ [z, TI, TO, i1, i2, a1, a2], b ≠ L) (kp : ∀ b o, b ≠ L → h.get? b = some o → h'.get? b = some o) : ZHeld h' k1 k2 z TI TO i1 i2 a1 a2 L its1 its2 i := by
  refine ⟨kp _ _ (n TI (by simp)) Z.tI, Z.tO.imp fun o e => kp _ _ (n TO (by simp)) e, Z.j1.at fun o e => kp _ _ (n i1 (by simp)) e, Z.j2.at fun o e => kp _ _ (n i2 (by simp)) e, Z.g1.at fun o e => kp _ _ (n a1 (by simp)) e, Z.g2.at fun o e => kp _ _ (n a2 (by simp)) e, ?_⟩
  rcases Z.zz with ⟨q, x, y, r⟩ | ⟨T, f, oT, q, r, n1, n2, n3, n4⟩
  · exact .inl ⟨kp _ _ (n z (by simp)) q, x, y, kp _ _ (n TO (by simp)) r⟩
  · exact .inr ⟨T, f, oT, kp _ _ (n z (by simp)) q, kp _ _ n4 r, n1, n2, n3, n4⟩
theorem zheld_item {L : Addr} {Q : Option Value → Shared → Prop} (hh : A.handled = none) (S : ZSep z TI TO i1 i2 a1 a2) (m1 : a1 ≠ i1) (m2 : a2 ≠ i2) (nL : ∀ b ∈ [z, TI, TO, i1, i2, a1, a2], b ≠ L) (hL : L < s.heap.objs.size)
    (Z : ZHeld s.heap k1 k2 z TI TO i1 i2 a1 a2 L its1 its2 i) (l1 : i < its1.size) (l2 : i < its2.size)
    (fin : ∀ h' tk, ZHeld h' k1 k2 z TI TO i1 i2 a1 a2 L its1 its2 (i + 1) → IsTupOf2 h' s.heap.objs.size (its1[i]'l1) (its2[i]'l2) → (∀ c o, c ≠ z → c ≠ TO → c ≠ i1 → c ≠ i2 → s.heap.get? c = some o → h'.get? c = some o) →
      Q (some (.ref s.heap.objs.size)) { s with heap := h', toks := tk }) : wpAny (model prog w) A (pyNext (.ref z)) Q E s := by
  have n1 : s.heap.objs.size ≠ i1 := Nat.ne_of_gt Z.j1.live
  have n2 : s.heap.objs.size ≠ i2 := Nat.ne_of_gt Z.j2.live
  have x1 : its1[i]? = some (its1[i]'l1) := Array.getElem?_eq_getElem l1
  have x2 : its2[i]? = some (its2[i]'l2) := Array.getElem?_eq_getElem l2
  rcases Z.zz with ⟨hz, x, y, hTO⟩ | ⟨T, f, oT, hz, hT, r1, r2, r3, r4⟩
  · have zl : z < s.heap.objs.size := Heap.lt_size hz
    refine zipG_item (b := false) hh S m1 m2 hz Z.tI hTO Z.j1 Z.j2 Z.g1 Z.g2 x1 x2 fun h' tk q1 q2 q3 q4 q5 kp => fin h' tk ⟨?_, ⟨_, q2⟩, q3, q4, ?_, ?_, .inr ⟨s.heap.objs.size, false, _, q1, q5, Nat.ne_of_gt zl, n1, n2, Nat.ne_of_gt hL⟩⟩ q5 kp
    · exact kp _ _ S.TIz S.TITO S.TIi1 S.TIi2 Z.tI
    · refine Z.g1.at fun o e => kp _ _ (fun q => S.zf1 (by rw [← q]; simp)) (fun q => S.Tf1 (by rw [← q]; simp)) m1 (fun q => S.sep2_1 (by rw [← q]; simp)) e
    · refine Z.g2.at fun o e => kp _ _ (fun q => S.zf2 (by rw [← q]; simp)) (fun q => S.Tf2 (by rw [← q]; simp)) (fun q => S.sep1_2 (by rw [← q]; simp)) m2 e
  · have hTy : s.TypeIs (.ref z) "zip" := ⟨_, hz, rfl⟩
    have D1 := drawsK (prog := prog) (w := w) (A := A.in1) hh k1 i1 a1 m1 its1
    have D2 := drawsK (prog := prog) (w := w) (A := A.in1) hh k2 i2 a2 m2 its2
    unfold pyNext
    refine wpAny_bind (wpAny_attempt (wpAny_callSpecial?_slot (name := Str.ofString "__next__") hTy F.slot_zip_next (wpAny_call_entry F.slot_zip_next hTy F.entry_zip_next ?_ (F.args_zip_next_1 _))))
    refine zipH_item S D1 D2 hz hT Z.tI ⟨Z.j1, Z.g1⟩ ⟨Z.j2, Z.g2⟩ l1 l2 fun y1 y2 h' tk e1 e2 q1 q3 q4 q5 kp => wpAny_pure ?_
    rw [x1] at e1; rw [x2] at e2
    cases e1; cases e2
    refine fin h' tk ⟨?_, Z.tO.imp fun o e => kp _ _ S.TOz S.Ti1 S.Ti2 e, q3.1, q4.1, q3.2, q4.2, .inr ⟨T, true, oT, q1, kp _ _ r1 r2 r3 hT, r1, r2, r3, r4⟩⟩ q5 fun c o c0 _ c1 c2 e => kp c o c0 c1 c2 e
    exact kp _ _ S.TIz S.TIi1 S.TIi2 Z.tI
theorem zheld_end {L : Addr} {Q : Option Value → Shared → Prop} (hh : A.handled = none) (S : ZSep z TI TO i1 i2 a1 a2) (m1 : a1 ≠ i1) (m2 : a2 ≠ i2)
    (Z : ZHeld s.heap k1 k2 z TI TO i1 i2 a1 a2 L its1 its2 i) (l1 : i ≤ its1.size) (l2 : i ≤ its2.size) (he : i = its1.size ∨ i = its2.size)
    (fin : ∀ h' tk, (∀ c o, c ≠ z → c ≠ TO → c ≠ i1 → c ≠ i2 → s.heap.get? c = some o → h'.get? c = some o) → Q none { s with heap := h', toks := tk }) : wpAny (model prog w) A (pyNext (.ref z)) Q E s := by
  rcases Z.zz with ⟨hz, x, y, hTO⟩ | ⟨T, f, oT, hz, hT, r1, r2, r3, r4⟩
  · exact zipG_end (b := false) hh S m1 m2 hz Z.tI hTO Z.j1 Z.j2 Z.g1 Z.g2 (show i ≤ its1.size ∧ i ≤ its2.size ∧ (i = its1.size ∨ i = its2.size) from ⟨l1, l2, he⟩) fin
  · have hTy : s.TypeIs (.ref z) "zip" := ⟨_, hz, rfl⟩
    have D1 := drawsK (prog := prog) (w := w) (A := A.in1) hh k1 i1 a1 m1 its1
    have D2 := drawsK (prog := prog) (w := w) (A := A.in1) hh k2 i2 a2 m2 its2
    unfold pyNext
    refine wpAny_bind (wpAny_attempt (wpAny_callSpecial?_slot (name := Str.ofString "__next__") hTy F.slot_zip_next (wpAny_call_entry F.slot_zip_next hTy F.entry_zip_next
      (zipH_end S D1 D2 hz hT Z.tI ⟨Z.j1, Z.g1⟩ ⟨Z.j2, Z.g2⟩ l1 l2 he fun h' tk e kp ho => ?_) (F.args_zip_next_1 _))))
    obtain ⟨o, ho, hc⟩ := ho
    exact wpAny_bind (wpAny_isInstance (T := "StopIteration") (b := true) ⟨o, ho, hc⟩ isSubtype_stop (wpAny_pure (fin _ _ fun c o c0 _ c1 c2 e => kp c o c0 c1 c2 e)))
/-- what was appended: pairs, in order -/
def PairsAt (h : Heap) (its1 its2 : Array Value) (acc : Array Value) (i : Nat) : Prop := acc.size = i ∧ ∀ j, j < i → ∃ T x y, acc[j]? = some (.ref T) ∧ its1[j]? = some x ∧ its2[j]? = some y ∧ IsTupOf2 h T x y
variable {R : Result → Shared → Prop}
theorem zl_loop {L : Addr} (hh : A.handled = none) (S : ZSep z TI TO i1 i2 a1 a2) (m1 : a1 ≠ i1) (m2 : a2 ≠ i2) (nL : ∀ b ∈ [z, TI, TO, i1, i2, a1, a2], b ≠ L) (hn : min its1.size its2.size ≤ sizeLine) (h0 : Heap) (res : Value)
    (fin : ∀ s' acc c, (∀ b o, b ∉ [z, TI, TO, i1, i2, L] → h0.get? b = some o → s'.heap.get? b = some o) → s'.heap.get? L = some { cls := .type "list", data := .seq acc c } → PairsAt s'.heap its1 its2 acc (min its1.size its2.size) → (∃ g d os, ∃ tk, s' = ⟨s'.heap, g, d, tk, os⟩ ∧ g = s.gens ∧ d = s.drawn ∧ os = s.os) → R (.ok (.ret res)) s') :
    ∀ (k i : Nat) (h : Heap) (tk : Nat) (acc : Array Value) (c : Nat), min its1.size its2.size - i = k → i ≤ min its1.size its2.size → ZHeld h k1 k2 z TI TO i1 i2 a1 a2 L its1 its2 i → h.get? L = some { cls := .type "list", data := .seq acc c } → PairsAt h its1 its2 acc i →
    (∀ b o, b ∉ [z, TI, TO, i1, i2, L] → h0.get? b = some o → h.get? b = some o) → (∀ T, (.ref T) ∈ acc.toList → T ∉ [z, TI, TO, i1, i2, L]) →
    codeAny (model prog w) A (.builtin "list.extend.loop" ⟨[.ref L, .ref z, res], []⟩) R { s with heap := h, toks := tk } := by
  intro k
  induction k with
  | zero =>
    intro i h tk acc c hk hi Z hl pa kp nin
    have e : i = min its1.size its2.size := by omega
    refine codeAny_builtin F.entry_extend_loop ?_
    rw [Around.under_plainId F.plain_extend_loop _]
    show wpAny _ A.in1 (pyNext (.ref z) >>= _) _ _ _
    refine wpAny_bind (zheld_end (s := { s with heap := h, toks := tk }) (A := A.in1) hh S m1 m2 Z (by omega) (by omega) (by omega) fun h' tk' kp' => wpAny_pure ?_)
    have live : ∀ c o, c ∉ [z, TI, TO, i1, i2, L] → h.get? c = some o → h'.get? c = some o := fun c o hc e => by
      simp only [List.mem_cons, List.not_mem_nil, or_false, not_or] at hc
      exact kp' c o hc.1 hc.2.2.1 hc.2.2.2.1 hc.2.2.2.2.1 e
    refine fin _ acc c (fun b o hb e => live b o hb (kp b o hb e)) (kp' L _ ?_ ?_ ?_ ?_ hl) ?_ ⟨s.gens, s.drawn, s.os, tk', rfl, rfl, rfl, rfl⟩
    · exact fun q => nL z (by simp) q.symm
    · exact fun q => nL TO (by simp) q.symm
    · exact fun q => nL i1 (by simp) q.symm
    · exact fun q => nL i2 (by simp) q.symm
    · rw [← e]
      refine ⟨pa.1, fun j hj => ?_⟩
      obtain ⟨T, x, y, q1, q2, q3, q4⟩ := pa.2 j hj
      exact ⟨T, x, y, q1, q2, q3, live T _ (nin T (Array.mem_toList_iff.mpr (Array.mem_of_getElem? q1))) q4⟩
  | succ k ih =>
    intro i h tk acc c hk hi Z hl pa kp nin
    have l1 : i < its1.size := by omega
    have l2 : i < its2.size := by omega
    refine codeAny_builtin F.entry_extend_loop ?_
    rw [Around.under_plainId F.plain_extend_loop _]
    show wpAny _ A.in1 (pyNext (.ref z) >>= _) _ _ _
    refine wpAny_bind (zheld_item (s := { s with heap := h, toks := tk }) (A := A.in1) hh S m1 m2 nL (Heap.lt_size hl) Z l1 l2 fun h' tk' Z' tp kp' => ?_)
    have live : ∀ c o, c ∉ [z, TI, TO, i1, i2, L] → h.get? c = some o → h'.get? c = some o := fun c o hc e => by
      simp only [List.mem_cons, List.not_mem_nil, or_false, not_or] at hc
      exact kp' c o hc.1 hc.2.2.1 hc.2.2.2.1 hc.2.2.2.2.1 e
    have hl' : h'.get? L = some { cls := .type "list", data := .seq acc c } := kp' L _ (fun q => nL z (by simp) q.symm) (fun q => nL TO (by simp) q.symm) (fun q => nL i1 (by simp) q.symm) (fun q => nL i2 (by simp) q.symm) hl
    have nT : h.objs.size ∉ [z, TI, TO, i1, i2, L] := by
      have lt : ∀ {c : Addr} {o : Obj}, h.get? c = some o → h.objs.size ≠ c := fun e => Nat.ne_of_gt (Heap.lt_size e)
      have tz : h.objs.size ≠ z := by rcases Z.zz with ⟨q, _⟩ | ⟨_, _, _, q, _⟩ <;> exact lt q
      have tO : h.objs.size ≠ TO := by
        obtain ⟨o, q⟩ := Z.tO
        exact lt q
      simp only [List.mem_cons, List.not_mem_nil, or_false, not_or]
      exact ⟨tz, lt Z.tI, tO, Nat.ne_of_gt Z.j1.live, Nat.ne_of_gt Z.j2.live, lt hl⟩
    show wpAny _ A.in1 (updateSeq L (·.push (.ref h.objs.size)) >>= _) _ _ { s with heap := h', toks := tk' }
    refine wpAny_bind (wpAny_updateSeq hl' rfl (wpAny_pure ⟨plainId_quiet F.plain_extend_loop _, ?_⟩) (by rw [pa.1]; omega) (by show (acc.push _).size ≤ sizeLine + 1; rw [Array.size_push, pa.1]; omega))
    have oth : ∀ b o, b ≠ L → h'.get? b = some o → (h'.update L (Obj.mapSeq (·.push (.ref h.objs.size)))).get? b = some o := fun b o hb e => (Heap.get?_update_other _ _ (Ne.symm hb)).trans e
    refine ih (i + 1) _ tk' (acc.push (.ref h.objs.size)) _ (by omega) (by omega) (Z'.keep nL oth) (Heap.get?_update_self _ hl' rfl) ⟨by rw [Array.size_push, pa.1], fun j hj => ?_⟩ (fun b o hb e => ?_) fun T hT => ?_
    · rw [Array.getElem?_push, pa.1]
      by_cases q : j = i
      · subst q
        rw [if_pos rfl]
        refine ⟨h.objs.size, _, _, rfl, Array.getElem?_eq_getElem l1, Array.getElem?_eq_getElem l2, oth _ _ (fun q => nT (by rw [q]; simp)) tp⟩
      · rw [if_neg q]
        obtain ⟨T, x, y, q1, q2, q3, q4⟩ := pa.2 j (by omega)
        have hn := nin T (Array.mem_toList_iff.mpr (Array.mem_of_getElem? q1))
        exact ⟨T, x, y, q1, q2, q3, oth _ _ (fun q => hn (by rw [q]; simp)) (live T _ hn q4)⟩
    · exact oth _ _ (fun q => hb (by rw [q]; simp)) (live b o hb (kp b o hb e))
    · rw [Array.toList_push, List.mem_append] at hT
      rcases hT with hT | hT
      · exact nin T hT
      · simp only [List.mem_singleton] at hT
        cases hT
        exact nT
end
end Ev
set_option maxHeartbeats 2000000
namespace Ev
open PySem PySem.Spec PyProof.Rows L2
open Sem (wp)
section
variable {X : Cx} {pins : List (Addr × Obj)} {σ : L2.St} {A : Around} {R : Result → Shared → Prop}
variable {k1 k2 : Sk} {z TI TO i1 i2 a1 a2 : Addr} {its1 its2 : List Value} {xs ys : List V}
/-- pairs of the first i -/
def PairsH (H : Hp) (xs ys vs : List V) (i : Nat) : Prop := vs.length = i ∧ ∀ j, j < i → ∃ T x y, vs[j]? = some (.ref T) ∧ xs[j]? = some x ∧ ys[j]? = some y ∧ H T = some (.tup [x, y])
theorem zl_walk {L : Addr} (hh : A.handled = none) (S : ZSep z TI TO i1 i2 a1 a2) (m1 : a1 ≠ i1) (m2 : a2 ≠ i2) (nL : ∀ b ∈ [z, TI, TO, i1, i2, a1, a2], b ≠ L) (r1 : Vals xs its1) (r2 : Vals ys its2) (hn : min xs.length ys.length ≤ zLine) (H0 : Hp) (res : Value)
    (fin : ∀ s' H' vs, Inv X pins σ H' s' → Same H0 H' → H' L = some (.lst vs) → PairsH H' xs ys vs (min xs.length ys.length) → R (.ok (.ret res)) s') :
    ∀ (k i : Nat) (s : Shared) (H : Hp) (vs : List V), min xs.length ys.length - i = k → i ≤ min xs.length ys.length → Inv X pins σ H s → (∀ b ∈ [z, TI, TO, i1, i2], FpOk X pins H b) → ZHeld s.heap k1 k2 z TI TO i1 i2 a1 a2 L its1.toArray its2.toArray i →
    H L = some (.lst vs) → Same H0 H → H0 L = none → PairsH H xs ys vs i →
    codeAny (model X.prog X.w) A (.builtin "list.extend.loop" ⟨[.ref L, .ref z, res], []⟩) R s := by
  have e1 := r1.length
  have e2 := r2.length
  intro k
  induction k with
  | zero =>
    intro i s H vs hk hi I fp Z hl sm h0 ph
    have e : i = min xs.length ys.length := by omega
    refine codeAny_builtin F.entry_extend_loop ?_
    rw [Around.under_plainId F.plain_extend_loop _]
    show wpAny _ A.in1 (pyNext (.ref z) >>= _) _ _ _
    refine wpAny_bind (zheld_end (A := A.in1) hh S m1 m2 Z (by simp; omega) (by simp; omega) (by simp; omega) fun h' tk' kp => wpAny_pure ?_)
    have I1 : Inv X pins σ H { s with heap := h', toks := tk' } := I.turnedL (ch := [z, TI, TO, i1, i2]) (fun b o hb q => kp b o (fun w => hb (by simp [w])) (fun w => hb (by simp [w])) (fun w => hb (by simp [w])) (fun w => hb (by simp [w])) q) fp
    rw [← e] at fin
    exact fin _ H vs I1 sm hl ph
  | succ k ih =>
    intro i s H vs hk hi I fp Z hl sm h0 ph
    have l1 : i < its1.toArray.size := by simp; omega
    have l2 : i < its2.toArray.size := by simp; omega
    obtain ⟨lz, lit, ln, lr, ll, lo⟩ := I.lstM hl
    refine codeAny_builtin F.entry_extend_loop ?_
    rw [Around.under_plainId F.plain_extend_loop _]
    show wpAny _ A.in1 (pyNext (.ref z) >>= _) _ _ _
    refine wpAny_bind (zheld_item (A := A.in1) hh S m1 m2 nL (Heap.lt_size lo) Z l1 l2 fun h' tk' Z' tp kp => ?_)
    have ks : ∀ b o, b ∉ [z, TI, TO, i1, i2] → s.heap.get? b = some o → h'.get? b = some o := fun b o hb q => kp b o (fun w => hb (by simp [w])) (fun w => hb (by simp [w])) (fun w => hb (by simp [w])) (fun w => hb (by simp [w])) q
    obtain ⟨x, hx, rx⟩ : ∃ x, xs[i]? = some x ∧ RelV x (its1.toArray[i]'l1) := by
      have : i < xs.length := by omega
      obtain ⟨u, hu, ru⟩ := r1.get (List.getElem?_eq_getElem this)
      refine ⟨_, List.getElem?_eq_getElem this, ?_⟩
      have : its1.toArray[i]'l1 = u := by
        have q : its1[i]? = some u := hu
        rw [List.getElem?_eq_getElem (by simpa using l1)] at q
        simpa using Option.some.inj q
      rw [this]; exact ru
    obtain ⟨y, hy, ry⟩ : ∃ y, ys[i]? = some y ∧ RelV y (its2.toArray[i]'l2) := by
      have : i < ys.length := by omega
      obtain ⟨u, hu, ru⟩ := r2.get (List.getElem?_eq_getElem this)
      refine ⟨_, List.getElem?_eq_getElem this, ?_⟩
      have : its2.toArray[i]'l2 = u := by
        have q : its2[i]? = some u := hu
        rw [List.getElem?_eq_getElem (by simpa using l2)] at q
        simpa using Option.some.inj q
      rw [this]; exact ru
    have new : ObjOk X.prog X.w (upd H s.heap.objs.size (.tup [x, y])) h' s.heap.objs.size (.tup [x, y]) := ⟨by show 2 ≤ sizeLine; decide, [_, _], .cons rx (.cons ry .nil), ⟨_, tp, rfl, _, rfl⟩⟩
    have hT : H s.heap.objs.size = none := I.hok.fresh (Nat.le_refl _)
    have I1 : Inv X pins σ (upd H s.heap.objs.size (.tup [x, y])) { s with heap := h', toks := tk' } := I.turnedNew (ch := [z, TI, TO, i1, i2]) ks fp (Nat.le_refl _) new
    have nT : L ≠ s.heap.objs.size := Nat.ne_of_lt (Heap.lt_size lo)
    have hl1 : (upd H s.heap.objs.size (.tup [x, y])) L = some (.lst vs) := by rw [upd_ne nT]; exact hl
    obtain ⟨_, lit', ln', lr', ll', lo'⟩ := I1.lstM hl1
    have lo' : h'.get? L = some { cls := .type "list", data := .seq lit'.toArray ln' } := lo'
    show wpAny _ A.in1 (updateSeq L (·.push (.ref s.heap.objs.size)) >>= _) _ _ { s with heap := h', toks := tk' }
    have pl := ph.1
    have zl : zLine ≤ sizeLine := by decide
    have q1 : lit'.toArray.size ≤ sizeLine := by rw [List.size_toArray]; omega
    have q2 : (lit'.toArray.push (Value.ref s.heap.objs.size)).size ≤ sizeLine + 1 := by rw [Array.size_push]; omega
    have q3 : (vs ++ [V.ref s.heap.objs.size]).length ≤ sizeLine := by rw [List.length_append, List.length_singleton]; omega
    refine wpAny_bind (wpAny_updateSeq lo' rfl (wpAny_pure ⟨plainId_quiet F.plain_extend_loop _, ?_⟩) q1 q2)
    have I2 : Inv X pins σ (upd (upd H s.heap.objs.size (.tup [x, y])) L (.lst (vs ++ [.ref s.heap.objs.size]))) { s with heap := h'.update L (Obj.mapSeq (·.push (.ref s.heap.objs.size))), toks := tk' } :=
      I1.lset (t' := tk') (its' := lit' ++ [.ref s.heap.objs.size]) hl1 lo' (by simp) (lr'.append (.cons (show RelV (V.ref s.heap.objs.size) (Value.ref s.heap.objs.size) from rfl) .nil)) q3
    have oth : ∀ b o, b ≠ L → h'.get? b = some o → (h'.update L (Obj.mapSeq (·.push (.ref s.heap.objs.size)))).get? b = some o := fun b o hb e => (Heap.get?_update_other _ _ (Ne.symm hb)).trans e
    have sm' : Same H0 (upd (upd H s.heap.objs.size (.tup [x, y])) L (.lst (vs ++ [.ref s.heap.objs.size]))) := fun b o e => by
      have nb : b ≠ L := fun w => by rw [w, h0] at e; cases e
      have q := sm b o e
      rw [upd_ne nb, upd_ne (fun w => by rw [w, hT] at q; cases q)]
      exact q
    refine ih (i + 1) _ _ _ (by omega) (by omega) I2 (fun b hb => ?_) (Z'.keep nL oth) (upd_same ..) sm' h0 ⟨by rw [List.length_append, pl]; rfl, fun j hj => ?_⟩
    · obtain ⟨f0, fr⟩ := fp b hb
      have nb : b ≠ L := nL b (by simp only [List.mem_cons, List.not_mem_nil, or_false] at hb ⊢; rcases hb with q | q | q | q | q <;> simp [q])
      have nb2 : b ≠ s.heap.objs.size := by
        have lt : ∀ {c : Addr} {o : Obj}, s.heap.get? c = some o → c ≠ s.heap.objs.size := fun e => Nat.ne_of_lt (Heap.lt_size e)
        simp only [List.mem_cons, List.not_mem_nil, or_false] at hb
        rcases hb with q | q | q | q | q <;> subst q
        · rcases Z.zz with ⟨q, _⟩ | ⟨_, _, _, q, _⟩ <;> exact lt q
        · exact lt Z.tI
        · obtain ⟨o, q⟩ := Z.tO; exact lt q
        · exact Nat.ne_of_lt Z.j1.live
        · exact Nat.ne_of_lt Z.j2.live
      exact ⟨by rw [upd_ne nb, upd_ne nb2]; exact f0, fr⟩
    · by_cases q : j = i
      · subst q
        refine ⟨s.heap.objs.size, x, y, ?_, hx, hy, ?_⟩
        · rw [List.getElem?_append_right (by omega), pl]; simp
        · rw [upd_ne (Ne.symm nT), upd_same]
      · obtain ⟨T, x', y', q1, q2, q3, q4⟩ := ph.2 j (by omega)
        refine ⟨T, x', y', ?_, q2, q3, ?_⟩
        · rw [List.getElem?_append_left (by omega)]; exact q1
        · have n1 : T ≠ L := fun w => by rw [w, hl] at q4; cases q4
          have n2 : T ≠ s.heap.objs.size := fun w => by rw [w, hT] at q4; cases q4
          rw [upd_ne n1, upd_ne n2]; exact q4
/-- list(z) of a zip just made -/
theorem zl_call {s : Shared} {H : Hp} {E : Value → Shared → Prop} {Q : Value → Shared → Prop} (hh : A.handled = none) (I : Inv X pins σ H s) (S : ZSep z TI TO i1 i2 a1 a2) (m1 : a1 ≠ i1) (m2 : a2 ≠ i2) (r1 : Vals xs its1) (r2 : Vals ys its2) (hn : min xs.length ys.length ≤ zLine)
    (fp : ∀ b ∈ [z, TI, TO, i1, i2], FpOk X pins H b) (hz : IsZipG false s.heap z TI TO .none) (hTI : IsTupOf2 s.heap TI (.ref i1) (.ref i2)) (hTO : ∃ x y, IsTupOf2 s.heap TO x y) (j1 : ItA s.heap k1 i1 a1 0) (j2 : ItA s.heap k2 i2 a2 0)
    (g1 : SqA s.heap k1 a1 its1.toArray) (g2 : SqA s.heap k2 a2 its2.toArray)
    (fin : ∀ L s' H' vs, H L = none → Inv X pins σ H' s' → Same H H' → H' L = some (.lst vs) → PairsH H' xs ys vs (min xs.length ys.length) → Q (.ref L) s') : wpAny (model X.prog X.w) A (call (.type "list") [.ref z]) Q E s := by
  have nS : ∀ b ∈ [z, TI, TO, i1, i2, a1, a2], b ≠ s.heap.objs.size := fun b hb => by
    simp only [List.mem_cons, List.not_mem_nil, or_false] at hb
    rcases hb with q | q | q | q | q | q | q <;> subst q
    · exact Nat.ne_of_lt (Heap.lt_size hz)
    · exact Nat.ne_of_lt (Heap.lt_size hTI)
    · obtain ⟨x, y, q⟩ := hTO; exact Nat.ne_of_lt (Heap.lt_size q)
    · exact Nat.ne_of_lt j1.live
    · exact Nat.ne_of_lt j2.live
    · exact Nat.ne_of_lt g1.lt
    · exact Nat.ne_of_lt g2.lt
  have hL : H s.heap.objs.size = none := I.hok.fresh (Nat.le_refl _)
  refine callType_codes (Q₁ := fun obj s1 => obj = .ref s.heap.objs.size ∧ s1 = { s with heap := s.heap.push { cls := .type "list", data := .seq #[] } }) F.called_list (F.typeCall_list_1 _) F.entry_list_init (code_list_new _ ⟨rfl, rfl⟩) fun obj s1 h1 => ?_
  obtain ⟨rfl, rfl⟩ := h1
  have h0 : (s.heap.push { cls := .type "list", data := .seq #[] }).get? s.heap.objs.size = some { cls := .type "list", data := .seq ([] : List Value).toArray } := Heap.get?_push_size _ rfl
  refine ⟨⟨_, h0, rfl⟩, F.args_list_init_2 _ _, ?_⟩
  have I1 : Inv X pins σ (upd H s.heap.objs.size (.lst [])) { s with heap := s.heap.push { cls := .type "list", data := .seq #[] } } := I.lnew (its := []) .nil (Nat.zero_le _)
  have Z1 : ZHeld (s.heap.push { cls := .type "list", data := .seq #[] }) k1 k2 z TI TO i1 i2 a1 a2 s.heap.objs.size its1.toArray its2.toArray 0 := by
    have up : ∀ b o, s.heap.get? b = some o → (s.heap.push { cls := .type "list", data := .seq #[] }).get? b = some o := fun b o e => Heap.get?_push_of_some _ e
    obtain ⟨x, y, q⟩ := hTO
    exact ⟨up _ _ hTI, ⟨_, up _ _ q⟩, j1.at fun o e => up _ _ e, j2.at fun o e => up _ _ e, g1.at fun o e => up _ _ e, g2.at fun o e => up _ _ e, .inl ⟨up _ _ hz, x, y, up _ _ q⟩⟩
  -- the old items are none
  show wpAny _ A.in1.in1 (do let old ← Builtin.List.listItems (.ref s.heap.objs.size); Builtin.List.listUpdate (.ref s.heap.objs.size) (fun _ => #[]); letGo old.toList.reverse; Builtin.List.listExtendWith (.ref s.heap.objs.size) (.ref z) .none) _ _ _
  refine wpAny_bind ?_
  unfold Builtin.List.listItems
  refine wpAny_bind (wpAny_seqItems h0 rfl (wpAny_pure ?_))
  show wpAny _ A.in1.in1 (updateSeq s.heap.objs.size (fun _ => #[]) >>= fun _ => letGo (#[] : Array Value).toList.reverse >>= fun _ => Builtin.List.listExtendWith (.ref s.heap.objs.size) (.ref z) .none) _ _ _
  refine wpAny_bind (wpAny_updateSeq h0 rfl ?_)
  have I2 := I1.lset (t' := s.toks) (its' := []) (f := fun _ => #[]) (ys := []) (upd_same ..) h0 rfl .nil (Nat.zero_le _)
  have oth : ∀ b o, b ≠ s.heap.objs.size → (s.heap.push { cls := .type "list", data := .seq #[] }).get? b = some o → ((s.heap.push { cls := .type "list", data := .seq #[] }).update s.heap.objs.size (Obj.mapSeq (fun _ => (#[] : Array Value)))).get? b = some o :=
    fun b o hb e => (Heap.get?_update_other _ _ (Ne.symm hb)).trans e
  have Z2 := Z1.keep nS oth
  refine wpAny_bind (wpAny_letGo ?_)
  have hTy : ({ s with heap := (s.heap.push { cls := .type "list", data := .seq #[] }).update s.heap.objs.size (Obj.mapSeq (fun _ => (#[] : Array Value))) } : Shared).TypeIs (.ref z) "zip" := ⟨_, oth _ _ (nS z (by simp)) (Heap.get?_push_of_some _ hz), rfl⟩
  have hz2 : IsZipG false ((s.heap.push { cls := .type "list", data := .seq #[] }).update s.heap.objs.size (Obj.mapSeq (fun _ => (#[] : Array Value)))) z TI TO .none := oth _ _ (nS z (by simp)) (Heap.get?_push_of_some _ hz)
  unfold Builtin.List.listExtendWith
  refine wpAny_bind (wpAny_typeOf hTy ?_)
  have c1 : Builtin.List.listSameRef (.ref s.heap.objs.size) (.ref z) = false := by simp [Builtin.List.listSameRef, Ne.symm (nS z (by simp))]
  have c2 : (Value.type "zip" == Value.type "list") = false := by decide
  have c3 : (Value.type "zip" == Value.type "tuple") = false := by decide
  simp only [c1, c2, c3, Bool.or_false, Bool.false_eq_true, if_false]
  refine wpAny_bind (zipG_iter hz2 (wpAny_bind (wpAny_holding ?_)))
  unfold Builtin.List.listLengthHint
  refine wpAny_bind (wpAny_specialOf hTy zip_nolen ?_)
  show wpAny _ A.in1.in1 (specialOf (Value.ref z) (Str.ofString "__length_hint__") >>= _) _ _ _
  refine wpAny_bind (wpAny_specialOf hTy zip_nohint ?_)
  refine wpAny_pure ?_
  have fpk : ∀ b ∈ [z, TI, TO, i1, i2], ∀ {H2 : Hp}, H2 b = none → FpOk X pins H2 b := fun b hb H2 q => ⟨q, (fp b hb).2⟩
  have nn : ∀ b ∈ [z, TI, TO, i1, i2], b ≠ s.heap.objs.size := fun b hb => nS b (by simp only [List.mem_cons, List.not_mem_nil, or_false] at hb ⊢; rcases hb with q | q | q | q | q <;> simp [q])
  rw [Bool.true_or, if_pos rfl]
  refine wpAny_bind (wpAny_rule (wpAny_bind ?_))
  show wpAny _ A.in1.in1 (updateSeq s.heap.objs.size (·.push .none) >>= fun _ => updateSeq s.heap.objs.size (·.pop)) _ _ _
  have h2 := Heap.get?_update_self (Obj.mapSeq (fun _ => (#[] : Array Value))) h0 rfl
  refine wpAny_bind (wpAny_updateSeq h2 rfl ?_)
  have I3 := I2.lset (t' := s.toks) (its := []) (its' := [Value.none]) (f := (·.push Value.none)) (ys := [V.non]) (upd_same ..) h2 rfl (.cons (show RelV V.non Value.none from rfl) .nil) (by show 1 ≤ sizeLine; decide)
  have h3 := Heap.get?_update_self (Obj.mapSeq (·.push Value.none)) h2 rfl
  refine wpAny_updateSeq h3 rfl ?_
  have I4 := I3.lset (t' := s.toks) (its := [Value.none]) (its' := []) (f := (·.pop)) (ys := []) (upd_same ..) h3 rfl .nil (Nat.zero_le _)
  have o3 : ∀ b o, b ≠ s.heap.objs.size → ((s.heap.push { cls := .type "list", data := .seq #[] }).update s.heap.objs.size (Obj.mapSeq (fun _ => (#[] : Array Value)))).get? b = some o →
      ((((s.heap.push { cls := .type "list", data := .seq #[] }).update s.heap.objs.size (Obj.mapSeq (fun _ => (#[] : Array Value)))).update s.heap.objs.size (Obj.mapSeq (·.push Value.none))).update s.heap.objs.size (Obj.mapSeq (·.pop))).get? b = some o :=
    fun b o hb e => (Heap.get?_update_other _ _ (Ne.symm hb)).trans ((Heap.get?_update_other _ _ (Ne.symm hb)).trans e)
  have Z4 := Z2.keep nS o3
  refine wpAny_pure ⟨plainId_quiet F.plain_extend_loop _, ?_⟩
  refine zl_walk (A := A.in1) hh S m1 m2 nS r1 r2 hn H .none (fun s' H' vs I' sm hl ph => ⟨rfl, fin s.heap.objs.size s' H' vs hL I' sm hl ph⟩) _ 0 _ _ [] rfl (Nat.zero_le _) I4 (fun b hb => fpk b hb ?_) Z4 (upd_same ..) (fun b o e => ?_) hL ⟨rfl, fun j hj => absurd hj (Nat.not_lt_zero _)⟩
  · rw [upd_ne (nn b hb), upd_ne (nn b hb), upd_ne (nn b hb), upd_ne (nn b hb)]
    exact (fp b hb).1
  · have nb : b ≠ s.heap.objs.size := fun q => by rw [q, hL] at e; cases e
    rw [upd_ne nb, upd_ne nb, upd_ne nb, upd_ne nb]
    exact e
end
/-! ### as a call: list(zip(a, b)) -/
def rLz (K : PySem.W.Frag) : List V → Hp → VK → Prop := fun us H Q => ∃ k1 k2 a1 a2 xs ys, us = [.ref a1, .ref a2] ∧ SqK K H k1 a1 xs ∧ SqK K H k2 a2 ys ∧ min xs.length ys.length ≤ zLine ∧
  ∀ L H' vs, H L = none → Same H H' → H' L = some (.lst vs) → PairsH H' xs ys vs (min xs.length ys.length) → Q (.ref L) H'
theorem pe_lz {X : Cx} {e e2 : Expr} {ta : TA} {p p2 pos pos2 : Pos} (hc : X.calm = true) (hgl : Gl X "list") (hml : X.mg "list" = none) (hg : Gl X "zip") (hm : X.mg "zip" = none) (ha : PA X [e, e2] ta)
    (hs : starEach [e, e2] X.env = (false, eval e X.env) :: starEach [e2] X.env) (hpl : (backTo pos2 (starEach [e2] X.env)).any (·.1) = false) :
    PE X (.Call (.Name "list" p) [.Call (.Name "zip" p2) [e, e2] [] pos2] [] pos) (fun σ H Q => ta σ H fun us H1 => rLz X.K us H1 Q) := by
  refine ⟨fun pins s σ H Q I h => ?_⟩
  refine Call_ (ld_blt I hgl hml PyProof.Rows.boot_list (PyProof.Rows.callWith_type1 ?_ rfl rfl))
  show wpAny _ _ (spliced ((false, eval (.Call (.Name "zip" p2) [e, e2] [] pos2) X.env) :: backTo pos (starEach [] X.env))) _ _ s
  refine Calls.spliced_cons (Call_ (ld_blt I hg hm PyProof.Rows.boot_zip (PyProof.Rows.callWith_type1 (thn (ha.run pos2 pins s σ H _ I h) fun us s1 ⟨vs, H1, I1, r1, q1⟩ => ?_) hs hpl)))
  obtain ⟨k1, k2, a1, a2, xs, ys, ex, hq1, hq2, hn, q⟩ := q1
  subst ex
  cases r1 with
  | cons r rr =>
    cases rr with
    | cons r' rr =>
      cases rr
      cases r
      cases r'
      obtain ⟨its1, rv1, p1⟩ := inv_sqk I1 hq1
      obtain ⟨its2, rv2, p2⟩ := inv_sqk I1 hq2
      have l1 : a1 < s1.heap.objs.size := p1.lt
      have l2 : a2 < s1.heap.objs.size := p2.lt
      refine zipG_new (b := false) (beginsK k1 a1 its1.toArray) (beginsK k2 a2 its2.toArray) p1 p2 fun h' hz hTI hTO g1 g2 kp => Calls.spliced_nil ?_
      have I2 : Inv X pins σ H1 { s1 with heap := h' } := I1.kept (t' := s1.toks) kp
      refine zl_call (k1 := k1) (k2 := k2) (I1.ok.hd hc) I2 (zsep_new s1.heap.objs.size a1 a2 l1 l2) (Nat.ne_of_lt l1) (Nat.ne_of_lt (Nat.lt_succ_of_lt l2)) rv1 rv2 hn (fun c hcm => ?_) hz hTI ⟨_, _, hTO⟩ (.mk g1) (.mk g2) (p1.at fun o e => kp _ _ e) (p2.at fun o e => kp _ _ e)
        fun L s' H' vs h0 I' sm hl ph => ⟨.ref L, H', I', rfl, q L H' vs h0 sm hl ph⟩
      have hle : s1.heap.objs.size ≤ c := by
        rcases (show c = s1.heap.objs.size + 4 ∨ c = s1.heap.objs.size + 2 ∨ c = s1.heap.objs.size + 3 ∨ c = s1.heap.objs.size ∨ c = s1.heap.objs.size + 1 by simpa using hcm) with w | w | w | w | w <;> rw [w] <;>
          first | exact Nat.le_refl _ | exact Nat.le_add_right _ _
      exact I1.fpOk hle (I1.hok.fresh hle)
/-- the pairs as data -/
def zipD : List D → List D → List D
  | x :: xs, y :: ys => .tup [x, y] :: zipD xs ys
  | _, _ => []
theorem zipD_length : ∀ xs ys : List D, (zipD xs ys).length = min xs.length ys.length
  | [], _ => by simp [zipD]
  | _ :: _, [] => by simp [zipD]
  | x :: xs, y :: ys => by simp [zipD, zipD_length xs ys]
theorem zipD_get : ∀ (xs ys : List D) (i : Nat) (x y : D), xs[i]? = some x → ys[i]? = some y → (zipD xs ys)[i]? = some (.tup [x, y])
  | [], _, _, _, _, h, _ => by simp at h
  | _ :: _, [], _, _, _, _, h => by simp at h
  | a :: xs, b :: ys, 0, x, y, h1, h2 => by simp at h1 h2; subst h1; subst h2; rfl
  | a :: xs, b :: ys, i + 1, x, y, h1, h2 => zipD_get xs ys i x y (by simpa using h1) (by simpa using h2)
theorem Reps.of_get {K : PySem.W.Frag} {ro : Ro} {H : Hp} : ∀ {ds : List D} {vs : List V}, ds.length = vs.length → (∀ (i : Nat) (d : D), ds[i]? = some d → ∃ v, vs[i]? = some v ∧ Rep K ro H d v) → Reps K ro H ds vs
  | [], [], _, _ => .nil
  | [], _ :: _, h, _ => by simp at h
  | _ :: _, [], h, _ => by simp at h
  | d :: ds, v :: vs, h, q => by
    obtain ⟨v', e, r⟩ := q 0 d rfl
    cases e
    exact .cons r (Reps.of_get (by simpa using h) fun i d' e => q (i + 1) d' (by simpa using e))
/-- the store grows by one, in a heap that grows by more -/
theorem RelH.add {K : PySem.W.Frag} {Cl : Nat → Addr} {ro : Ro} {H H' : Hp} {s : S} {L : Addr} {ho : HO} {o : O} (r : RelH K Cl ro H s) (hS : Same H H') (hL : H L = none) (e : H' L = some ho) (x : ORep K Cl (ron ro s.n L) H' L o) : RelH K Cl (ron ro s.n L) H' (s.push o) ∧ Ext K ro H (ron ro s.n L) H' := by
  have h1 : Same H (fun b => if b = L then none else H' b) := fun b u q => by
    have nb : b ≠ L := fun w => by rw [w, hL] at q; cases q
    show (if b = L then none else H' b) = some u
    rw [if_neg nb]; exact hS b u q
  have h2 : upd (fun b => if b = L then none else H' b) L ho = H' := by
    funext b
    by_cases hb : b = L
    · subst hb; rw [upd_same, e]
    · rw [upd_ne hb, if_neg hb]
  have r1 : RelH K Cl ro (fun b => if b = L then none else H' b) s := r.same h1
  have r2 := r1.new (p := L) (ho := ho) (o := o) (if_pos rfl) (by rw [h2]; exact x)
  rw [h2] at r2
  have e2 := ext_new (K := K) (ho := ho) r1 (p := L) (if_pos rfl)
  rw [h2] at e2
  exact ⟨r2, (Ext.same h1).trans e2⟩
def lzGo (s : S) : Option (List D) → Option (List D) → R D
  | some xs, some ys => if short zLine (zipD xs ys) = true then .ok (.ref s.n) (s.push (.lst (zipD xs ys))) else .bad
  | _, _ => .bad
def cLz (f g : SE) : SE := fun e s => (f e s).bind fun d s1 => (g e s1).bind fun d' s2 => lzGo s2 (items s2 d) (items s2 d')
theorem s_lz {X : Cx} {Cl : Nat → Addr} {W : WX} {f g : SE} {e e2 : Expr} {p p2 pos pos2 : Pos} (hc : X.calm = true) (hgl : Gl X "list") (hml : X.mg "list" = none) (hg : Gl X "zip") (hm : X.mg "zip" = none) (h1 : PE X e (rdE X.K Cl W f)) (h2 : PE X e2 (rdE X.K Cl W g))
    (hs : starEach [e, e2] X.env = [(false, eval e X.env), (false, eval e2 X.env)]) (hs2 : starEach [e2] X.env = [(false, eval e2 X.env)]) :
    PE X (.Call (.Name "list" p) [.Call (.Name "zip" p2) [e, e2] [] pos2] [] pos) (rdE X.K Cl W (cLz f g)) := by
  refine (pe_lz hc hgl hml hg hm (pa_cons h1 (pa_cons h2 pa_nil hs2) (by rw [hs, hs2])) (by rw [hs, hs2]) (by rw [hs2]; rfl)).imp fun σ H Q h => ?_
  obtain ⟨e, s, ro, rs, rh, h⟩ := h
  unfold cLz at h
  rw [wp_bind] at h
  refine ⟨e, s, ro, rs, rh, h.mono (fun d s1 h v H1 ro1 rh1 x1 rp => ?_) fun _ _ _ q => q⟩
  rw [wp_bind] at h
  refine ⟨e, s1, ro1, rs.ext x1, rh1, h.mono (fun d' s2 q v' H2 ro2 rh2 x2 rp' => ?_) fun _ _ _ q => q.ext x1⟩
  have rp2 := rp.mono x2
  cases z1 : items s2 d with
  | none => rw [z1] at q; exact q.elim
  | some xs =>
    cases z2 : items s2 d' with
    | none => rw [z1, z2] at q; exact q.elim
    | some ys =>
      rw [z1, z2] at q
      have q : (if short zLine (zipD xs ys) = true then R.ok (D.ref s2.n) (s2.push (.lst (zipD xs ys))) else R.bad).wp (okQ X.K Cl ro H Q) (exQ X.K Cl W ro H σ) := q
      by_cases hsh : short zLine (zipD xs ys) = true
      · rw [if_pos hsh] at q
        obtain ⟨a, vs, rfl, g1, g2⟩ := items_kd rh2 rp2 z1
        obtain ⟨a', us, rfl, g3, g4⟩ := items_kd rh2 rp' z2
        have l1 := g2.length
        have l2 := g4.length
        have hl := short_le hsh
        rw [zipD_length] at hl
        refine ⟨kd d, kd d', a, a', vs, us, rfl, g1, g3, by rw [← l1, ← l2]; exact hl, fun L H' ws h0 sm hL ph => ?_⟩
        have xs' : Ext X.K ro2 H2 ro2 H' := Ext.same sm
        have rr : Reps X.K ro2 H' (zipD xs ys) ws := by
          refine Reps.of_get (by rw [zipD_length, ph.1, l1, l2]) fun i dd hi => ?_
          have il : i < min xs.length ys.length := by rw [← zipD_length]; exact (List.getElem?_eq_some_iff.mp hi).1
          obtain ⟨T, x, y, t1, t2, t3, t4⟩ := ph.2 i (by omega)
          obtain ⟨dx, hx, rx⟩ := g2.get' t2
          obtain ⟨dy, hy, ry⟩ := g4.get' t3
          have := zipD_get xs ys i dx dy hx hy
          rw [hi] at this
          cases this
          exact ⟨_, t1, .tup (.inl (.inl t4)) (.cons (rx.mono xs') (.cons (ry.mono xs') .nil))⟩
        have xn : Ext X.K ro2 H' (ron ro2 s2.n L) H' := ⟨fun _ _ q => q, fun p a e => by rw [ron_ne (rh2.ne e)]; exact e⟩
        obtain ⟨r3, x3⟩ := rh2.add (o := .lst (zipD xs ys)) sm h0 hL (.lst hL (rr.mono xn))
        exact q (.ref L) H' _ r3 ((x1.trans x2).trans x3) (.ref ron_same)
      · rw [if_neg hsh] at q; exact q.elim
end Ev
set_option maxHeartbeats 2000000
namespace Ev
open PySem PySem.Spec PyProof.Rows L2
/-! ### a set of tuples of any kind of keys -/
structure KK (P : Program) (w : World) (κ : Type) [DecidableEq κ] where
  T : HeapKind P w κ
  cls : ∀ {A : Around} {E : Value → Shared → Prop} {s : Shared} {k : κ} {b : Addr} {Q : Bool → Shared → Prop}, T.is s.heap k b → Q false s → wpAny (model P w) A (ofAClassStatement 8 (.ref b)) Q E s
  byv : ∀ {A : Around} {E : Value → Shared → Prop} {s : Shared} {k : κ} {b : Addr} {Q : Bool → Shared → Prop}, T.is s.heap k b → Q true s → wpAny (model P w) A (hashByValue 8 (.ref b)) Q E s
  mono : ∀ {h h' : Heap} {k : κ} {b : Addr}, (∀ c o vs n, h.get? c = some o → o.data = .seq vs n → h'.get? c = some o) → T.is h k b → T.is h' k b
section
variable {P : Program} {w : World} {κ : Type} [DecidableEq κ] {Z : KK P w κ} {A : Around} {E : Value → Shared → Prop} {s : Shared}
abbrev Rw (κ : Type) := List (Addr × κ)
def KK.rows (Z : KK P w κ) (L : Rw κ) : List (Int × Value) := L.map fun p => (Z.T.hash p.2, Value.ref p.1)
def KK.hs (Z : KK P w κ) (L : Rw κ) : List Int := L.map fun p => Z.T.hash p.2
/-- the set at a holds the rows L -/
structure NS (Z : KK P w κ) (h : Heap) (a : Addr) (L : Rw κ) (es : Array (Int × Value)) (ep : Nat) (t : SetTable) : Prop where
  ob : ∃ o, h.get? a = some o ∧ o.ExactSet ∧ o.data = .set es ep t
  rows : es.toList = Z.rows L
  tab : TabOk t (Z.hs L)
  nd : (L.map (·.2)).Nodup
  is : ∀ p ∈ L, Z.T.is h p.2 p.1
  plain : t.plain = true
  led : w.params.followText "set-order" = true ∨ t.led = true
  room : L.length * 5 < t.mask * 3
  few : L.length < 64
variable {a : Addr} {L : Rw κ} {es : Array (Int × Value)} {ep : Nat} {t : SetTable}
theorem rows_len (hr : es.toList = Z.rows L) : es.size = L.length := by
  rw [← Array.length_toList, hr]
  simp [KK.rows]
theorem rows_at (hr : es.toList = Z.rows L) {i : Nat} {p : Addr × κ} (h : L[i]? = some p) : es[i]? = some (Z.T.hash p.2, Value.ref p.1) := by
  rw [← Array.getElem?_toList, hr]
  simp [KK.rows, h]
theorem hs_len : (Z.hs L).length = L.length := by simp [KK.hs]
theorem fits_of (sz : t.place.size = L.length) (dm : t.dummies = #[]) (hr : es.toList = Z.rows L) (le : L.length ≤ t.mask) : t.fits es.size = true := by
  unfold SetTable.fits SetTable.fill
  rw [dm, rows_len hr, Bool.and_eq_true, beq_iff_eq, decide_eq_true_eq]
  exact ⟨sz, by show t.place.size + 0 ≤ t.mask; omega⟩
theorem NS.sz (N : NS Z s.heap a L es ep t) : t.place.size = L.length := by rw [N.tab.sz, hs_len]
theorem NS.fits (N : NS Z s.heap a L es ep t) : t.fits es.size = true := fits_of N.sz N.tab.dm N.rows (by have := N.room; omega)
/-- a search among such keys shows nothing -/
theorem ns_quiet {k : κ} {b : Addr} {Q : Bool → Shared → Prop} (hk : Z.T.is s.heap k b) {ys : List Value} (hy : ∀ y ∈ ys, ∃ k' c, y = Value.ref c ∧ Z.T.is s.heap k' c) (fin : Q false s) : wpAny (model P w) A (searchCouldBeSeen (.ref b) ys) Q E s := by
  unfold searchCouldBeSeen
  refine wpAny_bind (wpAny_forIn_list _ (fun rest r s' => r.1 = none ∧ s' = s ∧ ∀ y ∈ rest, ∃ k' c, y = Value.ref c ∧ Z.T.is s.heap k' c) _ ?_ ?_ _ _ ⟨rfl, rfl, hy⟩)
  · rintro v rest r s' ⟨hr, rfl, all⟩
    obtain ⟨k', c, rfl, hc⟩ := all v List.mem_cons_self
    have next : ∀ y ∈ rest, ∃ k' c, y = Value.ref c ∧ Z.T.is s'.heap k' c := fun u hu => all u (List.mem_cons_of_mem _ hu)
    dsimp only
    by_cases hv : (b == c || (carriedByValue (.ref b) && carriedByValue (.ref c))) = true
    · exact wp_if_pos hv (wpAny_pure ⟨rfl, rfl, next⟩)
    · refine wp_if_neg hv (wpAny_bind (Z.T.quiet hk ?_))
      rw [Bool.not_true, if_neg Bool.false_ne_true]
      refine wpAny_bind (Z.T.quiet hc ?_)
      rw [Bool.not_true, if_neg Bool.false_ne_true]
      refine wpAny_bind (Z.cls hk ?_)
      rw [if_neg Bool.false_ne_true]
      refine wpAny_bind (Z.cls hc ?_)
      rw [if_neg Bool.false_ne_true]
      exact wpAny_pure ⟨rfl, rfl, next⟩
  · rintro ⟨r1, r2⟩ s' ⟨hr, rfl, _⟩
    cases hr
    exact wpAny_pure fin
theorem nth_nodummy (m : Nat) : ∀ (n : Nat) (p : SetTable.Probe), p.dummy = none → (nth m p n).dummy = none
  | 0, _, h => h
  | n + 1, p, h => nth_nodummy m n (adv m p) (by unfold adv; split <;> exact h)
/-- the way of a hash -/
abbrev pr0 (m : Nat) (h : Int) : SetTable.Probe := runAt m (SetTable.bits h % (m + 1)) (SetTable.bits h)
theorem way_eq (m : Nat) (h : Int) (c q : Nat) : (nth m (nth m (pr0 m h) c) q).j = way m h (c + q) := congrArg SetTable.Probe.j (nth_add m c _ q).symm
theorem ns_search (N : NS Z s.heap a L es ep t) {x : Addr} {k : κ} (hx : Z.T.is s.heap k x) (hu : Z.T.room A) {K : Nat} (hf : K < 10 * SetTable.turns t.mask) (hK : way t.mask (Z.T.hash k) K ∉ t.place.toList)
    (hb : ∀ c, c < K → way t.mask (Z.T.hash k) c ∈ t.place.toList) {Q : SetFound → Shared → Prop} (yes : k ∈ L.map (·.2) → Q (.there none) s) (no : k ∉ L.map (·.2) → Q (.free (way t.mask (Z.T.hash k) K) false) s) :
    ∀ (f c : Nat) (st : Option SetTable.Probe), st.getD (t.probeStart (Z.T.hash k)) = nth t.mask (pr0 t.mask (Z.T.hash k)) c → c ≤ K → K - c < f →
      (∀ (i : Nat) p, L[i]? = some p → p.2 = k → ∃ d, c ≤ d ∧ d < K ∧ t.place.toList[i]? = some (way t.mask (Z.T.hash k) d)) → wpAny (model P w) A (setSearchFrom a (.ref x) (Z.T.hash k) true f st) Q E s
  | 0, _, _, _, _, h, _ => absurd h (Nat.not_lt_zero _)
  | f + 1, c, st, hst, hc, hfu, left => by
    obtain ⟨o, ho, hex, hd⟩ := N.ob
    have hat : ∀ (i : Nat) p, L[i]? = some p → (es[i]?.map (·.1)).getD 0 = Z.T.hash p.2 := fun i p hp => by rw [rows_at N.rows hp]; rfl
    rw [setSearchFrom_succ]
    refine wpAny_bind (wpAny_setState_of ho hd N.fits ?_)
    dsimp only
    refine wp_if_neg (by unfold SetTable.gaveWay; rw [mask_odd N.tab.mok]; decide) ?_
    have spec := go_spec t N.tab.ris N.tab.dm (fun i => (es[i]?.map (·.1)).getD 0) (Z.T.hash k) (10 * SetTable.turns t.mask) (K - c) (nth t.mask (pr0 t.mask (Z.T.hash k)) c) (nth_nodummy _ _ _ rfl) (by omega)
      (fun q hq => by rw [way_eq]; exact hb _ (by omega)) (by rw [way_eq, show c + (K - c) = K by omega]; exact hK)
    rw [← hst] at spec
    rcases spec with ⟨q, i, hq, hi, hh, before, found⟩ | ⟨before, found⟩
    · rw [hst, way_eq] at hi
      have il : i < L.length := by
        have := (List.getElem?_eq_some_iff.mp hi).1
        rw [Array.length_toList, N.sz] at this
        exact this
      obtain ⟨p, hp⟩ : ∃ p, L[i]? = some p := ⟨_, List.getElem?_eq_getElem il⟩
      have pm : p ∈ L := List.mem_of_getElem? hp
      have fd : t.probe (fun i => (es[i]?.map (·.1)).getD 0) (Z.T.hash k) (st.getD (t.probeStart (Z.T.hash k))) = some (.candidate (way t.mask (Z.T.hash k) (c + q)) i (nth t.mask (pr0 t.mask (Z.T.hash k)) (c + (q + 1)))) := by
        rw [nth_add t.mask c, ← way_eq, ← hst]; exact found
      rw [fd]
      dsimp only
      have go : wpAny (model P w) A (searchRest a (.ref x) (Z.T.hash k) true f es t (way t.mask (Z.T.hash k) (c + q)) i (nth t.mask (pr0 t.mask (Z.T.hash k)) (c + (q + 1)))) Q E s := by
        unfold searchRest
        rw [rows_at N.rows hp]
        dsimp only
        refine wpAny_bind (wpAny_holding (Z.T.eqBool hu (N.is p pm) hx (wpAny_bind (wpAny_setState_of ho hd N.fits ?_))))
        dsimp only
        by_cases e : p.2 = k
        · exact wp_if_pos (by simp [e]) (wpAny_pure (yes (List.mem_map.mpr ⟨p, pm, e⟩)))
        · refine wp_if_neg (by simp [e]) ?_
          rw [sameMem]
          dsimp only
          have sl : t.slot (way t.mask (Z.T.hash k) (c + q)) = .live i := slot_live N.tab.ris hi
          simp only [if_true, sl, rows_at N.rows hp]
          refine wpAny_bind (wpAny_isSame_ref_self (wpAny_bind (wpAny_pure ?_)))
          simp only [if_true]
          refine wp_if_neg (by simp [e]) (ns_search N hx hu hf hK hb yes no f (c + (q + 1)) _ rfl (by omega) (by omega) fun j r hj hr => ?_)
          obtain ⟨d, d1, d2, d3⟩ := left j r hj hr
          refine ⟨d, ?_, d2, d3⟩
          rcases Nat.lt_trichotomy d (c + q) with z | z | z
          · refine absurd ((hat j r hj).trans (congrArg Z.T.hash hr)) (before (d - c) j (by omega) ?_)
            rw [hst, way_eq, show c + (d - c) = d by omega]; exact d3
          · rw [z] at d3
            have s2 := slot_live N.tab.ris d3
            rw [sl] at s2
            injection s2 with s2
            rw [← s2, hp] at hj
            cases hj
            exact absurd hr e
          · omega
      by_cases ld : t.led = true
      · exact wp_if_neg (by simp [ld]) go
      · refine wp_if_pos (by simp [ld]) (wpAny_bind (ns_quiet hx (fun y hy => ?_) (wp_if_neg (by decide) go)))
        obtain ⟨e, he, rfl⟩ := List.mem_map.mp hy
        have he2 : e ∈ es.toList := by
          have : e ∈ es ∧ e.1 = Z.T.hash k := by simpa using he
          simpa using this.1
        rw [N.rows] at he2
        obtain ⟨r, hr, rfl⟩ := List.mem_map.mp he2
        exact ⟨r.2, r.1, rfl, N.is r hr⟩
    · have fd : t.probe (fun i => (es[i]?.map (·.1)).getD 0) (Z.T.hash k) (st.getD (t.probeStart (Z.T.hash k))) = some (.empty (way t.mask (Z.T.hash k) K) none) := by
        have : way t.mask (Z.T.hash k) K = (nth t.mask (nth t.mask (pr0 t.mask (Z.T.hash k)) c) (K - c)).j := by rw [way_eq, show c + (K - c) = K by omega]
        rw [this, ← hst]; exact found
      rw [fd]
      dsimp only
      refine wpAny_pure (no fun hm => ?_)
      obtain ⟨r, hr, e⟩ := List.mem_map.mp hm
      obtain ⟨j, hj, ej⟩ := List.getElem_of_mem hr
      have hj' : L[j]? = some r := by rw [List.getElem?_eq_getElem hj, ej]
      obtain ⟨d, d1, d2, d3⟩ := left j r hj' e
      refine before (d - c) j (by omega) ?_ ((hat j r hj').trans (congrArg Z.T.hash e))
      rw [hst, way_eq, show c + (d - c) = d by omega]; exact d3
theorem ns_find (N : NS Z s.heap a L es ep t) {x : Addr} {k : κ} (hx : Z.T.is s.heap k x) (hu : Z.T.room A) {Q : SetFound → Shared → Prop} (yes : k ∈ L.map (·.2) → Q (.there none) s)
    (no : ∀ K, k ∉ L.map (·.2) → way t.mask (Z.T.hash k) K ∉ t.place.toList → (∀ c, c < K → way t.mask (Z.T.hash k) c ∈ t.place.toList) → Q (.free (way t.mask (Z.T.hash k) K) false) s) : wpAny (model P w) A (setSearch a (.ref x) (Z.T.hash k) true) Q E s := by
  obtain ⟨K, hf, hK, hb⟩ := N.tab.first (by rw [hs_len]; have := N.room; omega) (Z.T.hash k)
  have big : K < 100000 := by
    have : 10 * SetTable.turns t.mask ≤ 1420 := by unfold SetTable.turns; rcases N.tab.mok with e | e | e <;> omega
    omega
  unfold setSearch
  refine ns_search N hx hu hf hK hb yes (fun h => no K h hK hb) 100000 0 none rfl (Nat.zero_le _) (by omega) fun i p hp e => ?_
  have il : i < t.place.toList.length := by
    rw [Array.length_toList, N.sz]
    exact (List.getElem?_eq_some_iff.mp hp).1
  obtain ⟨d, d1, d2⟩ := N.tab.before (h := Z.T.hash k) (i := i) hK (by simp [KK.hs, hp, e]) (List.getElem?_eq_getElem il)
  exact ⟨d, Nat.zero_le _, d1, by rw [List.getElem?_eq_getElem il, d2]⟩
end
end Ev
set_option maxHeartbeats 2000000
namespace Ev
open PySem PySem.Spec PyProof.Rows L2
section
variable {P : Program} {w : World} {κ : Type} [DecidableEq κ] {Z : KK P w κ} {A : Around} {E : Value → Shared → Prop} {s : Shared}
variable {a : Addr} {L : Rw κ} {es : Array (Int × Value)} {ep : Nat} {t : SetTable}
/-- a tuple is not the set -/
theorem KK.but (Z : KK P w κ) {h h' : Heap} {k : κ} {b : Addr} {o : Obj} (hb : Z.T.is h k b) (ho : h.get? a = some o) (hd : o.data = .set es ep t) (sb : Heap.SameBut a h h') : Z.T.is h' k b :=
  Z.mono (fun c u vs n e q => (sb.2 c fun z => by subst z; rw [ho] at e; cases e; rw [hd] at q; cases q).trans e) hb
/-- rows in an order -/
theorem rows_pick (hr : es.toList = Z.rows L) : ∀ l : List Nat, (∀ i ∈ l, i < L.length) → l.filterMap (fun i => es[i]?) = Z.rows (l.filterMap fun i => L[i]?) ∧ Z.hs (l.filterMap fun i => L[i]?) = l.map fun i => (es.map (·.1)).getD i 0
  | [], _ => ⟨rfl, rfl⟩
  | i :: l, h => by
    have hi := h i List.mem_cons_self
    obtain ⟨e1, e2⟩ := rows_pick hr l fun j hj => h j (List.mem_cons_of_mem _ hj)
    have hp : L[i]? = some L[i] := List.getElem?_eq_getElem hi
    have he := rows_at hr hp
    refine ⟨?_, ?_⟩
    · rw [List.filterMap_cons_some he, List.filterMap_cons_some hp, e1]; rfl
    · rw [List.filterMap_cons_some hp, List.map_cons, ← e2]
      have : (es.map (·.1)).getD i 0 = Z.T.hash (L[i]).2 := by
        have q : (es.map (·.1))[i]? = some (Z.T.hash (L[i]).2) := by rw [Array.getElem?_map, he]; rfl
        simp [Array.getD_eq_getD_getElem?, q]
      rw [this]; rfl
theorem pick_all {α : Type} : ∀ (l : List α), (List.range l.length).filterMap (fun i => l[i]?) = l := by
  intro l
  have key : ∀ n, n ≤ l.length → (List.range n).filterMap (fun i => l[i]?) = l.take n := by
    intro n
    induction n with
    | zero => intro _; rfl
    | succ n ih =>
      intro h
      have e : l[n]? = some l[n] := List.getElem?_eq_getElem h
      rw [List.range_succ, List.filterMap_append, ih (Nat.le_of_lt h), List.take_succ, e, List.filterMap_cons_some e]
      rfl
  rw [key l.length (Nat.le_refl _), List.take_length]
theorem ns_relay {o : Obj} (ho : s.heap.get? a = some o) (hex : o.ExactSet) (hd : o.data = .set es ep t) (hr : es.toList = Z.rows L) (sz : t.place.size = L.length) (dm : t.dummies = #[]) (le : L.length ≤ t.mask) (nd : (L.map (·.2)).Nodup) (is : ∀ p ∈ L, Z.T.is s.heap p.2 p.1)
    (pl : t.plain = true) (ld : w.params.followText "set-order" = true ∨ t.led = true) (few : L.length < 64) {wanted M : Nat} (hw : SetTable.sizeAbove wanted - 1 = M) (hM : MaskOk M) (h128 : SetTable.sizeAbove wanted ≤ 128) (hn : L.length * 5 < M * 3) {Q : Unit → Shared → Prop}
    (fin : ∀ h' L' es' ep' t', Heap.SameBut a s.heap h' → NS Z h' a L' es' ep' t' → L'.Perm L → Q () { s with heap := h' }) : wpAny (model P w) A (setRelay a wanted) Q E s := by
  have sl := rows_len hr
  obtain ⟨t', ord, e, pm, T, em, el, ep', ed⟩ := relaid_ok t (hs := es.map (·.1)) (wanted := wanted) hw hM (by rw [Array.size_map, sl]; omega)
  rw [Array.size_map, sl] at pm
  obtain ⟨r1, r2⟩ := rows_pick hr ord.toList fun i hi => List.mem_range.mp (pm.mem_iff.mp hi)
  have pL : (ord.toList.filterMap fun i => L[i]?).Perm L := by
    have := pm.filterMap fun i => L[i]?
    rwa [pick_all] at this
  rw [← r2] at T
  generalize ord.toList.filterMap (fun i => L[i]?) = L2 at r1 T pL
  have rows2 : (ord.filterMap (es[·]?)).toList = Z.rows L2 := by first | (rw [Array.toList_filterMap]; exact r1) | simpa using r1
  have s2 : (ord.filterMap (es[·]?)).size = es.size := by rw [rows_len rows2, pL.length_eq, sl]
  rw [setRelay_eq]
  refine wpAny_bind (wpAny_setState_of ho hd (fits_of sz dm hr le) ?_)
  dsimp only
  refine wp_if_neg (by rw [sizeLine_eq]; omega) ?_
  rw [e]
  dsimp only
  refine wpAny_bind (wp_if_neg (by rw [s2]; simp) (wpAny_pure ?_))
  dsimp only
  refine wpAny_storeSet_of ho hd ?_ (by rw [s2, sl, sizeLine_eq]; omega)
  have sb : Heap.SameBut a s.heap (s.heap.update a (Obj.putSet (ord.filterMap (es[·]?)) t')) := Heap.SameBut.update ..
  exact fin _ L2 _ (ep + 1) t' sb ⟨⟨_, store_at ho hd, ⟨hex.1, hex.2.1, hex.2.2⟩, rfl⟩, rows2, T, (pL.map (·.2)).nodup_iff.mpr nd, fun p hp => Z.but (is p (pL.mem_iff.mp hp)) ho hd sb, by rw [ep']; exact pl, by rw [el]; exact ld, by rw [pL.length_eq, em]; exact hn,
    by rw [pL.length_eq]; exact few⟩ pL
/-- adding -/
theorem ns_add (N : NS Z s.heap a L es ep t) {x : Addr} {k : κ} (hx : Z.T.is s.heap k x) (hu : Z.T.room A) (few : L.length + 1 < 64) {Q : Bool → Shared → Prop}
    (fin : ∀ b h' L' es' ep' t', Heap.SameBut a s.heap h' → NS Z h' a L' es' ep' t' → (k ∈ L.map (·.2) → L' = L) → (k ∉ L.map (·.2) → L'.Perm ((x, k) :: L)) → Q b { s with heap := h' }) : wpAny (model P w) A (setAddHashed a (.ref x) (Z.T.hash k)) Q E s := by
  obtain ⟨o, ho, hex, hd⟩ := N.ob
  have sl := rows_len N.rows
  have hroom := N.room
  unfold setAddHashed
  refine wpAny_holding ?_
  rw [show (100000 : Nat) = 99999 + 1 from rfl, setAddHashedIn_succ]
  refine wpAny_bind (wpAny_setState_of ho hd N.fits ?_)
  dsimp only
  refine wp_if_neg (by simp [byScan, Value.scannable]) (wpAny_bind (ns_find N hx hu (fun hm => ?_) fun K hm hK hb => ?_))
  · exact wpAny_pure (fin false s.heap L es ep t (Heap.SameBut.refl a s.heap) N (fun _ => rfl) fun z => absurd hm z)
  dsimp only
  refine wpAny_bind (wpAny_setState_of ho hd N.fits ?_)
  dsimp only
  obtain ⟨q1, q2, q3, q4, q5, q6, _, _, q9⟩ := N.tab.put hK hb
  have pl1 : (t.put (way t.mask (Z.T.hash k) K)).1.plain = true := by rw [q6]; exact N.plain
  have rows1 : (SetTable.insertAt es (SetTable.below t.place (way t.mask (Z.T.hash k) K)) (Z.T.hash k, Value.ref x)).toList = Z.rows (L.take (SetTable.below t.place (way t.mask (Z.T.hash k) K)) ++ (x, k) :: L.drop (SetTable.below t.place (way t.mask (Z.T.hash k) K))) := by
    rw [SetTable.toList_insertAt, N.rows]
    simp [KK.rows, List.map_take, List.map_drop]
  generalize t.put (way t.mask (Z.T.hash k) K) = pt at q1 q3 q4 q5 q6 q9 pl1 ⊢
  obtain ⟨t1, pp⟩ := pt
  dsimp only at q1 q3 q4 q5 q6 q9 pl1 ⊢
  subst q1
  first
    | exact wpAny_bind (wp_if_pos pl1 (Z.byv hx ?go))
    | refine wp_if_pos pl1 (wpAny_bind (Z.byv hx ?go))
  case go =>
  simp only [if_true]
  generalize SetTable.below t.place (way t.mask (Z.T.hash k) K) = p at q2 q3 rows1 ⊢
  have pm : (L.take p ++ (x, k) :: L.drop p).Perm ((x, k) :: L) := put_perm L p (x, k)
  have tb : TabOk t1 (Z.hs (L.take p ++ (x, k) :: L.drop p)) := by
    have : Z.hs (L.take p ++ (x, k) :: L.drop p) = (Z.hs L).take p ++ Z.T.hash k :: (Z.hs L).drop p := by simp [KK.hs, List.map_take, List.map_drop]
    rw [this]; exact q3
  have nd1 : ((L.take p ++ (x, k) :: L.drop p).map (·.2)).Nodup := (pm.map (·.2)).nodup_iff.mpr (List.nodup_cons.mpr ⟨hm, N.nd⟩)
  have len1 : (L.take p ++ (x, k) :: L.drop p).length = L.length + 1 := pm.length_eq
  generalize L.take p ++ (x, k) :: L.drop p = L1 at pm tb nd1 len1 rows1
  generalize SetTable.insertAt es p (Z.T.hash k, Value.ref x) = es1 at rows1 ⊢
  have sl1 := rows_len rows1
  refine wpAny_bind (wpAny_storeSet_of ho hd ?_ (by rw [sl1, len1, sizeLine_eq]; omega))
  have sb : Heap.SameBut a s.heap (s.heap.update a (Obj.putSet es1 t1)) := Heap.SameBut.update ..
  have ho1 := store_at (es' := es1) (t' := t1) ho hd
  generalize s.heap.update a (Obj.putSet es1 t1) = h1 at sb ho1 ⊢
  have is1 : ∀ p ∈ L1, Z.T.is h1 p.2 p.1 := fun p hp => by
    rcases List.mem_cons.mp (pm.mem_iff.mp hp) with e | hp
    · rw [e]; exact Z.but hx ho hd sb
    · exact Z.but (N.is p hp) ho hd sb
  have ld1 : w.params.followText "set-order" = true ∨ t1.led = true := by rw [q5]; exact N.led
  have fill1 : t1.fill = L.length + 1 := by rw [q9, hs_len]
  by_cases full : t1.tooFull = true
  · have big : (L.length + 1) * 5 ≥ t1.mask * 3 := by
      have h := full
      unfold SetTable.tooFull at h
      rw [decide_eq_true_eq, fill1] at h
      exact h
    rw [q4] at big
    have two : (t.mask = 7 ∧ L.length = 4) ∨ (t.mask = 31 ∧ L.length = 18) := by rcases N.tab.mok with e | e | e <;> rw [e] at big hroom <;> omega
    have lay : ∀ M, SetTable.sizeAbove (SetTable.grown (L.length + 1)) - 1 = M → MaskOk M → SetTable.sizeAbove (SetTable.grown (L.length + 1)) ≤ 128 → (L.length + 1) * 5 < M * 3 →
        wpAny (model P w) A (setRelay a (SetTable.grown (L.length + 1))) (fun _ s' => wpAny (model P w) A (pure true) Q E s') E { s with heap := h1 } := fun M m1 m2 m3 m4 =>
      ns_relay (s := { s with heap := h1 }) ho1 ⟨hex.1, hex.2.1, hex.2.2⟩ rfl rows1 (by rw [tb.sz, hs_len]) tb.dm (by rw [len1, q4]; rcases two with ⟨e, e2⟩ | ⟨e, e2⟩ <;> omega) nd1 is1 pl1 ld1 (by rw [len1]; exact few) m1 m2 m3 (by rw [len1]; exact m4)
        fun h2 L2 es2 ep2 t2 sb2 N2 pm2 => wpAny_pure (fin true h2 L2 es2 ep2 t2 (sb.trans sb2) N2 (fun z => absurd z hm) fun _ => pm2.trans pm)
    rw [sl]
    first
      | refine wpAny_bind (wp_if_pos (by simp [full]) ?lay)
      | refine wp_if_pos (by simp [full]) (wpAny_bind ?lay)
    case lay =>
    rcases two with ⟨_, e2⟩ | ⟨_, e2⟩
    · exact lay 31 (by rw [e2, size_20]) (.inr (.inl rfl)) (by rw [e2, size_20]; decide) (by omega)
    · exact lay 127 (by rw [e2, size_76]) (.inr (.inr rfl)) (by rw [e2, size_76]; decide) (by omega)
  · have N1 : NS Z h1 a L1 es1 (ep + 1) t1 := ⟨⟨_, ho1, ⟨hex.1, hex.2.1, hex.2.2⟩, rfl⟩, rows1, tb, nd1, is1, pl1, ld1, by
      unfold SetTable.tooFull at full
      rw [decide_eq_true_eq, fill1] at full
      rw [len1]
      omega, by rw [len1]; exact few⟩
    have done := fin true h1 L1 es1 (ep + 1) t1 sb N1 (fun z => absurd z hm) fun _ => pm
    first
      | exact wp_if_neg (by simp [full]) (wpAny_pure done)
      | exact wpAny_bind (wp_if_neg (by simp [full]) (wpAny_pure (wpAny_pure done)))
/-- the set of the first i of the list ks -/
structure Gt (ks : Rw κ) (i : Nat) (L : Rw κ) : Prop where
  sub : ∀ p ∈ L, p ∈ ks.take i
  all : ∀ p ∈ ks.take i, p.2 ∈ L.map (·.2)
  len : L.length ≤ i
theorem Gt.step {ks L L' : Rw κ} {i : Nat} {x : Addr × κ} (g : Gt ks i L) (h : ks[i]? = some x) (old : x.2 ∈ L.map (·.2) → L' = L) (new : x.2 ∉ L.map (·.2) → L'.Perm (x :: L)) : Gt ks (i + 1) L' := by
  have tk : ks.take (i + 1) = ks.take i ++ [x] := by rw [List.take_succ, h]; rfl
  by_cases c : x.2 ∈ L.map (·.2)
  · rw [old c]
    refine ⟨fun p hp => by rw [tk]; exact List.mem_append_left _ (g.sub p hp), fun p hp => ?_, Nat.le_succ_of_le g.len⟩
    rw [tk, List.mem_append, List.mem_singleton] at hp
    rcases hp with z | z
    · exact g.all p z
    · rw [z]; exact c
  · have pm := new c
    refine ⟨fun p hp => ?_, fun p hp => ?_, by rw [pm.length_eq]; exact Nat.succ_le_succ g.len⟩
    · rw [tk, List.mem_append, List.mem_singleton]
      rcases List.mem_cons.mp (pm.mem_iff.mp hp) with e | z
      · exact .inr e
      · exact .inl (g.sub p z)
    · rw [(pm.map (·.2)).mem_iff, List.map_cons, List.mem_cons]
      rw [tk, List.mem_append, List.mem_singleton] at hp
      rcases hp with z | z
      · exact .inr (g.all p z)
      · exact .inl (by rw [z])
end
end Ev
set_option maxHeartbeats 4000000
namespace Ev
open PySem PySem.Spec PyProof.Rows L2
section
variable {P : Program} {w : World} {κ : Type} [DecidableEq κ] {Z : KK P w κ} {A : Around} {E : Value → Shared → Prop} {s : Shared}
theorem KK.up (Z : KK P w κ) {h h' : Heap} {k : κ} {b : Addr} (hb : Z.T.is h k b) (kp : ∀ c o, h.get? c = some o → h'.get? c = some o) : Z.T.is h' k b := Z.mono (fun c o _ _ e _ => kp c o e) hb
theorem NS.up {h h' : Heap} {a : Addr} {L : Rw κ} {es : Array (Int × Value)} {ep : Nat} {t : SetTable} (N : NS Z h a L es ep t) (ha : ∀ o, h.get? a = some o → h'.get? a = some o) (is : ∀ p ∈ L, Z.T.is h' p.2 p.1) : NS Z h' a L es ep t := by
  obtain ⟨o, ho, r⟩ := N.ob
  exact ⟨⟨o, ha o ho, r⟩, N.rows, N.tab, N.nd, is, N.plain, N.led, N.room, N.few⟩
abbrev freshSet (w : World) : Obj := { cls := .type "set", dict := none, data := .set #[] 0 (.fresh 0 0 (!w.params.followText "set-order")) }
theorem ns_fresh {h : Heap} {a : Addr} (ho : h.get? a = some (freshSet w)) : NS Z h a [] #[] 0 (.fresh 0 0 (!w.params.followText "set-order")) where
  ob := ⟨_, ho, ⟨rfl, rfl, rfl⟩, rfl⟩
  rows := rfl
  tab := ⟨List.Pairwise.nil, rfl, rfl, .inl rfl, fun x hx => (by cases hx), fun i h j hi => (by simp [KK.hs] at hi)⟩
  nd := List.nodup_nil
  is := fun p hp => (by cases hp)
  plain := rfl
  led := by
    show _ ∨ (!w.params.followText "set-order") = true
    cases w.params.followText "set-order"
    · exact .inr rfl
    · exact .inl rfl
  room := by show 0 * 5 < 7 * 3; decide
  few := by show 0 < 64; decide
/-- the loop that fills it -/
theorem ns_fill {I : Addr} {fp wr : List Addr} {G : Array GenState → Array GenState → Prop} {n : Nat} {Pv : Nat → Value → Prop} {St : Nat → Shared → Prop} {R : Result → Shared → Prop} (Wk : WalksS P w A.in1 I fp wr G n Pv St) (S : Addr) (hSf : S ∉ fp) (ks : Rw κ) (hn : n = ks.length) (few : ks.length < 64)
    (hval : ∀ i v, Pv i v → ∃ p, ks[i]? = some p ∧ v = .ref p.1) (h0 : Heap) (hk : ∀ p ∈ ks, Z.T.is h0 p.2 p.1) (hS0 : h0.get? S = none) (hw0 : ∀ b ∈ wr, h0.get? b = none) (hu : Z.T.room A.in1) :
    ∀ (k i : Nat) (s : Shared), n - i = k → i ≤ n → St i s → (∀ b o, h0.get? b = some o → s.heap.get? b = some o) → (∃ L es ep t, NS Z s.heap S L es ep t ∧ Gt ks i L) →
      (∀ s' L es ep t, Moved (S :: wr) G s s' → NS Z s'.heap S L es ep t → Gt ks n L → (∀ b o, h0.get? b = some o → s'.heap.get? b = some o) → R (.ok (.ret .none)) s') → codeAny (model P w) A (.builtin "set.update.loop" ⟨[.ref S, .ref I], []⟩) R s := by
  have hSw : S ∉ wr := fun h => hSf (Wk.sub _ h)
  have sub : ∀ b ∈ wr, b ∈ S :: wr := fun b hb => List.mem_cons_of_mem _ hb
  have moved : ∀ {s s' : Shared}, Moved wr G s s' → (∀ b o, h0.get? b = some o → s.heap.get? b = some o) → ∀ b o, h0.get? b = some o → s'.heap.get? b = some o := fun hm kp b o e => hm.heap b o (fun hb => by rw [hw0 b hb] at e; cases e) (kp b o e)
  have mem : ∀ {i : Nat} {L : Rw κ}, Gt ks i L → ∀ p ∈ L, p ∈ ks := fun g p hp => List.mem_of_mem_take (g.sub p hp)
  intro k
  induction k with
  | zero =>
    intro i s hk' hi st kp ⟨L, es, ep, t, N, g⟩ fin
    obtain rfl : i = n := by omega
    refine codeAny_builtin F.entry_set_update_loop ?_
    rw [Around.under_plainId F.plain_set_update_loop _]
    show wpAny _ A.in1 (pyNext (.ref I) >>= _) _ _ s
    refine wpAny_bind (Wk.done s _ _ st fun s' hm => ?_)
    show wpAny _ A.in1 (ret Value.none) _ _ s'
    have kp' := moved hm kp
    exact wpAny_pure (fin s' L es ep t (hm.mono sub) (N.up (fun o e => hm.heap S o hSw e) fun p hp => Z.up (hk p (mem g p hp)) kp') g kp')
  | succ k ih =>
    intro i s hk' hi st kp ⟨L, es, ep, t, N, g⟩ fin
    have lt : i < n := by omega
    refine codeAny_builtin F.entry_set_update_loop ?_
    rw [Around.under_plainId F.plain_set_update_loop _]
    show wpAny _ A.in1 (pyNext (.ref I) >>= _) _ _ s
    refine wpAny_bind (Wk.item i s _ _ lt st fun v s' hP st' hm => ?_)
    obtain ⟨p, hp, rfl⟩ := hval i v hP
    have kp' := moved hm kp
    have N' : NS Z s'.heap S L es ep t := N.up (fun o e => hm.heap S o hSw e) fun q hq => Z.up (hk q (mem g q hq)) kp'
    have hx : Z.T.is s'.heap p.2 p.1 := Z.up (hk p (List.mem_of_getElem? hp)) kp'
    show wpAny _ A.in1 (holding [Value.ref p.1] (setAdd S (.ref p.1)) >>= _) _ _ s'
    refine wpAny_bind (wpAny_holding ?_)
    unfold setAdd
    refine wpAny_holding (wpAny_bind (Z.T.pyHash hu hx ?_))
    refine ns_add (s := { s' with toks := s'.toks + Z.T.draws p.2 }) N' hx hu (by have := g.len; omega) fun b h' L' es' ep' t' sb N2 c1 c2 => ?_
    have kp2 : ∀ b o, h0.get? b = some o → h'.get? b = some o := fun b o e => (sb.2 b (fun z => by rw [z, hS0] at e; cases e)).trans (kp' b o e)
    refine wpAny_pure ⟨plainId_quiet F.plain_set_update_loop _, ih (i + 1) _ (by omega) lt (Wk.frame _ s' _ _ st' (Nat.le_add_right _ _) fun b hb o e => ?_) kp2 ⟨L', es', ep', t', N2, g.step hp c1 c2⟩ fun s2 L2 es2 ep2 t2 hm2 N3 g3 kp3 => ?_⟩
    · rw [sb.2 b (fun h : b = S => hSf (by rw [← h]; exact hb))]; exact e
    · refine fin s2 L2 es2 ep2 t2 (Moved.trans Wk.gtrans ((hm.mono sub).then_heap (Nat.le_add_right _ _) fun b o hb e => ?_) hm2) N3 g3 kp3
      rw [sb.2 b (fun h : b = S => hb (by rw [h]; exact List.mem_cons_self))]; exact e
/-- set(l) of a list of such -/
theorem ns_call {l : Addr} {items : Array Value} (ks : Rw κ) {Q : Value → Shared → Prop} (hh : A.handled = none) (hl : s.heap.IsList l items) (hit : items.toList = ks.map fun p => Value.ref p.1) (hk : ∀ p ∈ ks, Z.T.is s.heap p.2 p.1) (few : ks.length < 64) (hu : ∀ A' : Around, A'.units ≤ A.units + 8 → Z.T.room A')
    (fin : ∀ (h' : Heap) (tk : Nat) L es ep t, NS Z h' s.heap.objs.size L es ep t → Gt ks ks.length L → (∀ b o, s.heap.get? b = some o → h'.get? b = some o) → Q (.ref s.heap.objs.size) { s with heap := h', toks := tk }) : wpAny (model P w) A (call (.type "set") [.ref l]) Q E s := by
  have isz : items.size = ks.length := by
    have q := congrArg List.length hit
    rwa [Array.length_toList, List.length_map] at q
  obtain ⟨c, tl, mro⟩ := F.called_set.mro
  have made := F.called_set.made
  have sub := F.called_set.sub
  refine wpAny_call (codeAny_of_tree ?_)
  show wpAny _ _ (callAny (.type "set") _) _ _ _
  refine wpAny_pure ⟨Code.quiet_builtin _ (by decide +kernel), codeAny_builtin F.entry_type_call ?_⟩
  rw [Around.under_plain (weight_type_call_type "set" [.ref l] []) rfl]
  have n1 := F.called_set.notType
  have n2 := F.called_set.canCreate
  have n3 := F.typeCall_set_1 (.ref l)
  repeat (any_goals (first | assumption | wp_step))
  refine codeAny_mono (code_set_led1 (.ref l) (E := E) (Q₁ := fun obj s1 => obj = .ref s.heap.objs.size ∧ s1 = { s with heap := s.heap.push (freshSet w) }) ⟨rfl, rfl⟩) fun r s1 hr => ?_
  cases r with
  | error e => exact hr
  | ok fl =>
    cases fl with
    | ret obj =>
      obtain ⟨rfl, rfl⟩ := hr
      have hS : (s.heap.push (freshSet w)).get? s.heap.objs.size = some (freshSet w) := Heap.get?_push_size _ rfl
      have hT : Shared.TypeIs { s with heap := s.heap.push (freshSet w) } (.ref s.heap.objs.size) "set" := ⟨_, hS, rfl⟩
      have n4 := F.called_set.init.lookup
      have n5 := F.called_set.init.bind (.ref s.heap.objs.size)
      repeat (any_goals (first | assumption | wp_step))
      refine codeAny_mono (codeAny_call_builtin (R := wants (fun r s2 => r = .none ∧ ∃ h' tk L es ep t, s2 = { s with heap := h', toks := tk } ∧ NS Z h' s.heap.objs.size L es ep t ∧ Gt ks ks.length L ∧ (∀ b o, s.heap.get? b = some o → h'.get? b = some o)) E)
        F.called_set.init.plain F.entry_set_init (check_set_init_1 hT ?_)) fun r2 s2 hr2 => ?_
      · obtain ⟨ol, hol, hcl, nl, hdl⟩ := hl
        obtain ⟨ocls, odict, odata, oslots⟩ := ol
        simp only at hcl hdl
        subst hcl; subst hdl
        have hol' : (s.heap.push (freshSet w)).get? l = some { cls := .type "list", dict := odict, data := .seq items nl, slots := oslots } := Heap.get?_push_of_some _ hol
        have m1 := F.sub_list_set
        have m2 := F.sub_list_frozenset
        have m3 : (Value.type "list" == Value.type "dict") = false := by decide
        have hl1 : (s.heap.push (freshSet w)).IsList l items := ⟨_, hol', rfl, nl, rfl⟩
        unfold Builtin.«set.__init__» noKeywords Builtin.Frozenset.updateFrom
        generalize hPI : pyIter = PI
        wp_walk
        subst hPI
        refine wpAny_pyIter_list hl1 (wpAny_bind (wpAny_runValue ?_))
        have ll : l < s.heap.objs.size := Heap.lt_size hol
        have hh3 : A.in1.in1.in1.handled = none := by simp [hh]
        have ne : l ≠ (s.heap.push (freshSet w)).objs.size := by rw [Heap.size_push]; exact Nat.ne_of_lt (Nat.lt_succ_of_lt ll)
        have nf : s.heap.objs.size ∉ [(s.heap.push (freshSet w)).objs.size, l] := by
          rw [Heap.size_push]; simp only [List.mem_cons, List.not_mem_nil, or_false, not_or]
          exact ⟨Nat.ne_of_lt (Nat.lt_succ_self _), Nat.ne_of_gt ll⟩
        have hval : ∀ (i : Nat) (v : Value), items[i]? = some v → ∃ p, ks[i]? = some p ∧ v = .ref p.1 := fun i v hv => by
          have q : items.toList[i]? = some v := by rw [Array.getElem?_toList]; exact hv
          rw [hit, List.getElem?_map] at q
          cases hq : ks[i]? with
          | none => rw [hq] at q; cases q
          | some p => rw [hq] at q; exact ⟨p, rfl, (Option.some.inj q).symm⟩
        have no : ∀ b, s.heap.objs.size ≤ b → s.heap.get? b = none := fun b hb => by
          cases q : s.heap.get? b with
          | none => rfl
          | some o => exact absurd (Nat.lt_of_lt_of_le (Heap.lt_size q) hb) (Nat.lt_irrefl _)
        refine ns_fill ((Walks.list hh3 _ l ne items).toS) s.heap.objs.size nf ks isz few hval s.heap hk (no _ (Nat.le_refl _)) (fun b hb => no b (by
            rw [List.mem_singleton.mp hb, Heap.size_push]
            exact Nat.le_succ _)) (hu _ ?hroom) (items.size - 0) 0 _ (by omega) (Nat.zero_le _) ⟨⟨_, Heap.get?_push_size _ rfl, rfl, rfl⟩, hl1.push _⟩ (fun b o e => Heap.get?_push_of_some _ (Heap.get?_push_of_some _ e)) ?hS0 ?hR
        case hroom => first | exact Nat.le_add_right _ _ | (show A.units + _ ≤ A.units + 8; omega) | (simp; omega) | (simp)
        case hS0 => exact ⟨[], #[], 0, _, ns_fresh (Heap.get?_push_of_some _ hS), ⟨fun p h => (by cases h), fun p h => (by simp at h), Nat.le_refl _⟩⟩
        case hR =>
          intro s' L es ep t hm N' g' kp
          obtain ⟨h', g2, d', tk', os'⟩ := s'
          have eg : g2 = s.gens := hm.gens
          have ed : d' = s.drawn := hm.drawn
          have eo : os' = s.os := hm.os
          subst eg; subst ed; subst eo
          show wpAny _ _ _ _ _ _
          refine wpAny_pure ?_
          show wpAny _ _ (ret Value.none) _ _ _
          rw [isz] at g'
          exact wpAny_pure ⟨rfl, h', tk', L, es, ep, t, rfl, N', g', kp⟩
      · cases r2 with
        | error e => exact hr2
        | ok fl2 =>
          cases fl2 with
          | ret r =>
            obtain ⟨rfl, h', tk, L, es, ep, t, rfl, N', g', kp⟩ := hr2
            repeat (any_goals (first | assumption | wp_step))
            exact fin _ _ _ _ _ _ N' g' kp
          | _ => exact hr2.elim
    | _ => exact hr.elim
end
end Ev
set_option maxHeartbeats 4000000
namespace Ev
open PySem PySem.Spec PyProof.Rows L2
/-! ### the kind: (ints, int) -/
abbrev CK := List Int × Int
def ckey (k : CK) : NestedKey := .tup [.tup (k.1.map NestedKey.num), .num k.2]
def IntsV (vs : List Value) (l : List Int) : Prop := PySem.W.EachIs (fun v i => ∃ t, v = Value.int i t) vs l
/-- the tuple at a is (the ints, the int) -/
structure IsCK (h : Heap) (k : CK) (a : Addr) : Prop where
  ex : ∃ (o p : Obj) (b : Addr) (t : Tok) (vs : Array Value) (n m : Nat), h.get? a = some o ∧ o.cls = .type "tuple" ∧ o.data = .seq #[.ref b, .int k.2 t] n ∧ h.get? b = some p ∧ p.cls = .type "tuple" ∧ p.data = .seq vs m ∧ IntsV vs.toList k.1
theorem nested_ints {h : Heap} : ∀ {vs : List Value} {l : List Int}, IntsV vs l → NestedAll h (l.map NestedKey.num) vs
  | _, _, .nil => .nil
  | _, _, .cons ⟨t, e⟩ r => by subst e; exact .cons (.int _ _) (nested_ints r)
theorem IsCK.nested {h : Heap} {k : CK} {a : Addr} (x : IsCK h k a) : NestedIs h (ckey k) (.ref a) := by
  obtain ⟨o, p, b, t, vs, n, m, h1, h2, h3, h4, h5, h6, h7⟩ := x.ex
  exact .tup h1 h2 h3 (.cons (.tup h4 h5 h6 (nested_ints h7)) (.cons (.int _ _) .nil))
theorem num_inj : ∀ {l m : List Int}, l.map NestedKey.num = m.map NestedKey.num → l = m
  | [], [], _ => rfl
  | [], _ :: _, h => by cases h
  | _ :: _, [], h => by cases h
  | a :: l, b :: m, h => by
    simp only [List.map_cons, List.cons.injEq, NestedKey.num.injEq] at h
    rw [h.1, num_inj h.2]
theorem ckey_inj {k k' : CK} (h : ckey k = ckey k') : k = k' := by
  unfold ckey at h
  simp only [NestedKey.tup.injEq, List.cons.injEq, NestedKey.num.injEq, and_true] at h
  exact Prod.ext (num_inj h.1) h.2
theorem ints_depth : ∀ l : List Int, NestedKey.depthAll (l.map NestedKey.num) ≤ 1
  | [] => by simp [NestedKey.depthAll]
  | a :: l => by
    have := ints_depth l
    simp only [List.map_cons, NestedKey.depthAll, NestedKey.depth]
    omega
theorem ckey_depth (k : CK) : (ckey k).depth ≤ 8 := by
  have := ints_depth k.1
  simp only [ckey, NestedKey.depth, NestedKey.depthAll]
  omega
theorem IsCK.up {h h' : Heap} {k : CK} {a : Addr} (kp : ∀ c o vs n, h.get? c = some o → o.data = .seq vs n → h'.get? c = some o) (x : IsCK h k a) : IsCK h' k a := by
  obtain ⟨o, p, b, t, vs, n, m, h1, h2, h3, h4, h5, h6, h7⟩ := x.ex
  exact ⟨o, p, b, t, vs, n, m, kp _ _ _ _ h1 h3, h2, h3, kp _ _ _ _ h4 h6, h5, h6, h7⟩
variable {P : Program} {w : World}
def ckind (P : Program) (w : World) : HeapKind P w CK where
  is := IsCK
  hash := fun k => (nestedKind P w).hash (ckey k)
  draws := fun k => (nestedKind P w).draws (ckey k)
  room := fun A => A.units + 8 < cLine
  inj := fun hx hy => ckey_inj (NestedIs.inj _ _ _ hx.nested hy.nested)
  keeps := fun {h h' k a d o es ep} x ho hd hs => x.up fun c ob vs n hb hc => (hs.2 c fun e => by subst e; rw [ho] at hb; cases hb; rw [hd] at hc; cases hc).trans hb
  pyHash := fun hu hk fin => (nestedKind P w).pyHash hu ⟨hk.nested, ckey_depth _⟩ fin
  eqBool := fun {A E s x y a b Q} hu hx hy fin => (nestedKind P w).eqBool hu ⟨hx.nested, ckey_depth _⟩ ⟨hy.nested, ckey_depth _⟩ (by
    have : decide (ckey x = ckey y) = decide (x = y) := by
      by_cases e : x = y
      · subst e; simp
      · rw [decide_eq_false e, decide_eq_false fun h => e (ckey_inj h)]
    rw [this]; exact fin)
  quiet := fun hk fin => (nestedKind P w).quiet ⟨hk.nested, ckey_depth _⟩ fin
section
variable {A : Around} {E : Value → Shared → Prop} {s : Shared}
theorem each_mem_int : ∀ {vs : List Value} {l : List Int}, IntsV vs l → ∀ v ∈ vs, ∃ i t, v = Value.int i t
  | _, _, .nil, v, h => by cases h
  | _, _, .cons ⟨t, e⟩ r, v, h => by
    rcases List.mem_cons.mp h with z | z
    · exact ⟨_, t, z.trans e⟩
    · exact each_mem_int r v z
/-- all items answer no -/
theorem cls_items {n : Nat} {items : Array Value} {b : Addr} {o : Obj} {k : Nat} {Q : Bool → Shared → Prop} (ho : s.heap.get? b = some o) (hc : o.cls = .type "tuple") (hd : o.data = .seq items k)
    (each : ∀ v ∈ items.toList, ∀ {Q : Bool → Shared → Prop}, Q false s → wpAny (model P w) A (ofAClassStatement n v) Q E s) (fin : Q false s) : wpAny (model P w) A (ofAClassStatement (n + 1) (.ref b)) Q E s := by
  unfold ofAClassStatement
  refine wpAny_bind (wpAny_typeOf ⟨o, ho, hc⟩ ?_)
  dsimp only
  have e : (("tuple" : String) == "tuple") = true := by decide
  simp only [e, if_true, Bool.not_true, Bool.false_eq_true, if_false]
  try refine wpAny_bind (wpAny_pure ?_)
  try simp only [Bool.not_true, Bool.false_eq_true, if_false]
  show wpAny _ _ (seqItems? (.ref b) >>= _) _ _ s
  refine wpAny_bind (wpAny_seqItems ho hd ?_)
  dsimp only
  refine wpAny_bind ?_
  show wpAny _ _ (forIn items _ _) _ _ s
  rw [← Array.forIn_toList]
  refine wpAny_forIn_list _ (fun rest r s' => r.1 = none ∧ s' = s ∧ ∀ v ∈ rest, v ∈ items.toList) _ ?_ ?_ _ _ ⟨rfl, rfl, fun v h => h⟩
  · rintro v rest r s' ⟨hr, rfl, all⟩
    refine wpAny_bind (each v (all v List.mem_cons_self) ?_)
    rw [if_neg Bool.false_ne_true]
    exact wpAny_pure ⟨rfl, rfl, fun u hu => all u (List.mem_cons_of_mem _ hu)⟩
  · rintro ⟨r1, r2⟩ s' ⟨hr, rfl, _⟩
    cases hr
    exact wpAny_pure fin
theorem byv_items {n : Nat} {items : Array Value} {b : Addr} {o : Obj} {k : Nat} {Q : Bool → Shared → Prop} (ho : s.heap.get? b = some o) (hc : o.cls = .type "tuple") (hd : o.data = .seq items k)
    (each : ∀ v ∈ items.toList, ∀ {Q : Bool → Shared → Prop}, Q true s → wpAny (model P w) A (hashByValue n v) Q E s) (fin : Q true s) : wpAny (model P w) A (hashByValue (n + 1) (.ref b)) Q E s := by
  unfold hashByValue
  refine wpAny_bind (wpAny_specialOf ⟨o, ho, hc⟩ F.slot_tuple_hash.lookup ?_)
  show wpAny _ _ (seqItems? (.ref b) >>= _) _ _ s
  refine wpAny_bind (wpAny_seqItems ho hd (wpAny_bind ?_))
  show wpAny _ _ (forIn items _ _) _ _ s
  rw [← Array.forIn_toList]
  refine wpAny_forIn_list _ (fun rest r s' => r.1 = none ∧ s' = s ∧ ∀ v ∈ rest, v ∈ items.toList) _ ?_ ?_ _ _ ⟨rfl, rfl, fun v h => h⟩
  · rintro v rest r s' ⟨hr, rfl, all⟩
    refine wpAny_bind (each v (all v List.mem_cons_self) ?_)
    rw [Bool.not_true, if_neg Bool.false_ne_true]
    exact wpAny_pure ⟨rfl, rfl, fun u hu => all u (List.mem_cons_of_mem _ hu)⟩
  · rintro ⟨r1, r2⟩ s' ⟨hr, rfl, _⟩
    cases hr
    exact wpAny_pure fin
end
def ckk (P : Program) (w : World) : KK P w CK where
  T := ckind P w
  cls := fun {A E s k b Q} hk fin => by
    obtain ⟨o, p, b', t, vs, n, m, h1, h2, h3, h4, h5, h6, h7⟩ := IsCK.ex hk
    refine cls_items (n := 7) h1 h2 h3 (fun v hv Q q => ?_) fin
    simp only [List.mem_cons, List.not_mem_nil, or_false] at hv
    rcases hv with e | e
    · subst e
      refine cls_items (n := 6) h4 h5 h6 (fun u hu Q q => ?_) q
      obtain ⟨i, t', rfl⟩ := each_mem_int h7 u hu
      rw [ofAClass_int]
      exact wpAny_pure q
    · subst e
      rw [ofAClass_int]
      exact wpAny_pure q
  byv := fun {A E s k b Q} hk fin => by
    obtain ⟨o, p, b', t, vs, n, m, h1, h2, h3, h4, h5, h6, h7⟩ := IsCK.ex hk
    refine byv_items (n := 7) h1 h2 h3 (fun v hv Q q => ?_) fin
    simp only [List.mem_cons, List.not_mem_nil, or_false] at hv
    rcases hv with e | e
    · subst e
      refine byv_items (n := 6) h4 h5 h6 (fun u hu Q q => ?_) q
      obtain ⟨i, t', rfl⟩ := each_mem_int h7 u hu
      rw [hashBy_int]
      exact wpAny_pure q
    · subst e
      rw [hashBy_int]
      exact wpAny_pure q
  mono := fun kp x => IsCK.up kp x
end Ev
set_option maxHeartbeats 4000000
namespace Ev
open PySem PySem.Spec PyProof.Rows L2
open PySem.W (EachIs dataLe dataLt AllAlike Sortable alike alikeAll)
def ckd (k : CK) : PyData := .tuple [.tuple (k.1.map PyData.int), .int k.2]
def cke (q : Addr × CK) : PyData := ckd q.2
theorem reads_ints {h : Heap} : ∀ {vs : List Value} {l : List Int}, IntsV vs l → ReadsAll h vs (l.map PyData.int) []
  | _, _, .nil => .nil
  | _, _, .cons ⟨t, e⟩ r => by subst e; exact .cons (as := []) (.int _ _) (reads_ints r)
theorem IsCK.reads {h : Heap} {k : CK} {a : Addr} (x : IsCK h k a) : Reads h (.ref a) (ckd k) [] := by
  obtain ⟨o, p, b, t, vs, n, m, h1, h2, h3, h4, h5, h6, h7⟩ := x.ex
  exact .tuple h1 h2 h3 (.cons (as := []) (.tuple h4 h5 h6 (reads_ints h7)) (.cons (as := []) (.int _ _) .nil))
theorem cke_alike (q r : Addr × CK) : alike (cke q) (cke r) = true := by
  simp [cke, ckd, alike, alikeAll, PySem.W.alike_ints]
theorem cke_sortable (L : List (Addr × CK)) : Sortable (L.map cke) := PySem.W.Sortable.tuples fun b => ⟨_, _, rfl⟩
theorem cke_depth (q : Addr × CK) : (cke q).depth ≤ 3 := by
  simp [cke, ckd, PyData.depth, PyData.depthAll, PySem.W.depth_ints]
abbrev ckLe : Addr × CK → Addr × CK → Bool := dataLe false cke
section
variable {P : Program} {w : World} {A : Around} {E : Value → Shared → Prop} {s : Shared}
theorem each_refs {h : Heap} : ∀ {L : List (Addr × CK)}, (∀ q ∈ L, IsCK h q.2 q.1) → EachIs (fun v (q : Addr × CK) => ∃ as, Reads h v (cke q) as ∧ s.heap.objs.size ∉ as) (L.map fun q => Value.ref q.1) L
  | [], _ => .nil
  | q :: L, h => .cons ⟨[], (h q List.mem_cons_self).reads, by simp⟩ (each_refs fun r hr => h r (List.mem_cons_of_mem _ hr))
theorem each_refs0 : ∀ {L : List (Addr × CK)}, EachIs (fun v (q : Addr × CK) => v = Value.ref q.1) (L.map fun q => Value.ref q.1) L
  | [] => .nil
  | q :: L => .cons rfl each_refs0
theorem refs_each : ∀ {L : List (Addr × CK)} {out : List Value}, EachIs (fun v (q : Addr × CK) => v = Value.ref q.1) out L → out = L.map fun q => Value.ref q.1
  | _, _, .nil => rfl
  | _, _, .cons e r => by rw [e, refs_each r]; rfl
/-- the sorted set -/
theorem ns_sorted {a : Addr} {L : List (Addr × CK)} {es : Array (Int × Value)} {ep : Nat} {t : SetTable} {Q : Value → Shared → Prop} (R : NS (ckk P w) s.heap a L es ep t) (hh : A.handled = none) (hu : A.units + 12 < cLine)
    (hQ : ∀ s' p (out : Array Value) (c : Nat) (L' : List (Addr × CK)), (∀ b o, s.heap.get? b = some o → s'.heap.get? b = some o) → s'.gens = s.gens → s'.os = s.os → s.heap.objs.size ≤ p →
      s'.heap.get? p = some (seqObj "list" out c) → out.toList = (L'.mergeSort ckLe).map (fun q => Value.ref q.1) → L'.Perm L → Q (.ref p) s') :
    wpAny (model P w) A (call (.builtin "sorted") [.ref a]) Q E s := by
  obtain ⟨o, ho, hex, hd⟩ := R.ob
  have hfew := R.few
  have hsz : es.size = L.length := rows_len R.rows
  refine Calls.call_function_entry kind_sorted plain_sorted entry_sorted (args_sorted1 _) ?_
  unfold Builtin.«sorted»
  refine wpAny_bind (m := checkCount "sorted" 1 1 _) (wpAny_pure ?_)
  refine wpAny_bind (collect_set (A := A.in1) hh ⟨o, ho, hex.1, hd⟩ R.fits (by unfold scanBound; omega) R.tab.ris R.led fun s1 vs k1 hz g1 o1 pm => ?_)
  have hes : es.toList.map (·.2) = L.map fun q => Value.ref q.1 := by
    rw [R.rows]
    unfold KK.rows
    rw [List.map_map] <;> rfl
  rw [hes] at pm
  have ord : ∀ vs : List Value, (∀ v ∈ vs, ∃ q ∈ L, v = Value.ref q.1) → ∃ L1 : List (Addr × CK), vs = L1.map (fun q => Value.ref q.1) ∧ ∀ q ∈ L1, q ∈ L := by
    intro vs
    induction vs with
    | nil => intro _; exact ⟨[], rfl, fun q hq => (by cases hq)⟩
    | cons v vs ih =>
      intro hv
      obtain ⟨q, hq, e⟩ := hv v List.mem_cons_self
      obtain ⟨L1, e1, hs⟩ := ih fun u hu => hv u (List.mem_cons_of_mem _ hu)
      refine ⟨q :: L1, by rw [List.map_cons, e, e1], fun r hr => ?_⟩
      rcases List.mem_cons.mp hr with z | z
      · rw [z]; exact hq
      · exact hs r z
  have one : ∀ q ∈ L, ∀ r ∈ L, q.1 = r.1 → q = r := fun q hq r hr e => by
    have a1 := R.is q hq
    have a2 := R.is r hr
    rw [e] at a1
    exact Prod.ext e ((ckk P w).T.inj a1 a2)
  have perm_of : ∀ L1 : List (Addr × CK), (∀ q ∈ L1, q ∈ L) → (L1.map (fun q => Value.ref q.1)).Perm (L.map fun q => Value.ref q.1) → L1.Perm L := by
    intro L1 hs pm1
    have nL : L.Nodup := nodup_of_map R.nd
    have nref : (L.map fun q => Value.ref q.1).Nodup := by
      refine List.pairwise_map.mpr (List.Pairwise.imp_of_mem (fun {q r} hq hr hne e => ?_) nL)
      injection e with e
      exact hne (one q hq r hr e)
    have n1 : L1.Nodup := nodup_of_map (pm1.nodup_iff.mpr nref)
    refine (List.perm_ext_iff_of_nodup n1 nL).mpr fun q => ⟨hs q, fun hq => ?_⟩
    have hm : Value.ref q.1 ∈ L1.map (fun q => Value.ref q.1) := pm1.mem_iff.mpr (List.mem_map.mpr ⟨q, hq, rfl⟩)
    obtain ⟨r, hr, e⟩ := List.mem_map.mp hm
    injection e with e
    rw [← one r (hs r hr) q hq e]
    exact hr
  obtain ⟨L1, e1, s1'⟩ := ord vs fun v hv => by
    obtain ⟨q, hq, e⟩ := List.mem_map.mp (pm.mem_iff.mp hv)
    exact ⟨q, hq, e.symm⟩
  have p1 : L1.Perm L := perm_of L1 s1' (by rw [← e1]; exact pm)
  subst e1
  have hl1 : L1.length < 64 := by rw [p1.length_eq]; exact hfew
  have hvl : (L1.map fun q => Value.ref q.1).length < 64 := by rw [List.length_map]; exact hl1
  refine wpAny_bind (wpAny_newList ?_ (by rw [sizeLine_eq]; omega))
  have hoL : (s1.heap.push (seqObj "list" (L1.map fun q => Value.ref q.1).toArray 0)).get? s1.heap.objs.size = some (seqObj "list" (L1.map fun q => Value.ref q.1).toArray 0) := Heap.get?_push_size _ rfl
  have isk : ∀ q ∈ L1, IsCK (s1.heap.push (seqObj "list" (L1.map fun q => Value.ref q.1).toArray 0)) q.2 q.1 := fun q hq => (ckk P w).up (R.is q (s1' q hq)) fun b u e => Heap.get?_push_of_some _ (k1 b u e)
  refine wpAny_bind (wpAny_holding (PySem.W.list_sort_data (s := { s1 with heap := s1.heap.push (seqObj "list" (L1.map fun q => Value.ref q.1).toArray 0) }) (β := Addr × CK) (enc := cke) (bs := L1) (R := fun v (q : Addr × CK) => v = Value.ref q.1) hoL each_refs0
    (each_refs (s := s1) isk) (PySem.W.AllAlike.of cke_alike) (cke_sortable L1) (by rw [sizeLine_eq]; omega) (fun b _ => by
      have := cke_depth b
      show A.units + 1 + 1 + _ < _
      omega) fun out ol oe => ?_))
  obtain ⟨c, hc⟩ := sortedHeap_at (vs := L1.map fun q => Value.ref q.1) (out := out.toArray) hoL
  refine wpAny_pure ⟨_, rfl, hQ _ s1.heap.objs.size out.toArray c L1 (fun b u e => ?_) g1 o1 hz hc (by rw [List.toList_toArray]; exact refs_each oe) p1⟩
  have q := k1 b u e
  have hlt := Heap.lt_size q
  show (sortedHeap (s1.heap.push (seqObj "list" (L1.map fun q => Value.ref q.1).toArray 0)) s1.heap.objs.size (L1.map fun q => Value.ref q.1) out.toArray).get? b = some u
  rw [sortedHeap_old (Nat.ne_of_lt hlt) (by rw [size_push']; exact Nat.lt_succ_of_lt hlt)]
  exact Heap.get?_push_of_some _ q
end
end Ev
set_option maxHeartbeats 4000000
namespace Ev
open PySem PySem.Spec PyProof.Rows L2
open PySem.W (EachIs dataLe dataLt AllAlike Sortable alike alikeAll keyToks keyToksAll)
theorem toks_inj : ∀ (xs ys : List Int) (t u : List (Int ⊕ List Nat)), keyToksAll (xs.map PyData.int) ++ t = keyToksAll (ys.map PyData.int) ++ u → xs = ys ∧ t = u
  | [], [], t, u, h => by simpa [keyToksAll] using h
  | [], y :: ys, t, u, h => by simp [keyToksAll] at h
  | x :: xs, [], t, u, h => by simp [keyToksAll] at h
  | x :: xs, y :: ys, t, u, h => by
    simp only [List.map_cons, keyToksAll, keyToks, List.cons_append, List.cons.injEq, Sum.inl.injEq, true_and, List.nil_append] at h
    obtain ⟨h1, h2⟩ := h
    obtain ⟨h3, h4⟩ := toks_inj xs ys t u h2
    exact ⟨by rw [h1, h3], h4⟩
theorem ckd_inj {k k' : CK} (h : keyToks (ckd k) = keyToks (ckd k')) : k = k' := by
  simp only [ckd, keyToks, keyToksAll, List.cons.injEq, true_and] at h
  obtain ⟨h1, h2⟩ := toks_inj _ _ _ _ h
  simp only [List.cons_append, List.nil_append, List.cons.injEq, Sum.inl.injEq, true_and, and_true] at h2
  exact Prod.ext h1 h2
abbrev kLe : CK → CK → Bool := dataLe false ckd
theorem kLe_total (a b : CK) : (kLe a b || kLe b a) = true := by
  rcases (PySem.W.sortLe_total (listOrd itemOrd) false fun b => keyToks (ckd b)).total a b with h | h
  · rw [show kLe a b = true from h]; rfl
  · rw [show kLe b a = true from h]; simp
theorem kLe_trans (a b c : CK) (h1 : kLe a b = true) (h2 : kLe b c = true) : kLe a c = true := (PySem.W.sortLe_total (listOrd itemOrd) false fun b => keyToks (ckd b)).trans a b c h1 h2
theorem kLe_antisymm (a b : CK) (h1 : kLe a b = true) (h2 : kLe b a = true) : a = b := by
  have h1' : (!lexLt itemOrd (keyToks (ckd b)) (keyToks (ckd a))) = true := h1
  have h2' : (!lexLt itemOrd (keyToks (ckd a)) (keyToks (ckd b))) = true := h2
  rw [Bool.not_eq_true'] at h1' h2'
  exact ckd_inj (lex_total _ _ h2' h1')
/-- sorting forgets the order -/
theorem kSort_perm {l m : List CK} (h : l.Perm m) : l.mergeSort kLe = m.mergeSort kLe :=
  List.Perm.eq_of_pairwise (le := fun a b => kLe a b = true) (fun a b _ _ => kLe_antisymm a b) (List.pairwise_mergeSort kLe_trans kLe_total l) (List.pairwise_mergeSort kLe_trans kLe_total m)
    (((List.mergeSort_perm l kLe).trans h).trans (List.mergeSort_perm m kLe).symm)
def ddup : List CK → List CK
  | [] => []
  | k :: ks => if k ∈ ks then ddup ks else k :: ddup ks
theorem mem_ddup {k : CK} : ∀ {ks : List CK}, k ∈ ddup ks ↔ k ∈ ks
  | [] => Iff.rfl
  | x :: ks => by
    unfold ddup
    by_cases h : x ∈ ks
    · rw [if_pos h, mem_ddup, List.mem_cons]
      exact ⟨.inr, fun q => q.elim (fun e => by rw [e]; exact h) id⟩
    · rw [if_neg h, List.mem_cons, List.mem_cons, mem_ddup]
theorem nodup_ddup : ∀ ks : List CK, (ddup ks).Nodup
  | [] => List.nodup_nil
  | x :: ks => by
    unfold ddup
    by_cases h : x ∈ ks
    · rw [if_pos h]; exact nodup_ddup ks
    · rw [if_neg h]; exact List.nodup_cons.mpr ⟨fun q => h (mem_ddup.mp q), nodup_ddup ks⟩
/-- sorted(set(ks)) -/
def soset (ks : List CK) : List CK := (ddup ks).mergeSort kLe
theorem soset_mem {k : CK} {ks : List CK} : k ∈ soset ks ↔ k ∈ ks := by unfold soset; rw [List.mem_mergeSort, mem_ddup]
/-- the set's rows, sorted -/
theorem soset_rows {ks : Rw CK} {L L' : Rw CK} (g : Gt ks ks.length L) (nd : (L.map (·.2)).Nodup) (p : L'.Perm L) : (L'.mergeSort ckLe).map (·.2) = soset (ks.map (·.2)) := by
  rw [List.map_mergeSort (r := ckLe) (s := kLe) (f := fun q : Addr × CK => q.2) (fun a _ b _ => rfl)]
  refine kSort_perm ?_
  have np : (L'.map (·.2)).Perm (L.map (·.2)) := p.map _
  refine (List.perm_ext_iff_of_nodup (np.nodup_iff.mpr nd) (nodup_ddup _)).mpr fun k => ?_
  rw [np.mem_iff, mem_ddup]
  refine ⟨fun h => ?_, fun h => ?_⟩
  · obtain ⟨q, hq, e⟩ := List.mem_map.mp h
    exact List.mem_map.mpr ⟨q, List.mem_of_mem_take (g.sub q hq), e⟩
  · obtain ⟨q, hq, e⟩ := List.mem_map.mp h
    rw [← e]
    exact g.all q (by rw [List.take_length]; exact hq)
end Ev
set_option maxHeartbeats 4000000
namespace Ev
open PySem PySem.Spec PyProof.Rows L2
/-- the tuple at a, in the tracked heap -/
def CkT (K : PySem.W.Frag) (H : Hp) (k : CK) (a : Addr) : Prop := ∃ b, SqT K H a [.ref b, .int k.2] ∧ SqT K H b (k.1.map V.int)
theorem ints_vals : ∀ {l : List Int} {us : List Value}, Vals (l.map V.int) us → IntsV us l
  | [], _, .nil => .nil
  | n :: l, _, .cons r t => .cons (by obtain ⟨tk, rfl⟩ := r; exact ⟨tk, rfl⟩) (ints_vals t)
theorem inv_ck {X : Cx} {pins : List (Addr × Obj)} {σ : L2.St} {H : Hp} {s : Shared} {k : CK} {a : Addr} (I : Inv X pins σ H s) (h : CkT X.K H k a) : IsCK s.heap k a := by
  obtain ⟨b, h1, h2⟩ := h
  obtain ⟨its, r, ⟨o, e, c, n, d⟩, _⟩ := I.tuple h1
  obtain ⟨its', r', ⟨o', e', c', n', d'⟩, _⟩ := I.tuple h2
  cases r with
  | cons r1 r =>
    cases r with
    | cons r2 r =>
      cases r
      cases r1
      obtain ⟨tk, rfl⟩ := r2
      exact ⟨o, o', b, tk, its'.toArray, n, n', e, c, d, e', c', d', by simpa using ints_vals r'⟩
theorem refs_vals : ∀ {ks : Rw CK} {us : List Value}, Vals (ks.map fun p => V.ref p.1) us → us = ks.map fun p => Value.ref p.1
  | [], _, .nil => rfl
  | p :: ks, _, .cons r t => by
    cases r
    rw [refs_vals t] <;> rfl
theorem vals_refs : ∀ (ks : Rw CK), Vals (ks.map fun p => V.ref p.1) (ks.map fun p => Value.ref p.1)
  | [] => .nil
  | p :: ks => .cons rfl (vals_refs ks)
def rSoSet (K : PySem.W.Frag) : List V → Hp → VK → Prop := fun us H Q => ∃ (l : Addr) (ks : Rw CK), us = [.ref l] ∧ SqL K H l (ks.map fun p => V.ref p.1) ∧ (∀ p ∈ ks, CkT K H p.2 p.1) ∧ ks.length < 64 ∧
  ∀ (p : Addr) (L' : Rw CK), H p = none → (∀ q ∈ L', q ∈ ks) → L'.map (·.2) = soset (ks.map (·.2)) → Q (.ref p) (upd H p (.lst (L'.map fun q => V.ref q.1)))
theorem pe_soset {X : Cx} {e : Expr} {ta : TA} {p p2 pos pos2 : Pos} (hc : X.calm = true) (hu : X.A.units + 64 < cLine) (hg : Gl X "sorted") (hm : X.mg "sorted" = none) (hg2 : Gl X "set") (hm2 : X.mg "set" = none) (ha : PA X [e] ta)
    (hs : starEach [e] X.env = (false, eval e X.env) :: starEach [] X.env) :
    PE X (.Call (.Name "sorted" p) [.Call (.Name "set" p2) [e] [] pos2] [] pos) (fun σ H Q => ta σ H fun us H1 => rSoSet X.K us H1 Q) := by
  refine ⟨fun pins s σ H Q I h => ?_⟩
  refine Call_ (ld_blt I hg hm PyProof.Rows.boot_sorted (PyProof.Rows.callWith_builtin1 ?_ rfl rfl))
  show wpAny _ _ (spliced ((false, eval (.Call (.Name "set" p2) [e] [] pos2) X.env) :: backTo pos (starEach [] X.env))) _ _ s
  refine Calls.spliced_cons (Call_ (ld_blt I hg2 hm2 PyProof.Rows.boot_set (PyProof.Rows.callWith_type1 (thn (ha.run pos2 pins s σ H _ I h) fun us s1 ⟨vs, H1, I1, r1, q1⟩ => ?_) hs rfl)))
  obtain ⟨l, ks, rfl, hl, hk, few, q⟩ := q1
  rw [Vals.ref1 r1]
  obtain ⟨its, rv, pl, hz⟩ := I1.list hl
  refine ns_call (Z := ckk X.prog X.w) ks (I1.ok.hd hc) pl.isList (by simpa using refs_vals rv) (fun p hp => inv_ck I1 (hk p hp)) few (fun A' hA => by show A'.units + 8 < cLine; omega) fun h' tk L es ep t N g kp => ?_
  refine Calls.spliced_nil ?_
  have I2 : Inv X pins σ H1 { s1 with heap := h', toks := tk } := I1.kept (t' := tk) kp
  refine ns_sorted (s := { s1 with heap := h', toks := tk }) N (I1.ok.hd hc) (by omega) fun s' p out c L' k gg oo hp hgt hout pm => ?_
  have hn : H1 p = none := I2.hok.fresh hp
  have hlen : ((L'.mergeSort ckLe).map fun q => V.ref q.1).length ≤ sizeLine := by
    rw [List.length_map, List.length_mergeSort, pm.length_eq, sizeLine_eq]
    have := N.few
    omega
  have hv : Vals ((L'.mergeSort ckLe).map fun q => V.ref q.1) out.toList := by rw [hout]; exact vals_refs _
  have J : Inv X pins σ (upd H1 p (.lst ((L'.mergeSort ckLe).map fun q => V.ref q.1))) s' := I2.call' (ch := []) oo (Un.laid k hp hn) (I2.hok.laid k hp ⟨hlen, out.toList, c, hv, hgt⟩) (by rw [gg]; exact I2.bare) (fun _ z => nomatch z)
  exact ⟨.ref p, _, J, rfl, q p _ hn (fun r hr => List.mem_of_mem_take (g.sub r (pm.mem_iff.mp (List.mem_mergeSort.mp hr)))) (soset_rows g N.nd pm)⟩
def intsD : List D → Option (List Int)
  | [] => some []
  | .int i :: r => (intsD r).map (i :: ·)
  | _ :: _ => none
def ckOf : D → Option CK
  | .tup [.tup is, .int s] => (intsD is).map (·, s)
  | _ => none
def cksOf : List D → Option (List CK)
  | [] => some []
  | d :: r => match ckOf d, cksOf r with
    | some k, some ks => some (k :: ks)
    | _, _ => none
def ckD (k : CK) : D := .tup [.tup (k.1.map D.int), .int k.2]
theorem intsD_ok : ∀ {ds : List D} {is : List Int}, intsD ds = some is → ds = is.map D.int
  | [], _, h => by cases h; rfl
  | d :: r, is, h => by
    cases d with
    | int i =>
      simp only [intsD, Option.map_eq_some_iff] at h
      obtain ⟨js, h1, rfl⟩ := h
      rw [intsD_ok h1]; rfl
    | _ => simp [intsD] at h
theorem ckOf_ok {d : D} {k : CK} (h : ckOf d = some k) : d = ckD k := by
  unfold ckOf at h
  split at h
  · simp only [Option.map_eq_some_iff] at h
    obtain ⟨js, h1, rfl⟩ := h
    rw [intsD_ok h1]; rfl
  · cases h
theorem cksOf_ok : ∀ {ds : List D} {ks : List CK}, cksOf ds = some ks → ds = ks.map ckD
  | [], _, h => by cases h; rfl
  | d :: r, ks, h => by
    unfold cksOf at h
    split at h
    · rename_i k ks' h1 h2
      cases h
      rw [ckOf_ok h1, cksOf_ok h2]; rfl
    · cases h
section
variable {K : PySem.W.Frag} {ro : Ro} {H : Hp}
theorem reps_ints : ∀ {is : List Int} {vs : List V}, Reps K ro H (is.map D.int) vs → vs = is.map V.int
  | [], _, h => by cases h; rfl
  | i :: is, _, h => by
    cases h with
    | cons h1 h2 => cases h1; rw [reps_ints h2]; rfl
theorem ints_reps : ∀ (is : List Int), Reps K ro H (is.map D.int) (is.map V.int)
  | [] => .nil
  | i :: is => .cons (.int i) (ints_reps is)
theorem ck_rep {k : CK} {v : V} (h : Rep K ro H (ckD k) v) : ∃ a, v = .ref a ∧ CkT K H k a := by
  cases h with
  | tup h1 h2 =>
    cases h2 with
    | cons h3 h4 =>
      cases h3 with
      | tup h5 h6 =>
        cases h4 with
        | cons h7 h8 =>
          cases h7
          cases h8
          rw [reps_ints h6] at h5
          exact ⟨_, rfl, _, h1, h5⟩
theorem rep_ck {k : CK} {a : Addr} (h : CkT K H k a) : Rep K ro H (ckD k) (.ref a) := by
  obtain ⟨b, h1, h2⟩ := h
  exact .tup h1 (.cons (.tup h2 (ints_reps _)) (.cons (.int _) .nil))
theorem cks_reps : ∀ {ks : List CK} {vs : List V}, Reps K ro H (ks.map ckD) vs → ∃ L : Rw CK, vs = L.map (fun p => V.ref p.1) ∧ L.map (·.2) = ks ∧ ∀ p ∈ L, CkT K H p.2 p.1
  | [], _, h => by cases h; exact ⟨[], rfl, rfl, fun p h => by cases h⟩
  | k :: ks, _, h => by
    cases h with
    | cons h1 h2 =>
      obtain ⟨a, rfl, c⟩ := ck_rep h1
      obtain ⟨L, rfl, rfl, q⟩ := cks_reps h2
      refine ⟨(a, k) :: L, rfl, rfl, fun p hp => ?_⟩
      rcases List.mem_cons.mp hp with z | z
      · rw [z]; exact c
      · exact q p z
theorem reps_cks : ∀ {L : Rw CK}, (∀ p ∈ L, CkT K H p.2 p.1) → Reps K ro H ((L.map (·.2)).map ckD) (L.map fun p => V.ref p.1)
  | [], _ => .nil
  | p :: L, h => .cons (rep_ck (h p List.mem_cons_self)) (reps_cks fun q hq => h q (List.mem_cons_of_mem _ hq))
end
def soGo (s : S) : Option (List CK) → R D
  | some ks => if ks.length < 64 then .ok (.ref s.n) (s.push (.lst ((soset ks).map ckD))) else .bad
  | none => .bad
def soIt (s : S) : Option O → R D
  | some (.lst xs) => soGo s (cksOf xs)
  | _ => .bad
def bSoSet (ds : List D) (s : S) : R D := match ds with
  | [.ref p] => soIt s (s.get p)
  | _ => .bad
theorem bSoSet_ok {K : PySem.W.Frag} {Cl : Nat → Addr} : OpSs K Cl bSoSet (rSoSet K) := by
  intro ds vs H ro s Q rp rh h
  match ds, rp, h with
  | [.ref p], .cons rp .nil, h =>
    cases rp with
    | ref h1 =>
      rename_i a
      have h : (soIt s (s.get p)).wp (okQ K Cl ro H Q) (fun _ _ _ => False) := h
      cases q : s.get p with
      | none => rw [q] at h; exact h.elim
      | some o =>
        obtain ⟨a', e1, e2⟩ := rh.get p o q
        rw [h1] at e1; cases e1
        rw [q] at h
        cases o with
        | lst ys =>
          cases e2 with
          | lst g1 g2 =>
            have h : (soGo s (cksOf ys)).wp (okQ K Cl ro H Q) (fun _ _ _ => False) := h
            cases hk : cksOf ys with
            | none => rw [hk] at h; exact h.elim
            | some ks =>
              rw [hk] at h
              have h : (if ks.length < 64 then R.ok (D.ref s.n) (s.push (.lst ((soset ks).map ckD))) else R.bad).wp (okQ K Cl ro H Q) (fun _ _ _ => False) := h
              by_cases few : ks.length < 64
              · rw [if_pos few] at h
                rw [cksOf_ok hk] at g2
                obtain ⟨L, e3, e4, e5⟩ := cks_reps g2
                subst e3
                subst e4
                refine ⟨a, L, rfl, SqL.of g1, e5, by rw [← List.length_map (f := fun p : Addr × CK => p.2)]; exact few, fun b L' hb sub he => ?_⟩
                have x := ext_new (K := K) (ho := .lst (L'.map fun q => V.ref q.1)) rh hb
                have r2 : Reps K ro H ((L'.map (·.2)).map ckD) (L'.map fun p => V.ref p.1) := reps_cks fun q hq => e5 q (sub q hq)
                rw [he] at r2
                exact h (.ref b) _ _ (rh.new hb (.lst (upd_same ..) (r2.mono x))) x (.ref ron_same)
              · rw [if_neg few] at h; exact h.elim
        | frz _ => exact h.elim
        | dct _ => exact h.elim
        | ins _ _ => exact h.elim
theorem s_soset {X : Cx} {Cl : Nat → Addr} {W : WX} {f : SE} {e : Expr} {p p2 pos pos2 : Pos} (hc : X.calm = true) (hu : X.A.units + 64 < cLine) (hg : Gl X "sorted") (hm : X.mg "sorted" = none) (hg2 : Gl X "set") (hm2 : X.mg "set" = none) (h1 : PE X e (rdE X.K Cl W f))
    (hs : starEach [e] X.env = [(false, eval e X.env)]) :
    PE X (.Call (.Name "sorted" p) [.Call (.Name "set" p2) [e] [] pos2] [] pos) (rdE X.K Cl W (cCall bSoSet (cCons f cNil))) :=
  (pe_soset hc hu hg hm hg2 hm2 (s_cons h1 s_nil hs) hs).imp fun _ _ _ h => r_call bSoSet_ok h
end Ev
set_option maxHeartbeats 4000000
namespace Ev
open PySem PySem.Spec PyProof.Rows L2
/-! ### a zip kept in a variable -/
def HX (b : Addr) (o : Obj) : HO := .ext fun h => h.get? b = some o
theorem hx_ok {P : Program} {w : World} {H : Hp} {h : Heap} {b : Addr} {o : Obj} (e : h.get? b = some o) : ObjOk P w H h b (HX b o) := ⟨e, ⟨_, e⟩, fun _ _ q k => k _ q⟩
def trk (H : Hp) : List (Addr × Obj) → Hp
  | [] => H
  | p :: ps => upd (trk H ps) p.1 (HX p.1 p.2)
theorem trk_cases (H : Hp) (b : Addr) : ∀ cs : List (Addr × Obj), (trk H cs b = H b ∧ ∀ p ∈ cs, p.1 ≠ b) ∨ ∃ p ∈ cs, p.1 = b ∧ trk H cs b = some (HX p.1 p.2)
  | [] => .inl ⟨rfl, fun p h => by cases h⟩
  | p :: ps => by
    by_cases hb : b = p.1
    · exact .inr ⟨p, List.mem_cons_self, hb.symm, by subst hb; exact upd_same ..⟩
    · have e : trk H (p :: ps) b = trk H ps b := upd_ne hb
      rcases trk_cases H b ps with ⟨h1, h2⟩ | ⟨q, h1, h2, h3⟩
      · refine .inl ⟨e.trans h1, fun q hq => ?_⟩
        rcases List.mem_cons.mp hq with z | z
        · rw [z]; exact Ne.symm hb
        · exact h2 q z
      · exact .inr ⟨q, List.mem_cons_of_mem _ h1, h2, e.trans h3⟩
theorem trk_free {H : Hp} {b : Addr} {cs : List (Addr × Obj)} (h : ∀ p ∈ cs, p.1 ≠ b) : trk H cs b = H b := by
  rcases trk_cases H b cs with ⟨h1, _⟩ | ⟨q, h1, h2, _⟩
  · exact h1
  · exact absurd h2 (h q h1)
theorem trk_same {H : Hp} {cs : List (Addr × Obj)} (hf : ∀ p ∈ cs, H p.1 = none) : Same H (trk H cs) := fun b u e => by
  rw [trk_free fun p hp z => by rw [← z, hf p hp] at e; cases e]
  exact e
section
variable {X : Cx} {pins : List (Addr × Obj)} {σ : L2.St} {H : Hp} {s : Shared} {h' : Heap}
theorem inv_trk {t' : Nat} (I : Inv X pins σ H s) (kp : ∀ b o, s.heap.get? b = some o → h'.get? b = some o) (cs : List (Addr × Obj)) (hc : ∀ p ∈ cs, s.heap.objs.size ≤ p.1 ∧ h'.get? p.1 = some p.2) : Inv X pins σ (trk H cs) { s with heap := h', toks := t' } := by
  have hf : ∀ p ∈ cs, H p.1 = none := fun p hp => I.hok.fresh (hc p hp).1
  have sm := trk_same hf
  have u : Un X.fs [] H (trk H cs) s.heap h' := ⟨fun b o e _ _ _ => kp b o e, fun b o e _ _ _ => ⟨o.slots, kp b o e⟩, fun b o e n _ => by
      rw [trk_free fun p hp z => by rw [← z] at e; exact absurd (Nat.lt_of_lt_of_le (Heap.lt_size e) (hc p hp).1) (Nat.lt_irrefl _)]
      exact n, fun b o e _ => ⟨o, kp b o e⟩, fun b xs z => sm b _ z, fun b o x z => sm b _ z, fun b ps z => ⟨#[], by rw [sm b _ z]; simp⟩⟩
  refine I.un u fun b o e => ?_
  rcases trk_cases H b cs with ⟨h1, _⟩ | ⟨q, h1, h2, h3⟩
  · rw [h1] at e
    exact (I.hok b o e).stay (fun c v _ z => kp c v z) (fun c z => sm c _ z) fun c xs z => sm c _ z
  · rw [h3] at e
    cases e
    subst h2
    exact hx_ok (hc q h1).2
theorem inv_untrk : ∀ cs : List (Addr × Obj), (cs.map (·.1)).Nodup → (∀ p ∈ cs, H p.1 = none) → Inv X pins σ (trk H cs) s → Inv X pins σ H s
  | [], _, _, I => I
  | p :: ps, nd, hf, I => by
    rw [List.map_cons, List.nodup_cons] at nd
    have e : trk H ps p.1 = none := by
      rw [trk_free fun q hq z => nd.1 (List.mem_map.mpr ⟨q, hq, z⟩)]
      exact hf p List.mem_cons_self
    have J := ItX.inv_drop (a := p.1) (φ := fun h => h.get? p.1 = some p.2) I (upd_same ..)
    have e2 : ItX.dropH (trk H (p :: ps)) p.1 = trk H ps := ItX.dropH_upd e
    rw [e2] at J
    exact inv_untrk ps nd.2 (fun q hq => hf q (List.mem_cons_of_mem _ hq)) J
theorem trk_get (I : Inv X pins σ (trk H cs) s) {p : Addr × Obj} (nd : (cs.map (·.1)).Nodup) (hp : p ∈ cs) : s.heap.get? p.1 = some p.2 ∧ trk H cs p.1 = some (HX p.1 p.2) := by
  rcases trk_cases H p.1 cs with ⟨_, h2⟩ | ⟨q, h1, h2, h3⟩
  · exact absurd rfl (h2 p hp)
  · have e : q = p := by
      have : ∀ {l : List (Addr × Obj)}, (l.map (·.1)).Nodup → q ∈ l → p ∈ l → q = p := by
        intro l
        induction l with
        | nil => intro _ h; cases h
        | cons x l ih =>
          intro nd hq hp
          rw [List.map_cons, List.nodup_cons] at nd
          rcases List.mem_cons.mp hq with a | a <;> rcases List.mem_cons.mp hp with b | b
          · rw [a, b]
          · exact absurd (List.mem_map.mpr ⟨p, b, by rw [← h2, a]⟩) nd.1
          · exact absurd (List.mem_map.mpr ⟨q, a, by rw [h2, b]⟩) nd.1
          · exact ih nd.2 a b
      exact this nd h1 hp
    subst e
    exact ⟨(I.hok _ _ h3).1, h3⟩
end
end Ev
set_option maxHeartbeats 4000000
namespace Ev
open PySem PySem.Spec PyProof.Rows L2
/-- the five cells of a fresh zip, by the first one's address -/
def zcs (b : Bool) (m : Nat) (k1 k2 : Sk) (a1 a2 : Addr) : List (Addr × Obj) :=
  [(m + 4, { cls := .type "zip", data := .fields #[.none, .bool false, .bool b, .ref (m + 2), .ref (m + 3)] }), (m + 2, { cls := .type "tuple", data := .seq #[.ref m, .ref (m + 1)] }),
    (m + 3, { cls := .type "tuple", data := .seq #[.none, .none] }), (m, k1.obj a1), (m + 1, k2.obj a2)]
theorem zcs_nd (b : Bool) (m : Nat) (k1 k2 : Sk) (a1 a2 : Addr) : ((zcs b m k1 k2 a1 a2).map (·.1)).Nodup := by
  simp only [zcs, List.map_cons, List.map_nil, List.nodup_cons, List.mem_cons, List.not_mem_nil, or_false, not_or, not_false_eq_true, List.nodup_nil, and_true]
  refine ⟨⟨?_, ?_, ?_, ?_⟩, ⟨?_, ?_, ?_⟩, ⟨?_, ?_⟩, ?_⟩ <;> (intro h; have h : (_ : Nat) = _ := h; omega)
theorem zcs_ge {b : Bool} {m : Nat} {k1 k2 : Sk} {a1 a2 : Addr} {p : Addr × Obj} (h : p ∈ zcs b m k1 k2 a1 a2) : m ≤ p.1 := by
  simp only [zcs, List.mem_cons, List.not_mem_nil, or_false] at h
  rcases h with e | e | e | e | e <;> rw [e] <;> first | exact Nat.le_add_right _ _ | exact Nat.le_refl _
/-- a zip of two of known kinds, kept in the slot k; the rest of the heap is H0 -/
structure ZKept (K : PySem.W.Frag) (n : Nat) (b : Bool) (k : Nat) (k1 k2 : Sk) (a1 a2 : Addr) (xs ys : List V) (σ : L2.St) (H0 H : Hp) : Prop where
  ex : ∃ m, σ[k]? = some (some (.ref (m + 4))) ∧ H = trk H0 (zcs b m k1 k2 a1 a2) ∧ (∀ p ∈ zcs b m k1 k2 a1 a2, H0 p.1 = none) ∧ n ≤ m ∧ a1 < m ∧ a2 < m
  l : SqK K H0 k1 a1 xs
  r : SqK K H0 k2 a2 ys
def iZv (K : PySem.W.Frag) (n : Nat) (b : Bool) (k : Nat) : TI := fun σ H R => ∃ k1 k2 a1 a2 xs ys H0, ZKept K n b k k1 k2 a1 a2 xs ys σ H0 H ∧ ∃ j1 j2 xs' ys', SqK K H0 j1 a1 xs' ∧ SqK K H0 j2 a2 ys' ∧ R (ItZ K b j1 j2 a1 a2) H0
theorem sqk_one {X : Cx} {pins : List (Addr × Obj)} {σ : L2.St} {H : Hp} {s : Shared} {k j : Sk} {a : Addr} {xs ys : List V} (I : Inv X pins σ H s) (h1 : SqK X.K H k a xs) (h2 : SqK X.K H j a ys) : k = j := by
  obtain ⟨i1, _, p1⟩ := inv_sqk I h1
  obtain ⟨i2, _, p2⟩ := inv_sqk I h2
  cases k <;> cases j
  · rfl
  · obtain ⟨o, e, c, _⟩ := p1
    obtain ⟨o', e', c', _⟩ := p2
    rw [e] at e'; cases e'; rw [c] at c'; exact absurd c' (by decide)
  · obtain ⟨o, e, c, _⟩ := p1
    obtain ⟨o', e', c', _⟩ := p2
    rw [e] at e'; cases e'; rw [c] at c'; exact absurd c' (by decide)
  · rfl
theorem pi_zv {X : Cx} {elts : List Expr} {kk : Nat} {tpos : Pos} {b : Bool} {k : Nat} {x : Str} {p : Pos} (hN : X.N[k]? = some x) (hv : Vis X.env.scope x) (hd : (x == ("__debug__" : Str)) = false := by decide) (hcd : (x == ("__classdict__" : Str)) = false := by decide) :
    PI X (.Tuple elts kk tpos) (.Name x p) (iZv X.K X.s_0.heap.objs.size b k) := by
  refine ⟨fun pins s σ H R I h => ?_⟩
  obtain ⟨k1, k2, a1, a2, xs, ys, H0, z, j1, j2, xs', ys', n1, n2, q⟩ := h
  obtain ⟨m, hs, eH, hf, hn, l1, l2⟩ := z.ex
  refine thn ((pe_var (pos := p) (i := k) hN hv hd hcd).run pins s σ H (fun v H1 => v = .ref (m + 4) ∧ H1 = H) I ⟨.ref (m + 4), hs, rfl, rfl⟩) fun u s1 ⟨v, H1, I1, r1, ev, eH1⟩ => ?_
  subst ev
  rw [eH1, eH] at I1
  cases r1
  have nd := zcs_nd b m k1 k2 a1 a2
  have g : ∀ p ∈ zcs b m k1 k2 a1 a2, s1.heap.get? p.1 = some p.2 ∧ trk H0 (zcs b m k1 k2 a1 a2) p.1 = some (HX p.1 p.2) := fun p hp => trk_get I1 nd hp
  have g0 := (g _ (show (m + 4, ({ cls := .type "zip", data := .fields #[.none, .bool false, .bool b, .ref (m + 2), .ref (m + 3)] } : Obj)) ∈ zcs b m k1 k2 a1 a2 by simp [zcs])).1
  have g1 := (g _ (show (m + 2, ({ cls := .type "tuple", data := .seq #[.ref m, .ref (m + 1)] } : Obj)) ∈ zcs b m k1 k2 a1 a2 by simp [zcs])).1
  have g2 := (g _ (show (m + 3, ({ cls := .type "tuple", data := .seq #[.none, .none] } : Obj)) ∈ zcs b m k1 k2 a1 a2 by simp [zcs])).1
  have g3 := (g _ (show (m, k1.obj a1) ∈ zcs b m k1 k2 a1 a2 by simp [zcs])).1
  have g4 := (g _ (show (m + 1, k2.obj a2) ∈ zcs b m k1 k2 a1 a2 by simp [zcs])).1
  have I2 : Inv X pins σ H0 s1 := inv_untrk _ nd hf I1
  obtain rfl := sqk_one I2 z.l n1
  obtain rfl := sqk_one I2 z.r n2
  refine zipG_iter g0 ?_
  refine ⟨m + 4, [m + 4, m + 2, m + 3, m, m + 1], _, _, H0, rfl, I2, turn_zg (b := b) (k1 := k1) (k2 := k2) (zsep_new m a1 a2 l1 l2) (Nat.ne_of_lt l1) (Nat.ne_of_lt (Nat.lt_succ_of_lt l2)), ⟨g0, g1, ⟨_, _, g2⟩, .mk g3, .mk g4⟩, fun c hc => ?_, q⟩
  have hc' : ∃ p ∈ zcs b m k1 k2 a1 a2, p.1 = c := List.mem_map.mp (show c ∈ (zcs b m k1 k2 a1 a2).map (·.1) from hc)
  obtain ⟨p, hp, e⟩ := hc'
  subst e
  exact ⟨hf p hp, (ItX.inv_fp I1 (g p hp).2 (Nat.le_trans hn (zcs_ge hp))).2⟩
end Ev
set_option maxHeartbeats 4000000
namespace Ev
open PySem PySem.Spec PyProof.Rows L2
def tZv (K : PySem.W.Frag) (n : Nat) (b : Bool) (ta : TA) : TE := fun σ H Q => ta σ H fun vs H1 => ∃ k1 k2 a1 a2 xs ys, vs = [.ref a1, .ref a2] ∧ SqK K H1 k1 a1 xs ∧ SqK K H1 k2 a2 ys ∧
  ∀ m, n ≤ m → a1 < m → a2 < m → (∀ p ∈ zcs b m k1 k2 a1 a2, H1 p.1 = none) → Q (.ref (m + 4)) (trk H1 (zcs b m k1 k2 a1 a2))
theorem zv_fin {X : Cx} {pins : List (Addr × Obj)} {σ : L2.St} {H1 : Hp} {s1 : Shared} {b : Bool} {vs : List V} {us : List Value} {Q : VK} (I1 : Inv X pins σ H1 s1) (r1 : Vals vs us)
    (q1 : ∃ k1 k2 a1 a2 xs ys, vs = [.ref a1, .ref a2] ∧ SqK X.K H1 k1 a1 xs ∧ SqK X.K H1 k2 a2 ys ∧ ∀ m, X.s_0.heap.objs.size ≤ m → a1 < m → a2 < m → (∀ p ∈ zcs b m k1 k2 a1 a2, H1 p.1 = none) → Q (.ref (m + 4)) (trk H1 (zcs b m k1 k2 a1 a2))) :
    wpAny (model X.prog X.w) X.A (call (.type "zip") us (zkw b)) (fun u s2 => ∃ v H', Inv X pins σ H' s2 ∧ RelV v u ∧ Q v H') X.xe s1 := by
  obtain ⟨k1, k2, a1, a2, xs, ys, ex, hq1, hq2, q⟩ := q1
  subst ex
  cases r1 with
  | cons r rr =>
    cases rr with
    | cons r' rr =>
      cases rr
      cases r
      cases r'
      obtain ⟨its1, rv1, p1⟩ := inv_sqk I1 hq1
      obtain ⟨its2, rv2, p2⟩ := inv_sqk I1 hq2
      have l1 : a1 < s1.heap.objs.size := p1.lt
      have l2 : a2 < s1.heap.objs.size := p2.lt
      refine zipG_new (beginsK k1 a1 its1.toArray) (beginsK k2 a2 its2.toArray) p1 p2 fun h' hz hTI hTO g1 g2 kp => ?_
      have I2 := inv_trk (t' := s1.toks) I1 kp (zcs b s1.heap.objs.size k1 k2 a1 a2) (fun p hp => ⟨zcs_ge hp, by
        simp only [zcs, List.mem_cons, List.not_mem_nil, or_false] at hp
        rcases hp with e | e | e | e | e <;> subst e
        · exact hz
        · exact hTI
        · exact hTO
        · exact g1
        · exact g2⟩)
      exact ⟨.ref (s1.heap.objs.size + 4), _, I2, rfl, q _ I1.sz l1 l2 fun p hp => I1.hok.fresh (zcs_ge hp)⟩
theorem pe_zv {X : Cx} {e e2 ev : Expr} {ta : TA} {p pos kp : Pos} (hg : Gl X "zip") (hm : X.mg "zip" = none) (ha : PA X [e, e2] ta) (hv : PE X ev (tC (.bl true)))
    (hs : backTo pos (starEach [e, e2] X.env) = (false, eval e X.env) :: backTo pos (starEach [e2] X.env)) (hpl : (backTo pos (starEach [e, e2] X.env)).any (·.1) = false)
    (hall : (backToKw pos (keywordEach [⟨some (Str.ofString "strict"), ev, kp⟩] X.env)).all (·.1.isSome) = true) (hno : (backToKw pos (keywordEach [⟨some (Str.ofString "strict"), ev, kp⟩] X.env)).any (·.1.isNone) = false)
    (hks : (backToKw pos (keywordEach [⟨some (Str.ofString "strict"), ev, kp⟩] X.env)).filterMap (·.1) = [Str.ofString "strict"]) :
    PE X (.Call (.Name "zip" p) [e, e2] [⟨some (Str.ofString "strict"), ev, kp⟩] pos) (tZv X.K X.s_0.heap.objs.size true ta) := by
  refine ⟨fun pins s σ H Q I h => ?_⟩
  have pk := pk_cons (nm := some (Str.ofString "strict")) (kpos := kp) hv (pk_nil (X := X))
  refine wpAny_Call_Name_kw (ld_blt I hg hm PyProof.Rows.boot_zip (cwT_kw (thn (ha.run pos pins s σ H _ I h) fun us s1 ⟨vs, H1, I1, r1, q1⟩ => ?_) hs hpl hall hno))
  refine thn (pk.run pos pins s1 σ H1 (fun zs H2 => zs = [.bl true] ∧ H2 = H1) I1 ⟨rfl, rfl⟩) fun ws s2 ⟨zs, H2, I2, r2, e1, e2⟩ => ?_
  subst e1; subst e2
  rw [hks]
  cases r2 with
  | cons r rr =>
    cases rr
    cases r
    exact zv_fin (b := true) I2 r1 q1
end Ev
set_option maxHeartbeats 4000000
namespace Ev
open PySem PySem.Spec PyProof.Rows L2
section
variable {K : PySem.W.Frag} {Cl : Nat → Addr} {W : WX} {σ : L2.St} {H : Hp}
theorem r_var {i : Nat} {Q : VK} (h : rdE K Cl W (cVar i) σ H Q) : tVar i σ H Q := by
  obtain ⟨e, s, ro, rs, rh, h⟩ := h
  unfold cVar at h
  cases q : e[i]? with
  | none => rw [q] at h; exact h.elim
  | some od =>
    cases od with
    | none => rw [q] at h; exact h.elim
    | some d =>
      rw [q] at h
      obtain ⟨v, h1, h2⟩ := rs.2 i d q
      exact ⟨v, h1, h v H ro rh .refl h2⟩
theorem r_one {f : SE} {Q : List V → Hp → Prop} (h : rdA K Cl W (cCons f cNil) σ H Q) : rdE K Cl W f σ H fun v H1 => Q [v] H1 := by
  obtain ⟨e, s, ro, rs, rh, h⟩ := h
  unfold cCons at h
  rw [wp_bind] at h
  refine ⟨e, s, ro, rs, rh, h.mono (fun d s1 q v H1 ro1 rh1 x1 rp => ?_) fun _ _ _ q => q⟩
  exact q [v] H1 ro1 rh1 x1 (.cons rp .nil)
theorem r_drop {f : SE} {D : Ends} (h : rdS K Cl W (cDrop f) D σ H) : tDrop (rdE K Cl W f) D σ H := by
  obtain ⟨e, s, ro, rs, rh, h⟩ := h
  exact ⟨e, s, ro, rs, rh, (toS_rd rs h).mono (fun d s1 q v H1 ro1 rh1 x1 _ => q σ H1 ro1 (rs.ext x1) rh1 x1) fun _ _ _ q => q⟩
theorem r_m {f : D → List D → S → R D} {r : V → List V → Hp → VK → Prop} {fo : SE} {fs : SEs} (hf : MtS K Cl f r) {Q : VK} (h : rdE K Cl W (cM f fo fs) σ H Q) : tBM K "list" r (rdE K Cl W fo) (rdA K Cl W fs) σ H Q := by
  obtain ⟨e, s, ro, rs, rh, h⟩ := h
  unfold cM at h
  rw [wp_bind] at h
  refine ⟨e, s, ro, rs, rh, h.mono (fun d s1 q v H1 ro1 rh1 x1 rp => ?_) fun _ _ _ q => q⟩
  by_cases z : isLst s1 d = true
  · rw [if_pos z, wp_bind] at q
    refine ⟨isLst_ok rh1 rp z, e, s1, ro1, rs.ext x1, rh1, q.mono (fun ds s2 q vs H2 ro2 rh2 x2 rps => ?_) fun _ _ _ q => q.ext x1⟩
    exact hf d v ds vs H2 ro2 s2 Q (rp.mono x2) rps rh2 ((noX_wp (E' := fun _ _ _ => False) q).mono (fun _ _ z => z.ext (x1.trans x2)) fun _ _ _ z => z)
  · rw [if_neg z] at q; exact q.elim
theorem tyV_trk {H0 : Hp} {v : V} {cs : List (Addr × Obj)} (hf : ∀ p ∈ cs, H0 p.1 = none) (h : tyV K "list" v H0) : tyV K "list" v (trk H0 cs) := by
  have sm := trk_same hf
  have rd : ∀ b u, Rd H0 b u → Rd (trk H0 cs) b u := fun b u h => by
    rcases h with h | ⟨o, h⟩
    · exact .inl (sm _ _ h)
    · exact .inr ⟨o, sm _ _ h⟩
  cases v with
  | ref p =>
    rcases h with ⟨h1, xs, h2⟩ | ⟨h1, h2⟩ | ⟨h1, h2⟩ | ⟨h1, S, n, h2⟩
    · refine .inl ⟨h1, xs, ?_⟩
      rcases h2 with h2 | h2
      · exact .inl (rd _ _ h2)
      · exact .inr h2
    · exact absurd h1 (by decide)
    · exact absurd h1 (by decide)
    · exact absurd h1 (by decide)
  | _ => exact h
end
end Ev
set_option maxHeartbeats 4000000
namespace Ev
open PySem PySem.Spec PyProof.Rows L2
def zOk (e : En) (i : Nat) (s : S) : Bool := match e[i]? with
  | some (some d) => (items s d).isSome
  | _ => false
def cZs (i j k : Nat) (f : SS) : SS := fun e s => if (zOk e i s && (zOk e j s && decide (k < e.length))) = true then f (e.set k none) s else .bad
theorem zOk_ok {e : En} {i : Nat} {s : S} (h : zOk e i s = true) : ∃ d xs, e[i]? = some (some d) ∧ items s d = some xs := by
  unfold zOk at h
  split at h
  · rename_i d q
    obtain ⟨xs, hx⟩ := Option.isSome_iff_exists.mp h
    exact ⟨d, xs, q, hx⟩
  · cases h
theorem RelS.unset {K : PySem.W.Frag} {ro : Ro} {H : Hp} {e : En} {σ : L2.St} {k : Nat} {v : V} (rs : RelS K ro H e σ) : RelS K ro H (e.set k none) (σ.set k (some v)) := by
  refine ⟨by simpa using rs.1, fun j d h => ?_⟩
  by_cases hj : k = j
  · subst hj
    rw [List.getElem?_set] at h
    simp only [if_true] at h
    split at h <;> cases h
  · rw [List.getElem?_set_ne hj] at h ⊢
    exact rs.2 j d h
section
variable {X : Cx} {Cl : Nat → Addr} {W : WX}
theorem r_zs {i j k sl n : Nat} {F : List D → S → R D} {g : IT} {tt : ET} {te : SE} {own : List Nat} {r : V → List V → Hp → VK → Prop} {D : Ends} {σ : L2.St} {H : Hp} (hik : k ≠ i) (hjk : k ≠ j) (hf : MtS X.K Cl (mL gApp) r) (hsl : ∀ i ∈ g.slots, i ∈ own)
    (h : rdS X.K Cl W (cZs i j k (cDrop (cM (mL gApp) (cVar sl) (cCons (cDef F 1 (cCons (cLc (cZ true (cVar i) (cVar j)) g tt te own) cNil)) cNil)))) D σ H) :
    tSeq (tAsg (tZv X.K n true (tCons (tVar i) (tCons (tVar j) tNil))) (gName k))
      (tDrop (tBM X.K "list" r (tVar sl) (tCons (tCallS (spF X.K Cl 1 F) (WE W) (tCons (tLc (iZv X.K n true k) (g.g X.K) (rdT X.K Cl WF tt) (rdE X.K Cl WF te) own) tNil)) tNil))) D σ H := by
  obtain ⟨e, s, ro, rs, rh, h⟩ := h
  unfold cZs at h
  by_cases z : (zOk e i s && (zOk e j s && decide (k < e.length))) = true
  · rw [if_pos z] at h
    rw [Bool.and_eq_true, Bool.and_eq_true, decide_eq_true_eq] at z
    obtain ⟨z1, z2, z3⟩ := z
    obtain ⟨d, ds, e1, i1⟩ := zOk_ok z1
    obtain ⟨d', ds', e2, i2⟩ := zOk_ok z2
    obtain ⟨v, s1, p1⟩ := rs.2 i d e1
    obtain ⟨v', s2, p2⟩ := rs.2 j d' e2
    obtain ⟨a1, xs, rfl, q1, _⟩ := items_kd rh p1 i1
    obtain ⟨a2, ys, rfl, q2, _⟩ := items_kd rh p2 i2
    refine ⟨.ref a1, s1, .ref a2, s2, kd d, kd d', a1, a2, xs, ys, rfl, q1, q2, fun m hn l1 l2 hfr => ?_⟩
    have kl : k < σ.length := by rw [← rs.1]; exact z3
    have h2 : rdS X.K Cl W (cDrop (cM (mL gApp) (cVar sl) (cCons (cDef F 1 (cCons (cLc (cZ true (cVar i) (cVar j)) g tt te own) cNil)) cNil))) D (σ.set k (some (.ref (m + 4)))) H := ⟨e.set k none, s, ro, rs.unset, rh, h⟩
    have h3 := r_m hf (r_drop h2)
    obtain ⟨v, hv, ty, h4⟩ := r_var h3
    refine ⟨v, hv, tyV_trk hfr ty, ?_⟩
    have h8 := r_lc hsl (wi := rdI X.K Cl W (cZ true (cVar i) (cVar j))) (fun _ q => q) (r_one (r_def (r_one h4)))
    have h9 := r_z h8
    obtain ⟨x, hx, q⟩ := r_var h9
    obtain ⟨y, hy, q⟩ := r_var q
    obtain ⟨j1, j2, b1, b2, us, us', ex, n1, n2, q⟩ := q
    rw [List.getElem?_set_ne hik, s1] at hx
    rw [List.getElem?_set_ne hjk, s2] at hy
    cases hx; cases hy
    cases ex
    exact ⟨kd d, kd d', a1, a2, xs, ys, H, ⟨⟨m, by rw [List.getElem?_set_self kl], rfl, hfr, hn, l1, l2⟩, q1, q2⟩, j1, j2, us, us', n1, n2, q⟩
  · rw [if_neg z] at h; exact h.elim
end
end Ev
set_option maxHeartbeats 4000000
namespace Ev
open PySem PySem.Spec PyProof.Rows L2
section
variable {X : Cx} {Cl : Nat → Addr} {W : WX}
theorem pe_v {i : Nat} {x : Str} {pos : Pos} (h : varB X.N X.env.scope i x = true) : PE X (.Name x pos) (tVar i) := by
  unfold varB at h
  simp only [Bool.and_eq_true, Bool.not_eq_true'] at h
  exact pe_var (optS_of h.1) (vis_of h.2.1) h.2.2.1 h.2.2.2
theorem pi_zv' {elts : List Expr} {kk : Nat} {tpos : Pos} {b : Bool} {k : Nat} {x : Str} {p : Pos} (h : varB X.N X.env.scope k x = true) : PI X (.Tuple elts kk tpos) (.Name x p) (iZv X.K X.s_0.heap.objs.size b k) := by
  unfold varB at h
  simp only [Bool.and_eq_true, Bool.not_eq_true'] at h
  exact pi_zv (optS_of h.1) (vis_of h.2.1) h.2.2.1 h.2.2.2
theorem s_zs {i j k sl d : Nat} {Fn : List D → S → R D} {g : IT} {tt : ET} {te : SE} {own : List (Str × Nat)} {y a b slx gr : Str} {ev elt : Expr} {elts : List Expr} {kk : Nat} {ifs : List Expr} {scope : Scope}
    {py p pa pb kp pos spos tpos py2 lpos ps apos pg gpos cpos xpos : Pos} (hc : X.calm = true) (hN : X.N.Nodup) (hg : Gl X "zip") (hm : X.mg "zip" = none) (hik : k ≠ i) (hjk : k ≠ j)
    (hst : stoB X.N X.env.scope k y = true) (hfn : X.fn y = true ∨ X.env.scope.names.lookup y = some .local) (hk : varB X.N X.env.scope k y = true) (hi : varB X.N X.env.scope i a = true) (hj : varB X.N X.env.scope j b = true) (hsl : varB X.N X.env.scope sl slx = true)
    (hv : PE X ev (tC (.bl true)))
    (hd : Defd X.prog X.w X.K X.mg X.base Cl gr 1 d Fn) (hr : Room d X.A) (hgg : Gl X gr) (tk : Takes X W) (hdb : (gr == ("__debug__" : Str)) = false)
    (ok : BlkOk X.N X.env.scope scope own)
    (hgt : ∀ (s : Shared) (H : Hp) (C : Addr) (cl : List (Str × Addr)) (fp : List Addr), PG (X.blk s H scope (compEnvC scope cl C X.env) fp) (.Tuple elts kk tpos) (g.g X.K)) (ht : ∀ (s : Shared) (H : Hp) (C : Addr) (cl : List (Str × Addr)) (fp : List Addr), PTs (X.blk s H scope (compEnvC scope cl C X.env) fp) ifs (rdT X.K Cl WF tt))
    (he : ∀ (s : Shared) (H : Hp) (C : Addr) (cl : List (Str × Addr)) (fp : List Addr), PE (X.blk s H scope (compEnvC scope cl C X.env) fp) elt (rdE X.K Cl WF te)) (hso : ∀ i ∈ g.slots, i ∈ own.map (·.2)) (hs : ∀ x, foldedSetIterable (.Name y py2) X.env x = pure x)
    (hsw : swapsWith (.Call (.Name "zip" p) [.Name a pa, .Name b pb] [⟨some (Str.ofString "strict"), ev, kp⟩] pos) (some (.Name y py)) spos.line X.env = pure false)
    (hsw2 : swapsWith (.Call (.Attribute (.Name slx ps) "append" apos) [.Call (.Name gr pg) [.ListComp elt [⟨.Tuple elts kk tpos, .Name y py2, ifs, 0⟩] scope lpos] [] gpos] [] cpos) none xpos.line X.env = pure false)
    (hbase : attributeBase (.Name slx ps) "append" X.env (eval (.Name slx ps) X.env) = eval (.Name slx ps) X.env) (hline : (apos.endLine == cpos.line) = true) :
    PSs X [.Assign [.Name y py] (.Call (.Name "zip" p) [.Name a pa, .Name b pb] [⟨some (Str.ofString "strict"), ev, kp⟩] pos) spos,
      .Expr (.Call (.Attribute (.Name slx ps) "append" apos) [.Call (.Name gr pg) [.ListComp elt [⟨.Tuple elts kk tpos, .Name y py2, ifs, 0⟩] scope lpos] [] gpos] [] cpos) xpos]
      (rdS X.K Cl W (cZs i j k (cDrop (cM (mL gApp) (cVar sl) (cCons (cDef Fn 1 (cCons (cLc (cZ true (cVar i) (cVar j)) g tt te (own.map (·.2))) cNil)) cNil))))) := by
  obtain ⟨f, fd, pz, h1, h2, h3, h4⟩ := hd.ex
  unfold stoB at hst
  rw [Bool.and_eq_true] at hst
  have st1 := ps_set (pos := spos) (pos' := py) hN (optS_of hst.1) (loc_of hst.2) (pe_zv (p := p) (pos := pos) (kp := kp) hg hm (pa_cons (pe_v (pos := pa) hi) (pa_cons (pe_v (pos := pb) hj) pa_nil rfl) rfl) hv rfl rfl rfl rfl rfl) hsw hfn
  have lc := pe_lc (pos := lpos) hc hN (pi_zv' (b := true) (p := py2) (tpos := tpos) (elts := elts) (kk := kk) hk) ok hgt ht he hs
  have cl := pe_callS (p := pg) (pos := gpos) h4 hr hgg h1 h2 h3 (E := WE W) (fun σ => passAt tk σ) (pa_cons lc pa_nil rfl) hdb rfl rfl
  have ap := pe_bm (apos := apos) (cpos := cpos) F.plainAttrs_list F.slot_list_append F.type_list_append mt_append (pe_v (pos := ps) hsl) (pa_cons cl pa_nil rfl) hbase rfl hline rfl rfl
  exact (pss_cons st1 (pss_one (ps_expr (pos := xpos) ap hsw2))).imp fun D σ H h => r_zs hik hjk mApp_ok hso h
end
end Ev
set_option maxHeartbeats 1000000
namespace Ev
open PySem PySem.Spec PyProof.Rows L2
/-- the law's def, bound to its script -/
structure LawD (P : Program) (w : World) (K : PySem.W.Frag) (mg : Str → Option Value) (base : Heap) (Cl : Nat → Addr) (x p : Str) (k : Nat) (F : List D → S → R D) : Prop where
  ex : ∃ (f : Addr) (fd : FuncData), mg x = some (.ref f) ∧ (∃ (oc : Value) (od : Option Addr) (osl : Array (Option Value)), K.lookup f = some ⟨oc, od, .func fd, osl⟩) ∧ (∀ (s : Shared) (u : Value), BindsTo s fd ⟨[u], []⟩ [(p, u)]) ∧ FnOk P w K mg base (L2.CX P w) k f fd [p] (spF K Cl 1 F)
section
variable {P : Program} {w : World} {K : PySem.W.Frag} {mg : Str → Option Value} {base : Heap} {Cl : Nat → Addr}
theorem LawD.mk' {x qual p : Str} {params : Arguments} {body : List Stmt} {scope : Scope} {kws : List (Str × V)} {f : Addr} {fd : FuncData} {N : List Str} {k : Nat} {b : SS} (hm : mg x = some (.ref f)) (F : FunD K x qual params body scope [] kws f fd) (S : FnScope N [p] scope)
    (hbi : ∀ (kV doc pm : Value) (an : Option Addr) (cdv ct : Value) (us : List Value), us.length = ([p] : List Str).length → bindArgs (PySem.W.fnOf x qual params body scope .none kV doc pm an cdv ct) ⟨us, []⟩ = pure (([p] : List Str).zip us))
    (hb : ∀ (cdv : Value) (A : Around) (outer : List Env) (s : Shared) (H : Hp) (E : XK), Room k (A.deeper (envOfC qual scope s.heap.objs.size f cdv)) →
      PSs (cxD P w K mg base N qual scope f cdv A outer s H E) body (rdS K Cl (fun cls d _ H => E cls d H) b)) :
    LawD P w K mg base Cl x p (k + 1) (fnE N.length b) :=
  ⟨f, fd, hm, by
    obtain ⟨oc, od, dV, kV, doc, pm, an, cdv, ct, osl, _, lk, _⟩ := F.ex
    exact ⟨oc, od, osl, lk⟩, fun s u => FunD.bindsA (ps := [p]) F hbi s [u] rfl, FnOk_of F S rfl hb⟩
end
/-- the store at the start: the script alone -/
def sS (ns : List Int) : S := ⟨.node .nil (some (.frz (ns.map .int))) .nil, .o .h⟩
theorem sS_get {ns : List Int} {p : Ps} {o : O} (h : (sS ns).get p = some o) : p = .h ∧ o = .frz (ns.map .int) := by
  cases p with
  | h => exact ⟨rfl, (Option.some.inj h).symm⟩
  | o p =>
    have h : (Tri.nil : Tri O).get p = some o := h
    rw [Tri.get_nil] at h; cases h
  | i p =>
    have h : (Tri.nil : Tri O).get p = some o := h
    rw [Tri.get_nil] at h; cases h
def roS (a : Addr) : Ro := fun p => if p = .h then some a else none
theorem reps_nums {K : PySem.W.Frag} {ro : Ro} {H : Hp} : ∀ ns : List Int, Reps K ro H (ns.map .int) (ns.map V.int)
  | [] => .nil
  | n :: ns => .cons (.int n) (reps_nums ns)
theorem start_ok {K : PySem.W.Frag} {Cl : Nat → Addr} {H : Hp} {a : Addr} {ns : List Int} (hO : Only H) (hS : SqL K H a (ns.map V.int)) : RelH K Cl (roS a) H (sS ns) where
  get := fun p o h => by
    obtain ⟨rfl, rfl⟩ := sS_get h
    refine ⟨a, if_pos rfl, .frz ?_ (reps_nums ns)⟩
    rcases hS with (h | ⟨o, h⟩) | h
    · rcases hO a with z | ⟨o, xs, z⟩
      · rw [h] at z; cases z
      · rw [h] at z; cases z
    · exact .inl ⟨o, h⟩
    · exact .inr fun H' => .inr h
  inj := fun p q b o o' h1 h2 h3 h4 m m' => by
    obtain ⟨rfl, _⟩ := sS_get h3
    obtain ⟨rfl, _⟩ := sS_get h4
    rfl
  dom := fun p b h => by
    unfold roS at h
    split at h
    · rename_i e; subst e; exact (by decide : (1 : Nat) < 2 * 1)
    · cases h
/-- f answers True at every script -/
def LawOk (n : Nat) (F : List D → S → R D) : Prop := ∀ ns : List Int, ns.length ≤ n → (F [.ref .h] (sS ns)).wp (fun v _ => v = .bl true) (fun _ _ _ => False)
theorem law_sp {K : PySem.W.Frag} {Cl : Nat → Addr} {F : List D → S → R D} {n : Nat} (hF : LawOk n F) (H : Hp) (a : Addr) (ns : List Int) (hl : ns.length ≤ n) (hO : Only H) (hS : SqL K H a (ns.map V.int)) :
    spF K Cl 1 F [.ref a] H (fun v _ => v = .bl true) fun _ _ _ => False :=
  ⟨rfl, [.ref .h], sS ns, roS a, .cons (.ref (if_pos rfl)) .nil, start_ok hO hS, (hF ns hl).mono (fun d s e v H' ro' _ _ r => by
    subst e
    cases r; rfl) fun _ _ _ z => z.elim⟩
theorem walk_ofX {l : PySem.W.OpenLaw} {n k : Nat} {q : Program} {loose : List Str} {XP : (Str → Option Value) → Heap → Prop} {YP : World → Heap → Prop} {d : DefRec} {x p : Str} {F : List D → S → R D}
    (hn : l.most = some n) (hn2 : n ≤ sizeLine) (hdf : d.params.defaults = []) (hr : Room k callerA) (hx : d.name = x) (hF : LawOk n F)
    (G : ∀ (w : World) (mg : Str → Option Value) (h : Heap), YP w h → h.Ns mainGlobals mg →
      ∃ (K : PySem.W.Frag) (Cl : Nat → Addr), K.In h ∧ ∀ base : Heap, LawD l.prog w K mg base Cl x p k F) :
    PySem.W.WalkO q loose XP YP l.row.toRowW d [] (fun f vs => PySem.call f vs) := by
  refine Att.attach_call hn hdf fun w s₀ s₁ mg mb fa o pm cd doc a vs ns Gq Y ho hd hcd hmg hobj hints hlen hg => ?_
  obtain ⟨K, Cl, KX, hL⟩ := G w mg _ Y Gq.T.g
  have key : ∃ fd : FuncData, (∀ (s : Shared) (u : Value), BindsTo s fd ⟨[u], []⟩ [(p, u)]) ∧ ∀ base : Heap, FnOk l.prog w K mg base (L2.CX l.prog w) k fa fd [p] (spF K Cl 1 F) := by
    obtain ⟨f, fd, h1, ⟨oc, od, osl, lk⟩, h3, _⟩ := (hL s₁.heap).ex
    have ef : f = fa := by
      rw [hx] at hmg
      rw [h1] at hmg
      exact Value.ref.inj (Option.some.inj hmg)
    subst ef
    refine ⟨fd, h3, fun base => ?_⟩
    obtain ⟨f', fd', g1, ⟨oc', od', osl', lk'⟩, _, g4⟩ := (hL base).ex
    rw [h1] at g1; cases g1
    rw [lk] at lk'; cases lk'
    exact g4
  obtain ⟨fd, hb, hFn⟩ := key
  exact law_call KX Gq.T.g Gq.T.b Gq.T.builtins Gq.T.nolimit hg hobj hints (Nat.le_trans hlen hn2) hr (fun base _ _ => hFn base) hb (fun H hO hS => law_sp hF H a ns hlen hO hS) fun H e s' hc => by
    obtain ⟨_, _, _, _, _, _, _, _, _, _, _, _, z⟩ := hc
    exact z
end Ev
set_option maxHeartbeats 1000000
namespace Ev
open PySem PySem.Spec PyProof.Rows L2
/-! ### repr of data -/
def shB (p : PyData) : Bool := p.showable && (!p.hasDict && Nat.ble p.shown.length zLine)
def rRepr (K : PySem.W.Frag) : List V → Hp → VK → Prop := fun us H Q => ∃ a p, us = [V.ref a] ∧ Dp K H (.ref a) p ∧ p.depth ≤ dDeep ∧ shB p = true ∧ Q (.str p.shown) H
theorem call_reprD {X : Cx} (hg : X.A.guards = some []) (hu : X.A.units + 64 < cLine) : CallR X (.builtin "repr") (rRepr X.K) := by
  intro pins s σ H xs us Q I rv h
  obtain ⟨a, p, rfl, hd, hdp, hsh, hq⟩ := h
  obtain ⟨u, rfl, hr⟩ := vals1 rv
  obtain ⟨as, hrd⟩ := Dp.reads I p _ u hd hr
  obtain rfl : u = Value.ref a := hr
  unfold shB at hsh
  simp only [Bool.and_eq_true, Bool.not_eq_true', Nat.ble_eq] at hsh
  obtain ⟨h1, h2, h3⟩ := hsh
  have e40 : (dDeep : Nat) = 40 := rfl
  refine PySem.repr_of_reads' hrd h1 (fun w => by rw [h2] at w; cases w) hg (by omega) (fun _ _ w => w) (fun h' t tk hk => ?_) (Nat.le_trans h3 z_le)
  exact ⟨.str p.shown, H, I.kept hk, ⟨t, rfl⟩, hq⟩
def bRepr (ds : List D) (s : S) : R D := match ds with
  | [.ref q] => match toQ s (.ref q) with
    | some p => if shB p = true then .ok (.str p.shown.cps.toList) s else .bad
    | none => .bad
  | _ => .bad
theorem bRepr_ok {K : PySem.W.Frag} {Cl : Nat → Addr} : OpSs K Cl bRepr (rRepr K) := by
  intro ds vs H ro s Q r rh h
  unfold bRepr at h
  split at h
  · rename_i q
    cases r with
    | cons r0 rs =>
      cases rs
      split at h
      · rename_i p e
        split at h
        · rename_i hs
          have r0' := r0
          cases r0 with
          | ref hro =>
            rename_i a
            obtain ⟨a1, a2, a3⟩ := toP_ok rh _ _ _ _ r0' e
            refine ⟨a, p, rfl, a1, a2, hs, ?_⟩
            have := h _ H ro rh .refl (.str _)
            have e2 : strV p.shown.cps.toList = V.str p.shown := by
              show V.str ⟨p.shown.cps.toList.toArray⟩ = _
              simp
            rwa [e2] at this
        · exact h.elim
      · exact h.elim
  · exact h.elim
theorem boot_repr : bootBuiltins "repr" = some (.builtin "repr") := by decide +kernel
section
variable {X : Cx} {Cl : Nat → Addr} {W : WX} {p pos : Pos} {e : Expr} {es : List Expr} {fs : SEs}
theorem s_repr (hgd : X.A.guards = some []) (hu : X.A.units + 64 < cLine) (hg : Gl X "repr") (hm : X.mg "repr" = none) (ha : PA X (e :: es) (rdA X.K Cl W fs)) (he : starEach (e :: es) X.env = (false, eval e X.env) :: starEach es X.env) (hpl : (backTo pos (starEach es X.env)).any (·.1) = false) :
    PE X (.Call (.Name "repr" p) (e :: es) [] pos) (rdE X.K Cl W (cCall bRepr fs)) := s_b (call_reprD hgd hu) bRepr_ok boot_repr (by decide) (by decide) hg hm ha he hpl
end
/-! ### is True, is False -/
def dIsB (c : Bool) : D → S → R D
  | .bl b, s => .ok (.bl (decide (b = c))) s
  | _, _ => .bad
def dNoB (c : Bool) : D → S → R D
  | .bl b, s => .ok (.bl (!decide (b = c))) s
  | _, _ => .bad
section
variable {X : Cx} {Cl : Nat → Addr} {W : WX} {pos : Pos} {a : Expr} {f : SE} {c : Bool}
theorem r_isB {σ : L2.St} {H : Hp} {Q : VK} (h : rdE X.K Cl W (cUn (dIsB c) f) σ H Q) : tOp rIsB (rdE X.K Cl W f) (rdE X.K Cl W (cCst (.bl c))) σ H Q := by
  obtain ⟨e, s, ro, rs, rh, h⟩ := h
  unfold cUn at h
  rw [wp_bind] at h
  refine ⟨e, s, ro, rs, rh, h.mono (fun d s1 q v H1 ro1 rh1 x1 rp => ⟨e, s1, ro1, rs.ext x1, rh1, fun w H2 ro2 rh2 x2 rw' => ?_⟩) fun _ _ _ q => q⟩
  cases rw'
  cases rp with
  | bl k =>
    have q : (R.ok (D.bl (decide (k = c))) s1).wp (okQ X.K Cl ro H Q) (exQ X.K Cl W ro H σ) := q
    exact ⟨k, c, rfl, rfl, q _ H2 ro2 rh2 (x1.trans x2) (.bl _)⟩
  | _ => exact q.elim
theorem r_noB {σ : L2.St} {H : Hp} {Q : VK} (h : rdE X.K Cl W (cUn (dNoB c) f) σ H Q) : tOp rNotB (rdE X.K Cl W f) (rdE X.K Cl W (cCst (.bl c))) σ H Q := by
  obtain ⟨e, s, ro, rs, rh, h⟩ := h
  unfold cUn at h
  rw [wp_bind] at h
  refine ⟨e, s, ro, rs, rh, h.mono (fun d s1 q v H1 ro1 rh1 x1 rp => ⟨e, s1, ro1, rs.ext x1, rh1, fun w H2 ro2 rh2 x2 rw' => ?_⟩) fun _ _ _ q => q⟩
  cases rw'
  cases rp with
  | bl k =>
    have q : (R.ok (D.bl (!decide (k = c))) s1).wp (okQ X.K Cl ro H Q) (exQ X.K Cl W ro H σ) := q
    exact ⟨k, c, rfl, rfl, q _ H2 ro2 rh2 (x1.trans x2) (.bl _)⟩
  | _ => exact q.elim
theorem s_isB {j : Nat} {p2 : Pos} (ha : PE X a (rdE X.K Cl W f)) : PE X (.Compare a [.Is] [.Constant (.bool c) j p2] pos) (rdE X.K Cl W (cUn (dIsB c) f)) :=
  (pe_cmpR op_isBl ha (s_bl (W := W)) (by cases c <;> rfl)).imp fun _ _ _ q => r_isB q
theorem s_noB {j : Nat} {p2 : Pos} (ha : PE X a (rdE X.K Cl W f)) : PE X (.Compare a [.IsNot] [.Constant (.bool c) j p2] pos) (rdE X.K Cl W (cUn (dNoB c) f)) :=
  (pe_cmpR op_notBl ha (s_bl (W := W)) (by cases c <;> rfl)).imp fun _ _ _ q => r_noB q
theorem s_isBT {j : Nat} {p2 : Pos} (ha : PE X a (rdE X.K Cl W f)) : PT X (.Compare a [.Is] [.Constant (.bool c) j p2] pos) (rdT X.K Cl W (cTst (cUn (dIsB c) f))) :=
  (pt_cmpR op_isBl ha (s_bl (W := W)) (by cases c <;> rfl)).imp fun _ _ _ q => r_tst (t := tOp rIsB (rdE X.K Cl W f) (rdE X.K Cl W (cCst (.bl c)))) (fun _ _ _ q => r_isB q) q
theorem s_noBT {j : Nat} {p2 : Pos} (ha : PE X a (rdE X.K Cl W f)) : PT X (.Compare a [.IsNot] [.Constant (.bool c) j p2] pos) (rdT X.K Cl W (cTst (cUn (dNoB c) f))) :=
  (pt_cmpR op_notBl ha (s_bl (W := W)) (by cases c <;> rfl)).imp fun _ _ _ q => r_tst (t := tOp rNotB (rdE X.K Cl W f) (rdE X.K Cl W (cCst (.bl c)))) (fun _ _ _ q => r_noB q) q
end
end Ev
set_option maxHeartbeats 1000000
namespace Ev
open PySem PySem.Spec PyProof.Rows L2
/-! ### a law's def that asks more of where it stands: what is around it is the caller alone -/
structure FnC (P : Program) (w : World) (K : PySem.W.Frag) (mg : Str → Option Value) (base : Heap) (f : Addr) (fd : FuncData) (ps : List Str) (sp : Sp) : Prop where
  run : ∀ (s : Shared) (H : Hp) (ar : Args) (us : List Value) (vs : List V) (Q : VK) (E : XK), Env0 P w K mg base callerA [] s H → BindsTo s fd ar (ps.zip us) → Vals vs us → sp vs H Q E →
    codeAny (model P w) callerA (.call (.ref f) ar) (CR (L2.CX P w) [] P w H s Q E) s
section
variable {P : Program} {w : World} {K : PySem.W.Frag} {mg : Str → Option Value} {base : Heap} {Cl : Nat → Addr}
theorem FnC.of {x qual : Str} {params : Arguments} {body : List Stmt} {scope : Scope} {kws : List (Str × V)} {f : Addr} {fd : FuncData} {N ps : List Str} {n k : Nat} {b : SS} (Fd : FunD K x qual params body scope [] kws f fd) (S : FnScope N ps scope) (hn : ps.length = n) (hr0 : Room (k + 1) callerA)
    (hb : ∀ (cdv : Value) (s : Shared) (H : Hp) (E : XK), Room k (callerA.deeper (envOfC qual scope s.heap.objs.size f cdv)) →
      PSs (cxD P w K mg base N qual scope f cdv callerA [] s H E) body (rdS K Cl (fun cls d _ H => E cls d H) b)) :
    FnC P w K mg base f fd ps (spF K Cl n (fnE N.length b)) := by
  obtain ⟨oc, od, dV, kV, doc, pm, an, cdv, ct, osl, rfl, lk, hcd, _, _⟩ := Fd.ex
  constructor
  intro s H ar us vs Q E en bi rv hsp
  have hlen : vs.length = ps.length := hsp.1.trans hn.symm
  have kin : K.In s.heap := en.mod.kin.keeps fun b o q => (en.bs b o q).1
  have nol : s.heap.NoLimit := en.mod.nolimit.keeps fun b o q => (en.bs b o q).1
  refine codeAny_call_function hr0.depth (kin _ _ lk) rfl S.co S.gen rfl (PySem.W.codeRec_of kin hcd) (bi _ _ _ _ ?_)
  refine wpAny_newFunctionEnv_cells S.kind ?_ fun env henv s1 inC => ?_
  · rintro ⟨n', v'⟩ hy
    rcases S.par n' (List.of_mem_zip hy).1 with z | z
    · exact .inl z
    · exact .inr ⟨z, PySem.W.cellsFrom_some _ _ _ (.inl z)⟩
  subst henv
  refine ⟨nol.keeps inC.toInCall.keep, codeAny_func ?_⟩
  have I1 := inv_start (CX := L2.CX P w) (E := E) S hr0.hd en hlen rv inC
  have hb1 := hb cdv s H E (hr0.deeper _)
  obtain ⟨hl, ds, sd, ro, rps, rh, hw⟩ := hsp
  refine wpAny_mono (hb1.run [] s1 (L2.start N vs) H { nx := fun _ H' => Q .non H', rt := Q } I1 ⟨_, sd, ro, start_rel rps, rh, ?_⟩) (fun fl s' hs => ?_) fun e s' hs => hs
  · unfold fnE at hw
    generalize b (ds.map some ++ List.replicate (N.length - ds.length) none) sd = r at hw
    cases r with
    | nx e s' => exact fun σ' H' ro' _ rh' x' => hw .non H' ro' rh' x' .non
    | rt d s' => exact fun v H' ro' rh' x' rv => hw v H' ro' rh' x' rv
    | ex c fs e s' => exact fun σ' H' ro' cls d _ rh' x' xr => hw H' ro' cls d rh' x' xr
    | bk _ _ => exact hw.elim
    | ct _ _ => exact hw.elim
    | bad => exact hw.elim
  · cases fl with
    | ret u =>
      obtain ⟨v, σ2, H2, J2, rv2, q2⟩ := hs
      exact ⟨v, H2, J2.os, J2.bare, J2.base, J2.hok, rv2, q2⟩
    | next =>
      obtain ⟨σ2, H2, J2, q2⟩ := hs
      exact ⟨V.non, H2, J2.os, J2.bare, J2.base, J2.hok, rfl, q2⟩
    | brk =>
      obtain ⟨_, _, _, q2⟩ := hs
      exact False.elim q2
    | cont =>
      obtain ⟨_, _, _, q2⟩ := hs
      exact False.elim q2
end
end Ev
namespace Ev
open PySem PySem.Spec PyProof.Rows L2
section
variable {P : Program} {w : World} {K : PySem.W.Frag} {mg mb : Str → Option Value} {fa a : Addr} {fd : FuncData} {x : Str} {sp : Sp} {st : Shared} {vs : List Value} {ns : List Int}
/-- the call, over an abstract heap that tracks at most the script -/
theorem callC_core {H : Hp} (kin : K.In st.heap) (gl : st.heap.Ns mainGlobals mg) (bl : st.heap.Ns builtinsNs mb) (bb : ∀ y : Str, y ≠ "__name__" → mb y = bootBuiltins y) (nol : st.heap.NoLimit) (ng : st.gens = #[])
    (sc : st.heap.get? a = some { cls := .type "list", data := .seq vs.toArray })
    (FC : ∀ base : Heap, K.In base → base.Ns mainGlobals mg → FnC P w K mg base fa fd [x] sp) (bd : ∀ (s : Shared) (u : Value), BindsTo s fd ⟨[u], []⟩ [(x, u)])
    (pr : sp [.ref a] H (fun v _ => v = .bl true) fun _ _ _ => False) (only : Only H) (hok : HOk P w H st.heap) (tr : ∀ b, H b ≠ none → b = a) (trK : H a ≠ none → K.lookup a = none) :
    codeAny (model P w) callerA (.call (.ref fa) ⟨[.ref a], []⟩) (fun r t => r = .ok (.ret (.bool true)) ∧ OldK st.heap t.heap ∧ t.os = st.os ∧ AllBare t.gens) st := by
  have free_of : ∀ {b : Addr}, b ≠ a → H b = none := fun {b} ne => Classical.byContradiction fun z => ne (tr b z)
  have below : ∀ {b : Addr} {o : Obj}, st.heap.get? b = some o → H b = none → (hidT st.heap H).get? b = some o := fun g z => hidT_get g z
  have dictFree : ∀ {b : Addr} {o : Obj} {es : Array DictEntry} {n : Nat}, st.heap.get? b = some o → o.data = .dict es n → H b = none := fun {b o es n} g d => by
    refine free_of fun z => ?_
    subst z
    rw [sc] at g
    cases g
    exact Data.noConfusion (show Data.seq vs.toArray _ = Data.dict es n from d)
  have nsB : ∀ {b : Addr} {m : Str → Option Value}, st.heap.Ns b m → (hidT st.heap H).Ns b m := by
    rintro b m ⟨o, es, n, g, d, r⟩
    exact ⟨o, es, n, below g (dictFree g d), d, r⟩
  have kinB : K.In (hidT st.heap H) := fun b o g => below (kin b o g) (Classical.byContradiction fun z => by
    have := tr b z
    subst this
    rw [trK z] at g
    cases g)
  have modB : Mod K mg (hidT st.heap H) := by
    refine ⟨kinB, nsB gl, ⟨mb, nsB bl, bb⟩, ?_⟩
    obtain ⟨mc, m1, m2⟩ := nol
    exact ⟨mc, nsB m1, m2⟩
  have en : Env0 P w K mg (hidT st.heap H) callerA [] st H := ⟨rfl, modB, fun b o g => of_hidT g, Nat.le_of_eq (hidT_size _ _), trivial, fun b z => absurd (show b ∈ ([] : List Addr) from z) List.not_mem_nil, hok, .of_eq ng⟩
  have run := (FC _ kinB (nsB gl)).run st H ⟨[.ref a], []⟩ [.ref a] [.ref a] _ _ en (bd st (.ref a)) (.cons rfl .nil) pr
  refine codeAny_mono run fun r t hr => ?_
  match r, hr with
  | .error e, hr =>
    obtain ⟨_, _, _, _, _, _, _, _, _, _, _, _, z⟩ := hr
    exact z.elim
  | .ok .next, hr => exact False.elim hr
  | .ok .brk, hr => exact False.elim hr
  | .ok .cont, hr => exact False.elim hr
  | .ok (.ret u), hr =>
    obtain ⟨v, H2, os, bare, un, hok2, rv, qv⟩ := hr
    obtain rfl : v = .bl true := qv
    obtain rfl : u = Value.bool true := rv
    refine ⟨rfl, OldK.of_keep fun b o g => ?_, os, bare⟩
    rcases only b with z | ⟨ob, xs, z⟩
    · exact un.keep b o g z (fun m => absurd (show b ∈ ([] : List Addr) from m) List.not_mem_nil) List.not_mem_nil
    · obtain ⟨g1, _⟩ := hok b _ z
      obtain ⟨g2, _⟩ := hok2 b _ (un.frzs b ob _ z)
      rw [g] at g1
      cases g1
      exact g2
end
end Ev
namespace Ev
open PySem PySem.Spec PyProof.Rows L2
/-- the law's def, bound to its script, called by the caller alone -/
structure LawC (P : Program) (w : World) (K : PySem.W.Frag) (mg : Str → Option Value) (base : Heap) (Cl : Nat → Addr) (x p : Str) (F : List D → S → R D) : Prop where
  ex : ∃ (f : Addr) (fd : FuncData), mg x = some (.ref f) ∧ (∃ (oc : Value) (od : Option Addr) (osl : Array (Option Value)), K.lookup f = some ⟨oc, od, .func fd, osl⟩) ∧ (∀ (s : Shared) (u : Value), BindsTo s fd ⟨[u], []⟩ [(p, u)]) ∧ FnC P w K mg base f fd [p] (spF K Cl 1 F)
section
variable {P : Program} {w : World} {K : PySem.W.Frag} {mg : Str → Option Value} {base : Heap} {Cl : Nat → Addr}
theorem LawC.mk' {x qual p : Str} {params : Arguments} {body : List Stmt} {scope : Scope} {kws : List (Str × V)} {f : Addr} {fd : FuncData} {N : List Str} {k : Nat} {b : SS} (hm : mg x = some (.ref f)) (Fd : FunD K x qual params body scope [] kws f fd) (S : FnScope N [p] scope) (hr : Room (k + 1) callerA)
    (hbi : ∀ (kV doc pm : Value) (an : Option Addr) (cdv ct : Value) (us : List Value), us.length = ([p] : List Str).length → bindArgs (PySem.W.fnOf x qual params body scope .none kV doc pm an cdv ct) ⟨us, []⟩ = pure (([p] : List Str).zip us))
    (hb : ∀ (cdv : Value) (s : Shared) (H : Hp) (E : XK), Room k (callerA.deeper (envOfC qual scope s.heap.objs.size f cdv)) →
      PSs (cxD P w K mg base N qual scope f cdv callerA [] s H E) body (rdS K Cl (fun cls d _ H => E cls d H) b)) :
    LawC P w K mg base Cl x p (fnE N.length b) := by
  obtain ⟨oc, od, dV, kV, doc, pm, an, cdv, ct, osl, _, lk, _⟩ := Fd.ex
  exact ⟨f, fd, hm, ⟨oc, od, osl, lk⟩, fun s u => FunD.bindsA (ps := [p]) Fd hbi s [u] rfl, FnC.of Fd S rfl hr hb⟩
end
theorem walk_ofC {l : PySem.W.OpenLaw} {n : Nat} {q : Program} {loose : List Str} {XP : (Str → Option Value) → Heap → Prop} {YP : World → Heap → Prop} {d : DefRec} {x p : Str} {F : List D → S → R D}
    (hn : l.most = some n) (hn2 : n ≤ sizeLine) (hdf : d.params.defaults = []) (hx : d.name = x) (hF : LawOk n F)
    (G : ∀ (w : World) (mg : Str → Option Value) (h : Heap), YP w h → h.Ns mainGlobals mg →
      ∃ (K : PySem.W.Frag) (Cl : Nat → Addr), K.In h ∧ ∀ base : Heap, LawC l.prog w K mg base Cl x p F) :
    PySem.W.WalkO q loose XP YP l.row.toRowW d [] (fun f vs => PySem.call f vs) := by
  refine Att.attach_call hn hdf fun w s₀ st mg mb fa o pm cd doc a vs ns Gq Y ho hd hcd hmg hobj hints hlen hg => ?_
  obtain ⟨K, Cl, KX, hL⟩ := G w mg _ Y Gq.T.g
  obtain ⟨f, fd, h1, ⟨oc, od, osl, lk⟩, h3, _⟩ := (hL st.heap).ex
  have ef : f = fa := by
    rw [hx] at hmg
    rw [h1] at hmg
    exact Value.ref.inj (Option.some.inj hmg)
  subst ef
  have FC : ∀ base : Heap, K.In base → base.Ns mainGlobals mg → FnC l.prog w K mg base f fd [p] (spF K Cl 1 F) := fun base _ _ => by
    obtain ⟨f', fd', g1, ⟨oc', od', osl', lk'⟩, _, g4⟩ := (hL base).ex
    rw [h1] at g1; cases g1
    rw [lk] at lk'; cases lk'
    exact g4
  have rvs := vals_ints hints
  have lvs := hints.length
  have go : ∀ H : Hp, Only H → SqL K H a (ns.map V.int) → HOk l.prog w H st.heap → (∀ b, H b ≠ none → b = a) → (H a ≠ none → K.lookup a = none) → _ := fun H hO hS hok tr trK =>
    callC_core (H := H) KX Gq.T.g Gq.T.b Gq.T.builtins Gq.T.nolimit hg hobj FC h3 (law_sp hF H a ns hlen hO hS) hO hok tr trK
  by_cases hk : K.lookup a = none
  · have at_a : ∀ {b : Addr} {z : HO}, (if b = a then some (HO.frz { cls := .type "list", data := .seq vs.toArray } (.lst (ns.map V.int))) else none) = some z → b = a ∧ z = HO.frz { cls := .type "list", data := .seq vs.toArray } (.lst (ns.map V.int)) := fun {b z} e => by
      by_cases hb : b = a
      · rw [if_pos hb] at e; cases e; exact ⟨hb, rfl⟩
      · rw [if_neg hb] at e; cases e
    refine go (fun b => if b = a then some (.frz { cls := .type "list", data := .seq vs.toArray } (.lst (ns.map V.int))) else none) (fun b => ?_) (.inl (.inr ⟨{ cls := .type "list", data := .seq vs.toArray }, if_pos rfl⟩)) (fun b u z => ?_) (fun b z => ?_) fun _ => hk
    · by_cases hb : b = a
      · exact .inr ⟨_, _, if_pos hb⟩
      · exact .inl (if_neg hb)
    · obtain ⟨rfl, rfl⟩ := at_a z
      exact ⟨hobj, by rw [List.length_map]; exact Nat.le_trans hlen hn2, vs, _, rvs, hobj⟩
    · exact Classical.byContradiction fun w => z (if_neg w)
  · obtain ⟨o2, ho2⟩ := Option.ne_none_iff_exists'.mp hk
    have e2 := KX a o2 ho2
    rw [hobj] at e2
    cases e2
    exact go (fun _ => none) (fun _ => .inl rfl) (.inr ⟨_, vs.toArray, _, ho2, rfl, rfl, rfl, by rw [List.size_toArray, lvs]; exact Nat.le_trans hlen hn2, by simpa using rvs⟩) (fun b u z => by cases (show (none : Option HO) = some u from z)) (fun b z => absurd rfl z) fun z => absurd rfl z
end Ev
set_option maxHeartbeats 0
namespace Ev
open PySem PySem.Spec PyProof.Rows L2
def P0 : Program := PySem.Challenge.pw_sweptfree_k64_whole_lean_ways
def top (i : Nat) : Stmt := P0.main.body.getD i (.Pass ⟨0, 0, 0, 0⟩)
def gd (i : Nat) (n : Str) : He.DefD := gdS (top i) n
def dfs : List He.DefD := [gd 2 "is_integer", gd 3 "is_fraction", gd 4 "made", gd 5 "whole", gd 6 "plus", gd 7 "minus", gd 8 "times", gd 9 "over", gd 10 "less", gd 11 "sign_of", gd 12 "greatest", gd 13 "least", gd 17 "value_at", gd 18 "distances_at", gd 19 "is_within", gd 20 "span", gd 21 "leg_fault", gd 23 "legs_of", gd 24 "is_standing", gd 25 "has_form", gd 26 "judge_way", gd 27 "first_needless", gd 28 "is_lean_way", gd 29 "made_lean", gd 31 "_law_source", gd 32 "_law_pick", gd 33 "_law_of", gd 34 "_law_mixed", gd 35 "_law_least", gd 36 "_law_sum", gd 37 "_law_times", gd 38 "_law_minus", gd 39 "_law_is_below", gd 40 "_law_value", gd 41 "_law_common", gd 42 "_law_slack_list", gd 43 "_law_most", gd 44 "_law_fewest", gd 45 "_law_at_moment", gd 46 "_law_moments", gd 47 "_law_span", gd 48 "_law_in_limits", gd 49 "_law_any_form", gd 50 "_law_any_contact", gd 51 "_law_any_limits", gd 52 "_law_any_standing", gd 53 "_law_is_free", gd 54 "_law_is_lean", gd 55 "_law_is_some", gd 56 "_law_free_way", gd 57 "law"]
def fas : List He.Fa := [.glo "is_integer", .glo "is_fraction", .glo "made", .glo "whole", .glo "plus", .glo "minus", .glo "times", .glo "over", .glo "less", .glo "sign_of", .glo "greatest", .glo "least", .glo "value_at", .glo "distances_at", .glo "is_within", .glo "span", .glo "leg_fault", .glo "legs_of", .glo "is_standing", .glo "has_form", .glo "judge_way", .glo "first_needless", .glo "is_lean_way", .glo "made_lean", .glo "_law_source", .glo "_law_pick", .glo "_law_of", .glo "_law_mixed", .glo "_law_least", .glo "_law_sum", .glo "_law_times", .glo "_law_minus", .glo "_law_is_below", .glo "_law_value", .glo "_law_common", .glo "_law_slack_list", .glo "_law_most", .glo "_law_fewest", .glo "_law_at_moment", .glo "_law_moments", .glo "_law_span", .glo "_law_in_limits", .glo "_law_any_form", .glo "_law_any_contact", .glo "_law_any_limits", .glo "_law_any_standing", .glo "_law_is_free", .glo "_law_is_lean", .glo "_law_is_some", .glo "_law_free_way", .glo "law", .free "abs", .free "all", .free "bool", .free "enumerate", .free "int", .free "isinstance", .free "len", .free "list", .free "max", .free "min", .free "range", .free "repr", .free "set", .free "sorted", .free "tuple", .free "zip"]
def gfs : List GF := [.bi "gcd" "math.gcd", .dat "BEGIN" (.tup [.int 0, .int 1]), .dat "END" (.tup [.int 1, .int 1])]

def b_is_integer : SS := cRet (cAndV (cCall (bIsa .int_) (cCons (cVar 0) cNil)) (cNotV (cCall (bIsa .bool_) (cCons (cVar 0) cNil))))
def f_is_integer : List D → S → R D := fnE (["value"] : List Str).length b_is_integer
def b_is_fraction : SS := cSeq (cIf (cOrT (cNotT (cTru (cCall (bIsa .tuple_) (cCons (cVar 0) cNil)))) (cOrT (cTst (cBin (onP pNe) (cCall bLen (cCons (cVar 0) (cNil))) (cCst (.int 2)))) (cNotT (cTru (cCall bAll (cCons (cLc (cIt (cVar 0)) (.nm 1) (cYes) (cDef f_is_integer 1 (cCons (cVar 1) (cNil))) [1]) (cNil))))))) (cRet (cCst (.bl false))) (cPass)) (cRet (cAndV (cBin (onP pGt) (cBin dIdx (cVar 0) (cCst (.int 1))) (cCst (.int 0))) (cBin (onP pEq) (cCall bGcd (cCons (cBin dIdx (cVar 0) (cCst (.int 0))) (cCons (cBin dIdx (cVar 0) (cCst (.int 1))) (cNil)))) (cCst (.int 1)))))
def f_is_fraction : List D → S → R D := fnE (["value", "one"] : List Str).length b_is_fraction
def b_made : SS := cSeq (cAs (.nm 2) (cIfE (cTst (cBin (onP pGt) (cVar 1) (cCst (.int 0)))) (cCall bGcd (cCons (cVar 0) (cCons (cVar 1) (cNil)))) (cUn dNeg (cCall bGcd (cCons (cVar 0) (cCons (cVar 1) (cNil))))))) (cRet (cTup (cCons (cBin dFdv (cVar 0) (cVar 2)) (cCons (cBin dFdv (cVar 1) (cVar 2)) (cNil)))))
def f_made : List D → S → R D := fnE (["a", "b", "unit"] : List Str).length b_made
def b_whole : SS := cRet (cTup (cCons (cVar 0) (cCons (cCst (.int 1)) (cNil))))
def f_whole : List D → S → R D := fnE (["n"] : List Str).length b_whole
def b_plus : SS := cRet (cDef f_made 2 (cCons (cBin dAdd (cBin dMul (cBin dIdx (cVar 0) (cCst (.int 0))) (cBin dIdx (cVar 1) (cCst (.int 1)))) (cBin dMul (cBin dIdx (cVar 1) (cCst (.int 0))) (cBin dIdx (cVar 0) (cCst (.int 1))))) (cCons (cBin dMul (cBin dIdx (cVar 0) (cCst (.int 1))) (cBin dIdx (cVar 1) (cCst (.int 1)))) (cNil))))
def f_plus : List D → S → R D := fnE (["x", "y"] : List Str).length b_plus
def b_minus : SS := cRet (cDef f_made 2 (cCons (cBin dSub (cBin dMul (cBin dIdx (cVar 0) (cCst (.int 0))) (cBin dIdx (cVar 1) (cCst (.int 1)))) (cBin dMul (cBin dIdx (cVar 1) (cCst (.int 0))) (cBin dIdx (cVar 0) (cCst (.int 1))))) (cCons (cBin dMul (cBin dIdx (cVar 0) (cCst (.int 1))) (cBin dIdx (cVar 1) (cCst (.int 1)))) (cNil))))
def f_minus : List D → S → R D := fnE (["x", "y"] : List Str).length b_minus
def b_times : SS := cRet (cDef f_made 2 (cCons (cBin dMul (cBin dIdx (cVar 0) (cCst (.int 0))) (cBin dIdx (cVar 1) (cCst (.int 0)))) (cCons (cBin dMul (cBin dIdx (cVar 0) (cCst (.int 1))) (cBin dIdx (cVar 1) (cCst (.int 1)))) (cNil))))
def f_times : List D → S → R D := fnE (["x", "y"] : List Str).length b_times
def b_over : SS := cRet (cDef f_made 2 (cCons (cBin dMul (cBin dIdx (cVar 0) (cCst (.int 0))) (cBin dIdx (cVar 1) (cCst (.int 1)))) (cCons (cBin dMul (cBin dIdx (cVar 0) (cCst (.int 1))) (cBin dIdx (cVar 1) (cCst (.int 0)))) (cNil))))
def f_over : List D → S → R D := fnE (["x", "y"] : List Str).length b_over
def b_less : SS := cRet (cBin (onP pLt) (cBin dMul (cBin dIdx (cVar 0) (cCst (.int 0))) (cBin dIdx (cVar 1) (cCst (.int 1)))) (cBin dMul (cBin dIdx (cVar 1) (cCst (.int 0))) (cBin dIdx (cVar 0) (cCst (.int 1)))))
def f_less : List D → S → R D := fnE (["x", "y"] : List Str).length b_less
def b_sign_of : SS := cRet (cBin dSub (cCall bInt (cCons (cBin (onP pGt) (cBin dIdx (cVar 0) (cCst (.int 0))) (cCst (.int 0))) (cNil))) (cCall bInt (cCons (cBin (onP pLt) (cBin dIdx (cVar 0) (cCst (.int 0))) (cCst (.int 0))) (cNil))))
def f_sign_of : List D → S → R D := fnE (["x"] : List Str).length b_sign_of
def b_greatest : SS := cSeq (cAs (.nm 1) (cBin dIdx (cVar 0) (cCst (.int 0)))) (cSeq (cFor (cIt (cSl (cVar 0) (some (cCst (.int 1))) none)) (.nm 2) (cAs (.nm 1) (cIfE (cTru (cDef f_less 2 (cCons (cVar 1) (cCons (cVar 2) (cNil))))) (cVar 2) (cVar 1)))) (cRet (cVar 1)))
def f_greatest : List D → S → R D := fnE (["some", "found", "one"] : List Str).length b_greatest
def b_least : SS := cSeq (cAs (.nm 1) (cBin dIdx (cVar 0) (cCst (.int 0)))) (cSeq (cFor (cIt (cSl (cVar 0) (some (cCst (.int 1))) none)) (.nm 2) (cAs (.nm 1) (cIfE (cTru (cDef f_less 2 (cCons (cVar 2) (cCons (cVar 1) (cNil))))) (cVar 2) (cVar 1)))) (cRet (cVar 1)))
def f_least : List D → S → R D := fnE (["some", "found", "one"] : List Str).length b_least
def b_value_at : SS := cSeq (cAs (.nm 2) (cDef f_whole 1 (cCons (cBin dIdx (cVar 0) (cCst (.int 0))) (cNil)))) (cSeq (cFor (cZ true (cSl (cVar 0) (some (cCst (.int 1))) none) (cVar 1)) (.tp (.cons (.nm 3) (.cons (.nm 4) (.nil)))) (cAs (.nm 2) (cDef f_plus 2 (cCons (cVar 2) (cCons (cDef f_times 2 (cCons (cDef f_whole 1 (cCons (cVar 3) (cNil))) (cCons (cVar 4) (cNil)))) (cNil)))))) (cRet (cVar 2)))
def f_value_at : List D → S → R D := fnE (["form", "standing", "found", "number", "one"] : List Str).length b_value_at
def b_distances_at : SS := cRet (cLc (cIt (cVar 0)) (.tp (.cons (.nm 2) (.cons (.nm 3) (.nil)))) (cYes) (cDef f_times 2 (cCons (cDef f_whole 1 (cCons (cUn dNeg (cVar 3)) (cNil))) (cCons (cDef f_value_at 2 (cCons (cVar 2) (cCons (cVar 1) (cNil)))) (cNil)))) [2, 3])
def f_distances_at : List D → S → R D := fnE (["contact", "standing", "form", "side"] : List Str).length b_distances_at
def b_is_within : SS := cSeq (cFor (cZ true (cVar 0) (cVar 1)) (.tp (.cons (.tp (.cons (.nm 3) (.cons (.nm 4) (.nil)))) (.cons (.nm 2) (.nil)))) (cIf (cOrT (cTru (cDef f_less 2 (cCons (cVar 2) (cCons (cDef f_whole 1 (cCons (cVar 3) (cNil))) (cNil))))) (cTru (cDef f_less 2 (cCons (cDef f_whole 1 (cCons (cVar 4) (cNil))) (cCons (cVar 2) (cNil)))))) (cRet (cCst (.bl false))) (cPass))) (cRet (cCst (.bl true)))
def f_is_within : List D → S → R D := fnE (["limits", "standing", "one", "low", "high"] : List Str).length b_is_within
def b_span : SS := cSeq (cPar (.cons (.nm 3) (.cons (.nm 4) (.nil))) (cCons (cCst (.tup [.int 0, .int 1])) (cCons (cCst (.tup [.int 1, .int 1])) (cNil)))) (cSeq (cFor (cZ true (cDef f_distances_at 2 (cCons (cVar 0) (cCons (cVar 1) (cNil)))) (cDef f_distances_at 2 (cCons (cVar 0) (cCons (cVar 2) (cNil))))) (.tp (.cons (.nm 5) (.cons (.nm 6) (.nil)))) (cSeq (cIf (cAndT (cTst (cBin (onP pGe) (cDef f_sign_of 1 (cCons (cVar 5) (cNil))) (cCst (.int 0)))) (cTst (cBin (onP pGe) (cDef f_sign_of 1 (cCons (cVar 6) (cNil))) (cCst (.int 0))))) (cRet (cCst .non)) (cPass)) (cIf (cOrT (cTst (cBin (onP pGe) (cDef f_sign_of 1 (cCons (cVar 5) (cNil))) (cCst (.int 0)))) (cTst (cBin (onP pGe) (cDef f_sign_of 1 (cCons (cVar 6) (cNil))) (cCst (.int 0))))) (cSeq (cAs (.nm 7) (cDef f_over 2 (cCons (cVar 5) (cCons (cDef f_minus 2 (cCons (cVar 5) (cCons (cVar 6) (cNil)))) (cNil))))) (cIf (cTst (cBin (onP pGe) (cDef f_sign_of 1 (cCons (cVar 5) (cNil))) (cCst (.int 0)))) (cAs (.nm 3) (cDef f_greatest 1 (cCons (cLst (cCons (cVar 3) (cCons (cVar 7) (cNil)))) (cNil)))) (cAs (.nm 4) (cDef f_least 1 (cCons (cLst (cCons (cVar 4) (cCons (cVar 7) (cNil)))) (cNil)))))) (cPass)))) (cRet (cIfE (cTru (cDef f_less 2 (cCons (cVar 3) (cCons (cVar 4) (cNil))))) (cTup (cCons (cVar 3) (cCons (cVar 4) (cNil)))) (cCst .non))))
def f_span : List D → S → R D := fnE (["contact", "q", "r", "low", "high", "first", "last", "at"] : List Str).length b_span
def b_leg_fault : SS := cSeq (cFor (cEn (cTup (cCons (cVar 2) (cCons (cVar 3) (cNil))))) (.tp (.cons (.nm 4) (.cons (.nm 5) (.nil)))) (cIf (cNotT (cTru (cDef f_is_within 2 (cCons (cVar 0) (cCons (cVar 5) (cNil)))))) (cRet (cTup (cCons (cCst (.str [108, 105, 109, 105, 116, 115])) (cCons (cVar 4) (cNil))))) (cPass))) (cSeq (cFor (cEn (cVar 1)) (.tp (.cons (.nm 4) (.cons (.nm 6) (.nil)))) (cSeq (cAs (.nm 7) (cDef f_span 3 (cCons (cVar 6) (cCons (cVar 2) (cCons (cVar 3) (cNil)))))) (cIf (cTst (cUn dNotN (cVar 7))) (cRet (cTup (cCons (cCst (.str [98, 97, 114, 115])) (cCons (cVar 4) (cStar (cVar 7) (cNil)))))) (cPass)))) (cRet (cCst .non)))
def f_leg_fault : List D → S → R D := fnE (["limits", "contacts", "q", "r", "k", "standing", "contact", "told"] : List Str).length b_leg_fault
def b_legs_of : SS := cRet (cIfE (cTst (cBin (onP pGt) (cCall bLen (cCons (cVar 0) (cNil))) (cCst (.int 1)))) (cLz (cVar 0) (cSl (cVar 0) (some (cCst (.int 1))) none)) (cLst (cCons (cTup (cCons (cBin dIdx (cVar 0) (cCst (.int 0))) (cCons (cBin dIdx (cVar 0) (cCst (.int 0))) (cNil)))) (cNil))))
def f_legs_of : List D → S → R D := fnE (["way"] : List Str).length b_legs_of
def b_is_standing : SS := cRet (cAndV (cCall (bIsa .tuple_) (cCons (cVar 0) cNil)) (cAndV (cBin (onP pEq) (cCall bLen (cCons (cVar 0) (cNil))) (cVar 1)) (cCall bAll (cCons (cLc (cIt (cVar 0)) (.nm 2) (cYes) (cDef f_is_fraction 1 (cCons (cVar 2) (cNil))) [2]) (cNil)))))
def f_is_standing : List D → S → R D := fnE (["value", "many", "one"] : List Str).length b_is_standing
def b_has_form : SS := cSeq (cIf (cOrT (cNotT (cTru (cCall (bIsa .tuple_) (cCons (cVar 1) cNil)))) (cTst (cBin (onP pEq) (cCall bLen (cCons (cVar 1) (cNil))) (cCst (.int 0))))) (cRet (cCst (.bl false))) (cPass)) (cRet (cCall bAll (cCons (cLc (cIt (cVar 1)) (.nm 2) (cYes) (cDef f_is_standing 2 (cCons (cVar 2) (cCons (cCall bLen (cCons (cVar 0) (cNil))) (cNil)))) [2]) (cNil))))
def f_has_form : List D → S → R D := fnE (["limits", "value", "one"] : List Str).length b_has_form
def b_judge_way : SS := cSeq (cIf (cNotT (cTru (cDef f_has_form 2 (cCons (cVar 0) (cCons (cVar 2) (cNil)))))) (cRet (cTup (cCons (cCst (.str [102, 111, 114, 109])) (cNil)))) (cPass)) (cSeq (cFor (cEn (cVar 2)) (.tp (.cons (.nm 3) (.cons (.nm 4) (.nil)))) (cIf (cNotT (cTru (cDef f_is_within 2 (cCons (cVar 0) (cCons (cVar 4) (cNil)))))) (cRet (cTup (cCons (cCst (.str [108, 105, 109, 105, 116, 115])) (cCons (cVar 3) (cNil))))) (cPass))) (cSeq (cFor (cEn (cDef f_legs_of 1 (cCons (cVar 2) (cNil)))) (.tp (.cons (.nm 3) (.cons (.tp (.cons (.nm 5) (.cons (.nm 6) (.nil)))) (.nil)))) (cFor (cEn (cVar 1)) (.tp (.cons (.nm 7) (.cons (.nm 8) (.nil)))) (cSeq (cAs (.nm 9) (cDef f_span 3 (cCons (cVar 8) (cCons (cVar 5) (cCons (cVar 6) (cNil)))))) (cIf (cTst (cUn dNotN (cVar 9))) (cRet (cTup (cCons (cCst (.str [98, 97, 114, 115])) (cCons (cVar 3) (cCons (cVar 7) (cStar (cVar 9) (cNil))))))) (cPass))))) (cRet (cCst .non))))
def f_judge_way : List D → S → R D := fnE (["limits", "contacts", "value", "n", "standing", "q", "r", "k", "contact", "told"] : List Str).length b_judge_way
def b_first_needless : SS := cSeq (cFor (cRg2 (cCst (.int 1)) (cBin dSub (cCall bLen (cCons (cVar 2) (cNil))) (cCst (.int 1)))) (.nm 3) (cIf (cTst (cUn dIsN (cDef f_leg_fault 4 (cCons (cVar 0) (cCons (cVar 1) (cCons (cBin dIdx (cVar 2) (cBin dSub (cVar 3) (cCst (.int 1)))) (cCons (cBin dIdx (cVar 2) (cBin dAdd (cVar 3) (cCst (.int 1)))) (cNil)))))))) (cRet (cVar 3)) (cPass))) (cRet (cCst .non))
def f_first_needless : List D → S → R D := fnE (["limits", "contacts", "way", "k"] : List Str).length b_first_needless
def b_is_lean_way : SS := cRet (cUn dIsN (cDef f_first_needless 3 (cCons (cVar 0) (cCons (cVar 1) (cCons (cVar 2) (cNil))))))
def f_is_lean_way : List D → S → R D := fnE (["limits", "contacts", "way"] : List Str).length b_is_lean_way
def b_made_lean : SS := cSeq (cAs (.nm 3) (cDef f_first_needless 3 (cCons (cVar 0) (cCons (cVar 1) (cCons (cVar 2) (cNil)))))) (cSeq (cWh (cTst (cUn dNotN (cVar 3))) (cSeq (cAs (.nm 2) (cBin dAdd (cSl (cVar 2) none (some (cVar 3))) (cSl (cVar 2) (some (cBin dAdd (cVar 3) (cCst (.int 1)))) none))) (cAs (.nm 3) (cDef f_first_needless 3 (cCons (cVar 0) (cCons (cVar 1) (cCons (cVar 2) (cNil)))))))) (cRet (cVar 2)))
def f_made_lean : List D → S → R D := fnE (["limits", "contacts", "way", "k"] : List Str).length b_made_lean
def b__law_source : SS := cSeq (cAs (.nm 1) (cCst (.int 11))) (cSeq (cFor (cIt (cVar 0)) (.nm 2) (cAs (.nm 1) (cBin dMod (cCall bInt (cCons (cBin dAdd (cBin dAdd (cBin dMul (cVar 1) (cCst (.int 69069))) (cBin dMul (cVar 2) (cCst (.int 31)))) (cCst (.int 5))) (cNil))) (cCst (.int 2147483629))))) (cRet (cDsp [(cCst (.str [99, 101, 108, 108, 115]), cUn dRev (cLc (cIt (cVar 0)) (.nm 2) (cYes) (cCall bAbs (cCons (cVar 2) (cNil))) [2])), (cCst (.str [108, 101, 102, 116]), cCst (.int 1)), (cCst (.str [109, 105, 120, 101, 100]), cVar 1), (cCst (.str [116, 117, 114, 110]), cCst (.int 0))])))
def f__law_source : List D → S → R D := fnE (["script", "mixed", "cell"] : List Str).length b__law_source
def b__law_pick : SS := cSeq (cWh (cAndT (cTst (cBin (onP pGt) (cVar 1) (cCst (.int 1)))) (cAndT (cTst (cBin (onP pLt) (cBin dIdx (cVar 0) (cCst (.str [108, 101, 102, 116]))) (cCst (.int 2)))) (cTst (cBin (onP pGt) (cCall bLen (cCons (cBin dIdx (cVar 0) (cCst (.str [99, 101, 108, 108, 115]))) (cNil))) (cCst (.int 0)))))) (cPut (cVar 0) (cCst (.str [108, 101, 102, 116])) (cM (mL gPop) (cBin dIdx (cVar 0) (cCst (.str [99, 101, 108, 108, 115]))) cNil))) (cSeq (cAs (.nm 2) (cBin dIdx (cVar 0) (cCst (.str [108, 101, 102, 116])))) (cSeq (cIf (cOrT (cTst (cBin (onP pLt) (cVar 1) (cCst (.int 2)))) (cTst (cBin (onP pGt) (cVar 2) (cCst (.int 1))))) (cSeq (cPut (cVar 0) (cCst (.str [108, 101, 102, 116])) (cBin dFdv (cVar 2) (cCall bMax2 (cCons (cCst (.int 1)) (cCons (cVar 1) (cNil)))))) (cRet (cBin dMod (cCall bInt (cCons (cVar 2) (cNil))) (cCall bMax2 (cCons (cCst (.int 1)) (cCons (cVar 1) (cNil))))))) (cPass)) (cSeq (cPut (cVar 0) (cCst (.str [116, 117, 114, 110])) (cBin dAdd (cBin dIdx (cVar 0) (cCst (.str [116, 117, 114, 110]))) (cCst (.int 1)))) (cSeq (cAs (.nm 3) (cBin dMod (cCall bInt (cCons (cBin dAdd (cBin dIdx (cVar 0) (cCst (.str [109, 105, 120, 101, 100]))) (cBin dMul (cBin dIdx (cVar 0) (cCst (.str [116, 117, 114, 110]))) (cCst (.int 104729)))) (cNil))) (cCst (.int 998244353)))) (cSeq (cAs (.nm 3) (cBin dMod (cCall bInt (cCons (cBin dAdd (cBin dMul (cVar 3) (cVar 3)) (cBin dMul (cBin dIdx (cVar 0) (cCst (.str [116, 117, 114, 110]))) (cCst (.int 17)))) (cNil))) (cCst (.int 2147483647)))) (cSeq (cPut (cVar 0) (cCst (.str [109, 105, 120, 101, 100])) (cVar 3)) (cRet (cBin dMod (cCall bInt (cCons (cBin dFdv (cVar 3) (cCst (.int 16))) (cNil))) (cVar 1)))))))))
def f__law_pick : List D → S → R D := fnE (["source", "many", "left", "mixed"] : List Str).length b__law_pick
def b__law_of : SS := cRet (cBin dIdx (cVar 1) (cDef f__law_pick 2 (cCons (cVar 0) (cCons (cCall bLen (cCons (cVar 1) (cNil))) (cNil)))))
def f__law_of : List D → S → R D := fnE (["source", "some"] : List Str).length b__law_of
def b__law_mixed : SS := cSeq (cAs (.nm 2) (cCall bList (cCons (cVar 1) (cNil)))) (cRet (cLc (cRg1 (cCall bLen (cCons (cVar 2) (cNil)))) (.nm 3) (cYes) (cM (mL gPop) (cVar 2) (cCons (cDef f__law_pick 2 (cCons (cVar 0) (cCons (cCall bLen (cCons (cVar 2) (cNil))) (cNil)))) (cNil))) [3]))
def f__law_mixed : List D → S → R D := fnE (["source", "things", "rest", "lap"] : List Str).length b__law_mixed
def b__law_least : SS := cSeq (cPar (.cons (.nm 2) (.cons (.nm 3) (.nil))) (cCons (cCall bAbs (cCons (cVar 0) (cNil))) (cCons (cCall bAbs (cCons (cVar 1) (cNil))) (cNil)))) (cSeq (cWh (cTst (cBin (onP pNe) (cVar 3) (cCst (.int 0)))) (cPar (.cons (.nm 2) (.cons (.nm 3) (.nil))) (cCons (cVar 3) (cCons (cBin dMod (cCall bInt (cCons (cVar 2) (cNil))) (cVar 3)) (cNil))))) (cSeq (cAs (.nm 2) (cIfE (cTst (cBin (onP pGt) (cVar 1) (cCst (.int 0)))) (cVar 2) (cBin dSub (cCst (.int 0)) (cVar 2)))) (cRet (cTup (cCons (cBin dFdv (cVar 0) (cVar 2)) (cCons (cBin dFdv (cVar 1) (cVar 2)) (cNil)))))))
def f__law_least : List D → S → R D := fnE (["a", "b", "one", "other"] : List Str).length b__law_least
def b__law_sum : SS := cRet (cDef f__law_least 2 (cCons (cBin dAdd (cBin dMul (cBin dIdx (cVar 0) (cCst (.int 0))) (cBin dIdx (cVar 1) (cCst (.int 1)))) (cBin dMul (cBin dIdx (cVar 1) (cCst (.int 0))) (cBin dIdx (cVar 0) (cCst (.int 1))))) (cCons (cBin dMul (cBin dIdx (cVar 0) (cCst (.int 1))) (cBin dIdx (cVar 1) (cCst (.int 1)))) (cNil))))
def f__law_sum : List D → S → R D := fnE (["one", "other"] : List Str).length b__law_sum
def b__law_times : SS := cRet (cDef f__law_least 2 (cCons (cBin dMul (cBin dIdx (cVar 0) (cCst (.int 0))) (cBin dIdx (cVar 1) (cCst (.int 0)))) (cCons (cBin dMul (cBin dIdx (cVar 0) (cCst (.int 1))) (cBin dIdx (cVar 1) (cCst (.int 1)))) (cNil))))
def f__law_times : List D → S → R D := fnE (["one", "other"] : List Str).length b__law_times
def b__law_minus : SS := cRet (cDef f__law_least 2 (cCons (cBin dSub (cBin dMul (cBin dIdx (cVar 0) (cCst (.int 0))) (cBin dIdx (cVar 1) (cCst (.int 1)))) (cBin dMul (cBin dIdx (cVar 1) (cCst (.int 0))) (cBin dIdx (cVar 0) (cCst (.int 1))))) (cCons (cBin dMul (cBin dIdx (cVar 0) (cCst (.int 1))) (cBin dIdx (cVar 1) (cCst (.int 1)))) (cNil))))
def f__law_minus : List D → S → R D := fnE (["one", "other"] : List Str).length b__law_minus
def b__law_is_below : SS := cRet (cBin (onP pLt) (cBin dMul (cBin dIdx (cVar 0) (cCst (.int 0))) (cBin dIdx (cVar 1) (cCst (.int 1)))) (cBin dMul (cBin dIdx (cVar 1) (cCst (.int 0))) (cBin dIdx (cVar 0) (cCst (.int 1)))))
def f__law_is_below : List D → S → R D := fnE (["one", "other"] : List Str).length b__law_is_below
def b__law_value : SS := cSeq (cAs (.nm 2) (cTup (cCons (cBin dIdx (cVar 0) (cCst (.int 0))) (cCons (cCst (.int 1)) (cNil))))) (cSeq (cFor (cZ false (cSl (cVar 0) (some (cCst (.int 1))) none) (cVar 1)) (.tp (.cons (.nm 3) (.cons (.nm 4) (.nil)))) (cAs (.nm 2) (cDef f__law_sum 2 (cCons (cVar 2) (cCons (cIfE (cTst (cBin (onP pNe) (cVar 3) (cCst (.int 0)))) (cTup (cCons (cBin dMul (cVar 3) (cBin dIdx (cVar 4) (cCst (.int 0)))) (cCons (cBin dIdx (cVar 4) (cCst (.int 1))) (cNil)))) (cTup (cCons (cCst (.int 0)) (cCons (cCst (.int 1)) (cNil))))) (cNil)))))) (cRet (cVar 2)))
def f__law_value : List D → S → R D := fnE (["form", "point", "found", "number", "one"] : List Str).length b__law_value
def b__law_common : SS := cSeq (cPar (.cons (.nm 2) (.cons (.nm 3) (.nil))) (cCons (cCall bAbs (cCons (cVar 0) (cNil))) (cCons (cCall bAbs (cCons (cVar 1) (cNil))) (cNil)))) (cSeq (cWh (cTst (cBin (onP pNe) (cVar 3) (cCst (.int 0)))) (cPar (.cons (.nm 2) (.cons (.nm 3) (.nil))) (cCons (cVar 3) (cCons (cBin dMod (cCall bInt (cCons (cVar 2) (cNil))) (cVar 3)) (cNil))))) (cRet (cVar 2)))
def f__law_common : List D → S → R D := fnE (["a", "b", "one", "other"] : List Str).length b__law_common
def b__law_slack_list : SS := cRet (cLc (cIt (cVar 0)) (.tp (.cons (.nm 2) (.cons (.nm 3) (.nil)))) (cYes) (cDef f__law_times 2 (cCons (cTup (cCons (cBin dSub (cCst (.int 0)) (cVar 3)) (cCons (cCst (.int 1)) (cNil)))) (cCons (cDef f__law_value 2 (cCons (cVar 2) (cCons (cVar 1) (cNil)))) (cNil)))) [2, 3])
def f__law_slack_list : List D → S → R D := fnE (["contact", "standing", "form", "side"] : List Str).length b__law_slack_list
def b__law_most : SS := cSeq (cAs (.nm 1) (cBin dIdx (cVar 0) (cCst (.int 0)))) (cSeq (cFor (cIt (cVar 0)) (.nm 2) (cAs (.nm 1) (cIfE (cTru (cDef f__law_is_below 2 (cCons (cVar 1) (cCons (cVar 2) (cNil))))) (cVar 2) (cVar 1)))) (cRet (cVar 1)))
def f__law_most : List D → S → R D := fnE (["some", "found", "one"] : List Str).length b__law_most
def b__law_fewest : SS := cSeq (cAs (.nm 1) (cBin dIdx (cVar 0) (cCst (.int 0)))) (cSeq (cFor (cIt (cVar 0)) (.nm 2) (cAs (.nm 1) (cIfE (cTru (cDef f__law_is_below 2 (cCons (cVar 2) (cCons (cVar 1) (cNil))))) (cVar 2) (cVar 1)))) (cRet (cVar 1)))
def f__law_fewest : List D → S → R D := fnE (["some", "found", "one"] : List Str).length b__law_fewest
def b__law_at_moment : SS := cRet (cCall bTuple (cCons (cLc (cZ false (cVar 0) (cVar 1)) (.tp (.cons (.nm 3) (.cons (.nm 4) (.nil)))) (cYes) (cDef f__law_sum 2 (cCons (cVar 3) (cCons (cDef f__law_times 2 (cCons (cDef f__law_minus 2 (cCons (cVar 4) (cCons (cVar 3) (cNil)))) (cCons (cVar 2) (cNil)))) (cNil)))) [3, 4]) (cNil)))
def f__law_at_moment : List D → S → R D := fnE (["q", "r", "t", "one", "other"] : List Str).length b__law_at_moment
def b__law_moments : SS := cSeq (cAs (.tp (.cons (.nm 3) (.cons (.nm 4) (.cons (.nm 5) (.nil))))) (cTup (cCons (cDef f__law_slack_list 2 (cCons (cVar 0) (cCons (cVar 1) (cNil)))) (cCons (cDef f__law_slack_list 2 (cCons (cVar 0) (cCons (cVar 2) (cNil)))) (cCons (cLst (cCons (cTup (cCons (cCst (.int 0)) (cCons (cCst (.int 1)) (cNil)))) (cCons (cTup (cCons (cCst (.int 1)) (cCons (cCst (.int 1)) (cNil)))) (cNil)))) (cNil)))))) (cSeq (cAs (.nm 6) (cLc (cRg1 (cCall bLen (cCons (cVar 3) (cNil)))) (.nm 7) (cYes) (cTup (cCons (cBin dIdx (cVar 3) (cVar 7)) (cCons (cBin dIdx (cVar 4) (cVar 7)) (cNil)))) [7])) (cSeq (cFor (cRg1 (cCall bLen (cCons (cVar 3) (cNil)))) (.nm 7) (cAs (.nm 6) (cBin dAdd (cVar 6) (cLc (cRg1 (cVar 7)) (.nm 8) (cYes) (cTup (cCons (cDef f__law_minus 2 (cCons (cBin dIdx (cVar 3) (cVar 7)) (cCons (cBin dIdx (cVar 3) (cVar 8)) (cNil)))) (cCons (cDef f__law_minus 2 (cCons (cBin dIdx (cVar 4) (cVar 7)) (cCons (cBin dIdx (cVar 4) (cVar 8)) (cNil)))) (cNil)))) [8])))) (cSeq (cFor (cIt (cVar 6)) (.tp (.cons (.nm 9) (.cons (.nm 10) (.nil)))) (cSeq (cAs (.nm 11) (cDef f__law_minus 2 (cCons (cVar 9) (cCons (cVar 10) (cNil))))) (cSeq (cAs (.nm 12) (cIfE (cTst (cBin (onP pNe) (cBin dIdx (cVar 11) (cCst (.int 0))) (cCst (.int 0)))) (cDef f__law_least 2 (cCons (cBin dMul (cBin dIdx (cVar 9) (cCst (.int 0))) (cBin dIdx (cVar 11) (cCst (.int 1)))) (cCons (cBin dMul (cBin dIdx (cVar 9) (cCst (.int 1))) (cBin dIdx (cVar 11) (cCst (.int 0)))) (cNil)))) (cTup (cCons (cCst (.int 0)) (cCons (cCst (.int 1)) (cNil)))))) (cIf (cAndT (cNotT (cTru (cDef f__law_is_below 2 (cCons (cVar 12) (cCons (cTup (cCons (cCst (.int 0)) (cCons (cCst (.int 1)) (cNil)))) (cNil)))))) (cAndT (cNotT (cTru (cDef f__law_is_below 2 (cCons (cTup (cCons (cCst (.int 1)) (cCons (cCst (.int 1)) (cNil)))) (cCons (cVar 12) (cNil)))))) (cTst (cBin dNi (cVar 12) (cVar 5))))) (cDrop (cM (mL gApp) (cVar 5) (cCons (cVar 12) (cNil)))) (cPass))))) (cSeq (cPar (.cons (.nm 11) (.cons (.nm 13) (.nil))) (cCons (cCall bList (cCons (cVar 5) (cNil))) (cCons (cLst (cNil)) (cNil)))) (cSeq (cWh (cTst (cBin (onP pNe) (cVar 11) (cLst (cNil)))) (cSeq (cDrop (cM (mL gApp) (cVar 13) (cCons (cDef f__law_fewest 1 (cCons (cVar 11) (cNil))) (cNil)))) (cDrop (cM (mL gRem) (cVar 11) (cCons (cBin dIdx (cVar 13) (cUn dNeg (cCst (.int 1)))) (cNil)))))) (cRet (cVar 13)))))))
def f__law_moments : List D → S → R D := fnE (["contact", "q", "r", "firsts", "lasts", "found", "rows", "k", "j", "one", "other", "rest", "t", "row"] : List Str).length b__law_moments
def b__law_span : SS := cSeq (cIf (cTst (cBin (onP pEq) (cVar 0) (cTup (cNil)))) (cRet (cTup (cCons (cTup (cCons (cCst (.int 0)) (cCons (cCst (.int 1)) (cNil)))) (cCons (cTup (cCons (cCst (.int 1)) (cCons (cCst (.int 1)) (cNil)))) (cNil))))) (cPass)) (cSeq (cPar (.cons (.nm 3) (.cons (.nm 4) (.nil))) (cCons (cDef f__law_moments 3 (cCons (cVar 0) (cCons (cVar 1) (cCons (cVar 2) (cNil))))) (cCons (cLst (cNil)) (cNil)))) (cSeq (cFor (cRg2 (cCst (.int 1)) (cCall bLen (cCons (cVar 3) (cNil)))) (.nm 5) (cSeq (cAs (.nm 6) (cDef f__law_times 2 (cCons (cDef f__law_sum 2 (cCons (cBin dIdx (cVar 3) (cBin dSub (cVar 5) (cCst (.int 1)))) (cCons (cBin dIdx (cVar 3) (cVar 5)) (cNil)))) (cCons (cTup (cCons (cCst (.int 1)) (cCons (cCst (.int 2)) (cNil)))) (cNil))))) (cIf (cTst (cBin (onP pLt) (cBin dIdx (cDef f__law_most 1 (cCons (cDef f__law_slack_list 2 (cCons (cVar 0) (cCons (cDef f__law_at_moment 3 (cCons (cVar 1) (cCons (cVar 2) (cCons (cVar 6) (cNil))))) (cNil)))) (cNil))) (cCst (.int 0))) (cCst (.int 0)))) (cAs (.nm 4) (cBin dAdd (cVar 4) (cLst (cCons (cBin dIdx (cVar 3) (cBin dSub (cVar 5) (cCst (.int 1)))) (cCons (cBin dIdx (cVar 3) (cVar 5)) (cNil)))))) (cPass)))) (cRet (cIfE (cTst (cBin (onP pNe) (cVar 4) (cLst (cNil)))) (cTup (cCons (cBin dIdx (cVar 4) (cCst (.int 0))) (cCons (cBin dIdx (cVar 4) (cUn dNeg (cCst (.int 1)))) (cNil)))) (cCst .non)))))
def f__law_span : List D → S → R D := fnE (["contact", "q", "r", "row", "found", "k", "middle"] : List Str).length b__law_span
def b__law_in_limits : SS := cSeq (cAs (.nm 2) (cLz (cVar 0) (cVar 1))) (cRet (cBin (onP pEq) (cLc (cIt (cVar 2)) (.tp (.cons (.tp (.cons (.nm 4) (.cons (.nm 5) (.nil)))) (.cons (.nm 3) (.nil)))) (cOrT (cTru (cDef f__law_is_below 2 (cCons (cVar 3) (cCons (cTup (cCons (cVar 4) (cCons (cCst (.int 1)) (cNil)))) (cNil))))) (cTru (cDef f__law_is_below 2 (cCons (cTup (cCons (cVar 5) (cCons (cCst (.int 1)) (cNil)))) (cCons (cVar 3) (cNil)))))) (cCst (.int 1)) [3, 4, 5]) (cLst (cNil))))
def f__law_in_limits : List D → S → R D := fnE (["limits", "standing", "pairs", "one", "low", "high"] : List Str).length b__law_in_limits
def b__law_any_form : SS := cSeq (cAs (.nm 2) (cLc (cRg1 (cVar 1)) (.nm 3) (cYes) (cBin dSub (cDef f__law_pick 2 (cCons (cVar 0) (cCons (cCst (.int 5)) (cNil)))) (cCst (.int 2))) [3])) (cSeq (cIf (cTst (cBin (onP pEq) (cLc (cIt (cVar 2)) (.nm 4) (cTst (cBin (onP pNe) (cVar 4) (cCst (.int 0)))) (cVar 4) [4]) (cLst (cNil)))) (cPut (cVar 2) (cDef f__law_pick 2 (cCons (cVar 0) (cCons (cVar 1) (cNil)))) (cCst (.int 1))) (cPass)) (cSeq (cAs (.nm 5) (cBin dIdx (cLc (cIt (cVar 2)) (.nm 4) (cTst (cBin (onP pNe) (cVar 4) (cCst (.int 0)))) (cVar 4) [4]) (cCst (.int 0)))) (cSeq (cAs (.nm 2) (cBin dAdd (cLst (cCons (cBin dSub (cDef f__law_pick 2 (cCons (cVar 0) (cCons (cCst (.int 21)) (cNil)))) (cCst (.int 10))) (cNil))) (cLc (cIt (cVar 2)) (.nm 4) (cYes) (cIfE (cTst (cBin (onP pGt) (cVar 5) (cCst (.int 0)))) (cVar 4) (cBin dSub (cCst (.int 0)) (cVar 4))) [4]))) (cSeq (cAs (.nm 6) (cCst (.int 0))) (cSeq (cFor (cIt (cVar 2)) (.nm 7) (cAs (.nm 6) (cDef f__law_common 2 (cCons (cVar 6) (cCons (cVar 7) (cNil)))))) (cRet (cCall bTuple (cCons (cLc (cIt (cVar 2)) (.nm 4) (cYes) (cBin dFdv (cVar 4) (cVar 6)) [4]) (cNil)))))))))
def f__law_any_form : List D → S → R D := fnE (["source", "many", "numbers", "k", "n", "first", "unit", "number"] : List Str).length b__law_any_form
def b__law_any_contact : SS := cSeq (cPar (.cons (.nm 2) (.cons (.nm 3) (.nil))) (cCons (cCall bLen (cCons (cVar 1) (cNil))) (cCons (cLst (cNil)) (cNil)))) (cSeq (cIf (cTst (cBin (onP pEq) (cDef f__law_pick 2 (cCons (cVar 0) (cCons (cCst (.int 12)) (cNil)))) (cCst (.int 0)))) (cRet (cTup (cNil))) (cPass)) (cSeq (cFor (cRg1 (cVar 2)) (.nm 4) (cSeq (cAs (.tp (.cons (.nm 8) (.cons (.nm 9) (.nil)))) (cBin dIdx (cVar 1) (cVar 4))) (cSeq (cAs (.nm 5) (cBin dAdd (cVar 8) (cDef f__law_pick 2 (cCons (cVar 0) (cCons (cCall bMax2 (cCons (cCst (.int 1)) (cCons (cBin dSub (cVar 9) (cVar 8)) (cNil)))) (cNil)))))) (cSeq (cAs (.nm 6) (cBin dAdd (cBin dAdd (cVar 5) (cCst (.int 1))) (cDef f__law_pick 2 (cCons (cVar 0) (cCons (cCst (.int 4)) (cNil)))))) (cSeq (cAs (.nm 7) (cCall bTuple (cCons (cLc (cRg1 (cVar 2)) (.nm 10) (cYes) (cCall bInt (cCons (cBin (onP pEq) (cVar 10) (cVar 4)) (cNil))) [10]) (cNil)))) (cAs (.nm 3) (cIfE (cTst (cBin (onP pGt) (cDef f__law_pick 2 (cCons (cVar 0) (cCons (cCst (.int 5)) (cNil)))) (cCst (.int 0)))) (cBin dAdd (cVar 3) (cLst (cCons (cTup (cCons (cBin dAdd (cTup (cCons (cBin dSub (cCst (.int 0)) (cVar 5)) (cNil))) (cVar 7)) (cCons (cCst (.int 1)) (cNil)))) (cCons (cTup (cCons (cBin dAdd (cTup (cCons (cBin dSub (cCst (.int 0)) (cVar 6)) (cNil))) (cVar 7)) (cCons (cUn dNeg (cCst (.int 1))) (cNil)))) (cNil))))) (cVar 3)))))))) (cSeq (cFor (cRg1 (cDef f__law_pick 2 (cCons (cVar 0) (cCons (cCst (.int 3)) (cNil))))) (.nm 11) (cDrop (cM (mL gApp) (cVar 3) (cCons (cTup (cCons (cDef f__law_any_form 2 (cCons (cVar 0) (cCons (cVar 2) (cNil)))) (cCons (cBin dSub (cCst (.int 1)) (cBin dMul (cCst (.int 2)) (cDef f__law_pick 2 (cCons (cVar 0) (cCons (cCst (.int 2)) (cNil)))))) (cNil)))) (cNil))))) (cRet (cCall bTuple (cCons (cCall bSoSet (cCons (cVar 3) cNil)) (cNil)))))))
def f__law_any_contact : List D → S → R D := fnE (["source", "limits", "many", "found", "k", "begin", "end", "line", "low", "high", "j", "lap"] : List Str).length b__law_any_contact
def b__law_any_limits : SS := cSeq (cAs (.nm 2) (cLst (cNil))) (cSeq (cFor (cRg1 (cVar 1)) (.nm 3) (cSeq (cAs (.nm 4) (cBin dSub (cDef f__law_pick 2 (cCons (cVar 0) (cCons (cCst (.int 7)) (cNil)))) (cCst (.int 5)))) (cDrop (cM (mL gApp) (cVar 2) (cCons (cTup (cCons (cVar 4) (cCons (cBin dAdd (cBin dAdd (cVar 4) (cCst (.int 2))) (cDef f__law_pick 2 (cCons (cVar 0) (cCons (cCst (.int 10)) (cNil))))) (cNil)))) (cNil)))))) (cRet (cCall bTuple (cCons (cVar 2) (cNil)))))
def f__law_any_limits : List D → S → R D := fnE (["source", "many", "found", "k", "low"] : List Str).length b__law_any_limits
def b__law_any_standing : SS := cSeq (cAs (.nm 2) (cLst (cNil))) (cSeq (cFor (cIt (cVar 1)) (.tp (.cons (.nm 3) (.cons (.nm 4) (.nil)))) (cSeq (cAs (.nm 5) (cDef f__law_of 2 (cCons (cVar 0) (cCons (cLst (cCons (cCst (.int 1)) (cCons (cCst (.int 1)) (cCons (cCst (.int 1)) (cCons (cCst (.int 2)) (cCons (cCst (.int 3)) (cCons (cCst (.int 7)) (cNil)))))))) (cNil))))) (cSeq (cAs (.nm 6) (cBin dAdd (cBin dMul (cVar 3) (cVar 5)) (cDef f__law_pick 2 (cCons (cVar 0) (cCons (cBin dAdd (cBin dMul (cBin dSub (cVar 4) (cVar 3)) (cVar 5)) (cCst (.int 1))) (cNil)))))) (cDrop (cM (mL gApp) (cVar 2) (cCons (cDef f__law_least 2 (cCons (cVar 6) (cCons (cVar 5) (cNil)))) (cNil))))))) (cSeq (cIf (cTst (cBin (onP pEq) (cDef f__law_pick 2 (cCons (cVar 0) (cCons (cCst (.int 9)) (cNil)))) (cCst (.int 0)))) (cSeq (cAs (.nm 7) (cDef f__law_pick 2 (cCons (cVar 0) (cCons (cCall bLen (cCons (cVar 2) (cNil))) (cNil))))) (cPut (cVar 2) (cVar 7) (cDef f__law_of 2 (cCons (cVar 0) (cCons (cLst (cCons (cTup (cCons (cBin dAdd (cBin dIdx (cBin dIdx (cVar 1) (cVar 7)) (cCst (.int 1))) (cCst (.int 1))) (cCons (cCst (.int 1)) (cNil)))) (cCons (cTup (cCons (cBin dSub (cBin dIdx (cBin dIdx (cVar 1) (cVar 7)) (cCst (.int 0))) (cCst (.int 1))) (cCons (cCst (.int 1)) (cNil)))) (cCons (cDef f__law_least 2 (cCons (cBin dAdd (cBin dMul (cCst (.int 2)) (cBin dIdx (cBin dIdx (cVar 1) (cVar 7)) (cCst (.int 1)))) (cCst (.int 1))) (cCons (cCst (.int 2)) (cNil)))) (cNil))))) (cNil)))))) (cPass)) (cRet (cCall bTuple (cCons (cVar 2) (cNil))))))
def f__law_any_standing : List D → S → R D := fnE (["source", "limits", "found", "low", "high", "below", "number", "k"] : List Str).length b__law_any_standing
def b__law_is_free : SS := cSeq (cIf (cOrT (cNotT (cTru (cDef f__law_in_limits 2 (cCons (cVar 0) (cCons (cVar 2) (cNil)))))) (cNotT (cTru (cDef f__law_in_limits 2 (cCons (cVar 0) (cCons (cVar 3) (cNil))))))) (cRet (cCst (.bl false))) (cPass)) (cRet (cBin (onP pEq) (cLc (cIt (cVar 1)) (.nm 4) (cTst (cUn dNotN (cDef f__law_span 3 (cCons (cVar 4) (cCons (cVar 2) (cCons (cVar 3) (cNil))))))) (cVar 4) [4]) (cLst (cNil))))
def f__law_is_free : List D → S → R D := fnE (["limits", "contacts", "q", "r", "contact"] : List Str).length b__law_is_free
def b__law_is_lean : SS := cRet (cBin (onP pEq) (cLc (cRg2 (cCst (.int 1)) (cBin dSub (cCall bLen (cCons (cVar 2) (cNil))) (cCst (.int 1)))) (.nm 3) (cTru (cDef f__law_is_free 4 (cCons (cVar 0) (cCons (cVar 1) (cCons (cBin dIdx (cVar 2) (cBin dSub (cVar 3) (cCst (.int 1)))) (cCons (cBin dIdx (cVar 2) (cBin dAdd (cVar 3) (cCst (.int 1)))) (cNil))))))) (cVar 3) [3]) (cLst (cNil)))
def f__law_is_lean : List D → S → R D := fnE (["limits", "contacts", "way", "k"] : List Str).length b__law_is_lean
def b__law_is_some : SS := cSeq (cAs (.nm 2) (cCst (.int 0))) (cSeq (cFor (cIt (cVar 1)) (.nm 3) (cIf (cAndT (cTst (cBin (onP pLt) (cVar 2) (cCall bLen (cCons (cVar 0) (cNil))))) (cTst (cBin (onP pEq) (cBin dIdx (cVar 0) (cVar 2)) (cVar 3)))) (cAs (.nm 2) (cBin dAdd (cVar 2) (cCst (.int 1)))) (cPass))) (cRet (cAndV (cBin (onP pEq) (cVar 2) (cCall bLen (cCons (cVar 0) (cNil)))) (cAndV (cBin (onP pEq) (cBin dIdx (cVar 0) (cCst (.int 0))) (cBin dIdx (cVar 1) (cCst (.int 0)))) (cBin (onP pEq) (cBin dIdx (cVar 0) (cUn dNeg (cCst (.int 1)))) (cBin dIdx (cVar 1) (cUn dNeg (cCst (.int 1)))))))))
def f__law_is_some : List D → S → R D := fnE (["way", "whole_v", "k", "one"] : List Str).length b__law_is_some
def b__law_free_way : SS := cSeq (cAs (.nm 4) (cLst (cNil))) (cSeq (cFor (cRg1 (cCst (.int 12))) (.nm 5) (cSeq (cAs (.nm 6) (cDef f__law_any_standing 2 (cCons (cVar 0) (cCons (cVar 1) (cNil))))) (cIf (cOrT (cAndT (cTst (cBin (onP pEq) (cVar 4) (cLst (cNil)))) (cTru (cDef f__law_is_free 4 (cCons (cVar 1) (cCons (cVar 2) (cCons (cVar 6) (cCons (cVar 6) (cNil)))))))) (cAndT (cTst (cBin (onP pNe) (cVar 4) (cLst (cNil)))) (cAndT (cTst (cBin (onP pLt) (cCall bLen (cCons (cVar 4) (cNil))) (cVar 3))) (cTru (cDef f__law_is_free 4 (cCons (cVar 1) (cCons (cVar 2) (cCons (cBin dIdx (cVar 4) (cUn dNeg (cCst (.int 1)))) (cCons (cVar 6) (cNil)))))))))) (cDrop (cM (mL gApp) (cVar 4) (cCons (cVar 6) (cNil)))) (cPass)))) (cRet (cCall bTuple (cCons (cVar 4) (cNil)))))
def f__law_free_way : List D → S → R D := fnE (["source", "limits", "contacts", "most", "found", "lap", "one"] : List Str).length b__law_free_way
def b_law : SS := cSeq (cAs (.nm 1) (cDef f__law_source 1 (cCons (cVar 0) (cNil)))) (cSeq (cFor (cRg1 (cCst (.int 5))) (.nm 2) (cSeq (cAs (.nm 3) (cDef f__law_any_limits 2 (cCons (cVar 1) (cCons (cBin dAdd (cCst (.int 1)) (cDef f__law_pick 2 (cCons (cVar 1) (cCons (cCst (.int 3)) (cNil))))) (cNil))))) (cSeq (cAs (.nm 4) (cLc (cIt (cLc (cRg1 (cBin dAdd (cCst (.int 1)) (cDef f__law_pick 2 (cCons (cVar 1) (cCons (cCst (.int 2)) (cNil)))))) (.nm 12) (cYes) (cDef f__law_any_contact 2 (cCons (cVar 1) (cCons (cVar 3) (cNil)))) [12])) (.nm 10) (cTst (cBin (onP pNe) (cVar 10) (cTup (cNil)))) (cVar 10) [10])) (cSeq (cAs (.nm 5) (cDef f__law_free_way 4 (cCons (cVar 1) (cCons (cVar 3) (cCons (cVar 4) (cCons (cCst (.int 7)) (cNil))))))) (cSeq (cIf (cTst (cBin (onP pEq) (cVar 5) (cTup (cNil)))) (cCt) (cPass)) (cSeq (cIf (cAndT (cTst (cBin (onP pGt) (cVar 2) (cCst (.int 2)))) (cTru (cDef f__law_is_free 4 (cCons (cVar 3) (cCons (cVar 4) (cCons (cBin dIdx (cVar 5) (cUn dNeg (cCst (.int 1)))) (cCons (cBin dIdx (cVar 5) (cCst (.int 0))) (cNil)))))))) (cAs (.nm 5) (cBin dAdd (cVar 5) (cSl (cVar 5) none (some (cCst (.int 1)))))) (cPass)) (cSeq (cAs (.nm 6) (cCall bRepr (cCons (cLst (cCons (cVar 5) (cCons (cVar 4) (cNil)))) (cNil)))) (cSeq (cAs (.nm 7) (cDef f_made_lean 3 (cCons (cVar 3) (cCons (cIfE (cTst (cBin (onP pEq) (cVar 2) (cCst (.int 1)))) (cCall bTuple (cCons (cVar 4) (cNil))) (cVar 4)) (cCons (cVar 5) (cNil)))))) (cSeq (cIf (cOrT (cNotT (cTru (cCall (bIsa .tuple_) (cCons (cVar 7) cNil)))) (cOrT (cNotT (cTru (cDef f__law_is_some 2 (cCons (cVar 7) (cCons (cVar 5) (cNil)))))) (cOrT (cNotT (cTru (cDef f__law_is_lean 3 (cCons (cVar 3) (cCons (cVar 4) (cCons (cVar 7) (cNil))))))) (cTst (cBin (onP pLt) (cCall bLen (cCons (cVar 7) (cNil))) (cCall bMin2 (cCons (cCst (.int 2)) (cCons (cCall bLen (cCons (cVar 5) (cNil))) (cNil))))))))) (cRet (cCst (.bl false))) (cPass)) (cSeq (cAs (.nm 8) (cLc (cRg1 (cBin dSub (cCall bLen (cCons (cVar 7) (cNil))) (cCst (.int 1)))) (.nm 11) (cYes) (cTup (cCons (cBin dIdx (cVar 7) (cVar 11)) (cCons (cBin dIdx (cVar 7) (cBin dAdd (cVar 11) (cCst (.int 1)))) (cNil)))) [11])) (cSeq (cIf (cOrT (cTst (cBin (onP pNe) (cLc (cIt (cVar 8)) (.tp (.cons (.nm 13) (.cons (.nm 14) (.nil)))) (cNotT (cTru (cDef f__law_is_free 4 (cCons (cVar 3) (cCons (cVar 4) (cCons (cVar 13) (cCons (cVar 14) (cNil)))))))) (cCst (.int 1)) [13, 14]) (cLst (cNil)))) (cTst (cUn dNotN (cDef f_judge_way 3 (cCons (cVar 3) (cCons (cVar 4) (cCons (cVar 7) (cNil)))))))) (cRet (cCst (.bl false))) (cPass)) (cSeq (cAs (.nm 9) (cLst (cCons (cDef f__law_is_lean 3 (cCons (cVar 3) (cCons (cVar 4) (cCons (cVar 5) (cNil))))) (cCons (cCst (.bl true)) (cNil))))) (cSeq (cIf (cTst (cBin (onP pNe) (cCall bRepr (cCons (cLst (cCons (cDef f_is_lean_way 3 (cCons (cVar 3) (cCons (cVar 4) (cCons (cVar 5) (cNil))))) (cCons (cDef f_is_lean_way 3 (cCons (cVar 3) (cCons (cCall bTuple (cCons (cVar 4) (cNil))) (cCons (cVar 7) (cNil))))) (cNil)))) (cNil))) (cCall bRepr (cCons (cVar 9) (cNil))))) (cRet (cCst (.bl false))) (cPass)) (cIf (cOrT (cTst (cBin (onP pNe) (cDef f_made_lean 3 (cCons (cVar 3) (cCons (cVar 4) (cCons (cVar 5) (cNil))))) (cVar 7))) (cTst (cBin (onP pNe) (cCall bRepr (cCons (cLst (cCons (cVar 5) (cCons (cVar 4) (cNil)))) (cNil))) (cVar 6)))) (cRet (cCst (.bl false))) (cPass))))))))))))))) (cSeq (cAs (.tp (.cons (.nm 3) (.cons (.nm 15) (.nil)))) (cTup (cCons (cTup (cCons (cTup (cCons (cCst (.int 0)) (cCons (cCst (.int 10)) (cNil)))) (cCons (cTup (cCons (cCst (.int 0)) (cCons (cCst (.int 10)) (cNil)))) (cNil)))) (cCons (cTup (cCons (cTup (cCons (cTup (cCons (cUn dNeg (cCst (.int 7))) (cCons (cCst (.int 0)) (cCons (cCst (.int 1)) (cNil))))) (cCons (cUn dNeg (cCst (.int 1))) (cNil)))) (cCons (cTup (cCons (cTup (cCons (cUn dNeg (cCst (.int 7))) (cCons (cCst (.int 1)) (cCons (cCst (.int 0)) (cNil))))) (cCons (cUn dNeg (cCst (.int 1))) (cNil)))) (cCons (cTup (cCons (cTup (cCons (cUn dNeg (cCst (.int 3))) (cCons (cCst (.int 0)) (cCons (cCst (.int 1)) (cNil))))) (cCons (cCst (.int 1)) (cNil)))) (cCons (cTup (cCons (cTup (cCons (cUn dNeg (cCst (.int 3))) (cCons (cCst (.int 1)) (cCons (cCst (.int 0)) (cNil))))) (cCons (cCst (.int 1)) (cNil)))) (cNil)))))) (cNil))))) (cSeq (cAs (.nm 16) (cCall bTuple (cCons (cLc (cIt (cLst (cCons (cTup (cCons (cCst (.int 0)) (cCons (cCst (.int 0)) (cNil)))) (cCons (cTup (cCons (cCst (.int 5)) (cCons (cCst (.int 0)) (cNil)))) (cCons (cTup (cCons (cCst (.int 10)) (cCons (cCst (.int 0)) (cNil)))) (cCons (cTup (cCons (cCst (.int 10)) (cCons (cCst (.int 0)) (cNil)))) (cCons (cTup (cCons (cCst (.int 10)) (cCons (cCst (.int 5)) (cNil)))) (cCons (cTup (cCons (cCst (.int 10)) (cCons (cCst (.int 10)) (cNil)))) (cNil))))))))) (.tp (.cons (.nm 17) (.cons (.nm 18) (.nil)))) (cYes) (cTup (cCons (cTup (cCons (cVar 17) (cCons (cCst (.int 1)) (cNil)))) (cCons (cTup (cCons (cVar 18) (cCons (cCst (.int 1)) (cNil)))) (cNil)))) [17, 18]) (cNil)))) (cSeq (cAs (.nm 7) (cDef f_made_lean 3 (cCons (cVar 3) (cCons (cLst (cCons (cVar 15) (cNil))) (cCons (cVar 16) (cNil)))))) (cSeq (cIf (cOrT (cNotT (cTru (cDef f__law_is_some 2 (cCons (cVar 7) (cCons (cVar 16) (cNil)))))) (cOrT (cNotT (cTru (cDef f__law_is_lean 3 (cCons (cVar 3) (cCons (cLst (cCons (cVar 15) (cNil))) (cCons (cVar 7) (cNil))))))) (cTst (cUn dNotN (cDef f_judge_way 3 (cCons (cVar 3) (cCons (cLst (cCons (cVar 15) (cNil))) (cCons (cVar 7) (cNil))))))))) (cRet (cCst (.bl false))) (cPass)) (cRet (cAndV (cUn (dIsB false) (cDef f_is_lean_way 3 (cCons (cVar 3) (cCons (cLst (cCons (cVar 15) (cNil))) (cCons (cVar 16) (cNil)))))) (cBin (onP pEq) (cDef f_made_lean 3 (cCons (cVar 3) (cCons (cLst (cNil)) (cCons (cVar 16) (cNil))))) (cTup (cCons (cBin dIdx (cVar 16) (cCst (.int 0))) (cCons (cBin dIdx (cVar 16) (cUn dNeg (cCst (.int 1)))) (cNil))))))))))))
def f_law : List D → S → R D := fnE (["script", "source", "lap", "limits", "contacts", "whole_v", "kept", "told", "rows", "due", "contact", "n", "k", "q", "r", "box", "way", "x", "y"] : List Str).length b_law
section
variable {w : World} {K : PySem.W.Frag} {mg : Str → Option Value} {base h : Heap} {Cl : Nat → Addr}
theorem sc_is_integer : FnScope ["value"] ["value"] (defScope (top 2)) := ⟨by kernel_rfl, by kernel_rfl, by kernel_rfl, by decide +kernel, rfl, by decide +kernel, by decide +kernel⟩
theorem ok_is_integer (c : SaysX fas dfs gfs K) (X : K.In h) (G : h.Ns mainGlobals mg) : Defd P0 w K mg base Cl "is_integer" 1 1 f_is_integer := by
  obtain ⟨fd, F⟩ := def_gd c 0 (top 2) "is_integer" (by kernel_rfl)
  have h_bool : mg "bool" = none := fa_free c X G 53 "bool" (by kernel_rfl)
  have h_int : mg "int" = none := fa_free c X G 55 "int" (by kernel_rfl)
  have h_isinstance : mg "isinstance" = none := fa_free c X G 56 "isinstance" (by kernel_rfl)
  refine @Defd.mk' P0 w K mg base Cl "is_integer" "is_integer" (defArgs (top 2)) (defBody (top 2)) (defScope (top 2)) [] _ fd ["value"] ["value"] 1 0 b_is_integer (fa_glo c X G 0 "is_integer" (by kernel_rfl)) F sc_is_integer rfl (fun _ _ _ _ _ _ us hl => match us, hl with | [_], _ => by kernel_rfl) fun cdv A outer s H E hr => ?_
  have hu := hr.units
  have nd := sc_is_integer.nd
  have calm : (cxD P0 w K mg base ["value"] "is_integer" (defScope (top 2)) (He.ga K "is_integer") cdv A outer s H E).calm = true := rfl
  have tk := takes_of (X := cxD P0 w K mg base ["value"] "is_integer" (defScope (top 2)) (He.ga K "is_integer") cdv A outer s H E) rfl rfl rfl rfl
  have po := passes_of (X := cxD P0 w K mg base ["value"] "is_integer" (defScope (top 2)) (He.ga K "is_integer") cdv A outer s H E) rfl
  exact s_one (s_ret (s_andV (s_isa_int (gl_of (by kernel_rfl)) h_isinstance (gl_of (by kernel_rfl)) h_int (s_v (by kernel_rfl)) rfl) (s_oneV (s_notV (s_isa_bool (gl_of (by kernel_rfl)) h_isinstance (gl_of (by kernel_rfl)) h_bool (s_v (by kernel_rfl)) rfl)))))
theorem sc_is_fraction : FnScope ["value", "one"] ["value"] (defScope (top 3)) := ⟨by kernel_rfl, by kernel_rfl, by kernel_rfl, by decide +kernel, rfl, by decide +kernel, by decide +kernel⟩
theorem ok_is_fraction (c : SaysX fas dfs gfs K) (X : K.In h) (G : h.Ns mainGlobals mg) (d_is_integer : Defd P0 w K mg base Cl "is_integer" 1 1 f_is_integer) : Defd P0 w K mg base Cl "is_fraction" 1 2 f_is_fraction := by
  obtain ⟨fd, F⟩ := def_gd c 1 (top 3) "is_fraction" (by kernel_rfl)
  have h_all : mg "all" = none := fa_free c X G 52 "all" (by kernel_rfl)
  have h_gcd : mg "gcd" = some (.builtin "math.gcd") := fa_bi c X G 0 "gcd" "math.gcd" (by kernel_rfl)
  have h_isinstance : mg "isinstance" = none := fa_free c X G 56 "isinstance" (by kernel_rfl)
  have h_len : mg "len" = none := fa_free c X G 57 "len" (by kernel_rfl)
  have h_tuple : mg "tuple" = none := fa_free c X G 65 "tuple" (by kernel_rfl)
  refine @Defd.mk' P0 w K mg base Cl "is_fraction" "is_fraction" (defArgs (top 3)) (defBody (top 3)) (defScope (top 3)) [] _ fd ["value", "one"] ["value"] 1 1 b_is_fraction (fa_glo c X G 1 "is_fraction" (by kernel_rfl)) F sc_is_fraction rfl (fun _ _ _ _ _ _ us hl => match us, hl with | [_], _ => by kernel_rfl) fun cdv A outer s H E hr => ?_
  have hu := hr.units
  have nd := sc_is_fraction.nd
  have calm : (cxD P0 w K mg base ["value", "one"] "is_fraction" (defScope (top 3)) (He.ga K "is_fraction") cdv A outer s H E).calm = true := rfl
  have tk := takes_of (X := cxD P0 w K mg base ["value", "one"] "is_fraction" (defScope (top 3)) (He.ga K "is_fraction") cdv A outer s H E) rfl rfl rfl rfl
  have po := passes_of (X := cxD P0 w K mg base ["value", "one"] "is_fraction" (defScope (top 3)) (He.ga K "is_fraction") cdv A outer s H E) rfl
  exact s_seq (s_if (PW.pt (s_orT (s_notT (s_tru (s_isa_tuple (gl_of (by kernel_rfl)) h_isinstance (gl_of (by kernel_rfl)) h_tuple (s_v (by kernel_rfl)) rfl) (fun _ => rfl))) (s_orT (t_ne hu (s_len (gl_of (by kernel_rfl)) h_len (s_cons (s_v (by kernel_rfl)) (s_nil) rfl) rfl rfl) (s_int) rfl) (s_or1 (s_notT (s_tru (s_all calm (gl_of (by kernel_rfl)) h_all (s_cons (s_lc (own := [("one", 1)]) calm nd (s_it (s_v (by kernel_rfl))) (blk_of (by kernel_rfl)) (fun s H C cl fp => (g_nm nd (by kernel_rfl) (.inr (by kernel_rfl)))) (fun s H C cl fp => (s_pts0)) (fun s H C cl fp => (s_fn (d_is_integer.up (by decide)) hr (gl_of (by kernel_rfl)) takes0 (s_cons (s_v (by kernel_rfl)) (s_nil) rfl) (by decide) rfl rfl)) (by decide) (fun _ => rfl)) (s_nil) rfl) rfl rfl) (fun _ => rfl))))))) (s_one (s_ret (s_bl))) (s_end)) (s_one (s_ret (s_andV (s_gt hu (s_idx hu (s_v (by kernel_rfl)) (s_int) (fun _ _ => rfl)) (s_int) rfl) (s_oneV (s_eq hu (s_gcd (gl_of (by kernel_rfl)) h_gcd (s_cons (s_idx hu (s_v (by kernel_rfl)) (s_int) (fun _ _ => rfl)) (s_cons (s_idx hu (s_v (by kernel_rfl)) (s_int) (fun _ _ => rfl)) (s_nil) rfl) rfl) rfl rfl) (s_int) rfl)))))
theorem sc_made : FnScope ["a", "b", "unit"] ["a", "b"] (defScope (top 4)) := ⟨by kernel_rfl, by kernel_rfl, by kernel_rfl, by decide +kernel, rfl, by decide +kernel, by decide +kernel⟩
theorem ok_made (c : SaysX fas dfs gfs K) (X : K.In h) (G : h.Ns mainGlobals mg) : Defd P0 w K mg base Cl "made" 2 1 f_made := by
  obtain ⟨fd, F⟩ := def_gd c 2 (top 4) "made" (by kernel_rfl)
  have h_gcd : mg "gcd" = some (.builtin "math.gcd") := fa_bi c X G 0 "gcd" "math.gcd" (by kernel_rfl)
  refine @Defd.mk' P0 w K mg base Cl "made" "made" (defArgs (top 4)) (defBody (top 4)) (defScope (top 4)) [] _ fd ["a", "b", "unit"] ["a", "b"] 2 0 b_made (fa_glo c X G 2 "made" (by kernel_rfl)) F sc_made rfl (fun _ _ _ _ _ _ us hl => match us, hl with | [_, _], _ => by kernel_rfl) fun cdv A outer s H E hr => ?_
  have hu := hr.units
  have nd := sc_made.nd
  have calm : (cxD P0 w K mg base ["a", "b", "unit"] "made" (defScope (top 4)) (He.ga K "made") cdv A outer s H E).calm = true := rfl
  have tk := takes_of (X := cxD P0 w K mg base ["a", "b", "unit"] "made" (defScope (top 4)) (He.ga K "made") cdv A outer s H E) rfl rfl rfl rfl
  have po := passes_of (X := cxD P0 w K mg base ["a", "b", "unit"] "made" (defScope (top 4)) (He.ga K "made") cdv A outer s H E) rfl
  exact s_seq (s_st nd (by kernel_rfl) (s_ifE (t_gt hu (s_v (by kernel_rfl)) (s_int) rfl) (s_gcd (gl_of (by kernel_rfl)) h_gcd (s_cons (s_v (by kernel_rfl)) (s_cons (s_v (by kernel_rfl)) (s_nil) rfl) rfl) rfl rfl) (s_neg (s_gcd (gl_of (by kernel_rfl)) h_gcd (s_cons (s_v (by kernel_rfl)) (s_cons (s_v (by kernel_rfl)) (s_nil) rfl) rfl) rfl rfl))) rfl (.inl rfl)) (s_one (s_ret (s_tup (s_cons (s_fdv (s_v (by kernel_rfl)) (s_v (by kernel_rfl))) (s_cons (s_fdv (s_v (by kernel_rfl)) (s_v (by kernel_rfl))) (s_nil) rfl) rfl))))
theorem sc_whole : FnScope ["n"] ["n"] (defScope (top 5)) := ⟨by kernel_rfl, by kernel_rfl, by kernel_rfl, by decide +kernel, rfl, by decide +kernel, by decide +kernel⟩
theorem ok_whole (c : SaysX fas dfs gfs K) (X : K.In h) (G : h.Ns mainGlobals mg) : Defd P0 w K mg base Cl "whole" 1 1 f_whole := by
  obtain ⟨fd, F⟩ := def_gd c 3 (top 5) "whole" (by kernel_rfl)
  refine @Defd.mk' P0 w K mg base Cl "whole" "whole" (defArgs (top 5)) (defBody (top 5)) (defScope (top 5)) [] _ fd ["n"] ["n"] 1 0 b_whole (fa_glo c X G 3 "whole" (by kernel_rfl)) F sc_whole rfl (fun _ _ _ _ _ _ us hl => match us, hl with | [_], _ => by kernel_rfl) fun cdv A outer s H E hr => ?_
  have hu := hr.units
  have nd := sc_whole.nd
  have calm : (cxD P0 w K mg base ["n"] "whole" (defScope (top 5)) (He.ga K "whole") cdv A outer s H E).calm = true := rfl
  have tk := takes_of (X := cxD P0 w K mg base ["n"] "whole" (defScope (top 5)) (He.ga K "whole") cdv A outer s H E) rfl rfl rfl rfl
  have po := passes_of (X := cxD P0 w K mg base ["n"] "whole" (defScope (top 5)) (He.ga K "whole") cdv A outer s H E) rfl
  exact s_one (s_ret (s_tup (s_cons (s_v (by kernel_rfl)) (s_cons (s_int) (s_nil) rfl) rfl)))
theorem sc_plus : FnScope ["x", "y"] ["x", "y"] (defScope (top 6)) := ⟨by kernel_rfl, by kernel_rfl, by kernel_rfl, by decide +kernel, rfl, by decide +kernel, by decide +kernel⟩
theorem ok_plus (c : SaysX fas dfs gfs K) (X : K.In h) (G : h.Ns mainGlobals mg) (d_made : Defd P0 w K mg base Cl "made" 2 1 f_made) : Defd P0 w K mg base Cl "plus" 2 2 f_plus := by
  obtain ⟨fd, F⟩ := def_gd c 4 (top 6) "plus" (by kernel_rfl)
  refine @Defd.mk' P0 w K mg base Cl "plus" "plus" (defArgs (top 6)) (defBody (top 6)) (defScope (top 6)) [] _ fd ["x", "y"] ["x", "y"] 2 1 b_plus (fa_glo c X G 4 "plus" (by kernel_rfl)) F sc_plus rfl (fun _ _ _ _ _ _ us hl => match us, hl with | [_, _], _ => by kernel_rfl) fun cdv A outer s H E hr => ?_
  have hu := hr.units
  have nd := sc_plus.nd
  have calm : (cxD P0 w K mg base ["x", "y"] "plus" (defScope (top 6)) (He.ga K "plus") cdv A outer s H E).calm = true := rfl
  have tk := takes_of (X := cxD P0 w K mg base ["x", "y"] "plus" (defScope (top 6)) (He.ga K "plus") cdv A outer s H E) rfl rfl rfl rfl
  have po := passes_of (X := cxD P0 w K mg base ["x", "y"] "plus" (defScope (top 6)) (He.ga K "plus") cdv A outer s H E) rfl
  exact s_one (s_ret (s_fn (d_made.up (by decide)) hr (gl_of (by kernel_rfl)) tk (s_cons (s_add (s_mul (s_idx hu (s_v (by kernel_rfl)) (s_int) (fun _ _ => rfl)) (s_idx hu (s_v (by kernel_rfl)) (s_int) (fun _ _ => rfl))) (s_mul (s_idx hu (s_v (by kernel_rfl)) (s_int) (fun _ _ => rfl)) (s_idx hu (s_v (by kernel_rfl)) (s_int) (fun _ _ => rfl)))) (s_cons (s_mul (s_idx hu (s_v (by kernel_rfl)) (s_int) (fun _ _ => rfl)) (s_idx hu (s_v (by kernel_rfl)) (s_int) (fun _ _ => rfl))) (s_nil) rfl) rfl) (by decide) rfl rfl))
theorem sc_minus : FnScope ["x", "y"] ["x", "y"] (defScope (top 7)) := ⟨by kernel_rfl, by kernel_rfl, by kernel_rfl, by decide +kernel, rfl, by decide +kernel, by decide +kernel⟩
theorem ok_minus (c : SaysX fas dfs gfs K) (X : K.In h) (G : h.Ns mainGlobals mg) (d_made : Defd P0 w K mg base Cl "made" 2 1 f_made) : Defd P0 w K mg base Cl "minus" 2 2 f_minus := by
  obtain ⟨fd, F⟩ := def_gd c 5 (top 7) "minus" (by kernel_rfl)
  refine @Defd.mk' P0 w K mg base Cl "minus" "minus" (defArgs (top 7)) (defBody (top 7)) (defScope (top 7)) [] _ fd ["x", "y"] ["x", "y"] 2 1 b_minus (fa_glo c X G 5 "minus" (by kernel_rfl)) F sc_minus rfl (fun _ _ _ _ _ _ us hl => match us, hl with | [_, _], _ => by kernel_rfl) fun cdv A outer s H E hr => ?_
  have hu := hr.units
  have nd := sc_minus.nd
  have calm : (cxD P0 w K mg base ["x", "y"] "minus" (defScope (top 7)) (He.ga K "minus") cdv A outer s H E).calm = true := rfl
  have tk := takes_of (X := cxD P0 w K mg base ["x", "y"] "minus" (defScope (top 7)) (He.ga K "minus") cdv A outer s H E) rfl rfl rfl rfl
  have po := passes_of (X := cxD P0 w K mg base ["x", "y"] "minus" (defScope (top 7)) (He.ga K "minus") cdv A outer s H E) rfl
  exact s_one (s_ret (s_fn (d_made.up (by decide)) hr (gl_of (by kernel_rfl)) tk (s_cons (s_sub (s_mul (s_idx hu (s_v (by kernel_rfl)) (s_int) (fun _ _ => rfl)) (s_idx hu (s_v (by kernel_rfl)) (s_int) (fun _ _ => rfl))) (s_mul (s_idx hu (s_v (by kernel_rfl)) (s_int) (fun _ _ => rfl)) (s_idx hu (s_v (by kernel_rfl)) (s_int) (fun _ _ => rfl)))) (s_cons (s_mul (s_idx hu (s_v (by kernel_rfl)) (s_int) (fun _ _ => rfl)) (s_idx hu (s_v (by kernel_rfl)) (s_int) (fun _ _ => rfl))) (s_nil) rfl) rfl) (by decide) rfl rfl))
theorem sc_times : FnScope ["x", "y"] ["x", "y"] (defScope (top 8)) := ⟨by kernel_rfl, by kernel_rfl, by kernel_rfl, by decide +kernel, rfl, by decide +kernel, by decide +kernel⟩
theorem ok_times (c : SaysX fas dfs gfs K) (X : K.In h) (G : h.Ns mainGlobals mg) (d_made : Defd P0 w K mg base Cl "made" 2 1 f_made) : Defd P0 w K mg base Cl "times" 2 2 f_times := by
  obtain ⟨fd, F⟩ := def_gd c 6 (top 8) "times" (by kernel_rfl)
  refine @Defd.mk' P0 w K mg base Cl "times" "times" (defArgs (top 8)) (defBody (top 8)) (defScope (top 8)) [] _ fd ["x", "y"] ["x", "y"] 2 1 b_times (fa_glo c X G 6 "times" (by kernel_rfl)) F sc_times rfl (fun _ _ _ _ _ _ us hl => match us, hl with | [_, _], _ => by kernel_rfl) fun cdv A outer s H E hr => ?_
  have hu := hr.units
  have nd := sc_times.nd
  have calm : (cxD P0 w K mg base ["x", "y"] "times" (defScope (top 8)) (He.ga K "times") cdv A outer s H E).calm = true := rfl
  have tk := takes_of (X := cxD P0 w K mg base ["x", "y"] "times" (defScope (top 8)) (He.ga K "times") cdv A outer s H E) rfl rfl rfl rfl
  have po := passes_of (X := cxD P0 w K mg base ["x", "y"] "times" (defScope (top 8)) (He.ga K "times") cdv A outer s H E) rfl
  exact s_one (s_ret (s_fn (d_made.up (by decide)) hr (gl_of (by kernel_rfl)) tk (s_cons (s_mul (s_idx hu (s_v (by kernel_rfl)) (s_int) (fun _ _ => rfl)) (s_idx hu (s_v (by kernel_rfl)) (s_int) (fun _ _ => rfl))) (s_cons (s_mul (s_idx hu (s_v (by kernel_rfl)) (s_int) (fun _ _ => rfl)) (s_idx hu (s_v (by kernel_rfl)) (s_int) (fun _ _ => rfl))) (s_nil) rfl) rfl) (by decide) rfl rfl))
theorem sc_over : FnScope ["x", "y"] ["x", "y"] (defScope (top 9)) := ⟨by kernel_rfl, by kernel_rfl, by kernel_rfl, by decide +kernel, rfl, by decide +kernel, by decide +kernel⟩
theorem ok_over (c : SaysX fas dfs gfs K) (X : K.In h) (G : h.Ns mainGlobals mg) (d_made : Defd P0 w K mg base Cl "made" 2 1 f_made) : Defd P0 w K mg base Cl "over" 2 2 f_over := by
  obtain ⟨fd, F⟩ := def_gd c 7 (top 9) "over" (by kernel_rfl)
  refine @Defd.mk' P0 w K mg base Cl "over" "over" (defArgs (top 9)) (defBody (top 9)) (defScope (top 9)) [] _ fd ["x", "y"] ["x", "y"] 2 1 b_over (fa_glo c X G 7 "over" (by kernel_rfl)) F sc_over rfl (fun _ _ _ _ _ _ us hl => match us, hl with | [_, _], _ => by kernel_rfl) fun cdv A outer s H E hr => ?_
  have hu := hr.units
  have nd := sc_over.nd
  have calm : (cxD P0 w K mg base ["x", "y"] "over" (defScope (top 9)) (He.ga K "over") cdv A outer s H E).calm = true := rfl
  have tk := takes_of (X := cxD P0 w K mg base ["x", "y"] "over" (defScope (top 9)) (He.ga K "over") cdv A outer s H E) rfl rfl rfl rfl
  have po := passes_of (X := cxD P0 w K mg base ["x", "y"] "over" (defScope (top 9)) (He.ga K "over") cdv A outer s H E) rfl
  exact s_one (s_ret (s_fn (d_made.up (by decide)) hr (gl_of (by kernel_rfl)) tk (s_cons (s_mul (s_idx hu (s_v (by kernel_rfl)) (s_int) (fun _ _ => rfl)) (s_idx hu (s_v (by kernel_rfl)) (s_int) (fun _ _ => rfl))) (s_cons (s_mul (s_idx hu (s_v (by kernel_rfl)) (s_int) (fun _ _ => rfl)) (s_idx hu (s_v (by kernel_rfl)) (s_int) (fun _ _ => rfl))) (s_nil) rfl) rfl) (by decide) rfl rfl))
theorem sc_less : FnScope ["x", "y"] ["x", "y"] (defScope (top 10)) := ⟨by kernel_rfl, by kernel_rfl, by kernel_rfl, by decide +kernel, rfl, by decide +kernel, by decide +kernel⟩
theorem ok_less (c : SaysX fas dfs gfs K) (X : K.In h) (G : h.Ns mainGlobals mg) : Defd P0 w K mg base Cl "less" 2 1 f_less := by
  obtain ⟨fd, F⟩ := def_gd c 8 (top 10) "less" (by kernel_rfl)
  refine @Defd.mk' P0 w K mg base Cl "less" "less" (defArgs (top 10)) (defBody (top 10)) (defScope (top 10)) [] _ fd ["x", "y"] ["x", "y"] 2 0 b_less (fa_glo c X G 8 "less" (by kernel_rfl)) F sc_less rfl (fun _ _ _ _ _ _ us hl => match us, hl with | [_, _], _ => by kernel_rfl) fun cdv A outer s H E hr => ?_
  have hu := hr.units
  have nd := sc_less.nd
  have calm : (cxD P0 w K mg base ["x", "y"] "less" (defScope (top 10)) (He.ga K "less") cdv A outer s H E).calm = true := rfl
  have tk := takes_of (X := cxD P0 w K mg base ["x", "y"] "less" (defScope (top 10)) (He.ga K "less") cdv A outer s H E) rfl rfl rfl rfl
  have po := passes_of (X := cxD P0 w K mg base ["x", "y"] "less" (defScope (top 10)) (He.ga K "less") cdv A outer s H E) rfl
  exact s_one (s_ret (s_lt hu (s_mul (s_idx hu (s_v (by kernel_rfl)) (s_int) (fun _ _ => rfl)) (s_idx hu (s_v (by kernel_rfl)) (s_int) (fun _ _ => rfl))) (s_mul (s_idx hu (s_v (by kernel_rfl)) (s_int) (fun _ _ => rfl)) (s_idx hu (s_v (by kernel_rfl)) (s_int) (fun _ _ => rfl))) rfl))
theorem sc_sign_of : FnScope ["x"] ["x"] (defScope (top 11)) := ⟨by kernel_rfl, by kernel_rfl, by kernel_rfl, by decide +kernel, rfl, by decide +kernel, by decide +kernel⟩
theorem ok_sign_of (c : SaysX fas dfs gfs K) (X : K.In h) (G : h.Ns mainGlobals mg) : Defd P0 w K mg base Cl "sign_of" 1 1 f_sign_of := by
  obtain ⟨fd, F⟩ := def_gd c 9 (top 11) "sign_of" (by kernel_rfl)
  have h_int : mg "int" = none := fa_free c X G 55 "int" (by kernel_rfl)
  refine @Defd.mk' P0 w K mg base Cl "sign_of" "sign_of" (defArgs (top 11)) (defBody (top 11)) (defScope (top 11)) [] _ fd ["x"] ["x"] 1 0 b_sign_of (fa_glo c X G 9 "sign_of" (by kernel_rfl)) F sc_sign_of rfl (fun _ _ _ _ _ _ us hl => match us, hl with | [_], _ => by kernel_rfl) fun cdv A outer s H E hr => ?_
  have hu := hr.units
  have nd := sc_sign_of.nd
  have calm : (cxD P0 w K mg base ["x"] "sign_of" (defScope (top 11)) (He.ga K "sign_of") cdv A outer s H E).calm = true := rfl
  have tk := takes_of (X := cxD P0 w K mg base ["x"] "sign_of" (defScope (top 11)) (He.ga K "sign_of") cdv A outer s H E) rfl rfl rfl rfl
  have po := passes_of (X := cxD P0 w K mg base ["x"] "sign_of" (defScope (top 11)) (He.ga K "sign_of") cdv A outer s H E) rfl
  exact s_one (s_ret (s_sub (s_intc (gl_of (by kernel_rfl)) h_int (s_cons (s_gt hu (s_idx hu (s_v (by kernel_rfl)) (s_int) (fun _ _ => rfl)) (s_int) rfl) (s_nil) rfl) rfl rfl) (s_intc (gl_of (by kernel_rfl)) h_int (s_cons (s_lt hu (s_idx hu (s_v (by kernel_rfl)) (s_int) (fun _ _ => rfl)) (s_int) rfl) (s_nil) rfl) rfl rfl)))
theorem sc_greatest : FnScope ["some", "found", "one"] ["some"] (defScope (top 12)) := ⟨by kernel_rfl, by kernel_rfl, by kernel_rfl, by decide +kernel, rfl, by decide +kernel, by decide +kernel⟩
theorem ok_greatest (c : SaysX fas dfs gfs K) (X : K.In h) (G : h.Ns mainGlobals mg) (d_less : Defd P0 w K mg base Cl "less" 2 1 f_less) : Defd P0 w K mg base Cl "greatest" 1 2 f_greatest := by
  obtain ⟨fd, F⟩ := def_gd c 10 (top 12) "greatest" (by kernel_rfl)
  refine @Defd.mk' P0 w K mg base Cl "greatest" "greatest" (defArgs (top 12)) (defBody (top 12)) (defScope (top 12)) [] _ fd ["some", "found", "one"] ["some"] 1 1 b_greatest (fa_glo c X G 10 "greatest" (by kernel_rfl)) F sc_greatest rfl (fun _ _ _ _ _ _ us hl => match us, hl with | [_], _ => by kernel_rfl) fun cdv A outer s H E hr => ?_
  have hu := hr.units
  have nd := sc_greatest.nd
  have calm : (cxD P0 w K mg base ["some", "found", "one"] "greatest" (defScope (top 12)) (He.ga K "greatest") cdv A outer s H E).calm = true := rfl
  have tk := takes_of (X := cxD P0 w K mg base ["some", "found", "one"] "greatest" (defScope (top 12)) (He.ga K "greatest") cdv A outer s H E) rfl rfl rfl rfl
  have po := passes_of (X := cxD P0 w K mg base ["some", "found", "one"] "greatest" (defScope (top 12)) (He.ga K "greatest") cdv A outer s H E) rfl
  exact s_seq (s_st nd (by kernel_rfl) (s_idx hu (s_v (by kernel_rfl)) (s_int) (fun _ _ => rfl)) rfl (.inl rfl)) (s_seq (s_for po calm (s_it (s_sl (s_v (by kernel_rfl)) (s_poS (s_int)) s_poN)) (g_nm nd (by kernel_rfl) (.inl rfl)) (s_one (s_st nd (by kernel_rfl) (s_ifE (s_tru (s_fn (d_less.up (by decide)) hr (gl_of (by kernel_rfl)) tk (s_cons (s_v (by kernel_rfl)) (s_cons (s_v (by kernel_rfl)) (s_nil) rfl) rfl) (by decide) rfl rfl) (fun _ => rfl)) (s_v (by kernel_rfl)) (s_v (by kernel_rfl))) rfl (.inl rfl))) (fun _ => rfl)) (s_one (s_ret (s_v (by kernel_rfl)))))
theorem sc_least : FnScope ["some", "found", "one"] ["some"] (defScope (top 13)) := ⟨by kernel_rfl, by kernel_rfl, by kernel_rfl, by decide +kernel, rfl, by decide +kernel, by decide +kernel⟩
theorem ok_least (c : SaysX fas dfs gfs K) (X : K.In h) (G : h.Ns mainGlobals mg) (d_less : Defd P0 w K mg base Cl "less" 2 1 f_less) : Defd P0 w K mg base Cl "least" 1 2 f_least := by
  obtain ⟨fd, F⟩ := def_gd c 11 (top 13) "least" (by kernel_rfl)
  refine @Defd.mk' P0 w K mg base Cl "least" "least" (defArgs (top 13)) (defBody (top 13)) (defScope (top 13)) [] _ fd ["some", "found", "one"] ["some"] 1 1 b_least (fa_glo c X G 11 "least" (by kernel_rfl)) F sc_least rfl (fun _ _ _ _ _ _ us hl => match us, hl with | [_], _ => by kernel_rfl) fun cdv A outer s H E hr => ?_
  have hu := hr.units
  have nd := sc_least.nd
  have calm : (cxD P0 w K mg base ["some", "found", "one"] "least" (defScope (top 13)) (He.ga K "least") cdv A outer s H E).calm = true := rfl
  have tk := takes_of (X := cxD P0 w K mg base ["some", "found", "one"] "least" (defScope (top 13)) (He.ga K "least") cdv A outer s H E) rfl rfl rfl rfl
  have po := passes_of (X := cxD P0 w K mg base ["some", "found", "one"] "least" (defScope (top 13)) (He.ga K "least") cdv A outer s H E) rfl
  exact s_seq (s_st nd (by kernel_rfl) (s_idx hu (s_v (by kernel_rfl)) (s_int) (fun _ _ => rfl)) rfl (.inl rfl)) (s_seq (s_for po calm (s_it (s_sl (s_v (by kernel_rfl)) (s_poS (s_int)) s_poN)) (g_nm nd (by kernel_rfl) (.inl rfl)) (s_one (s_st nd (by kernel_rfl) (s_ifE (s_tru (s_fn (d_less.up (by decide)) hr (gl_of (by kernel_rfl)) tk (s_cons (s_v (by kernel_rfl)) (s_cons (s_v (by kernel_rfl)) (s_nil) rfl) rfl) (by decide) rfl rfl) (fun _ => rfl)) (s_v (by kernel_rfl)) (s_v (by kernel_rfl))) rfl (.inl rfl))) (fun _ => rfl)) (s_one (s_ret (s_v (by kernel_rfl)))))
theorem sc_value_at : FnScope ["form", "standing", "found", "number", "one"] ["form", "standing"] (defScope (top 17)) := ⟨by kernel_rfl, by kernel_rfl, by kernel_rfl, by decide +kernel, rfl, by decide +kernel, by decide +kernel⟩
theorem ok_value_at (c : SaysX fas dfs gfs K) (X : K.In h) (G : h.Ns mainGlobals mg) (d_plus : Defd P0 w K mg base Cl "plus" 2 2 f_plus) (d_times : Defd P0 w K mg base Cl "times" 2 2 f_times) (d_whole : Defd P0 w K mg base Cl "whole" 1 1 f_whole) : Defd P0 w K mg base Cl "value_at" 2 3 f_value_at := by
  obtain ⟨fd, F⟩ := def_gd c 12 (top 17) "value_at" (by kernel_rfl)
  have h_zip : mg "zip" = none := fa_free c X G 66 "zip" (by kernel_rfl)
  refine @Defd.mk' P0 w K mg base Cl "value_at" "value_at" (defArgs (top 17)) (defBody (top 17)) (defScope (top 17)) [] _ fd ["form", "standing", "found", "number", "one"] ["form", "standing"] 2 2 b_value_at (fa_glo c X G 12 "value_at" (by kernel_rfl)) F sc_value_at rfl (fun _ _ _ _ _ _ us hl => match us, hl with | [_, _], _ => by kernel_rfl) fun cdv A outer s H E hr => ?_
  have hu := hr.units
  have nd := sc_value_at.nd
  have calm : (cxD P0 w K mg base ["form", "standing", "found", "number", "one"] "value_at" (defScope (top 17)) (He.ga K "value_at") cdv A outer s H E).calm = true := rfl
  have tk := takes_of (X := cxD P0 w K mg base ["form", "standing", "found", "number", "one"] "value_at" (defScope (top 17)) (He.ga K "value_at") cdv A outer s H E) rfl rfl rfl rfl
  have po := passes_of (X := cxD P0 w K mg base ["form", "standing", "found", "number", "one"] "value_at" (defScope (top 17)) (He.ga K "value_at") cdv A outer s H E) rfl
  exact s_seq (s_st nd (by kernel_rfl) (s_fn (d_whole.up (by decide)) hr (gl_of (by kernel_rfl)) tk (s_cons (s_idx hu (s_v (by kernel_rfl)) (s_int) (fun _ _ => rfl)) (s_nil) rfl) (by decide) rfl rfl) rfl (.inl rfl)) (s_seq (s_for po calm (s_zS (gl_of (by kernel_rfl)) h_zip (s_sl (s_v (by kernel_rfl)) (s_poS (s_int)) s_poN) (s_v (by kernel_rfl)) pe_bl rfl rfl) (g_tp calm (g_cons (g_nm nd (by kernel_rfl) (.inl rfl)) (g_cons (g_nm nd (by kernel_rfl) (.inl rfl)) (g_nil) rfl) rfl) rfl rfl) (s_one (s_st nd (by kernel_rfl) (s_fn (d_plus.up (by decide)) hr (gl_of (by kernel_rfl)) tk (s_cons (s_v (by kernel_rfl)) (s_cons (s_fn (d_times.up (by decide)) hr (gl_of (by kernel_rfl)) tk (s_cons (s_fn (d_whole.up (by decide)) hr (gl_of (by kernel_rfl)) tk (s_cons (s_v (by kernel_rfl)) (s_nil) rfl) (by decide) rfl rfl) (s_cons (s_v (by kernel_rfl)) (s_nil) rfl) rfl) (by decide) rfl rfl) (s_nil) rfl) rfl) (by decide) rfl rfl) rfl (.inl rfl))) (fun _ => rfl)) (s_one (s_ret (s_v (by kernel_rfl)))))
theorem sc_distances_at : FnScope ["contact", "standing", "form", "side"] ["contact", "standing"] (defScope (top 18)) := ⟨by kernel_rfl, by kernel_rfl, by kernel_rfl, by decide +kernel, rfl, by decide +kernel, by decide +kernel⟩
theorem ok_distances_at (c : SaysX fas dfs gfs K) (X : K.In h) (G : h.Ns mainGlobals mg) (d_times : Defd P0 w K mg base Cl "times" 2 2 f_times) (d_value_at : Defd P0 w K mg base Cl "value_at" 2 3 f_value_at) (d_whole : Defd P0 w K mg base Cl "whole" 1 1 f_whole) : Defd P0 w K mg base Cl "distances_at" 2 4 f_distances_at := by
  obtain ⟨fd, F⟩ := def_gd c 13 (top 18) "distances_at" (by kernel_rfl)
  refine @Defd.mk' P0 w K mg base Cl "distances_at" "distances_at" (defArgs (top 18)) (defBody (top 18)) (defScope (top 18)) [] _ fd ["contact", "standing", "form", "side"] ["contact", "standing"] 2 3 b_distances_at (fa_glo c X G 13 "distances_at" (by kernel_rfl)) F sc_distances_at rfl (fun _ _ _ _ _ _ us hl => match us, hl with | [_, _], _ => by kernel_rfl) fun cdv A outer s H E hr => ?_
  have hu := hr.units
  have nd := sc_distances_at.nd
  have calm : (cxD P0 w K mg base ["contact", "standing", "form", "side"] "distances_at" (defScope (top 18)) (He.ga K "distances_at") cdv A outer s H E).calm = true := rfl
  have tk := takes_of (X := cxD P0 w K mg base ["contact", "standing", "form", "side"] "distances_at" (defScope (top 18)) (He.ga K "distances_at") cdv A outer s H E) rfl rfl rfl rfl
  have po := passes_of (X := cxD P0 w K mg base ["contact", "standing", "form", "side"] "distances_at" (defScope (top 18)) (He.ga K "distances_at") cdv A outer s H E) rfl
  exact s_one (s_ret (s_lc (own := [("form", 2), ("side", 3)]) calm nd (s_it (s_v (by kernel_rfl))) (blk_of (by kernel_rfl)) (fun s H C cl fp => (g_tp calm (g_cons (g_nm nd (by kernel_rfl) (.inr (by kernel_rfl))) (g_cons (g_nm nd (by kernel_rfl) (.inr (by kernel_rfl))) (g_nil) rfl) rfl) rfl rfl)) (fun s H C cl fp => (s_pts0)) (fun s H C cl fp => (s_fn (d_times.up (by decide)) hr (gl_of (by kernel_rfl)) takes0 (s_cons (s_fn (d_whole.up (by decide)) hr (gl_of (by kernel_rfl)) takes0 (s_cons (s_neg (s_v (by kernel_rfl))) (s_nil) rfl) (by decide) rfl rfl) (s_cons (s_fn (d_value_at.up (by decide)) hr (gl_of (by kernel_rfl)) takes0 (s_cons (s_v (by kernel_rfl)) (s_cons (s_v (by kernel_rfl)) (s_nil) rfl) rfl) (by decide) rfl rfl) (s_nil) rfl) rfl) (by decide) rfl rfl)) (by decide) (fun _ => rfl)))
theorem sc_is_within : FnScope ["limits", "standing", "one", "low", "high"] ["limits", "standing"] (defScope (top 19)) := ⟨by kernel_rfl, by kernel_rfl, by kernel_rfl, by decide +kernel, rfl, by decide +kernel, by decide +kernel⟩
theorem ok_is_within (c : SaysX fas dfs gfs K) (X : K.In h) (G : h.Ns mainGlobals mg) (d_less : Defd P0 w K mg base Cl "less" 2 1 f_less) (d_whole : Defd P0 w K mg base Cl "whole" 1 1 f_whole) : Defd P0 w K mg base Cl "is_within" 2 2 f_is_within := by
  obtain ⟨fd, F⟩ := def_gd c 14 (top 19) "is_within" (by kernel_rfl)
  have h_zip : mg "zip" = none := fa_free c X G 66 "zip" (by kernel_rfl)
  refine @Defd.mk' P0 w K mg base Cl "is_within" "is_within" (defArgs (top 19)) (defBody (top 19)) (defScope (top 19)) [] _ fd ["limits", "standing", "one", "low", "high"] ["limits", "standing"] 2 1 b_is_within (fa_glo c X G 14 "is_within" (by kernel_rfl)) F sc_is_within rfl (fun _ _ _ _ _ _ us hl => match us, hl with | [_, _], _ => by kernel_rfl) fun cdv A outer s H E hr => ?_
  have hu := hr.units
  have nd := sc_is_within.nd
  have calm : (cxD P0 w K mg base ["limits", "standing", "one", "low", "high"] "is_within" (defScope (top 19)) (He.ga K "is_within") cdv A outer s H E).calm = true := rfl
  have tk := takes_of (X := cxD P0 w K mg base ["limits", "standing", "one", "low", "high"] "is_within" (defScope (top 19)) (He.ga K "is_within") cdv A outer s H E) rfl rfl rfl rfl
  have po := passes_of (X := cxD P0 w K mg base ["limits", "standing", "one", "low", "high"] "is_within" (defScope (top 19)) (He.ga K "is_within") cdv A outer s H E) rfl
  exact s_seq (s_for po calm (s_zS (gl_of (by kernel_rfl)) h_zip (s_v (by kernel_rfl)) (s_v (by kernel_rfl)) pe_bl rfl rfl) (g_tp calm (g_cons (g_tp calm (g_cons (g_nm nd (by kernel_rfl) (.inl rfl)) (g_cons (g_nm nd (by kernel_rfl) (.inl rfl)) (g_nil) rfl) rfl) rfl rfl) (g_cons (g_nm nd (by kernel_rfl) (.inl rfl)) (g_nil) rfl) rfl) rfl rfl) (s_one (s_if (PW.pt (s_orT (s_tru (s_fn (d_less.up (by decide)) hr (gl_of (by kernel_rfl)) tk (s_cons (s_v (by kernel_rfl)) (s_cons (s_fn (d_whole.up (by decide)) hr (gl_of (by kernel_rfl)) tk (s_cons (s_v (by kernel_rfl)) (s_nil) rfl) (by decide) rfl rfl) (s_nil) rfl) rfl) (by decide) rfl rfl) (fun _ => rfl)) (s_or1 (s_tru (s_fn (d_less.up (by decide)) hr (gl_of (by kernel_rfl)) tk (s_cons (s_fn (d_whole.up (by decide)) hr (gl_of (by kernel_rfl)) tk (s_cons (s_v (by kernel_rfl)) (s_nil) rfl) (by decide) rfl rfl) (s_cons (s_v (by kernel_rfl)) (s_nil) rfl) rfl) (by decide) rfl rfl) (fun _ => rfl))))) (s_one (s_ret (s_bl))) (s_end))) (fun _ => rfl)) (s_one (s_ret (s_bl)))
theorem sc_span : FnScope ["contact", "q", "r", "low", "high", "first", "last", "at"] ["contact", "q", "r"] (defScope (top 20)) := ⟨by kernel_rfl, by kernel_rfl, by kernel_rfl, by decide +kernel, rfl, by decide +kernel, by decide +kernel⟩
theorem ok_span (c : SaysX fas dfs gfs K) (X : K.In h) (G : h.Ns mainGlobals mg) (d_distances_at : Defd P0 w K mg base Cl "distances_at" 2 4 f_distances_at) (d_greatest : Defd P0 w K mg base Cl "greatest" 1 2 f_greatest) (d_least : Defd P0 w K mg base Cl "least" 1 2 f_least) (d_less : Defd P0 w K mg base Cl "less" 2 1 f_less) (d_minus : Defd P0 w K mg base Cl "minus" 2 2 f_minus) (d_over : Defd P0 w K mg base Cl "over" 2 2 f_over) (d_sign_of : Defd P0 w K mg base Cl "sign_of" 1 1 f_sign_of) : Defd P0 w K mg base Cl "span" 3 5 f_span := by
  obtain ⟨fd, F⟩ := def_gd c 15 (top 20) "span" (by kernel_rfl)
  have h_BEGIN : MDat K mg "BEGIN" (.tup [.int 0, .int 1]) := fa_dat c X G 1 "BEGIN" (.tup [.int 0, .int 1]) (by kernel_rfl)
  have h_END : MDat K mg "END" (.tup [.int 1, .int 1]) := fa_dat c X G 2 "END" (.tup [.int 1, .int 1]) (by kernel_rfl)
  have h_zip : mg "zip" = none := fa_free c X G 66 "zip" (by kernel_rfl)
  refine @Defd.mk' P0 w K mg base Cl "span" "span" (defArgs (top 20)) (defBody (top 20)) (defScope (top 20)) [] _ fd ["contact", "q", "r", "low", "high", "first", "last", "at"] ["contact", "q", "r"] 3 4 b_span (fa_glo c X G 15 "span" (by kernel_rfl)) F sc_span rfl (fun _ _ _ _ _ _ us hl => match us, hl with | [_, _, _], _ => by kernel_rfl) fun cdv A outer s H E hr => ?_
  have hu := hr.units
  have nd := sc_span.nd
  have calm : (cxD P0 w K mg base ["contact", "q", "r", "low", "high", "first", "last", "at"] "span" (defScope (top 20)) (He.ga K "span") cdv A outer s H E).calm = true := rfl
  have tk := takes_of (X := cxD P0 w K mg base ["contact", "q", "r", "low", "high", "first", "last", "at"] "span" (defScope (top 20)) (He.ga K "span") cdv A outer s H E) rfl rfl rfl rfl
  have po := passes_of (X := cxD P0 w K mg base ["contact", "q", "r", "low", "high", "first", "last", "at"] "span" (defScope (top 20)) (He.ga K "span") cdv A outer s H E) rfl
  exact s_seq (s_par calm nd rfl rfl (by decide) (by kernel_rfl) (by kernel_rfl) (s_cons (s_gc (gl_of (by kernel_rfl)) h_BEGIN (by decide)) (s_cons (s_gc (gl_of (by kernel_rfl)) h_END (by decide)) (s_nil) rfl) rfl) (by kernel_rfl)) (s_seq (s_for po calm (s_zS (gl_of (by kernel_rfl)) h_zip (s_fn (d_distances_at.up (by decide)) hr (gl_of (by kernel_rfl)) tk (s_cons (s_v (by kernel_rfl)) (s_cons (s_v (by kernel_rfl)) (s_nil) rfl) rfl) (by decide) rfl rfl) (s_fn (d_distances_at.up (by decide)) hr (gl_of (by kernel_rfl)) tk (s_cons (s_v (by kernel_rfl)) (s_cons (s_v (by kernel_rfl)) (s_nil) rfl) rfl) (by decide) rfl rfl) pe_bl rfl rfl) (g_tp calm (g_cons (g_nm nd (by kernel_rfl) (.inl rfl)) (g_cons (g_nm nd (by kernel_rfl) (.inl rfl)) (g_nil) rfl) rfl) rfl rfl) (s_seq (s_if (PW.pt (s_andT (t_ge hu (s_fn (d_sign_of.up (by decide)) hr (gl_of (by kernel_rfl)) tk (s_cons (s_v (by kernel_rfl)) (s_nil) rfl) (by decide) rfl rfl) (s_int) rfl) (s_and1 (t_ge hu (s_fn (d_sign_of.up (by decide)) hr (gl_of (by kernel_rfl)) tk (s_cons (s_v (by kernel_rfl)) (s_nil) rfl) (by decide) rfl rfl) (s_int) rfl)))) (s_one (s_ret (s_non))) (s_end)) (s_one (s_if (PW.pt (s_orT (t_ge hu (s_fn (d_sign_of.up (by decide)) hr (gl_of (by kernel_rfl)) tk (s_cons (s_v (by kernel_rfl)) (s_nil) rfl) (by decide) rfl rfl) (s_int) rfl) (s_or1 (t_ge hu (s_fn (d_sign_of.up (by decide)) hr (gl_of (by kernel_rfl)) tk (s_cons (s_v (by kernel_rfl)) (s_nil) rfl) (by decide) rfl rfl) (s_int) rfl)))) (s_seq (s_st nd (by kernel_rfl) (s_fn (d_over.up (by decide)) hr (gl_of (by kernel_rfl)) tk (s_cons (s_v (by kernel_rfl)) (s_cons (s_fn (d_minus.up (by decide)) hr (gl_of (by kernel_rfl)) tk (s_cons (s_v (by kernel_rfl)) (s_cons (s_v (by kernel_rfl)) (s_nil) rfl) rfl) (by decide) rfl rfl) (s_nil) rfl) rfl) (by decide) rfl rfl) rfl (.inl rfl)) (s_one (s_if (t_ge hu (s_fn (d_sign_of.up (by decide)) hr (gl_of (by kernel_rfl)) tk (s_cons (s_v (by kernel_rfl)) (s_nil) rfl) (by decide) rfl rfl) (s_int) rfl) (s_one (s_st nd (by kernel_rfl) (s_fn (d_greatest.up (by decide)) hr (gl_of (by kernel_rfl)) tk (s_cons (s_lst (s_cons (s_v (by kernel_rfl)) (s_cons (s_v (by kernel_rfl)) (s_nil) rfl) rfl)) (s_nil) rfl) (by decide) rfl rfl) rfl (.inl rfl))) (s_one (s_st nd (by kernel_rfl) (s_fn (d_least.up (by decide)) hr (gl_of (by kernel_rfl)) tk (s_cons (s_lst (s_cons (s_v (by kernel_rfl)) (s_cons (s_v (by kernel_rfl)) (s_nil) rfl) rfl)) (s_nil) rfl) (by decide) rfl rfl) rfl (.inl rfl)))))) (s_end)))) (fun _ => rfl)) (s_one (s_ret (s_ifE (s_tru (s_fn (d_less.up (by decide)) hr (gl_of (by kernel_rfl)) tk (s_cons (s_v (by kernel_rfl)) (s_cons (s_v (by kernel_rfl)) (s_nil) rfl) rfl) (by decide) rfl rfl) (fun _ => rfl)) (s_tup (s_cons (s_v (by kernel_rfl)) (s_cons (s_v (by kernel_rfl)) (s_nil) rfl) rfl)) (s_non)))))
theorem sc_leg_fault : FnScope ["limits", "contacts", "q", "r", "k", "standing", "contact", "told"] ["limits", "contacts", "q", "r"] (defScope (top 21)) := ⟨by kernel_rfl, by kernel_rfl, by kernel_rfl, by decide +kernel, rfl, by decide +kernel, by decide +kernel⟩
theorem ok_leg_fault (c : SaysX fas dfs gfs K) (X : K.In h) (G : h.Ns mainGlobals mg) (d_is_within : Defd P0 w K mg base Cl "is_within" 2 2 f_is_within) (d_span : Defd P0 w K mg base Cl "span" 3 5 f_span) : Defd P0 w K mg base Cl "leg_fault" 4 6 f_leg_fault := by
  obtain ⟨fd, F⟩ := def_gd c 16 (top 21) "leg_fault" (by kernel_rfl)
  have h_enumerate : mg "enumerate" = none := fa_free c X G 54 "enumerate" (by kernel_rfl)
  refine @Defd.mk' P0 w K mg base Cl "leg_fault" "leg_fault" (defArgs (top 21)) (defBody (top 21)) (defScope (top 21)) [] _ fd ["limits", "contacts", "q", "r", "k", "standing", "contact", "told"] ["limits", "contacts", "q", "r"] 4 5 b_leg_fault (fa_glo c X G 16 "leg_fault" (by kernel_rfl)) F sc_leg_fault rfl (fun _ _ _ _ _ _ us hl => match us, hl with | [_, _, _, _], _ => by kernel_rfl) fun cdv A outer s H E hr => ?_
  have hu := hr.units
  have nd := sc_leg_fault.nd
  have calm : (cxD P0 w K mg base ["limits", "contacts", "q", "r", "k", "standing", "contact", "told"] "leg_fault" (defScope (top 21)) (He.ga K "leg_fault") cdv A outer s H E).calm = true := rfl
  have tk := takes_of (X := cxD P0 w K mg base ["limits", "contacts", "q", "r", "k", "standing", "contact", "told"] "leg_fault" (defScope (top 21)) (He.ga K "leg_fault") cdv A outer s H E) rfl rfl rfl rfl
  have po := passes_of (X := cxD P0 w K mg base ["limits", "contacts", "q", "r", "k", "standing", "contact", "told"] "leg_fault" (defScope (top 21)) (He.ga K "leg_fault") cdv A outer s H E) rfl
  exact s_seq (s_for po calm (s_en (gl_of (by kernel_rfl)) h_enumerate (s_tup (s_cons (s_v (by kernel_rfl)) (s_cons (s_v (by kernel_rfl)) (s_nil) rfl) rfl)) rfl) (g_tp calm (g_cons (g_nm nd (by kernel_rfl) (.inl rfl)) (g_cons (g_nm nd (by kernel_rfl) (.inl rfl)) (g_nil) rfl) rfl) rfl rfl) (s_one (s_if (s_notT (s_tru (s_fn (d_is_within.up (by decide)) hr (gl_of (by kernel_rfl)) tk (s_cons (s_v (by kernel_rfl)) (s_cons (s_v (by kernel_rfl)) (s_nil) rfl) rfl) (by decide) rfl rfl) (fun _ => rfl))) (s_one (s_ret (s_tup (s_cons (s_str (by kernel_rfl)) (s_cons (s_v (by kernel_rfl)) (s_nil) rfl) rfl)))) (s_end))) (fun _ => rfl)) (s_seq (s_for po calm (s_en (gl_of (by kernel_rfl)) h_enumerate (s_v (by kernel_rfl)) rfl) (g_tp calm (g_cons (g_nm nd (by kernel_rfl) (.inl rfl)) (g_cons (g_nm nd (by kernel_rfl) (.inl rfl)) (g_nil) rfl) rfl) rfl rfl) (s_seq (s_st nd (by kernel_rfl) (s_fn (d_span.up (by decide)) hr (gl_of (by kernel_rfl)) tk (s_cons (s_v (by kernel_rfl)) (s_cons (s_v (by kernel_rfl)) (s_cons (s_v (by kernel_rfl)) (s_nil) rfl) rfl) rfl) (by decide) rfl rfl) rfl (.inl rfl)) (s_one (s_if (s_notNT (s_v (by kernel_rfl))) (s_one (s_ret (s_tup (s_cons (s_str (by kernel_rfl)) (s_cons (s_v (by kernel_rfl)) (s_star (s_v (by kernel_rfl)) (s_nil) rfl) rfl) rfl)))) (s_end)))) (fun _ => rfl)) (s_one (s_ret (s_non))))
theorem sc_legs_of : FnScope ["way"] ["way"] (defScope (top 23)) := ⟨by kernel_rfl, by kernel_rfl, by kernel_rfl, by decide +kernel, rfl, by decide +kernel, by decide +kernel⟩
theorem ok_legs_of (c : SaysX fas dfs gfs K) (X : K.In h) (G : h.Ns mainGlobals mg) : Defd P0 w K mg base Cl "legs_of" 1 1 f_legs_of := by
  obtain ⟨fd, F⟩ := def_gd c 17 (top 23) "legs_of" (by kernel_rfl)
  have h_len : mg "len" = none := fa_free c X G 57 "len" (by kernel_rfl)
  have h_list : mg "list" = none := fa_free c X G 58 "list" (by kernel_rfl)
  have h_zip : mg "zip" = none := fa_free c X G 66 "zip" (by kernel_rfl)
  refine @Defd.mk' P0 w K mg base Cl "legs_of" "legs_of" (defArgs (top 23)) (defBody (top 23)) (defScope (top 23)) [] _ fd ["way"] ["way"] 1 0 b_legs_of (fa_glo c X G 17 "legs_of" (by kernel_rfl)) F sc_legs_of rfl (fun _ _ _ _ _ _ us hl => match us, hl with | [_], _ => by kernel_rfl) fun cdv A outer s H E hr => ?_
  have hu := hr.units
  have nd := sc_legs_of.nd
  have calm : (cxD P0 w K mg base ["way"] "legs_of" (defScope (top 23)) (He.ga K "legs_of") cdv A outer s H E).calm = true := rfl
  have tk := takes_of (X := cxD P0 w K mg base ["way"] "legs_of" (defScope (top 23)) (He.ga K "legs_of") cdv A outer s H E) rfl rfl rfl rfl
  have po := passes_of (X := cxD P0 w K mg base ["way"] "legs_of" (defScope (top 23)) (He.ga K "legs_of") cdv A outer s H E) rfl
  exact s_one (s_ret (s_ifE (t_gt hu (s_len (gl_of (by kernel_rfl)) h_len (s_cons (s_v (by kernel_rfl)) (s_nil) rfl) rfl rfl) (s_int) rfl) (s_lz calm (gl_of (by kernel_rfl)) h_list (gl_of (by kernel_rfl)) h_zip (s_v (by kernel_rfl)) (s_sl (s_v (by kernel_rfl)) (s_poS (s_int)) s_poN) rfl rfl) (s_lst (s_cons (s_tup (s_cons (s_idx hu (s_v (by kernel_rfl)) (s_int) (fun _ _ => rfl)) (s_cons (s_idx hu (s_v (by kernel_rfl)) (s_int) (fun _ _ => rfl)) (s_nil) rfl) rfl)) (s_nil) rfl))))
theorem sc_is_standing : FnScope ["value", "many", "one"] ["value", "many"] (defScope (top 24)) := ⟨by kernel_rfl, by kernel_rfl, by kernel_rfl, by decide +kernel, rfl, by decide +kernel, by decide +kernel⟩
theorem ok_is_standing (c : SaysX fas dfs gfs K) (X : K.In h) (G : h.Ns mainGlobals mg) (d_is_fraction : Defd P0 w K mg base Cl "is_fraction" 1 2 f_is_fraction) : Defd P0 w K mg base Cl "is_standing" 2 3 f_is_standing := by
  obtain ⟨fd, F⟩ := def_gd c 18 (top 24) "is_standing" (by kernel_rfl)
  have h_all : mg "all" = none := fa_free c X G 52 "all" (by kernel_rfl)
  have h_isinstance : mg "isinstance" = none := fa_free c X G 56 "isinstance" (by kernel_rfl)
  have h_len : mg "len" = none := fa_free c X G 57 "len" (by kernel_rfl)
  have h_tuple : mg "tuple" = none := fa_free c X G 65 "tuple" (by kernel_rfl)
  refine @Defd.mk' P0 w K mg base Cl "is_standing" "is_standing" (defArgs (top 24)) (defBody (top 24)) (defScope (top 24)) [] _ fd ["value", "many", "one"] ["value", "many"] 2 2 b_is_standing (fa_glo c X G 18 "is_standing" (by kernel_rfl)) F sc_is_standing rfl (fun _ _ _ _ _ _ us hl => match us, hl with | [_, _], _ => by kernel_rfl) fun cdv A outer s H E hr => ?_
  have hu := hr.units
  have nd := sc_is_standing.nd
  have calm : (cxD P0 w K mg base ["value", "many", "one"] "is_standing" (defScope (top 24)) (He.ga K "is_standing") cdv A outer s H E).calm = true := rfl
  have tk := takes_of (X := cxD P0 w K mg base ["value", "many", "one"] "is_standing" (defScope (top 24)) (He.ga K "is_standing") cdv A outer s H E) rfl rfl rfl rfl
  have po := passes_of (X := cxD P0 w K mg base ["value", "many", "one"] "is_standing" (defScope (top 24)) (He.ga K "is_standing") cdv A outer s H E) rfl
  exact s_one (s_ret (s_andV (s_isa_tuple (gl_of (by kernel_rfl)) h_isinstance (gl_of (by kernel_rfl)) h_tuple (s_v (by kernel_rfl)) rfl) (s_andV (s_eq hu (s_len (gl_of (by kernel_rfl)) h_len (s_cons (s_v (by kernel_rfl)) (s_nil) rfl) rfl rfl) (s_v (by kernel_rfl)) rfl) (s_oneV (s_all calm (gl_of (by kernel_rfl)) h_all (s_cons (s_lc (own := [("one", 2)]) calm nd (s_it (s_v (by kernel_rfl))) (blk_of (by kernel_rfl)) (fun s H C cl fp => (g_nm nd (by kernel_rfl) (.inr (by kernel_rfl)))) (fun s H C cl fp => (s_pts0)) (fun s H C cl fp => (s_fn (d_is_fraction.up (by decide)) hr (gl_of (by kernel_rfl)) takes0 (s_cons (s_v (by kernel_rfl)) (s_nil) rfl) (by decide) rfl rfl)) (by decide) (fun _ => rfl)) (s_nil) rfl) rfl rfl)))))
theorem sc_has_form : FnScope ["limits", "value", "one"] ["limits", "value"] (defScope (top 25)) := ⟨by kernel_rfl, by kernel_rfl, by kernel_rfl, by decide +kernel, rfl, by decide +kernel, by decide +kernel⟩
theorem ok_has_form (c : SaysX fas dfs gfs K) (X : K.In h) (G : h.Ns mainGlobals mg) (d_is_standing : Defd P0 w K mg base Cl "is_standing" 2 3 f_is_standing) : Defd P0 w K mg base Cl "has_form" 2 4 f_has_form := by
  obtain ⟨fd, F⟩ := def_gd c 19 (top 25) "has_form" (by kernel_rfl)
  have h_all : mg "all" = none := fa_free c X G 52 "all" (by kernel_rfl)
  have h_isinstance : mg "isinstance" = none := fa_free c X G 56 "isinstance" (by kernel_rfl)
  have h_len : mg "len" = none := fa_free c X G 57 "len" (by kernel_rfl)
  have h_tuple : mg "tuple" = none := fa_free c X G 65 "tuple" (by kernel_rfl)
  refine @Defd.mk' P0 w K mg base Cl "has_form" "has_form" (defArgs (top 25)) (defBody (top 25)) (defScope (top 25)) [] _ fd ["limits", "value", "one"] ["limits", "value"] 2 3 b_has_form (fa_glo c X G 19 "has_form" (by kernel_rfl)) F sc_has_form rfl (fun _ _ _ _ _ _ us hl => match us, hl with | [_, _], _ => by kernel_rfl) fun cdv A outer s H E hr => ?_
  have hu := hr.units
  have nd := sc_has_form.nd
  have calm : (cxD P0 w K mg base ["limits", "value", "one"] "has_form" (defScope (top 25)) (He.ga K "has_form") cdv A outer s H E).calm = true := rfl
  have tk := takes_of (X := cxD P0 w K mg base ["limits", "value", "one"] "has_form" (defScope (top 25)) (He.ga K "has_form") cdv A outer s H E) rfl rfl rfl rfl
  have po := passes_of (X := cxD P0 w K mg base ["limits", "value", "one"] "has_form" (defScope (top 25)) (He.ga K "has_form") cdv A outer s H E) rfl
  exact s_seq (s_if (PW.pt (s_orT (s_notT (s_tru (s_isa_tuple (gl_of (by kernel_rfl)) h_isinstance (gl_of (by kernel_rfl)) h_tuple (s_v (by kernel_rfl)) rfl) (fun _ => rfl))) (s_or1 (t_eq hu (s_len (gl_of (by kernel_rfl)) h_len (s_cons (s_v (by kernel_rfl)) (s_nil) rfl) rfl rfl) (s_int) rfl)))) (s_one (s_ret (s_bl))) (s_end)) (s_one (s_ret (s_all calm (gl_of (by kernel_rfl)) h_all (s_cons (s_lc (own := [("one", 2)]) calm nd (s_it (s_v (by kernel_rfl))) (blk_of (by kernel_rfl)) (fun s H C cl fp => (g_nm nd (by kernel_rfl) (.inr (by kernel_rfl)))) (fun s H C cl fp => (s_pts0)) (fun s H C cl fp => (s_fn (d_is_standing.up (by decide)) hr (gl_of (by kernel_rfl)) takes0 (s_cons (s_v (by kernel_rfl)) (s_cons (s_len (gl_of (by kernel_rfl)) h_len (s_cons (s_v (by kernel_rfl)) (s_nil) rfl) rfl rfl) (s_nil) rfl) rfl) (by decide) rfl rfl)) (by decide) (fun _ => rfl)) (s_nil) rfl) rfl rfl)))
theorem sc_judge_way : FnScope ["limits", "contacts", "value", "n", "standing", "q", "r", "k", "contact", "told"] ["limits", "contacts", "value"] (defScope (top 26)) := ⟨by kernel_rfl, by kernel_rfl, by kernel_rfl, by decide +kernel, rfl, by decide +kernel, by decide +kernel⟩
theorem ok_judge_way (c : SaysX fas dfs gfs K) (X : K.In h) (G : h.Ns mainGlobals mg) (d_has_form : Defd P0 w K mg base Cl "has_form" 2 4 f_has_form) (d_is_within : Defd P0 w K mg base Cl "is_within" 2 2 f_is_within) (d_legs_of : Defd P0 w K mg base Cl "legs_of" 1 1 f_legs_of) (d_span : Defd P0 w K mg base Cl "span" 3 5 f_span) : Defd P0 w K mg base Cl "judge_way" 3 6 f_judge_way := by
  obtain ⟨fd, F⟩ := def_gd c 20 (top 26) "judge_way" (by kernel_rfl)
  have h_enumerate : mg "enumerate" = none := fa_free c X G 54 "enumerate" (by kernel_rfl)
  refine @Defd.mk' P0 w K mg base Cl "judge_way" "judge_way" (defArgs (top 26)) (defBody (top 26)) (defScope (top 26)) [] _ fd ["limits", "contacts", "value", "n", "standing", "q", "r", "k", "contact", "told"] ["limits", "contacts", "value"] 3 5 b_judge_way (fa_glo c X G 20 "judge_way" (by kernel_rfl)) F sc_judge_way rfl (fun _ _ _ _ _ _ us hl => match us, hl with | [_, _, _], _ => by kernel_rfl) fun cdv A outer s H E hr => ?_
  have hu := hr.units
  have nd := sc_judge_way.nd
  have calm : (cxD P0 w K mg base ["limits", "contacts", "value", "n", "standing", "q", "r", "k", "contact", "told"] "judge_way" (defScope (top 26)) (He.ga K "judge_way") cdv A outer s H E).calm = true := rfl
  have tk := takes_of (X := cxD P0 w K mg base ["limits", "contacts", "value", "n", "standing", "q", "r", "k", "contact", "told"] "judge_way" (defScope (top 26)) (He.ga K "judge_way") cdv A outer s H E) rfl rfl rfl rfl
  have po := passes_of (X := cxD P0 w K mg base ["limits", "contacts", "value", "n", "standing", "q", "r", "k", "contact", "told"] "judge_way" (defScope (top 26)) (He.ga K "judge_way") cdv A outer s H E) rfl
  exact s_seq (s_if (s_notT (s_tru (s_fn (d_has_form.up (by decide)) hr (gl_of (by kernel_rfl)) tk (s_cons (s_v (by kernel_rfl)) (s_cons (s_v (by kernel_rfl)) (s_nil) rfl) rfl) (by decide) rfl rfl) (fun _ => rfl))) (s_one (s_ret (s_tup (s_cons (s_str (by kernel_rfl)) (s_nil) rfl)))) (s_end)) (s_seq (s_for po calm (s_en (gl_of (by kernel_rfl)) h_enumerate (s_v (by kernel_rfl)) rfl) (g_tp calm (g_cons (g_nm nd (by kernel_rfl) (.inl rfl)) (g_cons (g_nm nd (by kernel_rfl) (.inl rfl)) (g_nil) rfl) rfl) rfl rfl) (s_one (s_if (s_notT (s_tru (s_fn (d_is_within.up (by decide)) hr (gl_of (by kernel_rfl)) tk (s_cons (s_v (by kernel_rfl)) (s_cons (s_v (by kernel_rfl)) (s_nil) rfl) rfl) (by decide) rfl rfl) (fun _ => rfl))) (s_one (s_ret (s_tup (s_cons (s_str (by kernel_rfl)) (s_cons (s_v (by kernel_rfl)) (s_nil) rfl) rfl)))) (s_end))) (fun _ => rfl)) (s_seq (s_for po calm (s_en (gl_of (by kernel_rfl)) h_enumerate (s_fn (d_legs_of.up (by decide)) hr (gl_of (by kernel_rfl)) tk (s_cons (s_v (by kernel_rfl)) (s_nil) rfl) (by decide) rfl rfl) rfl) (g_tp calm (g_cons (g_nm nd (by kernel_rfl) (.inl rfl)) (g_cons (g_tp calm (g_cons (g_nm nd (by kernel_rfl) (.inl rfl)) (g_cons (g_nm nd (by kernel_rfl) (.inl rfl)) (g_nil) rfl) rfl) rfl rfl) (g_nil) rfl) rfl) rfl rfl) (s_one (s_for po calm (s_en (gl_of (by kernel_rfl)) h_enumerate (s_v (by kernel_rfl)) rfl) (g_tp calm (g_cons (g_nm nd (by kernel_rfl) (.inl rfl)) (g_cons (g_nm nd (by kernel_rfl) (.inl rfl)) (g_nil) rfl) rfl) rfl rfl) (s_seq (s_st nd (by kernel_rfl) (s_fn (d_span.up (by decide)) hr (gl_of (by kernel_rfl)) tk (s_cons (s_v (by kernel_rfl)) (s_cons (s_v (by kernel_rfl)) (s_cons (s_v (by kernel_rfl)) (s_nil) rfl) rfl) rfl) (by decide) rfl rfl) rfl (.inl rfl)) (s_one (s_if (s_notNT (s_v (by kernel_rfl))) (s_one (s_ret (s_tup (s_cons (s_str (by kernel_rfl)) (s_cons (s_v (by kernel_rfl)) (s_cons (s_v (by kernel_rfl)) (s_star (s_v (by kernel_rfl)) (s_nil) rfl) rfl) rfl) rfl)))) (s_end)))) (fun _ => rfl))) (fun _ => rfl)) (s_one (s_ret (s_non)))))
theorem sc_first_needless : FnScope ["limits", "contacts", "way", "k"] ["limits", "contacts", "way"] (defScope (top 27)) := ⟨by kernel_rfl, by kernel_rfl, by kernel_rfl, by decide +kernel, rfl, by decide +kernel, by decide +kernel⟩
theorem ok_first_needless (c : SaysX fas dfs gfs K) (X : K.In h) (G : h.Ns mainGlobals mg) (d_leg_fault : Defd P0 w K mg base Cl "leg_fault" 4 6 f_leg_fault) : Defd P0 w K mg base Cl "first_needless" 3 7 f_first_needless := by
  obtain ⟨fd, F⟩ := def_gd c 21 (top 27) "first_needless" (by kernel_rfl)
  have h_len : mg "len" = none := fa_free c X G 57 "len" (by kernel_rfl)
  have h_range : mg "range" = none := fa_free c X G 61 "range" (by kernel_rfl)
  refine @Defd.mk' P0 w K mg base Cl "first_needless" "first_needless" (defArgs (top 27)) (defBody (top 27)) (defScope (top 27)) [] _ fd ["limits", "contacts", "way", "k"] ["limits", "contacts", "way"] 3 6 b_first_needless (fa_glo c X G 21 "first_needless" (by kernel_rfl)) F sc_first_needless rfl (fun _ _ _ _ _ _ us hl => match us, hl with | [_, _, _], _ => by kernel_rfl) fun cdv A outer s H E hr => ?_
  have hu := hr.units
  have nd := sc_first_needless.nd
  have calm : (cxD P0 w K mg base ["limits", "contacts", "way", "k"] "first_needless" (defScope (top 27)) (He.ga K "first_needless") cdv A outer s H E).calm = true := rfl
  have tk := takes_of (X := cxD P0 w K mg base ["limits", "contacts", "way", "k"] "first_needless" (defScope (top 27)) (He.ga K "first_needless") cdv A outer s H E) rfl rfl rfl rfl
  have po := passes_of (X := cxD P0 w K mg base ["limits", "contacts", "way", "k"] "first_needless" (defScope (top 27)) (He.ga K "first_needless") cdv A outer s H E) rfl
  exact s_seq (s_for po calm (s_rg2 (gl_of (by kernel_rfl)) h_range (s_int) (s_sub (s_len (gl_of (by kernel_rfl)) h_len (s_cons (s_v (by kernel_rfl)) (s_nil) rfl) rfl rfl) (s_int)) rfl rfl) (g_nm nd (by kernel_rfl) (.inl rfl)) (s_one (s_if (s_isNT (s_fn (d_leg_fault.up (by decide)) hr (gl_of (by kernel_rfl)) tk (s_cons (s_v (by kernel_rfl)) (s_cons (s_v (by kernel_rfl)) (s_cons (s_idx hu (s_v (by kernel_rfl)) (s_sub (s_v (by kernel_rfl)) (s_int)) (fun _ _ => rfl)) (s_cons (s_idx hu (s_v (by kernel_rfl)) (s_add (s_v (by kernel_rfl)) (s_int)) (fun _ _ => rfl)) (s_nil) rfl) rfl) rfl) rfl) (by decide) rfl rfl)) (s_one (s_ret (s_v (by kernel_rfl)))) (s_end))) (fun _ => rfl)) (s_one (s_ret (s_non)))
theorem sc_is_lean_way : FnScope ["limits", "contacts", "way"] ["limits", "contacts", "way"] (defScope (top 28)) := ⟨by kernel_rfl, by kernel_rfl, by kernel_rfl, by decide +kernel, rfl, by decide +kernel, by decide +kernel⟩
theorem ok_is_lean_way (c : SaysX fas dfs gfs K) (X : K.In h) (G : h.Ns mainGlobals mg) (d_first_needless : Defd P0 w K mg base Cl "first_needless" 3 7 f_first_needless) : Defd P0 w K mg base Cl "is_lean_way" 3 8 f_is_lean_way := by
  obtain ⟨fd, F⟩ := def_gd c 22 (top 28) "is_lean_way" (by kernel_rfl)
  refine @Defd.mk' P0 w K mg base Cl "is_lean_way" "is_lean_way" (defArgs (top 28)) (defBody (top 28)) (defScope (top 28)) [] _ fd ["limits", "contacts", "way"] ["limits", "contacts", "way"] 3 7 b_is_lean_way (fa_glo c X G 22 "is_lean_way" (by kernel_rfl)) F sc_is_lean_way rfl (fun _ _ _ _ _ _ us hl => match us, hl with | [_, _, _], _ => by kernel_rfl) fun cdv A outer s H E hr => ?_
  have hu := hr.units
  have nd := sc_is_lean_way.nd
  have calm : (cxD P0 w K mg base ["limits", "contacts", "way"] "is_lean_way" (defScope (top 28)) (He.ga K "is_lean_way") cdv A outer s H E).calm = true := rfl
  have tk := takes_of (X := cxD P0 w K mg base ["limits", "contacts", "way"] "is_lean_way" (defScope (top 28)) (He.ga K "is_lean_way") cdv A outer s H E) rfl rfl rfl rfl
  have po := passes_of (X := cxD P0 w K mg base ["limits", "contacts", "way"] "is_lean_way" (defScope (top 28)) (He.ga K "is_lean_way") cdv A outer s H E) rfl
  exact s_one (s_ret (s_isN (s_fn (d_first_needless.up (by decide)) hr (gl_of (by kernel_rfl)) tk (s_cons (s_v (by kernel_rfl)) (s_cons (s_v (by kernel_rfl)) (s_cons (s_v (by kernel_rfl)) (s_nil) rfl) rfl) rfl) (by decide) rfl rfl)))
theorem sc_made_lean : FnScope ["limits", "contacts", "way", "k"] ["limits", "contacts", "way"] (defScope (top 29)) := ⟨by kernel_rfl, by kernel_rfl, by kernel_rfl, by decide +kernel, rfl, by decide +kernel, by decide +kernel⟩
theorem ok_made_lean (c : SaysX fas dfs gfs K) (X : K.In h) (G : h.Ns mainGlobals mg) (d_first_needless : Defd P0 w K mg base Cl "first_needless" 3 7 f_first_needless) : Defd P0 w K mg base Cl "made_lean" 3 8 f_made_lean := by
  obtain ⟨fd, F⟩ := def_gd c 23 (top 29) "made_lean" (by kernel_rfl)
  refine @Defd.mk' P0 w K mg base Cl "made_lean" "made_lean" (defArgs (top 29)) (defBody (top 29)) (defScope (top 29)) [] _ fd ["limits", "contacts", "way", "k"] ["limits", "contacts", "way"] 3 7 b_made_lean (fa_glo c X G 23 "made_lean" (by kernel_rfl)) F sc_made_lean rfl (fun _ _ _ _ _ _ us hl => match us, hl with | [_, _, _], _ => by kernel_rfl) fun cdv A outer s H E hr => ?_
  have hu := hr.units
  have nd := sc_made_lean.nd
  have calm : (cxD P0 w K mg base ["limits", "contacts", "way", "k"] "made_lean" (defScope (top 29)) (He.ga K "made_lean") cdv A outer s H E).calm = true := rfl
  have tk := takes_of (X := cxD P0 w K mg base ["limits", "contacts", "way", "k"] "made_lean" (defScope (top 29)) (He.ga K "made_lean") cdv A outer s H E) rfl rfl rfl rfl
  have po := passes_of (X := cxD P0 w K mg base ["limits", "contacts", "way", "k"] "made_lean" (defScope (top 29)) (He.ga K "made_lean") cdv A outer s H E) rfl
  exact s_seq (s_st nd (by kernel_rfl) (s_fn (d_first_needless.up (by decide)) hr (gl_of (by kernel_rfl)) tk (s_cons (s_v (by kernel_rfl)) (s_cons (s_v (by kernel_rfl)) (s_cons (s_v (by kernel_rfl)) (s_nil) rfl) rfl) rfl) (by decide) rfl rfl) rfl (.inl rfl)) (s_seq (s_wh po (s_notNT (s_v (by kernel_rfl))) (s_seq (s_st nd (by kernel_rfl) (s_add (s_sl (s_v (by kernel_rfl)) s_poN (s_poS (s_v (by kernel_rfl)))) (s_sl (s_v (by kernel_rfl)) (s_poS (s_add (s_v (by kernel_rfl)) (s_int))) s_poN)) rfl (.inl rfl)) (s_one (s_st nd (by kernel_rfl) (s_fn (d_first_needless.up (by decide)) hr (gl_of (by kernel_rfl)) tk (s_cons (s_v (by kernel_rfl)) (s_cons (s_v (by kernel_rfl)) (s_cons (s_v (by kernel_rfl)) (s_nil) rfl) rfl) rfl) (by decide) rfl rfl) rfl (.inl rfl))))) (s_one (s_ret (s_v (by kernel_rfl)))))
theorem sc__law_source : FnScope ["script", "mixed", "cell"] ["script"] (defScope (top 31)) := ⟨by kernel_rfl, by kernel_rfl, by kernel_rfl, by decide +kernel, rfl, by decide +kernel, by decide +kernel⟩
theorem ok__law_source (c : SaysX fas dfs gfs K) (X : K.In h) (G : h.Ns mainGlobals mg) : Defd P0 w K mg base Cl "_law_source" 1 1 f__law_source := by
  obtain ⟨fd, F⟩ := def_gd c 24 (top 31) "_law_source" (by kernel_rfl)
  have h_abs : mg "abs" = none := fa_free c X G 51 "abs" (by kernel_rfl)
  have h_int : mg "int" = none := fa_free c X G 55 "int" (by kernel_rfl)
  refine @Defd.mk' P0 w K mg base Cl "_law_source" "_law_source" (defArgs (top 31)) (defBody (top 31)) (defScope (top 31)) [] _ fd ["script", "mixed", "cell"] ["script"] 1 0 b__law_source (fa_glo c X G 24 "_law_source" (by kernel_rfl)) F sc__law_source rfl (fun _ _ _ _ _ _ us hl => match us, hl with | [_], _ => by kernel_rfl) fun cdv A outer s H E hr => ?_
  have hu := hr.units
  have nd := sc__law_source.nd
  have calm : (cxD P0 w K mg base ["script", "mixed", "cell"] "_law_source" (defScope (top 31)) (He.ga K "_law_source") cdv A outer s H E).calm = true := rfl
  have tk := takes_of (X := cxD P0 w K mg base ["script", "mixed", "cell"] "_law_source" (defScope (top 31)) (He.ga K "_law_source") cdv A outer s H E) rfl rfl rfl rfl
  have po := passes_of (X := cxD P0 w K mg base ["script", "mixed", "cell"] "_law_source" (defScope (top 31)) (He.ga K "_law_source") cdv A outer s H E) rfl
  exact s_seq (s_st nd (by kernel_rfl) (s_int) rfl (.inl rfl)) (s_seq (s_for po calm (s_it (s_v (by kernel_rfl))) (g_nm nd (by kernel_rfl) (.inl rfl)) (s_one (s_st nd (by kernel_rfl) (s_mod (s_intc (gl_of (by kernel_rfl)) h_int (s_cons (s_add (s_add (s_mul (s_v (by kernel_rfl)) (s_int)) (s_mul (s_v (by kernel_rfl)) (s_int))) (s_int)) (s_nil) rfl) rfl rfl) (s_int)) rfl (.inl rfl))) (fun _ => rfl)) (s_one (s_ret (s_dsp (s_prc (s_str (by kernel_rfl)) (s_rev (s_lc (own := [("cell", 2)]) calm nd (s_it (s_v (by kernel_rfl))) (blk_of (by kernel_rfl)) (fun s H C cl fp => (g_nm nd (by kernel_rfl) (.inr (by kernel_rfl)))) (fun s H C cl fp => (s_pts0)) (fun s H C cl fp => (s_abs (gl_of (by kernel_rfl)) h_abs (s_cons (s_v (by kernel_rfl)) (s_nil) rfl) rfl rfl)) (by decide) (fun _ => rfl))) (s_prc (s_str (by kernel_rfl)) (s_int) (s_prc (s_str (by kernel_rfl)) (s_v (by kernel_rfl)) (s_prc (s_str (by kernel_rfl)) (s_int) (s_pr0))))) rfl rfl (by simp) (by decide)))))
theorem sc__law_pick : FnScope ["source", "many", "left", "mixed"] ["source", "many"] (defScope (top 32)) := ⟨by kernel_rfl, by kernel_rfl, by kernel_rfl, by decide +kernel, rfl, by decide +kernel, by decide +kernel⟩
theorem ok__law_pick (c : SaysX fas dfs gfs K) (X : K.In h) (G : h.Ns mainGlobals mg) : Defd P0 w K mg base Cl "_law_pick" 2 1 f__law_pick := by
  obtain ⟨fd, F⟩ := def_gd c 25 (top 32) "_law_pick" (by kernel_rfl)
  have h_int : mg "int" = none := fa_free c X G 55 "int" (by kernel_rfl)
  have h_len : mg "len" = none := fa_free c X G 57 "len" (by kernel_rfl)
  have h_max : mg "max" = none := fa_free c X G 59 "max" (by kernel_rfl)
  refine @Defd.mk' P0 w K mg base Cl "_law_pick" "_law_pick" (defArgs (top 32)) (defBody (top 32)) (defScope (top 32)) [] _ fd ["source", "many", "left", "mixed"] ["source", "many"] 2 0 b__law_pick (fa_glo c X G 25 "_law_pick" (by kernel_rfl)) F sc__law_pick rfl (fun _ _ _ _ _ _ us hl => match us, hl with | [_, _], _ => by kernel_rfl) fun cdv A outer s H E hr => ?_
  have hu := hr.units
  have nd := sc__law_pick.nd
  have calm : (cxD P0 w K mg base ["source", "many", "left", "mixed"] "_law_pick" (defScope (top 32)) (He.ga K "_law_pick") cdv A outer s H E).calm = true := rfl
  have tk := takes_of (X := cxD P0 w K mg base ["source", "many", "left", "mixed"] "_law_pick" (defScope (top 32)) (He.ga K "_law_pick") cdv A outer s H E) rfl rfl rfl rfl
  have po := passes_of (X := cxD P0 w K mg base ["source", "many", "left", "mixed"] "_law_pick" (defScope (top 32)) (He.ga K "_law_pick") cdv A outer s H E) rfl
  exact s_seq (s_wh po (PW.pt (s_andT (t_gt hu (s_v (by kernel_rfl)) (s_int) rfl) (s_andT (t_lt hu (s_idx hu (s_v (by kernel_rfl)) (s_str (by kernel_rfl)) (fun _ _ => rfl)) (s_int) rfl) (s_and1 (t_gt hu (s_len (gl_of (by kernel_rfl)) h_len (s_cons (s_idx hu (s_v (by kernel_rfl)) (s_str (by kernel_rfl)) (fun _ _ => rfl)) (s_nil) rfl) rfl rfl) (s_int) rfl))))) (s_one (s_put hu (s_v (by kernel_rfl)) (s_str (by kernel_rfl)) (s_pop0 (s_idx hu (s_v (by kernel_rfl)) (s_str (by kernel_rfl)) (fun _ _ => rfl)) rfl rfl) rfl))) (s_seq (s_st nd (by kernel_rfl) (s_idx hu (s_v (by kernel_rfl)) (s_str (by kernel_rfl)) (fun _ _ => rfl)) rfl (.inl rfl)) (s_seq (s_if (PW.pt (s_orT (t_lt hu (s_v (by kernel_rfl)) (s_int) rfl) (s_or1 (t_gt hu (s_v (by kernel_rfl)) (s_int) rfl)))) (s_seq (s_put hu (s_v (by kernel_rfl)) (s_str (by kernel_rfl)) (s_fdv (s_v (by kernel_rfl)) (s_max2 calm (gl_of (by kernel_rfl)) h_max (s_cons (s_int) (s_cons (s_v (by kernel_rfl)) (s_nil) rfl) rfl) rfl rfl)) rfl) (s_one (s_ret (s_mod (s_intc (gl_of (by kernel_rfl)) h_int (s_cons (s_v (by kernel_rfl)) (s_nil) rfl) rfl rfl) (s_max2 calm (gl_of (by kernel_rfl)) h_max (s_cons (s_int) (s_cons (s_v (by kernel_rfl)) (s_nil) rfl) rfl) rfl rfl))))) (s_end)) (s_seq (s_put hu (s_v (by kernel_rfl)) (s_str (by kernel_rfl)) (s_add (s_idx hu (s_v (by kernel_rfl)) (s_str (by kernel_rfl)) (fun _ _ => rfl)) (s_int)) rfl) (s_seq (s_st nd (by kernel_rfl) (s_mod (s_intc (gl_of (by kernel_rfl)) h_int (s_cons (s_add (s_idx hu (s_v (by kernel_rfl)) (s_str (by kernel_rfl)) (fun _ _ => rfl)) (s_mul (s_idx hu (s_v (by kernel_rfl)) (s_str (by kernel_rfl)) (fun _ _ => rfl)) (s_int))) (s_nil) rfl) rfl rfl) (s_int)) rfl (.inl rfl)) (s_seq (s_st nd (by kernel_rfl) (s_mod (s_intc (gl_of (by kernel_rfl)) h_int (s_cons (s_add (s_mul (s_v (by kernel_rfl)) (s_v (by kernel_rfl))) (s_mul (s_idx hu (s_v (by kernel_rfl)) (s_str (by kernel_rfl)) (fun _ _ => rfl)) (s_int))) (s_nil) rfl) rfl rfl) (s_int)) rfl (.inl rfl)) (s_seq (s_put hu (s_v (by kernel_rfl)) (s_str (by kernel_rfl)) (s_v (by kernel_rfl)) rfl) (s_one (s_ret (s_mod (s_intc (gl_of (by kernel_rfl)) h_int (s_cons (s_fdv (s_v (by kernel_rfl)) (s_int)) (s_nil) rfl) rfl rfl) (s_v (by kernel_rfl)))))))))))
theorem sc__law_of : FnScope ["source", "some"] ["source", "some"] (defScope (top 33)) := ⟨by kernel_rfl, by kernel_rfl, by kernel_rfl, by decide +kernel, rfl, by decide +kernel, by decide +kernel⟩
theorem ok__law_of (c : SaysX fas dfs gfs K) (X : K.In h) (G : h.Ns mainGlobals mg) (d__law_pick : Defd P0 w K mg base Cl "_law_pick" 2 1 f__law_pick) : Defd P0 w K mg base Cl "_law_of" 2 2 f__law_of := by
  obtain ⟨fd, F⟩ := def_gd c 26 (top 33) "_law_of" (by kernel_rfl)
  have h_len : mg "len" = none := fa_free c X G 57 "len" (by kernel_rfl)
  refine @Defd.mk' P0 w K mg base Cl "_law_of" "_law_of" (defArgs (top 33)) (defBody (top 33)) (defScope (top 33)) [] _ fd ["source", "some"] ["source", "some"] 2 1 b__law_of (fa_glo c X G 26 "_law_of" (by kernel_rfl)) F sc__law_of rfl (fun _ _ _ _ _ _ us hl => match us, hl with | [_, _], _ => by kernel_rfl) fun cdv A outer s H E hr => ?_
  have hu := hr.units
  have nd := sc__law_of.nd
  have calm : (cxD P0 w K mg base ["source", "some"] "_law_of" (defScope (top 33)) (He.ga K "_law_of") cdv A outer s H E).calm = true := rfl
  have tk := takes_of (X := cxD P0 w K mg base ["source", "some"] "_law_of" (defScope (top 33)) (He.ga K "_law_of") cdv A outer s H E) rfl rfl rfl rfl
  have po := passes_of (X := cxD P0 w K mg base ["source", "some"] "_law_of" (defScope (top 33)) (He.ga K "_law_of") cdv A outer s H E) rfl
  exact s_one (s_ret (s_idx hu (s_v (by kernel_rfl)) (s_fn (d__law_pick.up (by decide)) hr (gl_of (by kernel_rfl)) tk (s_cons (s_v (by kernel_rfl)) (s_cons (s_len (gl_of (by kernel_rfl)) h_len (s_cons (s_v (by kernel_rfl)) (s_nil) rfl) rfl rfl) (s_nil) rfl) rfl) (by decide) rfl rfl) (fun _ _ => rfl)))
theorem sc__law_mixed : FnScope ["source", "things", "rest", "lap"] ["source", "things"] (defScope (top 34)) := ⟨by kernel_rfl, by kernel_rfl, by kernel_rfl, by decide +kernel, rfl, by decide +kernel, by decide +kernel⟩
theorem ok__law_mixed (c : SaysX fas dfs gfs K) (X : K.In h) (G : h.Ns mainGlobals mg) (d__law_pick : Defd P0 w K mg base Cl "_law_pick" 2 1 f__law_pick) : Defd P0 w K mg base Cl "_law_mixed" 2 2 f__law_mixed := by
  obtain ⟨fd, F⟩ := def_gd c 27 (top 34) "_law_mixed" (by kernel_rfl)
  have h_len : mg "len" = none := fa_free c X G 57 "len" (by kernel_rfl)
  have h_list : mg "list" = none := fa_free c X G 58 "list" (by kernel_rfl)
  have h_range : mg "range" = none := fa_free c X G 61 "range" (by kernel_rfl)
  refine @Defd.mk' P0 w K mg base Cl "_law_mixed" "_law_mixed" (defArgs (top 34)) (defBody (top 34)) (defScope (top 34)) [] _ fd ["source", "things", "rest", "lap"] ["source", "things"] 2 1 b__law_mixed (fa_glo c X G 27 "_law_mixed" (by kernel_rfl)) F sc__law_mixed rfl (fun _ _ _ _ _ _ us hl => match us, hl with | [_, _], _ => by kernel_rfl) fun cdv A outer s H E hr => ?_
  have hu := hr.units
  have nd := sc__law_mixed.nd
  have calm : (cxD P0 w K mg base ["source", "things", "rest", "lap"] "_law_mixed" (defScope (top 34)) (He.ga K "_law_mixed") cdv A outer s H E).calm = true := rfl
  have tk := takes_of (X := cxD P0 w K mg base ["source", "things", "rest", "lap"] "_law_mixed" (defScope (top 34)) (He.ga K "_law_mixed") cdv A outer s H E) rfl rfl rfl rfl
  have po := passes_of (X := cxD P0 w K mg base ["source", "things", "rest", "lap"] "_law_mixed" (defScope (top 34)) (He.ga K "_law_mixed") cdv A outer s H E) rfl
  exact s_seq (s_st nd (by kernel_rfl) (s_list (gl_of (by kernel_rfl)) h_list (s_cons (s_v (by kernel_rfl)) (s_nil) rfl) rfl rfl) rfl (.inl rfl)) (s_one (s_ret (s_lc (own := [("lap", 3)]) calm nd (s_rg1 (gl_of (by kernel_rfl)) h_range (s_len (gl_of (by kernel_rfl)) h_len (s_cons (s_v (by kernel_rfl)) (s_nil) rfl) rfl rfl) rfl) (blk_of (by kernel_rfl)) (fun s H C cl fp => (g_nm nd (by kernel_rfl) (.inr (by kernel_rfl)))) (fun s H C cl fp => (s_pts0)) (fun s H C cl fp => (s_pop (s_v (by kernel_rfl)) (s_cons (s_fn (d__law_pick.up (by decide)) hr (gl_of (by kernel_rfl)) takes0 (s_cons (s_v (by kernel_rfl)) (s_cons (s_len (gl_of (by kernel_rfl)) h_len (s_cons (s_v (by kernel_rfl)) (s_nil) rfl) rfl rfl) (s_nil) rfl) rfl) (by decide) rfl rfl) (s_nil) rfl) rfl rfl rfl)) (by decide) (fun _ => rfl))))
theorem sc__law_least : FnScope ["a", "b", "one", "other"] ["a", "b"] (defScope (top 35)) := ⟨by kernel_rfl, by kernel_rfl, by kernel_rfl, by decide +kernel, rfl, by decide +kernel, by decide +kernel⟩
theorem ok__law_least (c : SaysX fas dfs gfs K) (X : K.In h) (G : h.Ns mainGlobals mg) : Defd P0 w K mg base Cl "_law_least" 2 1 f__law_least := by
  obtain ⟨fd, F⟩ := def_gd c 28 (top 35) "_law_least" (by kernel_rfl)
  have h_abs : mg "abs" = none := fa_free c X G 51 "abs" (by kernel_rfl)
  have h_int : mg "int" = none := fa_free c X G 55 "int" (by kernel_rfl)
  refine @Defd.mk' P0 w K mg base Cl "_law_least" "_law_least" (defArgs (top 35)) (defBody (top 35)) (defScope (top 35)) [] _ fd ["a", "b", "one", "other"] ["a", "b"] 2 0 b__law_least (fa_glo c X G 28 "_law_least" (by kernel_rfl)) F sc__law_least rfl (fun _ _ _ _ _ _ us hl => match us, hl with | [_, _], _ => by kernel_rfl) fun cdv A outer s H E hr => ?_
  have hu := hr.units
  have nd := sc__law_least.nd
  have calm : (cxD P0 w K mg base ["a", "b", "one", "other"] "_law_least" (defScope (top 35)) (He.ga K "_law_least") cdv A outer s H E).calm = true := rfl
  have tk := takes_of (X := cxD P0 w K mg base ["a", "b", "one", "other"] "_law_least" (defScope (top 35)) (He.ga K "_law_least") cdv A outer s H E) rfl rfl rfl rfl
  have po := passes_of (X := cxD P0 w K mg base ["a", "b", "one", "other"] "_law_least" (defScope (top 35)) (He.ga K "_law_least") cdv A outer s H E) rfl
  exact s_seq (s_par calm nd rfl rfl (by decide) (by kernel_rfl) (by kernel_rfl) (s_cons (s_abs (gl_of (by kernel_rfl)) h_abs (s_cons (s_v (by kernel_rfl)) (s_nil) rfl) rfl rfl) (s_cons (s_abs (gl_of (by kernel_rfl)) h_abs (s_cons (s_v (by kernel_rfl)) (s_nil) rfl) rfl rfl) (s_nil) rfl) rfl) (by kernel_rfl)) (s_seq (s_wh po (t_ne hu (s_v (by kernel_rfl)) (s_int) rfl) (s_one (s_par calm nd rfl rfl (by decide) (by kernel_rfl) (by kernel_rfl) (s_cons (s_v (by kernel_rfl)) (s_cons (s_mod (s_intc (gl_of (by kernel_rfl)) h_int (s_cons (s_v (by kernel_rfl)) (s_nil) rfl) rfl rfl) (s_v (by kernel_rfl))) (s_nil) rfl) rfl) (by kernel_rfl)))) (s_seq (s_st nd (by kernel_rfl) (s_ifE (t_gt hu (s_v (by kernel_rfl)) (s_int) rfl) (s_v (by kernel_rfl)) (s_sub (s_int) (s_v (by kernel_rfl)))) rfl (.inl rfl)) (s_one (s_ret (s_tup (s_cons (s_fdv (s_v (by kernel_rfl)) (s_v (by kernel_rfl))) (s_cons (s_fdv (s_v (by kernel_rfl)) (s_v (by kernel_rfl))) (s_nil) rfl) rfl))))))
theorem sc__law_sum : FnScope ["one", "other"] ["one", "other"] (defScope (top 36)) := ⟨by kernel_rfl, by kernel_rfl, by kernel_rfl, by decide +kernel, rfl, by decide +kernel, by decide +kernel⟩
theorem ok__law_sum (c : SaysX fas dfs gfs K) (X : K.In h) (G : h.Ns mainGlobals mg) (d__law_least : Defd P0 w K mg base Cl "_law_least" 2 1 f__law_least) : Defd P0 w K mg base Cl "_law_sum" 2 2 f__law_sum := by
  obtain ⟨fd, F⟩ := def_gd c 29 (top 36) "_law_sum" (by kernel_rfl)
  refine @Defd.mk' P0 w K mg base Cl "_law_sum" "_law_sum" (defArgs (top 36)) (defBody (top 36)) (defScope (top 36)) [] _ fd ["one", "other"] ["one", "other"] 2 1 b__law_sum (fa_glo c X G 29 "_law_sum" (by kernel_rfl)) F sc__law_sum rfl (fun _ _ _ _ _ _ us hl => match us, hl with | [_, _], _ => by kernel_rfl) fun cdv A outer s H E hr => ?_
  have hu := hr.units
  have nd := sc__law_sum.nd
  have calm : (cxD P0 w K mg base ["one", "other"] "_law_sum" (defScope (top 36)) (He.ga K "_law_sum") cdv A outer s H E).calm = true := rfl
  have tk := takes_of (X := cxD P0 w K mg base ["one", "other"] "_law_sum" (defScope (top 36)) (He.ga K "_law_sum") cdv A outer s H E) rfl rfl rfl rfl
  have po := passes_of (X := cxD P0 w K mg base ["one", "other"] "_law_sum" (defScope (top 36)) (He.ga K "_law_sum") cdv A outer s H E) rfl
  exact s_one (s_ret (s_fn (d__law_least.up (by decide)) hr (gl_of (by kernel_rfl)) tk (s_cons (s_add (s_mul (s_idx hu (s_v (by kernel_rfl)) (s_int) (fun _ _ => rfl)) (s_idx hu (s_v (by kernel_rfl)) (s_int) (fun _ _ => rfl))) (s_mul (s_idx hu (s_v (by kernel_rfl)) (s_int) (fun _ _ => rfl)) (s_idx hu (s_v (by kernel_rfl)) (s_int) (fun _ _ => rfl)))) (s_cons (s_mul (s_idx hu (s_v (by kernel_rfl)) (s_int) (fun _ _ => rfl)) (s_idx hu (s_v (by kernel_rfl)) (s_int) (fun _ _ => rfl))) (s_nil) rfl) rfl) (by decide) rfl rfl))
theorem sc__law_times : FnScope ["one", "other"] ["one", "other"] (defScope (top 37)) := ⟨by kernel_rfl, by kernel_rfl, by kernel_rfl, by decide +kernel, rfl, by decide +kernel, by decide +kernel⟩
theorem ok__law_times (c : SaysX fas dfs gfs K) (X : K.In h) (G : h.Ns mainGlobals mg) (d__law_least : Defd P0 w K mg base Cl "_law_least" 2 1 f__law_least) : Defd P0 w K mg base Cl "_law_times" 2 2 f__law_times := by
  obtain ⟨fd, F⟩ := def_gd c 30 (top 37) "_law_times" (by kernel_rfl)
  refine @Defd.mk' P0 w K mg base Cl "_law_times" "_law_times" (defArgs (top 37)) (defBody (top 37)) (defScope (top 37)) [] _ fd ["one", "other"] ["one", "other"] 2 1 b__law_times (fa_glo c X G 30 "_law_times" (by kernel_rfl)) F sc__law_times rfl (fun _ _ _ _ _ _ us hl => match us, hl with | [_, _], _ => by kernel_rfl) fun cdv A outer s H E hr => ?_
  have hu := hr.units
  have nd := sc__law_times.nd
  have calm : (cxD P0 w K mg base ["one", "other"] "_law_times" (defScope (top 37)) (He.ga K "_law_times") cdv A outer s H E).calm = true := rfl
  have tk := takes_of (X := cxD P0 w K mg base ["one", "other"] "_law_times" (defScope (top 37)) (He.ga K "_law_times") cdv A outer s H E) rfl rfl rfl rfl
  have po := passes_of (X := cxD P0 w K mg base ["one", "other"] "_law_times" (defScope (top 37)) (He.ga K "_law_times") cdv A outer s H E) rfl
  exact s_one (s_ret (s_fn (d__law_least.up (by decide)) hr (gl_of (by kernel_rfl)) tk (s_cons (s_mul (s_idx hu (s_v (by kernel_rfl)) (s_int) (fun _ _ => rfl)) (s_idx hu (s_v (by kernel_rfl)) (s_int) (fun _ _ => rfl))) (s_cons (s_mul (s_idx hu (s_v (by kernel_rfl)) (s_int) (fun _ _ => rfl)) (s_idx hu (s_v (by kernel_rfl)) (s_int) (fun _ _ => rfl))) (s_nil) rfl) rfl) (by decide) rfl rfl))
theorem sc__law_minus : FnScope ["one", "other"] ["one", "other"] (defScope (top 38)) := ⟨by kernel_rfl, by kernel_rfl, by kernel_rfl, by decide +kernel, rfl, by decide +kernel, by decide +kernel⟩
theorem ok__law_minus (c : SaysX fas dfs gfs K) (X : K.In h) (G : h.Ns mainGlobals mg) (d__law_least : Defd P0 w K mg base Cl "_law_least" 2 1 f__law_least) : Defd P0 w K mg base Cl "_law_minus" 2 2 f__law_minus := by
  obtain ⟨fd, F⟩ := def_gd c 31 (top 38) "_law_minus" (by kernel_rfl)
  refine @Defd.mk' P0 w K mg base Cl "_law_minus" "_law_minus" (defArgs (top 38)) (defBody (top 38)) (defScope (top 38)) [] _ fd ["one", "other"] ["one", "other"] 2 1 b__law_minus (fa_glo c X G 31 "_law_minus" (by kernel_rfl)) F sc__law_minus rfl (fun _ _ _ _ _ _ us hl => match us, hl with | [_, _], _ => by kernel_rfl) fun cdv A outer s H E hr => ?_
  have hu := hr.units
  have nd := sc__law_minus.nd
  have calm : (cxD P0 w K mg base ["one", "other"] "_law_minus" (defScope (top 38)) (He.ga K "_law_minus") cdv A outer s H E).calm = true := rfl
  have tk := takes_of (X := cxD P0 w K mg base ["one", "other"] "_law_minus" (defScope (top 38)) (He.ga K "_law_minus") cdv A outer s H E) rfl rfl rfl rfl
  have po := passes_of (X := cxD P0 w K mg base ["one", "other"] "_law_minus" (defScope (top 38)) (He.ga K "_law_minus") cdv A outer s H E) rfl
  exact s_one (s_ret (s_fn (d__law_least.up (by decide)) hr (gl_of (by kernel_rfl)) tk (s_cons (s_sub (s_mul (s_idx hu (s_v (by kernel_rfl)) (s_int) (fun _ _ => rfl)) (s_idx hu (s_v (by kernel_rfl)) (s_int) (fun _ _ => rfl))) (s_mul (s_idx hu (s_v (by kernel_rfl)) (s_int) (fun _ _ => rfl)) (s_idx hu (s_v (by kernel_rfl)) (s_int) (fun _ _ => rfl)))) (s_cons (s_mul (s_idx hu (s_v (by kernel_rfl)) (s_int) (fun _ _ => rfl)) (s_idx hu (s_v (by kernel_rfl)) (s_int) (fun _ _ => rfl))) (s_nil) rfl) rfl) (by decide) rfl rfl))
theorem sc__law_is_below : FnScope ["one", "other"] ["one", "other"] (defScope (top 39)) := ⟨by kernel_rfl, by kernel_rfl, by kernel_rfl, by decide +kernel, rfl, by decide +kernel, by decide +kernel⟩
theorem ok__law_is_below (c : SaysX fas dfs gfs K) (X : K.In h) (G : h.Ns mainGlobals mg) : Defd P0 w K mg base Cl "_law_is_below" 2 1 f__law_is_below := by
  obtain ⟨fd, F⟩ := def_gd c 32 (top 39) "_law_is_below" (by kernel_rfl)
  refine @Defd.mk' P0 w K mg base Cl "_law_is_below" "_law_is_below" (defArgs (top 39)) (defBody (top 39)) (defScope (top 39)) [] _ fd ["one", "other"] ["one", "other"] 2 0 b__law_is_below (fa_glo c X G 32 "_law_is_below" (by kernel_rfl)) F sc__law_is_below rfl (fun _ _ _ _ _ _ us hl => match us, hl with | [_, _], _ => by kernel_rfl) fun cdv A outer s H E hr => ?_
  have hu := hr.units
  have nd := sc__law_is_below.nd
  have calm : (cxD P0 w K mg base ["one", "other"] "_law_is_below" (defScope (top 39)) (He.ga K "_law_is_below") cdv A outer s H E).calm = true := rfl
  have tk := takes_of (X := cxD P0 w K mg base ["one", "other"] "_law_is_below" (defScope (top 39)) (He.ga K "_law_is_below") cdv A outer s H E) rfl rfl rfl rfl
  have po := passes_of (X := cxD P0 w K mg base ["one", "other"] "_law_is_below" (defScope (top 39)) (He.ga K "_law_is_below") cdv A outer s H E) rfl
  exact s_one (s_ret (s_lt hu (s_mul (s_idx hu (s_v (by kernel_rfl)) (s_int) (fun _ _ => rfl)) (s_idx hu (s_v (by kernel_rfl)) (s_int) (fun _ _ => rfl))) (s_mul (s_idx hu (s_v (by kernel_rfl)) (s_int) (fun _ _ => rfl)) (s_idx hu (s_v (by kernel_rfl)) (s_int) (fun _ _ => rfl))) rfl))
theorem sc__law_value : FnScope ["form", "point", "found", "number", "one"] ["form", "point"] (defScope (top 40)) := ⟨by kernel_rfl, by kernel_rfl, by kernel_rfl, by decide +kernel, rfl, by decide +kernel, by decide +kernel⟩
theorem ok__law_value (c : SaysX fas dfs gfs K) (X : K.In h) (G : h.Ns mainGlobals mg) (d__law_sum : Defd P0 w K mg base Cl "_law_sum" 2 2 f__law_sum) : Defd P0 w K mg base Cl "_law_value" 2 3 f__law_value := by
  obtain ⟨fd, F⟩ := def_gd c 33 (top 40) "_law_value" (by kernel_rfl)
  have h_zip : mg "zip" = none := fa_free c X G 66 "zip" (by kernel_rfl)
  refine @Defd.mk' P0 w K mg base Cl "_law_value" "_law_value" (defArgs (top 40)) (defBody (top 40)) (defScope (top 40)) [] _ fd ["form", "point", "found", "number", "one"] ["form", "point"] 2 2 b__law_value (fa_glo c X G 33 "_law_value" (by kernel_rfl)) F sc__law_value rfl (fun _ _ _ _ _ _ us hl => match us, hl with | [_, _], _ => by kernel_rfl) fun cdv A outer s H E hr => ?_
  have hu := hr.units
  have nd := sc__law_value.nd
  have calm : (cxD P0 w K mg base ["form", "point", "found", "number", "one"] "_law_value" (defScope (top 40)) (He.ga K "_law_value") cdv A outer s H E).calm = true := rfl
  have tk := takes_of (X := cxD P0 w K mg base ["form", "point", "found", "number", "one"] "_law_value" (defScope (top 40)) (He.ga K "_law_value") cdv A outer s H E) rfl rfl rfl rfl
  have po := passes_of (X := cxD P0 w K mg base ["form", "point", "found", "number", "one"] "_law_value" (defScope (top 40)) (He.ga K "_law_value") cdv A outer s H E) rfl
  exact s_seq (s_st nd (by kernel_rfl) (s_tup (s_cons (s_idx hu (s_v (by kernel_rfl)) (s_int) (fun _ _ => rfl)) (s_cons (s_int) (s_nil) rfl) rfl)) rfl (.inl rfl)) (s_seq (s_for po calm (s_z (gl_of (by kernel_rfl)) h_zip (s_sl (s_v (by kernel_rfl)) (s_poS (s_int)) s_poN) (s_v (by kernel_rfl)) rfl rfl) (g_tp calm (g_cons (g_nm nd (by kernel_rfl) (.inl rfl)) (g_cons (g_nm nd (by kernel_rfl) (.inl rfl)) (g_nil) rfl) rfl) rfl rfl) (s_one (s_st nd (by kernel_rfl) (s_fn (d__law_sum.up (by decide)) hr (gl_of (by kernel_rfl)) tk (s_cons (s_v (by kernel_rfl)) (s_cons (s_ifE (t_ne hu (s_v (by kernel_rfl)) (s_int) rfl) (s_tup (s_cons (s_mul (s_v (by kernel_rfl)) (s_idx hu (s_v (by kernel_rfl)) (s_int) (fun _ _ => rfl))) (s_cons (s_idx hu (s_v (by kernel_rfl)) (s_int) (fun _ _ => rfl)) (s_nil) rfl) rfl)) (s_tup (s_cons (s_int) (s_cons (s_int) (s_nil) rfl) rfl))) (s_nil) rfl) rfl) (by decide) rfl rfl) rfl (.inl rfl))) (fun _ => rfl)) (s_one (s_ret (s_v (by kernel_rfl)))))
theorem sc__law_common : FnScope ["a", "b", "one", "other"] ["a", "b"] (defScope (top 41)) := ⟨by kernel_rfl, by kernel_rfl, by kernel_rfl, by decide +kernel, rfl, by decide +kernel, by decide +kernel⟩
theorem ok__law_common (c : SaysX fas dfs gfs K) (X : K.In h) (G : h.Ns mainGlobals mg) : Defd P0 w K mg base Cl "_law_common" 2 1 f__law_common := by
  obtain ⟨fd, F⟩ := def_gd c 34 (top 41) "_law_common" (by kernel_rfl)
  have h_abs : mg "abs" = none := fa_free c X G 51 "abs" (by kernel_rfl)
  have h_int : mg "int" = none := fa_free c X G 55 "int" (by kernel_rfl)
  refine @Defd.mk' P0 w K mg base Cl "_law_common" "_law_common" (defArgs (top 41)) (defBody (top 41)) (defScope (top 41)) [] _ fd ["a", "b", "one", "other"] ["a", "b"] 2 0 b__law_common (fa_glo c X G 34 "_law_common" (by kernel_rfl)) F sc__law_common rfl (fun _ _ _ _ _ _ us hl => match us, hl with | [_, _], _ => by kernel_rfl) fun cdv A outer s H E hr => ?_
  have hu := hr.units
  have nd := sc__law_common.nd
  have calm : (cxD P0 w K mg base ["a", "b", "one", "other"] "_law_common" (defScope (top 41)) (He.ga K "_law_common") cdv A outer s H E).calm = true := rfl
  have tk := takes_of (X := cxD P0 w K mg base ["a", "b", "one", "other"] "_law_common" (defScope (top 41)) (He.ga K "_law_common") cdv A outer s H E) rfl rfl rfl rfl
  have po := passes_of (X := cxD P0 w K mg base ["a", "b", "one", "other"] "_law_common" (defScope (top 41)) (He.ga K "_law_common") cdv A outer s H E) rfl
  exact s_seq (s_par calm nd rfl rfl (by decide) (by kernel_rfl) (by kernel_rfl) (s_cons (s_abs (gl_of (by kernel_rfl)) h_abs (s_cons (s_v (by kernel_rfl)) (s_nil) rfl) rfl rfl) (s_cons (s_abs (gl_of (by kernel_rfl)) h_abs (s_cons (s_v (by kernel_rfl)) (s_nil) rfl) rfl rfl) (s_nil) rfl) rfl) (by kernel_rfl)) (s_seq (s_wh po (t_ne hu (s_v (by kernel_rfl)) (s_int) rfl) (s_one (s_par calm nd rfl rfl (by decide) (by kernel_rfl) (by kernel_rfl) (s_cons (s_v (by kernel_rfl)) (s_cons (s_mod (s_intc (gl_of (by kernel_rfl)) h_int (s_cons (s_v (by kernel_rfl)) (s_nil) rfl) rfl rfl) (s_v (by kernel_rfl))) (s_nil) rfl) rfl) (by kernel_rfl)))) (s_one (s_ret (s_v (by kernel_rfl)))))
theorem sc__law_slack_list : FnScope ["contact", "standing", "form", "side"] ["contact", "standing"] (defScope (top 42)) := ⟨by kernel_rfl, by kernel_rfl, by kernel_rfl, by decide +kernel, rfl, by decide +kernel, by decide +kernel⟩
theorem ok__law_slack_list (c : SaysX fas dfs gfs K) (X : K.In h) (G : h.Ns mainGlobals mg) (d__law_times : Defd P0 w K mg base Cl "_law_times" 2 2 f__law_times) (d__law_value : Defd P0 w K mg base Cl "_law_value" 2 3 f__law_value) : Defd P0 w K mg base Cl "_law_slack_list" 2 4 f__law_slack_list := by
  obtain ⟨fd, F⟩ := def_gd c 35 (top 42) "_law_slack_list" (by kernel_rfl)
  refine @Defd.mk' P0 w K mg base Cl "_law_slack_list" "_law_slack_list" (defArgs (top 42)) (defBody (top 42)) (defScope (top 42)) [] _ fd ["contact", "standing", "form", "side"] ["contact", "standing"] 2 3 b__law_slack_list (fa_glo c X G 35 "_law_slack_list" (by kernel_rfl)) F sc__law_slack_list rfl (fun _ _ _ _ _ _ us hl => match us, hl with | [_, _], _ => by kernel_rfl) fun cdv A outer s H E hr => ?_
  have hu := hr.units
  have nd := sc__law_slack_list.nd
  have calm : (cxD P0 w K mg base ["contact", "standing", "form", "side"] "_law_slack_list" (defScope (top 42)) (He.ga K "_law_slack_list") cdv A outer s H E).calm = true := rfl
  have tk := takes_of (X := cxD P0 w K mg base ["contact", "standing", "form", "side"] "_law_slack_list" (defScope (top 42)) (He.ga K "_law_slack_list") cdv A outer s H E) rfl rfl rfl rfl
  have po := passes_of (X := cxD P0 w K mg base ["contact", "standing", "form", "side"] "_law_slack_list" (defScope (top 42)) (He.ga K "_law_slack_list") cdv A outer s H E) rfl
  exact s_one (s_ret (s_lc (own := [("form", 2), ("side", 3)]) calm nd (s_it (s_v (by kernel_rfl))) (blk_of (by kernel_rfl)) (fun s H C cl fp => (g_tp calm (g_cons (g_nm nd (by kernel_rfl) (.inr (by kernel_rfl))) (g_cons (g_nm nd (by kernel_rfl) (.inr (by kernel_rfl))) (g_nil) rfl) rfl) rfl rfl)) (fun s H C cl fp => (s_pts0)) (fun s H C cl fp => (s_fn (d__law_times.up (by decide)) hr (gl_of (by kernel_rfl)) takes0 (s_cons (s_tup (s_cons (s_sub (s_int) (s_v (by kernel_rfl))) (s_cons (s_int) (s_nil) rfl) rfl)) (s_cons (s_fn (d__law_value.up (by decide)) hr (gl_of (by kernel_rfl)) takes0 (s_cons (s_v (by kernel_rfl)) (s_cons (s_v (by kernel_rfl)) (s_nil) rfl) rfl) (by decide) rfl rfl) (s_nil) rfl) rfl) (by decide) rfl rfl)) (by decide) (fun _ => rfl)))
theorem sc__law_most : FnScope ["some", "found", "one"] ["some"] (defScope (top 43)) := ⟨by kernel_rfl, by kernel_rfl, by kernel_rfl, by decide +kernel, rfl, by decide +kernel, by decide +kernel⟩
theorem ok__law_most (c : SaysX fas dfs gfs K) (X : K.In h) (G : h.Ns mainGlobals mg) (d__law_is_below : Defd P0 w K mg base Cl "_law_is_below" 2 1 f__law_is_below) : Defd P0 w K mg base Cl "_law_most" 1 2 f__law_most := by
  obtain ⟨fd, F⟩ := def_gd c 36 (top 43) "_law_most" (by kernel_rfl)
  refine @Defd.mk' P0 w K mg base Cl "_law_most" "_law_most" (defArgs (top 43)) (defBody (top 43)) (defScope (top 43)) [] _ fd ["some", "found", "one"] ["some"] 1 1 b__law_most (fa_glo c X G 36 "_law_most" (by kernel_rfl)) F sc__law_most rfl (fun _ _ _ _ _ _ us hl => match us, hl with | [_], _ => by kernel_rfl) fun cdv A outer s H E hr => ?_
  have hu := hr.units
  have nd := sc__law_most.nd
  have calm : (cxD P0 w K mg base ["some", "found", "one"] "_law_most" (defScope (top 43)) (He.ga K "_law_most") cdv A outer s H E).calm = true := rfl
  have tk := takes_of (X := cxD P0 w K mg base ["some", "found", "one"] "_law_most" (defScope (top 43)) (He.ga K "_law_most") cdv A outer s H E) rfl rfl rfl rfl
  have po := passes_of (X := cxD P0 w K mg base ["some", "found", "one"] "_law_most" (defScope (top 43)) (He.ga K "_law_most") cdv A outer s H E) rfl
  exact s_seq (s_st nd (by kernel_rfl) (s_idx hu (s_v (by kernel_rfl)) (s_int) (fun _ _ => rfl)) rfl (.inl rfl)) (s_seq (s_for po calm (s_it (s_v (by kernel_rfl))) (g_nm nd (by kernel_rfl) (.inl rfl)) (s_one (s_st nd (by kernel_rfl) (s_ifE (s_tru (s_fn (d__law_is_below.up (by decide)) hr (gl_of (by kernel_rfl)) tk (s_cons (s_v (by kernel_rfl)) (s_cons (s_v (by kernel_rfl)) (s_nil) rfl) rfl) (by decide) rfl rfl) (fun _ => rfl)) (s_v (by kernel_rfl)) (s_v (by kernel_rfl))) rfl (.inl rfl))) (fun _ => rfl)) (s_one (s_ret (s_v (by kernel_rfl)))))
theorem sc__law_fewest : FnScope ["some", "found", "one"] ["some"] (defScope (top 44)) := ⟨by kernel_rfl, by kernel_rfl, by kernel_rfl, by decide +kernel, rfl, by decide +kernel, by decide +kernel⟩
theorem ok__law_fewest (c : SaysX fas dfs gfs K) (X : K.In h) (G : h.Ns mainGlobals mg) (d__law_is_below : Defd P0 w K mg base Cl "_law_is_below" 2 1 f__law_is_below) : Defd P0 w K mg base Cl "_law_fewest" 1 2 f__law_fewest := by
  obtain ⟨fd, F⟩ := def_gd c 37 (top 44) "_law_fewest" (by kernel_rfl)
  refine @Defd.mk' P0 w K mg base Cl "_law_fewest" "_law_fewest" (defArgs (top 44)) (defBody (top 44)) (defScope (top 44)) [] _ fd ["some", "found", "one"] ["some"] 1 1 b__law_fewest (fa_glo c X G 37 "_law_fewest" (by kernel_rfl)) F sc__law_fewest rfl (fun _ _ _ _ _ _ us hl => match us, hl with | [_], _ => by kernel_rfl) fun cdv A outer s H E hr => ?_
  have hu := hr.units
  have nd := sc__law_fewest.nd
  have calm : (cxD P0 w K mg base ["some", "found", "one"] "_law_fewest" (defScope (top 44)) (He.ga K "_law_fewest") cdv A outer s H E).calm = true := rfl
  have tk := takes_of (X := cxD P0 w K mg base ["some", "found", "one"] "_law_fewest" (defScope (top 44)) (He.ga K "_law_fewest") cdv A outer s H E) rfl rfl rfl rfl
  have po := passes_of (X := cxD P0 w K mg base ["some", "found", "one"] "_law_fewest" (defScope (top 44)) (He.ga K "_law_fewest") cdv A outer s H E) rfl
  exact s_seq (s_st nd (by kernel_rfl) (s_idx hu (s_v (by kernel_rfl)) (s_int) (fun _ _ => rfl)) rfl (.inl rfl)) (s_seq (s_for po calm (s_it (s_v (by kernel_rfl))) (g_nm nd (by kernel_rfl) (.inl rfl)) (s_one (s_st nd (by kernel_rfl) (s_ifE (s_tru (s_fn (d__law_is_below.up (by decide)) hr (gl_of (by kernel_rfl)) tk (s_cons (s_v (by kernel_rfl)) (s_cons (s_v (by kernel_rfl)) (s_nil) rfl) rfl) (by decide) rfl rfl) (fun _ => rfl)) (s_v (by kernel_rfl)) (s_v (by kernel_rfl))) rfl (.inl rfl))) (fun _ => rfl)) (s_one (s_ret (s_v (by kernel_rfl)))))
theorem sc__law_at_moment : FnScope ["q", "r", "t", "one", "other"] ["q", "r", "t"] (defScope (top 45)) := ⟨by kernel_rfl, by kernel_rfl, by kernel_rfl, by decide +kernel, rfl, by decide +kernel, by decide +kernel⟩
theorem ok__law_at_moment (c : SaysX fas dfs gfs K) (X : K.In h) (G : h.Ns mainGlobals mg) (d__law_minus : Defd P0 w K mg base Cl "_law_minus" 2 2 f__law_minus) (d__law_sum : Defd P0 w K mg base Cl "_law_sum" 2 2 f__law_sum) (d__law_times : Defd P0 w K mg base Cl "_law_times" 2 2 f__law_times) : Defd P0 w K mg base Cl "_law_at_moment" 3 3 f__law_at_moment := by
  obtain ⟨fd, F⟩ := def_gd c 38 (top 45) "_law_at_moment" (by kernel_rfl)
  have h_tuple : mg "tuple" = none := fa_free c X G 65 "tuple" (by kernel_rfl)
  have h_zip : mg "zip" = none := fa_free c X G 66 "zip" (by kernel_rfl)
  refine @Defd.mk' P0 w K mg base Cl "_law_at_moment" "_law_at_moment" (defArgs (top 45)) (defBody (top 45)) (defScope (top 45)) [] _ fd ["q", "r", "t", "one", "other"] ["q", "r", "t"] 3 2 b__law_at_moment (fa_glo c X G 38 "_law_at_moment" (by kernel_rfl)) F sc__law_at_moment rfl (fun _ _ _ _ _ _ us hl => match us, hl with | [_, _, _], _ => by kernel_rfl) fun cdv A outer s H E hr => ?_
  have hu := hr.units
  have nd := sc__law_at_moment.nd
  have calm : (cxD P0 w K mg base ["q", "r", "t", "one", "other"] "_law_at_moment" (defScope (top 45)) (He.ga K "_law_at_moment") cdv A outer s H E).calm = true := rfl
  have tk := takes_of (X := cxD P0 w K mg base ["q", "r", "t", "one", "other"] "_law_at_moment" (defScope (top 45)) (He.ga K "_law_at_moment") cdv A outer s H E) rfl rfl rfl rfl
  have po := passes_of (X := cxD P0 w K mg base ["q", "r", "t", "one", "other"] "_law_at_moment" (defScope (top 45)) (He.ga K "_law_at_moment") cdv A outer s H E) rfl
  exact s_one (s_ret (s_tuple (gl_of (by kernel_rfl)) h_tuple (s_cons (s_lc (own := [("one", 3), ("other", 4)]) calm nd (s_z (gl_of (by kernel_rfl)) h_zip (s_v (by kernel_rfl)) (s_v (by kernel_rfl)) rfl rfl) (blk_of (by kernel_rfl)) (fun s H C cl fp => (g_tp calm (g_cons (g_nm nd (by kernel_rfl) (.inr (by kernel_rfl))) (g_cons (g_nm nd (by kernel_rfl) (.inr (by kernel_rfl))) (g_nil) rfl) rfl) rfl rfl)) (fun s H C cl fp => (s_pts0)) (fun s H C cl fp => (s_fn (d__law_sum.up (by decide)) hr (gl_of (by kernel_rfl)) takes0 (s_cons (s_v (by kernel_rfl)) (s_cons (s_fn (d__law_times.up (by decide)) hr (gl_of (by kernel_rfl)) takes0 (s_cons (s_fn (d__law_minus.up (by decide)) hr (gl_of (by kernel_rfl)) takes0 (s_cons (s_v (by kernel_rfl)) (s_cons (s_v (by kernel_rfl)) (s_nil) rfl) rfl) (by decide) rfl rfl) (s_cons (s_v (by kernel_rfl)) (s_nil) rfl) rfl) (by decide) rfl rfl) (s_nil) rfl) rfl) (by decide) rfl rfl)) (by decide) (fun _ => rfl)) (s_nil) rfl) rfl rfl))
theorem sc__law_moments : FnScope ["contact", "q", "r", "firsts", "lasts", "found", "rows", "k", "j", "one", "other", "rest", "t", "row"] ["contact", "q", "r"] (defScope (top 46)) := ⟨by kernel_rfl, by kernel_rfl, by kernel_rfl, by decide +kernel, rfl, by decide +kernel, by decide +kernel⟩
theorem ok__law_moments (c : SaysX fas dfs gfs K) (X : K.In h) (G : h.Ns mainGlobals mg) (d__law_fewest : Defd P0 w K mg base Cl "_law_fewest" 1 2 f__law_fewest) (d__law_is_below : Defd P0 w K mg base Cl "_law_is_below" 2 1 f__law_is_below) (d__law_least : Defd P0 w K mg base Cl "_law_least" 2 1 f__law_least) (d__law_minus : Defd P0 w K mg base Cl "_law_minus" 2 2 f__law_minus) (d__law_slack_list : Defd P0 w K mg base Cl "_law_slack_list" 2 4 f__law_slack_list) : Defd P0 w K mg base Cl "_law_moments" 3 5 f__law_moments := by
  obtain ⟨fd, F⟩ := def_gd c 39 (top 46) "_law_moments" (by kernel_rfl)
  have h_len : mg "len" = none := fa_free c X G 57 "len" (by kernel_rfl)
  have h_list : mg "list" = none := fa_free c X G 58 "list" (by kernel_rfl)
  have h_range : mg "range" = none := fa_free c X G 61 "range" (by kernel_rfl)
  refine @Defd.mk' P0 w K mg base Cl "_law_moments" "_law_moments" (defArgs (top 46)) (defBody (top 46)) (defScope (top 46)) [] _ fd ["contact", "q", "r", "firsts", "lasts", "found", "rows", "k", "j", "one", "other", "rest", "t", "row"] ["contact", "q", "r"] 3 4 b__law_moments (fa_glo c X G 39 "_law_moments" (by kernel_rfl)) F sc__law_moments rfl (fun _ _ _ _ _ _ us hl => match us, hl with | [_, _, _], _ => by kernel_rfl) fun cdv A outer s H E hr => ?_
  have hu := hr.units
  have nd := sc__law_moments.nd
  have calm : (cxD P0 w K mg base ["contact", "q", "r", "firsts", "lasts", "found", "rows", "k", "j", "one", "other", "rest", "t", "row"] "_law_moments" (defScope (top 46)) (He.ga K "_law_moments") cdv A outer s H E).calm = true := rfl
  have tk := takes_of (X := cxD P0 w K mg base ["contact", "q", "r", "firsts", "lasts", "found", "rows", "k", "j", "one", "other", "rest", "t", "row"] "_law_moments" (defScope (top 46)) (He.ga K "_law_moments") cdv A outer s H E) rfl rfl rfl rfl
  have po := passes_of (X := cxD P0 w K mg base ["contact", "q", "r", "firsts", "lasts", "found", "rows", "k", "j", "one", "other", "rest", "t", "row"] "_law_moments" (defScope (top 46)) (He.ga K "_law_moments") cdv A outer s H E) rfl
  exact s_seq (s_as (s_tup (s_cons (s_fn (d__law_slack_list.up (by decide)) hr (gl_of (by kernel_rfl)) tk (s_cons (s_v (by kernel_rfl)) (s_cons (s_v (by kernel_rfl)) (s_nil) rfl) rfl) (by decide) rfl rfl) (s_cons (s_fn (d__law_slack_list.up (by decide)) hr (gl_of (by kernel_rfl)) tk (s_cons (s_v (by kernel_rfl)) (s_cons (s_v (by kernel_rfl)) (s_nil) rfl) rfl) (by decide) rfl rfl) (s_cons (s_lst (s_cons (s_tup (s_cons (s_int) (s_cons (s_int) (s_nil) rfl) rfl)) (s_cons (s_tup (s_cons (s_int) (s_cons (s_int) (s_nil) rfl) rfl)) (s_nil) rfl) rfl)) (s_nil) rfl) rfl) rfl)) (g_tp calm (g_cons (g_nm nd (by kernel_rfl) (.inl rfl)) (g_cons (g_nm nd (by kernel_rfl) (.inl rfl)) (g_cons (g_nm nd (by kernel_rfl) (.inl rfl)) (g_nil) rfl) rfl) rfl) rfl rfl) rfl (by kernel_rfl) rfl) (s_seq (s_setLc (own := [("k", 7)]) calm nd rfl (by kernel_rfl) (by kernel_rfl) (s_rg1 (gl_of (by kernel_rfl)) h_range (s_len (gl_of (by kernel_rfl)) h_len (s_cons (s_v (by kernel_rfl)) (s_nil) rfl) rfl rfl) rfl) (blk_of (by kernel_rfl)) (fun s H C cl fp => (g_nm nd (by kernel_rfl) (.inr (by kernel_rfl)))) (fun s H C cl fp => (s_pts0)) (fun s H C cl fp => (s_tup (s_cons (s_idx hu (s_v (by kernel_rfl)) (s_v (by kernel_rfl)) (fun _ _ => rfl)) (s_cons (s_idx hu (s_v (by kernel_rfl)) (s_v (by kernel_rfl)) (fun _ _ => rfl)) (s_nil) rfl) rfl))) (by decide) (fun _ => rfl)) (s_seq (s_for po calm (s_rg1 (gl_of (by kernel_rfl)) h_range (s_len (gl_of (by kernel_rfl)) h_len (s_cons (s_v (by kernel_rfl)) (s_nil) rfl) rfl rfl) rfl) (g_nm nd (by kernel_rfl) (.inl rfl)) (s_one (s_st nd (by kernel_rfl) (s_add (s_v (by kernel_rfl)) (s_lc (own := [("j", 8)]) calm nd (s_rg1 (gl_of (by kernel_rfl)) h_range (s_v (by kernel_rfl)) rfl) (blk_of (by kernel_rfl)) (fun s H C cl fp => (g_nm nd (by kernel_rfl) (.inr (by kernel_rfl)))) (fun s H C cl fp => (s_pts0)) (fun s H C cl fp => (s_tup (s_cons (s_fn (d__law_minus.up (by decide)) hr (gl_of (by kernel_rfl)) takes0 (s_cons (s_idx hu (s_v (by kernel_rfl)) (s_v (by kernel_rfl)) (fun _ _ => rfl)) (s_cons (s_idx hu (s_v (by kernel_rfl)) (s_v (by kernel_rfl)) (fun _ _ => rfl)) (s_nil) rfl) rfl) (by decide) rfl rfl) (s_cons (s_fn (d__law_minus.up (by decide)) hr (gl_of (by kernel_rfl)) takes0 (s_cons (s_idx hu (s_v (by kernel_rfl)) (s_v (by kernel_rfl)) (fun _ _ => rfl)) (s_cons (s_idx hu (s_v (by kernel_rfl)) (s_v (by kernel_rfl)) (fun _ _ => rfl)) (s_nil) rfl) rfl) (by decide) rfl rfl) (s_nil) rfl) rfl))) (by decide) (fun _ => rfl))) rfl (.inl rfl))) (fun _ => rfl)) (s_seq (s_for po calm (s_it (s_v (by kernel_rfl))) (g_tp calm (g_cons (g_nm nd (by kernel_rfl) (.inl rfl)) (g_cons (g_nm nd (by kernel_rfl) (.inl rfl)) (g_nil) rfl) rfl) rfl rfl) (s_seq (s_st nd (by kernel_rfl) (s_fn (d__law_minus.up (by decide)) hr (gl_of (by kernel_rfl)) tk (s_cons (s_v (by kernel_rfl)) (s_cons (s_v (by kernel_rfl)) (s_nil) rfl) rfl) (by decide) rfl rfl) rfl (.inl rfl)) (s_seq (s_st nd (by kernel_rfl) (s_ifE (t_ne hu (s_idx hu (s_v (by kernel_rfl)) (s_int) (fun _ _ => rfl)) (s_int) rfl) (s_fn (d__law_least.up (by decide)) hr (gl_of (by kernel_rfl)) tk (s_cons (s_mul (s_idx hu (s_v (by kernel_rfl)) (s_int) (fun _ _ => rfl)) (s_idx hu (s_v (by kernel_rfl)) (s_int) (fun _ _ => rfl))) (s_cons (s_mul (s_idx hu (s_v (by kernel_rfl)) (s_int) (fun _ _ => rfl)) (s_idx hu (s_v (by kernel_rfl)) (s_int) (fun _ _ => rfl))) (s_nil) rfl) rfl) (by decide) rfl rfl) (s_tup (s_cons (s_int) (s_cons (s_int) (s_nil) rfl) rfl))) rfl (.inl rfl)) (s_one (s_if (PW.pt (s_andT (s_notT (s_tru (s_fn (d__law_is_below.up (by decide)) hr (gl_of (by kernel_rfl)) tk (s_cons (s_v (by kernel_rfl)) (s_cons (s_tup (s_cons (s_int) (s_cons (s_int) (s_nil) rfl) rfl)) (s_nil) rfl) rfl) (by decide) rfl rfl) (fun _ => rfl))) (s_andT (s_notT (s_tru (s_fn (d__law_is_below.up (by decide)) hr (gl_of (by kernel_rfl)) tk (s_cons (s_tup (s_cons (s_int) (s_cons (s_int) (s_nil) rfl) rfl)) (s_cons (s_v (by kernel_rfl)) (s_nil) rfl) rfl) (by decide) rfl rfl) (fun _ => rfl))) (s_and1 (t_ni hu (s_v (by kernel_rfl)) (s_v (by kernel_rfl)) rfl))))) (s_one (s_drop (s_append (s_v (by kernel_rfl)) (s_cons (s_v (by kernel_rfl)) (s_nil) rfl) rfl rfl rfl) rfl)) (s_end))))) (fun _ => rfl)) (s_seq (s_par calm nd rfl rfl (by decide) (by kernel_rfl) (by kernel_rfl) (s_cons (s_list (gl_of (by kernel_rfl)) h_list (s_cons (s_v (by kernel_rfl)) (s_nil) rfl) rfl rfl) (s_cons (s_lst (s_nil)) (s_nil) rfl) rfl) (by kernel_rfl)) (s_seq (s_wh po (t_ne hu (s_v (by kernel_rfl)) (s_lst (s_nil)) rfl) (s_seq (s_drop (s_append (s_v (by kernel_rfl)) (s_cons (s_fn (d__law_fewest.up (by decide)) hr (gl_of (by kernel_rfl)) tk (s_cons (s_v (by kernel_rfl)) (s_nil) rfl) (by decide) rfl rfl) (s_nil) rfl) rfl rfl rfl) rfl) (s_one (s_drop (s_remove hu (s_v (by kernel_rfl)) (s_cons (s_idx hu (s_v (by kernel_rfl)) (s_neg (s_int)) (fun _ _ => rfl)) (s_nil) rfl) rfl rfl rfl) rfl)))) (s_one (s_ret (s_v (by kernel_rfl)))))))))
theorem sc__law_span : FnScope ["contact", "q", "r", "row", "found", "k", "middle"] ["contact", "q", "r"] (defScope (top 47)) := ⟨by kernel_rfl, by kernel_rfl, by kernel_rfl, by decide +kernel, rfl, by decide +kernel, by decide +kernel⟩
theorem ok__law_span (c : SaysX fas dfs gfs K) (X : K.In h) (G : h.Ns mainGlobals mg) (d__law_at_moment : Defd P0 w K mg base Cl "_law_at_moment" 3 3 f__law_at_moment) (d__law_moments : Defd P0 w K mg base Cl "_law_moments" 3 5 f__law_moments) (d__law_most : Defd P0 w K mg base Cl "_law_most" 1 2 f__law_most) (d__law_slack_list : Defd P0 w K mg base Cl "_law_slack_list" 2 4 f__law_slack_list) (d__law_sum : Defd P0 w K mg base Cl "_law_sum" 2 2 f__law_sum) (d__law_times : Defd P0 w K mg base Cl "_law_times" 2 2 f__law_times) : Defd P0 w K mg base Cl "_law_span" 3 6 f__law_span := by
  obtain ⟨fd, F⟩ := def_gd c 40 (top 47) "_law_span" (by kernel_rfl)
  have h_len : mg "len" = none := fa_free c X G 57 "len" (by kernel_rfl)
  have h_range : mg "range" = none := fa_free c X G 61 "range" (by kernel_rfl)
  refine @Defd.mk' P0 w K mg base Cl "_law_span" "_law_span" (defArgs (top 47)) (defBody (top 47)) (defScope (top 47)) [] _ fd ["contact", "q", "r", "row", "found", "k", "middle"] ["contact", "q", "r"] 3 5 b__law_span (fa_glo c X G 40 "_law_span" (by kernel_rfl)) F sc__law_span rfl (fun _ _ _ _ _ _ us hl => match us, hl with | [_, _, _], _ => by kernel_rfl) fun cdv A outer s H E hr => ?_
  have hu := hr.units
  have nd := sc__law_span.nd
  have calm : (cxD P0 w K mg base ["contact", "q", "r", "row", "found", "k", "middle"] "_law_span" (defScope (top 47)) (He.ga K "_law_span") cdv A outer s H E).calm = true := rfl
  have tk := takes_of (X := cxD P0 w K mg base ["contact", "q", "r", "row", "found", "k", "middle"] "_law_span" (defScope (top 47)) (He.ga K "_law_span") cdv A outer s H E) rfl rfl rfl rfl
  have po := passes_of (X := cxD P0 w K mg base ["contact", "q", "r", "row", "found", "k", "middle"] "_law_span" (defScope (top 47)) (He.ga K "_law_span") cdv A outer s H E) rfl
  exact s_seq (s_if (t_eq hu (s_v (by kernel_rfl)) (s_tup (s_nil)) rfl) (s_one (s_ret (s_tup (s_cons (s_tup (s_cons (s_int) (s_cons (s_int) (s_nil) rfl) rfl)) (s_cons (s_tup (s_cons (s_int) (s_cons (s_int) (s_nil) rfl) rfl)) (s_nil) rfl) rfl)))) (s_end)) (s_seq (s_par calm nd rfl rfl (by decide) (by kernel_rfl) (by kernel_rfl) (s_cons (s_fn (d__law_moments.up (by decide)) hr (gl_of (by kernel_rfl)) tk (s_cons (s_v (by kernel_rfl)) (s_cons (s_v (by kernel_rfl)) (s_cons (s_v (by kernel_rfl)) (s_nil) rfl) rfl) rfl) (by decide) rfl rfl) (s_cons (s_lst (s_nil)) (s_nil) rfl) rfl) (by kernel_rfl)) (s_seq (s_for po calm (s_rg2 (gl_of (by kernel_rfl)) h_range (s_int) (s_len (gl_of (by kernel_rfl)) h_len (s_cons (s_v (by kernel_rfl)) (s_nil) rfl) rfl rfl) rfl rfl) (g_nm nd (by kernel_rfl) (.inl rfl)) (s_seq (s_st nd (by kernel_rfl) (s_fn (d__law_times.up (by decide)) hr (gl_of (by kernel_rfl)) tk (s_cons (s_fn (d__law_sum.up (by decide)) hr (gl_of (by kernel_rfl)) tk (s_cons (s_idx hu (s_v (by kernel_rfl)) (s_sub (s_v (by kernel_rfl)) (s_int)) (fun _ _ => rfl)) (s_cons (s_idx hu (s_v (by kernel_rfl)) (s_v (by kernel_rfl)) (fun _ _ => rfl)) (s_nil) rfl) rfl) (by decide) rfl rfl) (s_cons (s_tup (s_cons (s_int) (s_cons (s_int) (s_nil) rfl) rfl)) (s_nil) rfl) rfl) (by decide) rfl rfl) rfl (.inl rfl)) (s_one (s_if (t_lt hu (s_idx hu (s_fn (d__law_most.up (by decide)) hr (gl_of (by kernel_rfl)) tk (s_cons (s_fn (d__law_slack_list.up (by decide)) hr (gl_of (by kernel_rfl)) tk (s_cons (s_v (by kernel_rfl)) (s_cons (s_fn (d__law_at_moment.up (by decide)) hr (gl_of (by kernel_rfl)) tk (s_cons (s_v (by kernel_rfl)) (s_cons (s_v (by kernel_rfl)) (s_cons (s_v (by kernel_rfl)) (s_nil) rfl) rfl) rfl) (by decide) rfl rfl) (s_nil) rfl) rfl) (by decide) rfl rfl) (s_nil) rfl) (by decide) rfl rfl) (s_int) (fun _ _ => rfl)) (s_int) rfl) (s_one (s_st nd (by kernel_rfl) (s_add (s_v (by kernel_rfl)) (s_lst (s_cons (s_idx hu (s_v (by kernel_rfl)) (s_sub (s_v (by kernel_rfl)) (s_int)) (fun _ _ => rfl)) (s_cons (s_idx hu (s_v (by kernel_rfl)) (s_v (by kernel_rfl)) (fun _ _ => rfl)) (s_nil) rfl) rfl))) rfl (.inl rfl))) (s_end)))) (fun _ => rfl)) (s_one (s_ret (s_ifE (t_ne hu (s_v (by kernel_rfl)) (s_lst (s_nil)) rfl) (s_tup (s_cons (s_idx hu (s_v (by kernel_rfl)) (s_int) (fun _ _ => rfl)) (s_cons (s_idx hu (s_v (by kernel_rfl)) (s_neg (s_int)) (fun _ _ => rfl)) (s_nil) rfl) rfl)) (s_non))))))
theorem sc__law_in_limits : FnScope ["limits", "standing", "pairs", "one", "low", "high"] ["limits", "standing"] (defScope (top 48)) := ⟨by kernel_rfl, by kernel_rfl, by kernel_rfl, by decide +kernel, rfl, by decide +kernel, by decide +kernel⟩
theorem ok__law_in_limits (c : SaysX fas dfs gfs K) (X : K.In h) (G : h.Ns mainGlobals mg) (d__law_is_below : Defd P0 w K mg base Cl "_law_is_below" 2 1 f__law_is_below) : Defd P0 w K mg base Cl "_law_in_limits" 2 2 f__law_in_limits := by
  obtain ⟨fd, F⟩ := def_gd c 41 (top 48) "_law_in_limits" (by kernel_rfl)
  have h_list : mg "list" = none := fa_free c X G 58 "list" (by kernel_rfl)
  have h_zip : mg "zip" = none := fa_free c X G 66 "zip" (by kernel_rfl)
  refine @Defd.mk' P0 w K mg base Cl "_law_in_limits" "_law_in_limits" (defArgs (top 48)) (defBody (top 48)) (defScope (top 48)) [] _ fd ["limits", "standing", "pairs", "one", "low", "high"] ["limits", "standing"] 2 1 b__law_in_limits (fa_glo c X G 41 "_law_in_limits" (by kernel_rfl)) F sc__law_in_limits rfl (fun _ _ _ _ _ _ us hl => match us, hl with | [_, _], _ => by kernel_rfl) fun cdv A outer s H E hr => ?_
  have hu := hr.units
  have nd := sc__law_in_limits.nd
  have calm : (cxD P0 w K mg base ["limits", "standing", "pairs", "one", "low", "high"] "_law_in_limits" (defScope (top 48)) (He.ga K "_law_in_limits") cdv A outer s H E).calm = true := rfl
  have tk := takes_of (X := cxD P0 w K mg base ["limits", "standing", "pairs", "one", "low", "high"] "_law_in_limits" (defScope (top 48)) (He.ga K "_law_in_limits") cdv A outer s H E) rfl rfl rfl rfl
  have po := passes_of (X := cxD P0 w K mg base ["limits", "standing", "pairs", "one", "low", "high"] "_law_in_limits" (defScope (top 48)) (He.ga K "_law_in_limits") cdv A outer s H E) rfl
  exact s_seq (s_st nd (by kernel_rfl) (s_lz calm (gl_of (by kernel_rfl)) h_list (gl_of (by kernel_rfl)) h_zip (s_v (by kernel_rfl)) (s_v (by kernel_rfl)) rfl rfl) rfl (.inl rfl)) (s_one (s_ret (s_eq hu (s_lc (own := [("one", 3), ("low", 4), ("high", 5)]) calm nd (s_it (s_v (by kernel_rfl))) (blk_of (by kernel_rfl)) (fun s H C cl fp => (g_tp calm (g_cons (g_tp calm (g_cons (g_nm nd (by kernel_rfl) (.inr (by kernel_rfl))) (g_cons (g_nm nd (by kernel_rfl) (.inr (by kernel_rfl))) (g_nil) rfl) rfl) rfl rfl) (g_cons (g_nm nd (by kernel_rfl) (.inr (by kernel_rfl))) (g_nil) rfl) rfl) rfl rfl)) (fun s H C cl fp => (s_pts1 (PW.pt (s_orT (s_tru (s_fn (d__law_is_below.up (by decide)) hr (gl_of (by kernel_rfl)) takes0 (s_cons (s_v (by kernel_rfl)) (s_cons (s_tup (s_cons (s_v (by kernel_rfl)) (s_cons (s_int) (s_nil) rfl) rfl)) (s_nil) rfl) rfl) (by decide) rfl rfl) (fun _ => rfl)) (s_or1 (s_tru (s_fn (d__law_is_below.up (by decide)) hr (gl_of (by kernel_rfl)) takes0 (s_cons (s_tup (s_cons (s_v (by kernel_rfl)) (s_cons (s_int) (s_nil) rfl) rfl)) (s_cons (s_v (by kernel_rfl)) (s_nil) rfl) rfl) (by decide) rfl rfl) (fun _ => rfl))))))) (fun s H C cl fp => (s_int)) (by decide) (fun _ => rfl)) (s_lst (s_nil)) rfl)))
theorem sc__law_any_form : FnScope ["source", "many", "numbers", "k", "n", "first", "unit", "number"] ["source", "many"] (defScope (top 49)) := ⟨by kernel_rfl, by kernel_rfl, by kernel_rfl, by decide +kernel, rfl, by decide +kernel, by decide +kernel⟩
theorem ok__law_any_form (c : SaysX fas dfs gfs K) (X : K.In h) (G : h.Ns mainGlobals mg) (d__law_common : Defd P0 w K mg base Cl "_law_common" 2 1 f__law_common) (d__law_pick : Defd P0 w K mg base Cl "_law_pick" 2 1 f__law_pick) : Defd P0 w K mg base Cl "_law_any_form" 2 2 f__law_any_form := by
  obtain ⟨fd, F⟩ := def_gd c 42 (top 49) "_law_any_form" (by kernel_rfl)
  have h_range : mg "range" = none := fa_free c X G 61 "range" (by kernel_rfl)
  have h_tuple : mg "tuple" = none := fa_free c X G 65 "tuple" (by kernel_rfl)
  refine @Defd.mk' P0 w K mg base Cl "_law_any_form" "_law_any_form" (defArgs (top 49)) (defBody (top 49)) (defScope (top 49)) [] _ fd ["source", "many", "numbers", "k", "n", "first", "unit", "number"] ["source", "many"] 2 1 b__law_any_form (fa_glo c X G 42 "_law_any_form" (by kernel_rfl)) F sc__law_any_form rfl (fun _ _ _ _ _ _ us hl => match us, hl with | [_, _], _ => by kernel_rfl) fun cdv A outer s H E hr => ?_
  have hu := hr.units
  have nd := sc__law_any_form.nd
  have calm : (cxD P0 w K mg base ["source", "many", "numbers", "k", "n", "first", "unit", "number"] "_law_any_form" (defScope (top 49)) (He.ga K "_law_any_form") cdv A outer s H E).calm = true := rfl
  have tk := takes_of (X := cxD P0 w K mg base ["source", "many", "numbers", "k", "n", "first", "unit", "number"] "_law_any_form" (defScope (top 49)) (He.ga K "_law_any_form") cdv A outer s H E) rfl rfl rfl rfl
  have po := passes_of (X := cxD P0 w K mg base ["source", "many", "numbers", "k", "n", "first", "unit", "number"] "_law_any_form" (defScope (top 49)) (He.ga K "_law_any_form") cdv A outer s H E) rfl
  exact s_seq (s_setLc (own := [("k", 3)]) calm nd rfl (by kernel_rfl) (by kernel_rfl) (s_rg1 (gl_of (by kernel_rfl)) h_range (s_v (by kernel_rfl)) rfl) (blk_of (by kernel_rfl)) (fun s H C cl fp => (g_nm nd (by kernel_rfl) (.inr (by kernel_rfl)))) (fun s H C cl fp => (s_pts0)) (fun s H C cl fp => (s_sub (s_fn (d__law_pick.up (by decide)) hr (gl_of (by kernel_rfl)) takes0 (s_cons (s_v (by kernel_rfl)) (s_cons (s_int) (s_nil) rfl) rfl) (by decide) rfl rfl) (s_int))) (by decide) (fun _ => rfl)) (s_seq (s_if (t_eq hu (s_lc (own := [("n", 4)]) calm nd (s_it (s_v (by kernel_rfl))) (blk_of (by kernel_rfl)) (fun s H C cl fp => (g_nm nd (by kernel_rfl) (.inr (by kernel_rfl)))) (fun s H C cl fp => (s_pts1 (t_ne hu (s_v (by kernel_rfl)) (s_int) rfl))) (fun s H C cl fp => (s_v (by kernel_rfl))) (by decide) (fun _ => rfl)) (s_lst (s_nil)) rfl) (s_one (s_put hu (s_v (by kernel_rfl)) (s_fn (d__law_pick.up (by decide)) hr (gl_of (by kernel_rfl)) tk (s_cons (s_v (by kernel_rfl)) (s_cons (s_v (by kernel_rfl)) (s_nil) rfl) rfl) (by decide) rfl rfl) (s_int) rfl)) (s_end)) (s_seq (s_st nd (by kernel_rfl) (s_idx hu (s_lc (own := [("n", 4)]) calm nd (s_it (s_v (by kernel_rfl))) (blk_of (by kernel_rfl)) (fun s H C cl fp => (g_nm nd (by kernel_rfl) (.inr (by kernel_rfl)))) (fun s H C cl fp => (s_pts1 (t_ne hu (s_v (by kernel_rfl)) (s_int) rfl))) (fun s H C cl fp => (s_v (by kernel_rfl))) (by decide) (fun _ => rfl)) (s_int) (fun _ _ => rfl)) rfl (.inl rfl)) (s_seq (s_st nd (by kernel_rfl) (s_add (s_lst (s_cons (s_sub (s_fn (d__law_pick.up (by decide)) hr (gl_of (by kernel_rfl)) tk (s_cons (s_v (by kernel_rfl)) (s_cons (s_int) (s_nil) rfl) rfl) (by decide) rfl rfl) (s_int)) (s_nil) rfl)) (s_lc (own := [("n", 4)]) calm nd (s_it (s_v (by kernel_rfl))) (blk_of (by kernel_rfl)) (fun s H C cl fp => (g_nm nd (by kernel_rfl) (.inr (by kernel_rfl)))) (fun s H C cl fp => (s_pts0)) (fun s H C cl fp => (s_ifE (t_gt hu (s_v (by kernel_rfl)) (s_int) rfl) (s_v (by kernel_rfl)) (s_sub (s_int) (s_v (by kernel_rfl))))) (by decide) (fun _ => rfl))) rfl (.inl rfl)) (s_seq (s_st nd (by kernel_rfl) (s_int) rfl (.inl rfl)) (s_seq (s_for po calm (s_it (s_v (by kernel_rfl))) (g_nm nd (by kernel_rfl) (.inl rfl)) (s_one (s_st nd (by kernel_rfl) (s_fn (d__law_common.up (by decide)) hr (gl_of (by kernel_rfl)) tk (s_cons (s_v (by kernel_rfl)) (s_cons (s_v (by kernel_rfl)) (s_nil) rfl) rfl) (by decide) rfl rfl) rfl (.inl rfl))) (fun _ => rfl)) (s_one (s_ret (s_tuple (gl_of (by kernel_rfl)) h_tuple (s_cons (s_lc (own := [("n", 4)]) calm nd (s_it (s_v (by kernel_rfl))) (blk_of (by kernel_rfl)) (fun s H C cl fp => (g_nm nd (by kernel_rfl) (.inr (by kernel_rfl)))) (fun s H C cl fp => (s_pts0)) (fun s H C cl fp => (s_fdv (s_v (by kernel_rfl)) (s_v (by kernel_rfl)))) (by decide) (fun _ => rfl)) (s_nil) rfl) rfl rfl))))))))
theorem sc__law_any_contact : FnScope ["source", "limits", "many", "found", "k", "begin", "end", "line", "low", "high", "j", "lap"] ["source", "limits"] (defScope (top 50)) := ⟨by kernel_rfl, by kernel_rfl, by kernel_rfl, by decide +kernel, rfl, by decide +kernel, by decide +kernel⟩
theorem ok__law_any_contact (c : SaysX fas dfs gfs K) (X : K.In h) (G : h.Ns mainGlobals mg) (d__law_any_form : Defd P0 w K mg base Cl "_law_any_form" 2 2 f__law_any_form) (d__law_pick : Defd P0 w K mg base Cl "_law_pick" 2 1 f__law_pick) : Defd P0 w K mg base Cl "_law_any_contact" 2 3 f__law_any_contact := by
  obtain ⟨fd, F⟩ := def_gd c 43 (top 50) "_law_any_contact" (by kernel_rfl)
  have h_int : mg "int" = none := fa_free c X G 55 "int" (by kernel_rfl)
  have h_len : mg "len" = none := fa_free c X G 57 "len" (by kernel_rfl)
  have h_max : mg "max" = none := fa_free c X G 59 "max" (by kernel_rfl)
  have h_range : mg "range" = none := fa_free c X G 61 "range" (by kernel_rfl)
  have h_set : mg "set" = none := fa_free c X G 63 "set" (by kernel_rfl)
  have h_sorted : mg "sorted" = none := fa_free c X G 64 "sorted" (by kernel_rfl)
  have h_tuple : mg "tuple" = none := fa_free c X G 65 "tuple" (by kernel_rfl)
  refine @Defd.mk' P0 w K mg base Cl "_law_any_contact" "_law_any_contact" (defArgs (top 50)) (defBody (top 50)) (defScope (top 50)) [] _ fd ["source", "limits", "many", "found", "k", "begin", "end", "line", "low", "high", "j", "lap"] ["source", "limits"] 2 2 b__law_any_contact (fa_glo c X G 43 "_law_any_contact" (by kernel_rfl)) F sc__law_any_contact rfl (fun _ _ _ _ _ _ us hl => match us, hl with | [_, _], _ => by kernel_rfl) fun cdv A outer s H E hr => ?_
  have hu := hr.units
  have nd := sc__law_any_contact.nd
  have calm : (cxD P0 w K mg base ["source", "limits", "many", "found", "k", "begin", "end", "line", "low", "high", "j", "lap"] "_law_any_contact" (defScope (top 50)) (He.ga K "_law_any_contact") cdv A outer s H E).calm = true := rfl
  have tk := takes_of (X := cxD P0 w K mg base ["source", "limits", "many", "found", "k", "begin", "end", "line", "low", "high", "j", "lap"] "_law_any_contact" (defScope (top 50)) (He.ga K "_law_any_contact") cdv A outer s H E) rfl rfl rfl rfl
  have po := passes_of (X := cxD P0 w K mg base ["source", "limits", "many", "found", "k", "begin", "end", "line", "low", "high", "j", "lap"] "_law_any_contact" (defScope (top 50)) (He.ga K "_law_any_contact") cdv A outer s H E) rfl
  exact s_seq (s_par calm nd rfl rfl (by decide) (by kernel_rfl) (by kernel_rfl) (s_cons (s_len (gl_of (by kernel_rfl)) h_len (s_cons (s_v (by kernel_rfl)) (s_nil) rfl) rfl rfl) (s_cons (s_lst (s_nil)) (s_nil) rfl) rfl) (by kernel_rfl)) (s_seq (s_if (t_eq hu (s_fn (d__law_pick.up (by decide)) hr (gl_of (by kernel_rfl)) tk (s_cons (s_v (by kernel_rfl)) (s_cons (s_int) (s_nil) rfl) rfl) (by decide) rfl rfl) (s_int) rfl) (s_one (s_ret (s_tup (s_nil)))) (s_end)) (s_seq (s_for po calm (s_rg1 (gl_of (by kernel_rfl)) h_range (s_v (by kernel_rfl)) rfl) (g_nm nd (by kernel_rfl) (.inl rfl)) (s_seq (s_as (s_idx hu (s_v (by kernel_rfl)) (s_v (by kernel_rfl)) (fun _ _ => rfl)) (g_tp calm (g_cons (g_nm nd (by kernel_rfl) (.inl rfl)) (g_cons (g_nm nd (by kernel_rfl) (.inl rfl)) (g_nil) rfl) rfl) rfl rfl) rfl (by kernel_rfl) rfl) (s_seq (s_st nd (by kernel_rfl) (s_add (s_v (by kernel_rfl)) (s_fn (d__law_pick.up (by decide)) hr (gl_of (by kernel_rfl)) tk (s_cons (s_v (by kernel_rfl)) (s_cons (s_max2 calm (gl_of (by kernel_rfl)) h_max (s_cons (s_int) (s_cons (s_sub (s_v (by kernel_rfl)) (s_v (by kernel_rfl))) (s_nil) rfl) rfl) rfl rfl) (s_nil) rfl) rfl) (by decide) rfl rfl)) rfl (.inl rfl)) (s_seq (s_st nd (by kernel_rfl) (s_add (s_add (s_v (by kernel_rfl)) (s_int)) (s_fn (d__law_pick.up (by decide)) hr (gl_of (by kernel_rfl)) tk (s_cons (s_v (by kernel_rfl)) (s_cons (s_int) (s_nil) rfl) rfl) (by decide) rfl rfl)) rfl (.inl rfl)) (s_seq (s_st nd (by kernel_rfl) (s_tuple (gl_of (by kernel_rfl)) h_tuple (s_cons (s_lc (own := [("j", 10)]) calm nd (s_rg1 (gl_of (by kernel_rfl)) h_range (s_v (by kernel_rfl)) rfl) (blk_of (by kernel_rfl)) (fun s H C cl fp => (g_nm nd (by kernel_rfl) (.inr (by kernel_rfl)))) (fun s H C cl fp => (s_pts0)) (fun s H C cl fp => (s_intc (gl_of (by kernel_rfl)) h_int (s_cons (s_eq hu (s_v (by kernel_rfl)) (s_v (by kernel_rfl)) rfl) (s_nil) rfl) rfl rfl)) (by decide) (fun _ => rfl)) (s_nil) rfl) rfl rfl) rfl (.inl rfl)) (s_one (s_st nd (by kernel_rfl) (s_ifE (t_gt hu (s_fn (d__law_pick.up (by decide)) hr (gl_of (by kernel_rfl)) tk (s_cons (s_v (by kernel_rfl)) (s_cons (s_int) (s_nil) rfl) rfl) (by decide) rfl rfl) (s_int) rfl) (s_add (s_v (by kernel_rfl)) (s_lst (s_cons (s_tup (s_cons (s_add (s_tup (s_cons (s_sub (s_int) (s_v (by kernel_rfl))) (s_nil) rfl)) (s_v (by kernel_rfl))) (s_cons (s_int) (s_nil) rfl) rfl)) (s_cons (s_tup (s_cons (s_add (s_tup (s_cons (s_sub (s_int) (s_v (by kernel_rfl))) (s_nil) rfl)) (s_v (by kernel_rfl))) (s_cons (s_neg (s_int)) (s_nil) rfl) rfl)) (s_nil) rfl) rfl))) (s_v (by kernel_rfl))) rfl (.inl rfl))))))) (fun _ => rfl)) (s_seq (s_for po calm (s_rg1 (gl_of (by kernel_rfl)) h_range (s_fn (d__law_pick.up (by decide)) hr (gl_of (by kernel_rfl)) tk (s_cons (s_v (by kernel_rfl)) (s_cons (s_int) (s_nil) rfl) rfl) (by decide) rfl rfl) rfl) (g_nm nd (by kernel_rfl) (.inl rfl)) (s_one (s_drop (s_append (s_v (by kernel_rfl)) (s_cons (s_tup (s_cons (s_fn (d__law_any_form.up (by decide)) hr (gl_of (by kernel_rfl)) tk (s_cons (s_v (by kernel_rfl)) (s_cons (s_v (by kernel_rfl)) (s_nil) rfl) rfl) (by decide) rfl rfl) (s_cons (s_sub (s_int) (s_mul (s_int) (s_fn (d__law_pick.up (by decide)) hr (gl_of (by kernel_rfl)) tk (s_cons (s_v (by kernel_rfl)) (s_cons (s_int) (s_nil) rfl) rfl) (by decide) rfl rfl))) (s_nil) rfl) rfl)) (s_nil) rfl) rfl rfl rfl) rfl)) (fun _ => rfl)) (s_one (s_ret (s_tuple (gl_of (by kernel_rfl)) h_tuple (s_cons (s_soset calm hu (gl_of (by kernel_rfl)) h_sorted (gl_of (by kernel_rfl)) h_set (s_v (by kernel_rfl)) rfl) (s_nil) rfl) rfl rfl))))))
theorem sc__law_any_limits : FnScope ["source", "many", "found", "k", "low"] ["source", "many"] (defScope (top 51)) := ⟨by kernel_rfl, by kernel_rfl, by kernel_rfl, by decide +kernel, rfl, by decide +kernel, by decide +kernel⟩
theorem ok__law_any_limits (c : SaysX fas dfs gfs K) (X : K.In h) (G : h.Ns mainGlobals mg) (d__law_pick : Defd P0 w K mg base Cl "_law_pick" 2 1 f__law_pick) : Defd P0 w K mg base Cl "_law_any_limits" 2 2 f__law_any_limits := by
  obtain ⟨fd, F⟩ := def_gd c 44 (top 51) "_law_any_limits" (by kernel_rfl)
  have h_range : mg "range" = none := fa_free c X G 61 "range" (by kernel_rfl)
  have h_tuple : mg "tuple" = none := fa_free c X G 65 "tuple" (by kernel_rfl)
  refine @Defd.mk' P0 w K mg base Cl "_law_any_limits" "_law_any_limits" (defArgs (top 51)) (defBody (top 51)) (defScope (top 51)) [] _ fd ["source", "many", "found", "k", "low"] ["source", "many"] 2 1 b__law_any_limits (fa_glo c X G 44 "_law_any_limits" (by kernel_rfl)) F sc__law_any_limits rfl (fun _ _ _ _ _ _ us hl => match us, hl with | [_, _], _ => by kernel_rfl) fun cdv A outer s H E hr => ?_
  have hu := hr.units
  have nd := sc__law_any_limits.nd
  have calm : (cxD P0 w K mg base ["source", "many", "found", "k", "low"] "_law_any_limits" (defScope (top 51)) (He.ga K "_law_any_limits") cdv A outer s H E).calm = true := rfl
  have tk := takes_of (X := cxD P0 w K mg base ["source", "many", "found", "k", "low"] "_law_any_limits" (defScope (top 51)) (He.ga K "_law_any_limits") cdv A outer s H E) rfl rfl rfl rfl
  have po := passes_of (X := cxD P0 w K mg base ["source", "many", "found", "k", "low"] "_law_any_limits" (defScope (top 51)) (He.ga K "_law_any_limits") cdv A outer s H E) rfl
  exact s_seq (s_st nd (by kernel_rfl) (s_lst (s_nil)) rfl (.inl rfl)) (s_seq (s_for po calm (s_rg1 (gl_of (by kernel_rfl)) h_range (s_v (by kernel_rfl)) rfl) (g_nm nd (by kernel_rfl) (.inl rfl)) (s_seq (s_st nd (by kernel_rfl) (s_sub (s_fn (d__law_pick.up (by decide)) hr (gl_of (by kernel_rfl)) tk (s_cons (s_v (by kernel_rfl)) (s_cons (s_int) (s_nil) rfl) rfl) (by decide) rfl rfl) (s_int)) rfl (.inl rfl)) (s_one (s_drop (s_append (s_v (by kernel_rfl)) (s_cons (s_tup (s_cons (s_v (by kernel_rfl)) (s_cons (s_add (s_add (s_v (by kernel_rfl)) (s_int)) (s_fn (d__law_pick.up (by decide)) hr (gl_of (by kernel_rfl)) tk (s_cons (s_v (by kernel_rfl)) (s_cons (s_int) (s_nil) rfl) rfl) (by decide) rfl rfl)) (s_nil) rfl) rfl)) (s_nil) rfl) rfl rfl rfl) rfl))) (fun _ => rfl)) (s_one (s_ret (s_tuple (gl_of (by kernel_rfl)) h_tuple (s_cons (s_v (by kernel_rfl)) (s_nil) rfl) rfl rfl))))
theorem sc__law_any_standing : FnScope ["source", "limits", "found", "low", "high", "below", "number", "k"] ["source", "limits"] (defScope (top 52)) := ⟨by kernel_rfl, by kernel_rfl, by kernel_rfl, by decide +kernel, rfl, by decide +kernel, by decide +kernel⟩
theorem ok__law_any_standing (c : SaysX fas dfs gfs K) (X : K.In h) (G : h.Ns mainGlobals mg) (d__law_least : Defd P0 w K mg base Cl "_law_least" 2 1 f__law_least) (d__law_of : Defd P0 w K mg base Cl "_law_of" 2 2 f__law_of) (d__law_pick : Defd P0 w K mg base Cl "_law_pick" 2 1 f__law_pick) : Defd P0 w K mg base Cl "_law_any_standing" 2 3 f__law_any_standing := by
  obtain ⟨fd, F⟩ := def_gd c 45 (top 52) "_law_any_standing" (by kernel_rfl)
  have h_len : mg "len" = none := fa_free c X G 57 "len" (by kernel_rfl)
  have h_tuple : mg "tuple" = none := fa_free c X G 65 "tuple" (by kernel_rfl)
  refine @Defd.mk' P0 w K mg base Cl "_law_any_standing" "_law_any_standing" (defArgs (top 52)) (defBody (top 52)) (defScope (top 52)) [] _ fd ["source", "limits", "found", "low", "high", "below", "number", "k"] ["source", "limits"] 2 2 b__law_any_standing (fa_glo c X G 45 "_law_any_standing" (by kernel_rfl)) F sc__law_any_standing rfl (fun _ _ _ _ _ _ us hl => match us, hl with | [_, _], _ => by kernel_rfl) fun cdv A outer s H E hr => ?_
  have hu := hr.units
  have nd := sc__law_any_standing.nd
  have calm : (cxD P0 w K mg base ["source", "limits", "found", "low", "high", "below", "number", "k"] "_law_any_standing" (defScope (top 52)) (He.ga K "_law_any_standing") cdv A outer s H E).calm = true := rfl
  have tk := takes_of (X := cxD P0 w K mg base ["source", "limits", "found", "low", "high", "below", "number", "k"] "_law_any_standing" (defScope (top 52)) (He.ga K "_law_any_standing") cdv A outer s H E) rfl rfl rfl rfl
  have po := passes_of (X := cxD P0 w K mg base ["source", "limits", "found", "low", "high", "below", "number", "k"] "_law_any_standing" (defScope (top 52)) (He.ga K "_law_any_standing") cdv A outer s H E) rfl
  exact s_seq (s_st nd (by kernel_rfl) (s_lst (s_nil)) rfl (.inl rfl)) (s_seq (s_for po calm (s_it (s_v (by kernel_rfl))) (g_tp calm (g_cons (g_nm nd (by kernel_rfl) (.inl rfl)) (g_cons (g_nm nd (by kernel_rfl) (.inl rfl)) (g_nil) rfl) rfl) rfl rfl) (s_seq (s_st nd (by kernel_rfl) (s_fn (d__law_of.up (by decide)) hr (gl_of (by kernel_rfl)) tk (s_cons (s_v (by kernel_rfl)) (s_cons (s_lst (s_cons (s_int) (s_cons (s_int) (s_cons (s_int) (s_cons (s_int) (s_cons (s_int) (s_cons (s_int) (s_nil) rfl) rfl) rfl) rfl) rfl) rfl)) (s_nil) rfl) rfl) (by decide) rfl rfl) rfl (.inl rfl)) (s_seq (s_st nd (by kernel_rfl) (s_add (s_mul (s_v (by kernel_rfl)) (s_v (by kernel_rfl))) (s_fn (d__law_pick.up (by decide)) hr (gl_of (by kernel_rfl)) tk (s_cons (s_v (by kernel_rfl)) (s_cons (s_add (s_mul (s_sub (s_v (by kernel_rfl)) (s_v (by kernel_rfl))) (s_v (by kernel_rfl))) (s_int)) (s_nil) rfl) rfl) (by decide) rfl rfl)) rfl (.inl rfl)) (s_one (s_drop (s_append (s_v (by kernel_rfl)) (s_cons (s_fn (d__law_least.up (by decide)) hr (gl_of (by kernel_rfl)) tk (s_cons (s_v (by kernel_rfl)) (s_cons (s_v (by kernel_rfl)) (s_nil) rfl) rfl) (by decide) rfl rfl) (s_nil) rfl) rfl rfl rfl) rfl)))) (fun _ => rfl)) (s_seq (s_if (t_eq hu (s_fn (d__law_pick.up (by decide)) hr (gl_of (by kernel_rfl)) tk (s_cons (s_v (by kernel_rfl)) (s_cons (s_int) (s_nil) rfl) rfl) (by decide) rfl rfl) (s_int) rfl) (s_seq (s_st nd (by kernel_rfl) (s_fn (d__law_pick.up (by decide)) hr (gl_of (by kernel_rfl)) tk (s_cons (s_v (by kernel_rfl)) (s_cons (s_len (gl_of (by kernel_rfl)) h_len (s_cons (s_v (by kernel_rfl)) (s_nil) rfl) rfl rfl) (s_nil) rfl) rfl) (by decide) rfl rfl) rfl (.inl rfl)) (s_one (s_put hu (s_v (by kernel_rfl)) (s_v (by kernel_rfl)) (s_fn (d__law_of.up (by decide)) hr (gl_of (by kernel_rfl)) tk (s_cons (s_v (by kernel_rfl)) (s_cons (s_lst (s_cons (s_tup (s_cons (s_add (s_idx hu (s_idx hu (s_v (by kernel_rfl)) (s_v (by kernel_rfl)) (fun _ _ => rfl)) (s_int) (fun _ _ => rfl)) (s_int)) (s_cons (s_int) (s_nil) rfl) rfl)) (s_cons (s_tup (s_cons (s_sub (s_idx hu (s_idx hu (s_v (by kernel_rfl)) (s_v (by kernel_rfl)) (fun _ _ => rfl)) (s_int) (fun _ _ => rfl)) (s_int)) (s_cons (s_int) (s_nil) rfl) rfl)) (s_cons (s_fn (d__law_least.up (by decide)) hr (gl_of (by kernel_rfl)) tk (s_cons (s_add (s_mul (s_int) (s_idx hu (s_idx hu (s_v (by kernel_rfl)) (s_v (by kernel_rfl)) (fun _ _ => rfl)) (s_int) (fun _ _ => rfl))) (s_int)) (s_cons (s_int) (s_nil) rfl) rfl) (by decide) rfl rfl) (s_nil) rfl) rfl) rfl)) (s_nil) rfl) rfl) (by decide) rfl rfl) rfl))) (s_end)) (s_one (s_ret (s_tuple (gl_of (by kernel_rfl)) h_tuple (s_cons (s_v (by kernel_rfl)) (s_nil) rfl) rfl rfl)))))
theorem sc__law_is_free : FnScope ["limits", "contacts", "q", "r", "contact"] ["limits", "contacts", "q", "r"] (defScope (top 53)) := ⟨by kernel_rfl, by kernel_rfl, by kernel_rfl, by decide +kernel, rfl, by decide +kernel, by decide +kernel⟩
theorem ok__law_is_free (c : SaysX fas dfs gfs K) (X : K.In h) (G : h.Ns mainGlobals mg) (d__law_in_limits : Defd P0 w K mg base Cl "_law_in_limits" 2 2 f__law_in_limits) (d__law_span : Defd P0 w K mg base Cl "_law_span" 3 6 f__law_span) : Defd P0 w K mg base Cl "_law_is_free" 4 7 f__law_is_free := by
  obtain ⟨fd, F⟩ := def_gd c 46 (top 53) "_law_is_free" (by kernel_rfl)
  refine @Defd.mk' P0 w K mg base Cl "_law_is_free" "_law_is_free" (defArgs (top 53)) (defBody (top 53)) (defScope (top 53)) [] _ fd ["limits", "contacts", "q", "r", "contact"] ["limits", "contacts", "q", "r"] 4 6 b__law_is_free (fa_glo c X G 46 "_law_is_free" (by kernel_rfl)) F sc__law_is_free rfl (fun _ _ _ _ _ _ us hl => match us, hl with | [_, _, _, _], _ => by kernel_rfl) fun cdv A outer s H E hr => ?_
  have hu := hr.units
  have nd := sc__law_is_free.nd
  have calm : (cxD P0 w K mg base ["limits", "contacts", "q", "r", "contact"] "_law_is_free" (defScope (top 53)) (He.ga K "_law_is_free") cdv A outer s H E).calm = true := rfl
  have tk := takes_of (X := cxD P0 w K mg base ["limits", "contacts", "q", "r", "contact"] "_law_is_free" (defScope (top 53)) (He.ga K "_law_is_free") cdv A outer s H E) rfl rfl rfl rfl
  have po := passes_of (X := cxD P0 w K mg base ["limits", "contacts", "q", "r", "contact"] "_law_is_free" (defScope (top 53)) (He.ga K "_law_is_free") cdv A outer s H E) rfl
  exact s_seq (s_if (PW.pt (s_orT (s_notT (s_tru (s_fn (d__law_in_limits.up (by decide)) hr (gl_of (by kernel_rfl)) tk (s_cons (s_v (by kernel_rfl)) (s_cons (s_v (by kernel_rfl)) (s_nil) rfl) rfl) (by decide) rfl rfl) (fun _ => rfl))) (s_or1 (s_notT (s_tru (s_fn (d__law_in_limits.up (by decide)) hr (gl_of (by kernel_rfl)) tk (s_cons (s_v (by kernel_rfl)) (s_cons (s_v (by kernel_rfl)) (s_nil) rfl) rfl) (by decide) rfl rfl) (fun _ => rfl)))))) (s_one (s_ret (s_bl))) (s_end)) (s_one (s_ret (s_eq hu (s_lc (own := [("contact", 4)]) calm nd (s_it (s_v (by kernel_rfl))) (blk_of (by kernel_rfl)) (fun s H C cl fp => (g_nm nd (by kernel_rfl) (.inr (by kernel_rfl)))) (fun s H C cl fp => (s_pts1 (s_notNT (s_fn (d__law_span.up (by decide)) hr (gl_of (by kernel_rfl)) takes0 (s_cons (s_v (by kernel_rfl)) (s_cons (s_v (by kernel_rfl)) (s_cons (s_v (by kernel_rfl)) (s_nil) rfl) rfl) rfl) (by decide) rfl rfl)))) (fun s H C cl fp => (s_v (by kernel_rfl))) (by decide) (fun _ => rfl)) (s_lst (s_nil)) rfl)))
theorem sc__law_is_lean : FnScope ["limits", "contacts", "way", "k"] ["limits", "contacts", "way"] (defScope (top 54)) := ⟨by kernel_rfl, by kernel_rfl, by kernel_rfl, by decide +kernel, rfl, by decide +kernel, by decide +kernel⟩
theorem ok__law_is_lean (c : SaysX fas dfs gfs K) (X : K.In h) (G : h.Ns mainGlobals mg) (d__law_is_free : Defd P0 w K mg base Cl "_law_is_free" 4 7 f__law_is_free) : Defd P0 w K mg base Cl "_law_is_lean" 3 8 f__law_is_lean := by
  obtain ⟨fd, F⟩ := def_gd c 47 (top 54) "_law_is_lean" (by kernel_rfl)
  have h_len : mg "len" = none := fa_free c X G 57 "len" (by kernel_rfl)
  have h_range : mg "range" = none := fa_free c X G 61 "range" (by kernel_rfl)
  refine @Defd.mk' P0 w K mg base Cl "_law_is_lean" "_law_is_lean" (defArgs (top 54)) (defBody (top 54)) (defScope (top 54)) [] _ fd ["limits", "contacts", "way", "k"] ["limits", "contacts", "way"] 3 7 b__law_is_lean (fa_glo c X G 47 "_law_is_lean" (by kernel_rfl)) F sc__law_is_lean rfl (fun _ _ _ _ _ _ us hl => match us, hl with | [_, _, _], _ => by kernel_rfl) fun cdv A outer s H E hr => ?_
  have hu := hr.units
  have nd := sc__law_is_lean.nd
  have calm : (cxD P0 w K mg base ["limits", "contacts", "way", "k"] "_law_is_lean" (defScope (top 54)) (He.ga K "_law_is_lean") cdv A outer s H E).calm = true := rfl
  have tk := takes_of (X := cxD P0 w K mg base ["limits", "contacts", "way", "k"] "_law_is_lean" (defScope (top 54)) (He.ga K "_law_is_lean") cdv A outer s H E) rfl rfl rfl rfl
  have po := passes_of (X := cxD P0 w K mg base ["limits", "contacts", "way", "k"] "_law_is_lean" (defScope (top 54)) (He.ga K "_law_is_lean") cdv A outer s H E) rfl
  exact s_one (s_ret (s_eq hu (s_lc (own := [("k", 3)]) calm nd (s_rg2 (gl_of (by kernel_rfl)) h_range (s_int) (s_sub (s_len (gl_of (by kernel_rfl)) h_len (s_cons (s_v (by kernel_rfl)) (s_nil) rfl) rfl rfl) (s_int)) rfl rfl) (blk_of (by kernel_rfl)) (fun s H C cl fp => (g_nm nd (by kernel_rfl) (.inr (by kernel_rfl)))) (fun s H C cl fp => (s_pts1 (s_tru (s_fn (d__law_is_free.up (by decide)) hr (gl_of (by kernel_rfl)) takes0 (s_cons (s_v (by kernel_rfl)) (s_cons (s_v (by kernel_rfl)) (s_cons (s_idx hu (s_v (by kernel_rfl)) (s_sub (s_v (by kernel_rfl)) (s_int)) (fun _ _ => rfl)) (s_cons (s_idx hu (s_v (by kernel_rfl)) (s_add (s_v (by kernel_rfl)) (s_int)) (fun _ _ => rfl)) (s_nil) rfl) rfl) rfl) rfl) (by decide) rfl rfl) (fun _ => rfl)))) (fun s H C cl fp => (s_v (by kernel_rfl))) (by decide) (fun _ => rfl)) (s_lst (s_nil)) rfl))
theorem sc__law_is_some : FnScope ["way", "whole_v", "k", "one"] ["way", "whole_v"] (defScope (top 55)) := ⟨by kernel_rfl, by kernel_rfl, by kernel_rfl, by decide +kernel, rfl, by decide +kernel, by decide +kernel⟩
theorem ok__law_is_some (c : SaysX fas dfs gfs K) (X : K.In h) (G : h.Ns mainGlobals mg) : Defd P0 w K mg base Cl "_law_is_some" 2 1 f__law_is_some := by
  obtain ⟨fd, F⟩ := def_gd c 48 (top 55) "_law_is_some" (by kernel_rfl)
  have h_len : mg "len" = none := fa_free c X G 57 "len" (by kernel_rfl)
  refine @Defd.mk' P0 w K mg base Cl "_law_is_some" "_law_is_some" (defArgs (top 55)) (defBody (top 55)) (defScope (top 55)) [] _ fd ["way", "whole_v", "k", "one"] ["way", "whole_v"] 2 0 b__law_is_some (fa_glo c X G 48 "_law_is_some" (by kernel_rfl)) F sc__law_is_some rfl (fun _ _ _ _ _ _ us hl => match us, hl with | [_, _], _ => by kernel_rfl) fun cdv A outer s H E hr => ?_
  have hu := hr.units
  have nd := sc__law_is_some.nd
  have calm : (cxD P0 w K mg base ["way", "whole_v", "k", "one"] "_law_is_some" (defScope (top 55)) (He.ga K "_law_is_some") cdv A outer s H E).calm = true := rfl
  have tk := takes_of (X := cxD P0 w K mg base ["way", "whole_v", "k", "one"] "_law_is_some" (defScope (top 55)) (He.ga K "_law_is_some") cdv A outer s H E) rfl rfl rfl rfl
  have po := passes_of (X := cxD P0 w K mg base ["way", "whole_v", "k", "one"] "_law_is_some" (defScope (top 55)) (He.ga K "_law_is_some") cdv A outer s H E) rfl
  exact s_seq (s_st nd (by kernel_rfl) (s_int) rfl (.inl rfl)) (s_seq (s_for po calm (s_it (s_v (by kernel_rfl))) (g_nm nd (by kernel_rfl) (.inl rfl)) (s_one (s_if (PW.pt (s_andT (t_lt hu (s_v (by kernel_rfl)) (s_len (gl_of (by kernel_rfl)) h_len (s_cons (s_v (by kernel_rfl)) (s_nil) rfl) rfl rfl) rfl) (s_and1 (t_eq hu (s_idx hu (s_v (by kernel_rfl)) (s_v (by kernel_rfl)) (fun _ _ => rfl)) (s_v (by kernel_rfl)) rfl)))) (s_one (s_st nd (by kernel_rfl) (s_add (s_v (by kernel_rfl)) (s_int)) rfl (.inl rfl))) (s_end))) (fun _ => rfl)) (s_one (s_ret (s_andV (s_eq hu (s_v (by kernel_rfl)) (s_len (gl_of (by kernel_rfl)) h_len (s_cons (s_v (by kernel_rfl)) (s_nil) rfl) rfl rfl) rfl) (s_andV (s_eq hu (s_idx hu (s_v (by kernel_rfl)) (s_int) (fun _ _ => rfl)) (s_idx hu (s_v (by kernel_rfl)) (s_int) (fun _ _ => rfl)) rfl) (s_oneV (s_eq hu (s_idx hu (s_v (by kernel_rfl)) (s_neg (s_int)) (fun _ _ => rfl)) (s_idx hu (s_v (by kernel_rfl)) (s_neg (s_int)) (fun _ _ => rfl)) rfl)))))))
theorem sc__law_free_way : FnScope ["source", "limits", "contacts", "most", "found", "lap", "one"] ["source", "limits", "contacts", "most"] (defScope (top 56)) := ⟨by kernel_rfl, by kernel_rfl, by kernel_rfl, by decide +kernel, rfl, by decide +kernel, by decide +kernel⟩
theorem ok__law_free_way (c : SaysX fas dfs gfs K) (X : K.In h) (G : h.Ns mainGlobals mg) (d__law_any_standing : Defd P0 w K mg base Cl "_law_any_standing" 2 3 f__law_any_standing) (d__law_is_free : Defd P0 w K mg base Cl "_law_is_free" 4 7 f__law_is_free) : Defd P0 w K mg base Cl "_law_free_way" 4 8 f__law_free_way := by
  obtain ⟨fd, F⟩ := def_gd c 49 (top 56) "_law_free_way" (by kernel_rfl)
  have h_len : mg "len" = none := fa_free c X G 57 "len" (by kernel_rfl)
  have h_range : mg "range" = none := fa_free c X G 61 "range" (by kernel_rfl)
  have h_tuple : mg "tuple" = none := fa_free c X G 65 "tuple" (by kernel_rfl)
  refine @Defd.mk' P0 w K mg base Cl "_law_free_way" "_law_free_way" (defArgs (top 56)) (defBody (top 56)) (defScope (top 56)) [] _ fd ["source", "limits", "contacts", "most", "found", "lap", "one"] ["source", "limits", "contacts", "most"] 4 7 b__law_free_way (fa_glo c X G 49 "_law_free_way" (by kernel_rfl)) F sc__law_free_way rfl (fun _ _ _ _ _ _ us hl => match us, hl with | [_, _, _, _], _ => by kernel_rfl) fun cdv A outer s H E hr => ?_
  have hu := hr.units
  have nd := sc__law_free_way.nd
  have calm : (cxD P0 w K mg base ["source", "limits", "contacts", "most", "found", "lap", "one"] "_law_free_way" (defScope (top 56)) (He.ga K "_law_free_way") cdv A outer s H E).calm = true := rfl
  have tk := takes_of (X := cxD P0 w K mg base ["source", "limits", "contacts", "most", "found", "lap", "one"] "_law_free_way" (defScope (top 56)) (He.ga K "_law_free_way") cdv A outer s H E) rfl rfl rfl rfl
  have po := passes_of (X := cxD P0 w K mg base ["source", "limits", "contacts", "most", "found", "lap", "one"] "_law_free_way" (defScope (top 56)) (He.ga K "_law_free_way") cdv A outer s H E) rfl
  exact s_seq (s_st nd (by kernel_rfl) (s_lst (s_nil)) rfl (.inl rfl)) (s_seq (s_for po calm (s_rg1 (gl_of (by kernel_rfl)) h_range (s_int) rfl) (g_nm nd (by kernel_rfl) (.inl rfl)) (s_seq (s_st nd (by kernel_rfl) (s_fn (d__law_any_standing.up (by decide)) hr (gl_of (by kernel_rfl)) tk (s_cons (s_v (by kernel_rfl)) (s_cons (s_v (by kernel_rfl)) (s_nil) rfl) rfl) (by decide) rfl rfl) rfl (.inl rfl)) (s_one (s_if (PW.pt (s_orT (PW.pt (s_andT (t_eq hu (s_v (by kernel_rfl)) (s_lst (s_nil)) rfl) (s_and1 (s_tru (s_fn (d__law_is_free.up (by decide)) hr (gl_of (by kernel_rfl)) tk (s_cons (s_v (by kernel_rfl)) (s_cons (s_v (by kernel_rfl)) (s_cons (s_v (by kernel_rfl)) (s_cons (s_v (by kernel_rfl)) (s_nil) rfl) rfl) rfl) rfl) (by decide) rfl rfl) (fun _ => rfl))))) (s_or1 (PW.pt (s_andT (t_ne hu (s_v (by kernel_rfl)) (s_lst (s_nil)) rfl) (s_andT (t_lt hu (s_len (gl_of (by kernel_rfl)) h_len (s_cons (s_v (by kernel_rfl)) (s_nil) rfl) rfl rfl) (s_v (by kernel_rfl)) rfl) (s_and1 (s_tru (s_fn (d__law_is_free.up (by decide)) hr (gl_of (by kernel_rfl)) tk (s_cons (s_v (by kernel_rfl)) (s_cons (s_v (by kernel_rfl)) (s_cons (s_idx hu (s_v (by kernel_rfl)) (s_neg (s_int)) (fun _ _ => rfl)) (s_cons (s_v (by kernel_rfl)) (s_nil) rfl) rfl) rfl) rfl) (by decide) rfl rfl) (fun _ => rfl))))))))) (s_one (s_drop (s_append (s_v (by kernel_rfl)) (s_cons (s_v (by kernel_rfl)) (s_nil) rfl) rfl rfl rfl) rfl)) (s_end)))) (fun _ => rfl)) (s_one (s_ret (s_tuple (gl_of (by kernel_rfl)) h_tuple (s_cons (s_v (by kernel_rfl)) (s_nil) rfl) rfl rfl))))
theorem sc_law : FnScope ["script", "source", "lap", "limits", "contacts", "whole_v", "kept", "told", "rows", "due", "contact", "n", "k", "q", "r", "box", "way", "x", "y"] ["script"] (defScope (top 57)) := ⟨by kernel_rfl, by kernel_rfl, by kernel_rfl, by decide +kernel, rfl, by decide +kernel, by decide +kernel⟩
theorem ok_law (c : SaysX fas dfs gfs K) (X : K.In h) (G : h.Ns mainGlobals mg) (d__law_any_contact : Defd P0 w K mg base Cl "_law_any_contact" 2 3 f__law_any_contact) (d__law_any_limits : Defd P0 w K mg base Cl "_law_any_limits" 2 2 f__law_any_limits) (d__law_free_way : Defd P0 w K mg base Cl "_law_free_way" 4 8 f__law_free_way) (d__law_is_free : Defd P0 w K mg base Cl "_law_is_free" 4 7 f__law_is_free) (d__law_is_lean : Defd P0 w K mg base Cl "_law_is_lean" 3 8 f__law_is_lean) (d__law_is_some : Defd P0 w K mg base Cl "_law_is_some" 2 1 f__law_is_some) (d__law_pick : Defd P0 w K mg base Cl "_law_pick" 2 1 f__law_pick) (d__law_source : Defd P0 w K mg base Cl "_law_source" 1 1 f__law_source) (d_is_lean_way : Defd P0 w K mg base Cl "is_lean_way" 3 8 f_is_lean_way) (d_judge_way : Defd P0 w K mg base Cl "judge_way" 3 6 f_judge_way) (d_made_lean : Defd P0 w K mg base Cl "made_lean" 3 8 f_made_lean) : LawC P0 w K mg base Cl "law" "script" f_law := by
  obtain ⟨fd, F⟩ := def_gd c 50 (top 57) "law" (by kernel_rfl)
  have h_isinstance : mg "isinstance" = none := fa_free c X G 56 "isinstance" (by kernel_rfl)
  have h_len : mg "len" = none := fa_free c X G 57 "len" (by kernel_rfl)
  have h_min : mg "min" = none := fa_free c X G 60 "min" (by kernel_rfl)
  have h_range : mg "range" = none := fa_free c X G 61 "range" (by kernel_rfl)
  have h_repr : mg "repr" = none := fa_free c X G 62 "repr" (by kernel_rfl)
  have h_tuple : mg "tuple" = none := fa_free c X G 65 "tuple" (by kernel_rfl)
  refine @LawC.mk' P0 w K mg base Cl "law" "law" "script" (defArgs (top 57)) (defBody (top 57)) (defScope (top 57)) [] _ fd ["script", "source", "lap", "limits", "contacts", "whole_v", "kept", "told", "rows", "due", "contact", "n", "k", "q", "r", "box", "way", "x", "y"] 8 b_law (fa_glo c X G 50 "law" (by kernel_rfl)) F sc_law ⟨rfl, by decide, by decide⟩ (fun _ _ _ _ _ _ us hl => match us, hl with | [_], _ => by kernel_rfl) fun cdv s H E hr => ?_
  have hu := hr.units
  have nd := sc_law.nd
  have calm : (cxD P0 w K mg base ["script", "source", "lap", "limits", "contacts", "whole_v", "kept", "told", "rows", "due", "contact", "n", "k", "q", "r", "box", "way", "x", "y"] "law" (defScope (top 57)) (He.ga K "law") cdv callerA [] s H E).calm = true := rfl
  have tk := takes_of (X := cxD P0 w K mg base ["script", "source", "lap", "limits", "contacts", "whole_v", "kept", "told", "rows", "due", "contact", "n", "k", "q", "r", "box", "way", "x", "y"] "law" (defScope (top 57)) (He.ga K "law") cdv callerA [] s H E) rfl rfl rfl rfl
  have hgd : (cxD P0 w K mg base ["script", "source", "lap", "limits", "contacts", "whole_v", "kept", "told", "rows", "due", "contact", "n", "k", "q", "r", "box", "way", "x", "y"] "law" (defScope (top 57)) (He.ga K "law") cdv callerA [] s H E).A.guards = some [] := rfl
  have po := passes_of (X := cxD P0 w K mg base ["script", "source", "lap", "limits", "contacts", "whole_v", "kept", "told", "rows", "due", "contact", "n", "k", "q", "r", "box", "way", "x", "y"] "law" (defScope (top 57)) (He.ga K "law") cdv callerA [] s H E) rfl
  exact s_seq (s_st nd (by kernel_rfl) (s_fn (d__law_source.up (by decide)) hr (gl_of (by kernel_rfl)) tk (s_cons (s_v (by kernel_rfl)) (s_nil) rfl) (by decide) rfl rfl) rfl (.inl rfl)) (s_seq (s_for po calm (s_rg1 (gl_of (by kernel_rfl)) h_range (s_int) rfl) (g_nm nd (by kernel_rfl) (.inl rfl)) (s_seq (s_st nd (by kernel_rfl) (s_fn (d__law_any_limits.up (by decide)) hr (gl_of (by kernel_rfl)) tk (s_cons (s_v (by kernel_rfl)) (s_cons (s_add (s_int) (s_fn (d__law_pick.up (by decide)) hr (gl_of (by kernel_rfl)) tk (s_cons (s_v (by kernel_rfl)) (s_cons (s_int) (s_nil) rfl) rfl) (by decide) rfl rfl)) (s_nil) rfl) rfl) (by decide) rfl rfl) rfl (.inl rfl)) (s_seq (s_st nd (by kernel_rfl) (s_lc (own := [("contact", 10)]) calm nd (s_it (s_lc (own := [("k", 12)]) calm nd (s_rg1 (gl_of (by kernel_rfl)) h_range (s_add (s_int) (s_fn (d__law_pick.up (by decide)) hr (gl_of (by kernel_rfl)) tk (s_cons (s_v (by kernel_rfl)) (s_cons (s_int) (s_nil) rfl) rfl) (by decide) rfl rfl)) rfl) (blk_of (by kernel_rfl)) (fun s H C cl fp => (g_nm nd (by kernel_rfl) (.inr (by kernel_rfl)))) (fun s H C cl fp => (s_pts0)) (fun s H C cl fp => (s_fn (d__law_any_contact.up (by decide)) hr (gl_of (by kernel_rfl)) takes0 (s_cons (s_v (by kernel_rfl)) (s_cons (s_v (by kernel_rfl)) (s_nil) rfl) rfl) (by decide) rfl rfl)) (by decide) (fun _ => rfl))) (blk_of (by kernel_rfl)) (fun s H C cl fp => (g_nm nd (by kernel_rfl) (.inr (by kernel_rfl)))) (fun s H C cl fp => (s_pts1 (t_ne hu (s_v (by kernel_rfl)) (s_tup (s_nil)) rfl))) (fun s H C cl fp => (s_v (by kernel_rfl))) (by decide) (fun _ => rfl)) (by kernel_rfl) (.inl rfl)) (s_seq (s_st nd (by kernel_rfl) (s_fn (d__law_free_way.up (by decide)) hr (gl_of (by kernel_rfl)) tk (s_cons (s_v (by kernel_rfl)) (s_cons (s_v (by kernel_rfl)) (s_cons (s_v (by kernel_rfl)) (s_cons (s_int) (s_nil) rfl) rfl) rfl) rfl) (by decide) rfl rfl) rfl (.inl rfl)) (s_seq (s_if (t_eq hu (s_v (by kernel_rfl)) (s_tup (s_nil)) rfl) (s_one (s_ct)) (s_end)) (s_seq (s_if (PW.pt (s_andT (t_gt hu (s_v (by kernel_rfl)) (s_int) rfl) (s_and1 (s_tru (s_fn (d__law_is_free.up (by decide)) hr (gl_of (by kernel_rfl)) tk (s_cons (s_v (by kernel_rfl)) (s_cons (s_v (by kernel_rfl)) (s_cons (s_idx hu (s_v (by kernel_rfl)) (s_neg (s_int)) (fun _ _ => rfl)) (s_cons (s_idx hu (s_v (by kernel_rfl)) (s_int) (fun _ _ => rfl)) (s_nil) rfl) rfl) rfl) rfl) (by decide) rfl rfl) (fun _ => rfl))))) (s_one (s_st nd (by kernel_rfl) (s_add (s_v (by kernel_rfl)) (s_sl (s_v (by kernel_rfl)) s_poN (s_poS (s_int)))) rfl (.inl rfl))) (s_end)) (s_seq (s_st nd (by kernel_rfl) (s_repr hgd hu (gl_of (by kernel_rfl)) h_repr (s_cons (s_lst (s_cons (s_v (by kernel_rfl)) (s_cons (s_v (by kernel_rfl)) (s_nil) rfl) rfl)) (s_nil) rfl) rfl rfl) rfl (.inl rfl)) (s_seq (s_st nd (by kernel_rfl) (s_fn (d_made_lean.up (by decide)) hr (gl_of (by kernel_rfl)) tk (s_cons (s_v (by kernel_rfl)) (s_cons (s_ifE (t_eq hu (s_v (by kernel_rfl)) (s_int) rfl) (s_tuple (gl_of (by kernel_rfl)) h_tuple (s_cons (s_v (by kernel_rfl)) (s_nil) rfl) rfl rfl) (s_v (by kernel_rfl))) (s_cons (s_v (by kernel_rfl)) (s_nil) rfl) rfl) rfl) (by decide) rfl rfl) rfl (.inl rfl)) (s_seq (s_if (PW.pt (s_orT (s_notT (s_tru (s_isa_tuple (gl_of (by kernel_rfl)) h_isinstance (gl_of (by kernel_rfl)) h_tuple (s_v (by kernel_rfl)) rfl) (fun _ => rfl))) (s_orT (s_notT (s_tru (s_fn (d__law_is_some.up (by decide)) hr (gl_of (by kernel_rfl)) tk (s_cons (s_v (by kernel_rfl)) (s_cons (s_v (by kernel_rfl)) (s_nil) rfl) rfl) (by decide) rfl rfl) (fun _ => rfl))) (s_orT (s_notT (s_tru (s_fn (d__law_is_lean.up (by decide)) hr (gl_of (by kernel_rfl)) tk (s_cons (s_v (by kernel_rfl)) (s_cons (s_v (by kernel_rfl)) (s_cons (s_v (by kernel_rfl)) (s_nil) rfl) rfl) rfl) (by decide) rfl rfl) (fun _ => rfl))) (s_or1 (t_lt hu (s_len (gl_of (by kernel_rfl)) h_len (s_cons (s_v (by kernel_rfl)) (s_nil) rfl) rfl rfl) (s_min2 calm (gl_of (by kernel_rfl)) h_min (s_cons (s_int) (s_cons (s_len (gl_of (by kernel_rfl)) h_len (s_cons (s_v (by kernel_rfl)) (s_nil) rfl) rfl rfl) (s_nil) rfl) rfl) rfl rfl) rfl)))))) (s_one (s_ret (s_bl))) (s_end)) (s_seq (s_setLc (own := [("n", 11)]) calm nd rfl (by kernel_rfl) (by kernel_rfl) (s_rg1 (gl_of (by kernel_rfl)) h_range (s_sub (s_len (gl_of (by kernel_rfl)) h_len (s_cons (s_v (by kernel_rfl)) (s_nil) rfl) rfl rfl) (s_int)) rfl) (blk_of (by kernel_rfl)) (fun s H C cl fp => (g_nm nd (by kernel_rfl) (.inr (by kernel_rfl)))) (fun s H C cl fp => (s_pts0)) (fun s H C cl fp => (s_tup (s_cons (s_idx hu (s_v (by kernel_rfl)) (s_v (by kernel_rfl)) (fun _ _ => rfl)) (s_cons (s_idx hu (s_v (by kernel_rfl)) (s_add (s_v (by kernel_rfl)) (s_int)) (fun _ _ => rfl)) (s_nil) rfl) rfl))) (by decide) (fun _ => rfl)) (s_seq (s_if (PW.pt (s_orT (t_ne hu (s_lc (own := [("q", 13), ("r", 14)]) calm nd (s_it (s_v (by kernel_rfl))) (blk_of (by kernel_rfl)) (fun s H C cl fp => (g_tp calm (g_cons (g_nm nd (by kernel_rfl) (.inr (by kernel_rfl))) (g_cons (g_nm nd (by kernel_rfl) (.inr (by kernel_rfl))) (g_nil) rfl) rfl) rfl rfl)) (fun s H C cl fp => (s_pts1 (s_notT (s_tru (s_fn (d__law_is_free.up (by decide)) hr (gl_of (by kernel_rfl)) takes0 (s_cons (s_v (by kernel_rfl)) (s_cons (s_v (by kernel_rfl)) (s_cons (s_v (by kernel_rfl)) (s_cons (s_v (by kernel_rfl)) (s_nil) rfl) rfl) rfl) rfl) (by decide) rfl rfl) (fun _ => rfl))))) (fun s H C cl fp => (s_int)) (by decide) (fun _ => rfl)) (s_lst (s_nil)) rfl) (s_or1 (s_notNT (s_fn (d_judge_way.up (by decide)) hr (gl_of (by kernel_rfl)) tk (s_cons (s_v (by kernel_rfl)) (s_cons (s_v (by kernel_rfl)) (s_cons (s_v (by kernel_rfl)) (s_nil) rfl) rfl) rfl) (by decide) rfl rfl))))) (s_one (s_ret (s_bl))) (s_end)) (s_seq (s_st nd (by kernel_rfl) (s_lst (s_cons (s_fn (d__law_is_lean.up (by decide)) hr (gl_of (by kernel_rfl)) tk (s_cons (s_v (by kernel_rfl)) (s_cons (s_v (by kernel_rfl)) (s_cons (s_v (by kernel_rfl)) (s_nil) rfl) rfl) rfl) (by decide) rfl rfl) (s_cons (s_bl) (s_nil) rfl) rfl)) rfl (.inl rfl)) (s_seq (s_if (t_ne hu (s_repr hgd hu (gl_of (by kernel_rfl)) h_repr (s_cons (s_lst (s_cons (s_fn (d_is_lean_way.up (by decide)) hr (gl_of (by kernel_rfl)) tk (s_cons (s_v (by kernel_rfl)) (s_cons (s_v (by kernel_rfl)) (s_cons (s_v (by kernel_rfl)) (s_nil) rfl) rfl) rfl) (by decide) rfl rfl) (s_cons (s_fn (d_is_lean_way.up (by decide)) hr (gl_of (by kernel_rfl)) tk (s_cons (s_v (by kernel_rfl)) (s_cons (s_tuple (gl_of (by kernel_rfl)) h_tuple (s_cons (s_v (by kernel_rfl)) (s_nil) rfl) rfl rfl) (s_cons (s_v (by kernel_rfl)) (s_nil) rfl) rfl) rfl) (by decide) rfl rfl) (s_nil) rfl) rfl)) (s_nil) rfl) rfl rfl) (s_repr hgd hu (gl_of (by kernel_rfl)) h_repr (s_cons (s_v (by kernel_rfl)) (s_nil) rfl) rfl rfl) rfl) (s_one (s_ret (s_bl))) (s_end)) (s_one (s_if (PW.pt (s_orT (t_ne hu (s_fn (d_made_lean.up (by decide)) hr (gl_of (by kernel_rfl)) tk (s_cons (s_v (by kernel_rfl)) (s_cons (s_v (by kernel_rfl)) (s_cons (s_v (by kernel_rfl)) (s_nil) rfl) rfl) rfl) (by decide) rfl rfl) (s_v (by kernel_rfl)) rfl) (s_or1 (t_ne hu (s_repr hgd hu (gl_of (by kernel_rfl)) h_repr (s_cons (s_lst (s_cons (s_v (by kernel_rfl)) (s_cons (s_v (by kernel_rfl)) (s_nil) rfl) rfl)) (s_nil) rfl) rfl rfl) (s_v (by kernel_rfl)) rfl)))) (s_one (s_ret (s_bl))) (s_end))))))))))))))) (fun _ => rfl)) (s_seq (s_as (s_tup (s_cons (s_tup (s_cons (s_tup (s_cons (s_int) (s_cons (s_int) (s_nil) rfl) rfl)) (s_cons (s_tup (s_cons (s_int) (s_cons (s_int) (s_nil) rfl) rfl)) (s_nil) rfl) rfl)) (s_cons (s_tup (s_cons (s_tup (s_cons (s_tup (s_cons (s_neg (s_int)) (s_cons (s_int) (s_cons (s_int) (s_nil) rfl) rfl) rfl)) (s_cons (s_neg (s_int)) (s_nil) rfl) rfl)) (s_cons (s_tup (s_cons (s_tup (s_cons (s_neg (s_int)) (s_cons (s_int) (s_cons (s_int) (s_nil) rfl) rfl) rfl)) (s_cons (s_neg (s_int)) (s_nil) rfl) rfl)) (s_cons (s_tup (s_cons (s_tup (s_cons (s_neg (s_int)) (s_cons (s_int) (s_cons (s_int) (s_nil) rfl) rfl) rfl)) (s_cons (s_int) (s_nil) rfl) rfl)) (s_cons (s_tup (s_cons (s_tup (s_cons (s_neg (s_int)) (s_cons (s_int) (s_cons (s_int) (s_nil) rfl) rfl) rfl)) (s_cons (s_int) (s_nil) rfl) rfl)) (s_nil) rfl) rfl) rfl) rfl)) (s_nil) rfl) rfl)) (g_tp calm (g_cons (g_nm nd (by kernel_rfl) (.inl rfl)) (g_cons (g_nm nd (by kernel_rfl) (.inl rfl)) (g_nil) rfl) rfl) rfl rfl) rfl (by kernel_rfl) rfl) (s_seq (s_st nd (by kernel_rfl) (s_tuple (gl_of (by kernel_rfl)) h_tuple (s_cons (s_lc (own := [("x", 17), ("y", 18)]) calm nd (s_it (s_lst (s_cons (s_tup (s_cons (s_int) (s_cons (s_int) (s_nil) rfl) rfl)) (s_cons (s_tup (s_cons (s_int) (s_cons (s_int) (s_nil) rfl) rfl)) (s_cons (s_tup (s_cons (s_int) (s_cons (s_int) (s_nil) rfl) rfl)) (s_cons (s_tup (s_cons (s_int) (s_cons (s_int) (s_nil) rfl) rfl)) (s_cons (s_tup (s_cons (s_int) (s_cons (s_int) (s_nil) rfl) rfl)) (s_cons (s_tup (s_cons (s_int) (s_cons (s_int) (s_nil) rfl) rfl)) (s_nil) rfl) rfl) rfl) rfl) rfl) rfl))) (blk_of (by kernel_rfl)) (fun s H C cl fp => (g_tp calm (g_cons (g_nm nd (by kernel_rfl) (.inr (by kernel_rfl))) (g_cons (g_nm nd (by kernel_rfl) (.inr (by kernel_rfl))) (g_nil) rfl) rfl) rfl rfl)) (fun s H C cl fp => (s_pts0)) (fun s H C cl fp => (s_tup (s_cons (s_tup (s_cons (s_v (by kernel_rfl)) (s_cons (s_int) (s_nil) rfl) rfl)) (s_cons (s_tup (s_cons (s_v (by kernel_rfl)) (s_cons (s_int) (s_nil) rfl) rfl)) (s_nil) rfl) rfl))) (by decide) (fun _ => rfl)) (s_nil) rfl) rfl rfl) rfl (.inl rfl)) (s_seq (s_st nd (by kernel_rfl) (s_fn (d_made_lean.up (by decide)) hr (gl_of (by kernel_rfl)) tk (s_cons (s_v (by kernel_rfl)) (s_cons (s_lst (s_cons (s_v (by kernel_rfl)) (s_nil) rfl)) (s_cons (s_v (by kernel_rfl)) (s_nil) rfl) rfl) rfl) (by decide) rfl rfl) rfl (.inl rfl)) (s_seq (s_if (PW.pt (s_orT (s_notT (s_tru (s_fn (d__law_is_some.up (by decide)) hr (gl_of (by kernel_rfl)) tk (s_cons (s_v (by kernel_rfl)) (s_cons (s_v (by kernel_rfl)) (s_nil) rfl) rfl) (by decide) rfl rfl) (fun _ => rfl))) (s_orT (s_notT (s_tru (s_fn (d__law_is_lean.up (by decide)) hr (gl_of (by kernel_rfl)) tk (s_cons (s_v (by kernel_rfl)) (s_cons (s_lst (s_cons (s_v (by kernel_rfl)) (s_nil) rfl)) (s_cons (s_v (by kernel_rfl)) (s_nil) rfl) rfl) rfl) (by decide) rfl rfl) (fun _ => rfl))) (s_or1 (s_notNT (s_fn (d_judge_way.up (by decide)) hr (gl_of (by kernel_rfl)) tk (s_cons (s_v (by kernel_rfl)) (s_cons (s_lst (s_cons (s_v (by kernel_rfl)) (s_nil) rfl)) (s_cons (s_v (by kernel_rfl)) (s_nil) rfl) rfl) rfl) (by decide) rfl rfl)))))) (s_one (s_ret (s_bl))) (s_end)) (s_one (s_ret (s_andV (s_isB (s_fn (d_is_lean_way.up (by decide)) hr (gl_of (by kernel_rfl)) tk (s_cons (s_v (by kernel_rfl)) (s_cons (s_lst (s_cons (s_v (by kernel_rfl)) (s_nil) rfl)) (s_cons (s_v (by kernel_rfl)) (s_nil) rfl) rfl) rfl) (by decide) rfl rfl)) (s_oneV (s_eq hu (s_fn (d_made_lean.up (by decide)) hr (gl_of (by kernel_rfl)) tk (s_cons (s_v (by kernel_rfl)) (s_cons (s_lst (s_nil)) (s_cons (s_v (by kernel_rfl)) (s_nil) rfl) rfl) rfl) (by decide) rfl rfl) (s_tup (s_cons (s_idx hu (s_v (by kernel_rfl)) (s_int) (fun _ _ => rfl)) (s_cons (s_idx hu (s_v (by kernel_rfl)) (s_neg (s_int)) (fun _ _ => rfl)) (s_nil) rfl) rfl)) rfl))))))))))
theorem ok_all (c : SaysX fas dfs gfs K) (X : K.In h) (G : h.Ns mainGlobals mg) : LawC P0 w K mg base Cl "law" "script" f_law := by
  have d_is_integer : Defd P0 w K mg base Cl "is_integer" 1 1 f_is_integer := ok_is_integer c X G 
  have d_made : Defd P0 w K mg base Cl "made" 2 1 f_made := ok_made c X G 
  have d_whole : Defd P0 w K mg base Cl "whole" 1 1 f_whole := ok_whole c X G 
  have d_less : Defd P0 w K mg base Cl "less" 2 1 f_less := ok_less c X G 
  have d_sign_of : Defd P0 w K mg base Cl "sign_of" 1 1 f_sign_of := ok_sign_of c X G 
  have d_legs_of : Defd P0 w K mg base Cl "legs_of" 1 1 f_legs_of := ok_legs_of c X G 
  have d__law_source : Defd P0 w K mg base Cl "_law_source" 1 1 f__law_source := ok__law_source c X G 
  have d__law_pick : Defd P0 w K mg base Cl "_law_pick" 2 1 f__law_pick := ok__law_pick c X G 
  have d__law_least : Defd P0 w K mg base Cl "_law_least" 2 1 f__law_least := ok__law_least c X G 
  have d__law_is_below : Defd P0 w K mg base Cl "_law_is_below" 2 1 f__law_is_below := ok__law_is_below c X G 
  have d__law_common : Defd P0 w K mg base Cl "_law_common" 2 1 f__law_common := ok__law_common c X G 
  have d__law_is_some : Defd P0 w K mg base Cl "_law_is_some" 2 1 f__law_is_some := ok__law_is_some c X G 
  have d_is_fraction : Defd P0 w K mg base Cl "is_fraction" 1 2 f_is_fraction := ok_is_fraction c X G d_is_integer
  have d_plus : Defd P0 w K mg base Cl "plus" 2 2 f_plus := ok_plus c X G d_made
  have d_minus : Defd P0 w K mg base Cl "minus" 2 2 f_minus := ok_minus c X G d_made
  have d_times : Defd P0 w K mg base Cl "times" 2 2 f_times := ok_times c X G d_made
  have d_over : Defd P0 w K mg base Cl "over" 2 2 f_over := ok_over c X G d_made
  have d_greatest : Defd P0 w K mg base Cl "greatest" 1 2 f_greatest := ok_greatest c X G d_less
  have d_least : Defd P0 w K mg base Cl "least" 1 2 f_least := ok_least c X G d_less
  have d_is_within : Defd P0 w K mg base Cl "is_within" 2 2 f_is_within := ok_is_within c X G d_less d_whole
  have d__law_of : Defd P0 w K mg base Cl "_law_of" 2 2 f__law_of := ok__law_of c X G d__law_pick
  have d__law_mixed : Defd P0 w K mg base Cl "_law_mixed" 2 2 f__law_mixed := ok__law_mixed c X G d__law_pick
  have d__law_sum : Defd P0 w K mg base Cl "_law_sum" 2 2 f__law_sum := ok__law_sum c X G d__law_least
  have d__law_times : Defd P0 w K mg base Cl "_law_times" 2 2 f__law_times := ok__law_times c X G d__law_least
  have d__law_minus : Defd P0 w K mg base Cl "_law_minus" 2 2 f__law_minus := ok__law_minus c X G d__law_least
  have d__law_most : Defd P0 w K mg base Cl "_law_most" 1 2 f__law_most := ok__law_most c X G d__law_is_below
  have d__law_fewest : Defd P0 w K mg base Cl "_law_fewest" 1 2 f__law_fewest := ok__law_fewest c X G d__law_is_below
  have d__law_in_limits : Defd P0 w K mg base Cl "_law_in_limits" 2 2 f__law_in_limits := ok__law_in_limits c X G d__law_is_below
  have d__law_any_form : Defd P0 w K mg base Cl "_law_any_form" 2 2 f__law_any_form := ok__law_any_form c X G d__law_common d__law_pick
  have d__law_any_limits : Defd P0 w K mg base Cl "_law_any_limits" 2 2 f__law_any_limits := ok__law_any_limits c X G d__law_pick
  have d_value_at : Defd P0 w K mg base Cl "value_at" 2 3 f_value_at := ok_value_at c X G d_plus d_times d_whole
  have d_is_standing : Defd P0 w K mg base Cl "is_standing" 2 3 f_is_standing := ok_is_standing c X G d_is_fraction
  have d__law_value : Defd P0 w K mg base Cl "_law_value" 2 3 f__law_value := ok__law_value c X G d__law_sum
  have d__law_at_moment : Defd P0 w K mg base Cl "_law_at_moment" 3 3 f__law_at_moment := ok__law_at_moment c X G d__law_minus d__law_sum d__law_times
  have d__law_any_contact : Defd P0 w K mg base Cl "_law_any_contact" 2 3 f__law_any_contact := ok__law_any_contact c X G d__law_any_form d__law_pick
  have d__law_any_standing : Defd P0 w K mg base Cl "_law_any_standing" 2 3 f__law_any_standing := ok__law_any_standing c X G d__law_least d__law_of d__law_pick
  have d_distances_at : Defd P0 w K mg base Cl "distances_at" 2 4 f_distances_at := ok_distances_at c X G d_times d_value_at d_whole
  have d_has_form : Defd P0 w K mg base Cl "has_form" 2 4 f_has_form := ok_has_form c X G d_is_standing
  have d__law_slack_list : Defd P0 w K mg base Cl "_law_slack_list" 2 4 f__law_slack_list := ok__law_slack_list c X G d__law_times d__law_value
  have d_span : Defd P0 w K mg base Cl "span" 3 5 f_span := ok_span c X G d_distances_at d_greatest d_least d_less d_minus d_over d_sign_of
  have d__law_moments : Defd P0 w K mg base Cl "_law_moments" 3 5 f__law_moments := ok__law_moments c X G d__law_fewest d__law_is_below d__law_least d__law_minus d__law_slack_list
  have d_leg_fault : Defd P0 w K mg base Cl "leg_fault" 4 6 f_leg_fault := ok_leg_fault c X G d_is_within d_span
  have d_judge_way : Defd P0 w K mg base Cl "judge_way" 3 6 f_judge_way := ok_judge_way c X G d_has_form d_is_within d_legs_of d_span
  have d__law_span : Defd P0 w K mg base Cl "_law_span" 3 6 f__law_span := ok__law_span c X G d__law_at_moment d__law_moments d__law_most d__law_slack_list d__law_sum d__law_times
  have d_first_needless : Defd P0 w K mg base Cl "first_needless" 3 7 f_first_needless := ok_first_needless c X G d_leg_fault
  have d__law_is_free : Defd P0 w K mg base Cl "_law_is_free" 4 7 f__law_is_free := ok__law_is_free c X G d__law_in_limits d__law_span
  have d_is_lean_way : Defd P0 w K mg base Cl "is_lean_way" 3 8 f_is_lean_way := ok_is_lean_way c X G d_first_needless
  have d_made_lean : Defd P0 w K mg base Cl "made_lean" 3 8 f_made_lean := ok_made_lean c X G d_first_needless
  have d__law_is_lean : Defd P0 w K mg base Cl "_law_is_lean" 3 8 f__law_is_lean := ok__law_is_lean c X G d__law_is_free
  have d__law_free_way : Defd P0 w K mg base Cl "_law_free_way" 4 8 f__law_free_way := ok__law_free_way c X G d__law_any_standing d__law_is_free
  exact ok_law c X G d__law_any_contact d__law_any_limits d__law_free_way d__law_is_free d__law_is_lean d__law_is_some d__law_pick d__law_source d_is_lean_way d_judge_way d_made_lean
end
end Ev
set_option maxHeartbeats 1000000
set_option exponentiation.threshold 20000
namespace Ev
open PySem PySem.Spec PyProof.Rows L2
abbrev NoE : Nat → List (Str × D) → S → Prop := fun _ _ _ => False
/-! ### the store grows -/
structure Le (s s' : S) : Prop where
  n : s.n.nat ≤ s'.n.nat
  get : ∀ p : Ps, p.nat < s.n.nat → s'.get p = s.get p
theorem Le.rfl {s : S} : Le s s := ⟨Nat.le_refl _, fun _ _ => Eq.refl _⟩
theorem Le.trans {s s1 s2 : S} (a : Le s s1) (b : Le s1 s2) : Le s s2 := ⟨Nat.le_trans a.n b.n, fun p h => (b.get p (Nat.lt_of_lt_of_le h a.n)).trans (a.get p h)⟩
theorem Le.push {s : S} {o : O} : Le s (s.push o) := ⟨by show s.n.nat ≤ s.n.succ.nat; rw [Ps.nat_succ]; omega, fun p h => S.get_push_ne (fun e => by subst e; omega)⟩
theorem Le.set {s s' : S} {p : Ps} {o : O} (a : Le s s') (h : s.n.nat ≤ p.nat) : Le s (s'.set p o) := ⟨a.n, fun q hq => (S.get_set_ne (fun e => by subst e; omega)).trans (a.get q hq)⟩
theorem push_n {s : S} {o : O} : (s.push o).n.nat = s.n.nat + 1 := Ps.nat_succ _
theorem set_n {s : S} {p : Ps} {o : O} : (s.set p o).n = s.n := rfl
/-- a list that stands there -/
structure Has (s : S) (p : Ps) (o : O) : Prop where
  lt : p.nat < s.n.nat
  get : s.get p = some o
theorem Has.le {s s' : S} {p : Ps} {o : O} (h : Has s p o) (l : Le s s') : Has s' p o := ⟨Nat.lt_of_lt_of_le h.lt l.n, (l.get p h.lt).trans h.get⟩
theorem Has.push {s : S} {o : O} : Has (s.push o) s.n o := ⟨by rw [push_n]; omega, S.get_push_same _ _⟩
theorem Has.set {s : S} {p : Ps} {o o' : O} (h : Has s p o) : Has (s.set p o') p o' := ⟨h.lt, S.get_set_same _ _ _⟩
theorem Has.set_ne {s : S} {p q : Ps} {o o' : O} (h : Has s p o) (n : q ≠ p) : Has (s.set q o') p o := ⟨h.lt, (S.get_set_ne n).trans h.get⟩
/-- what a value that can be walked has -/
inductive Its (s : S) : D → List D → Prop
  | tup {xs : List D} : Its s (.tup xs) xs
  | lst {p : Ps} {xs : List D} : Has s p (.lst xs) → Its s (.ref p) xs
theorem Its.le {s s' : S} {d : D} {xs : List D} (h : Its s d xs) (l : Le s s') : Its s' d xs := by
  cases h with
  | tup => exact .tup
  | lst h => exact .lst (h.le l)
theorem Its.items {s : S} {d : D} {xs : List D} (h : Its s d xs) : items s d = some xs := by
  cases h with
  | tup => rfl
  | lst h => simp only [Ev.items, h.get]
/-! ### readings -/
theorem w_ok {α : Type} {a : α} {s : S} {P : α → S → Prop} {E : Nat → List (Str × D) → S → Prop} : (R.ok a s).wp P E = P a s := rfl
theorem w_bad {α : Type} {P : α → S → Prop} {E : Nat → List (Str × D) → S → Prop} : (R.bad : R α).wp P E = False := rfl
theorem w_ex {α : Type} {c : Nat} {fs : List (Str × D)} {s : S} {P : α → S → Prop} {E : Nat → List (Str × D) → S → Prop} : (R.ex c fs s : R α).wp P E = E c fs s := rfl
theorem w_noX {α : Type} {r : R α} {P : α → S → Prop} {E : Nat → List (Str × D) → S → Prop} : (noX r).wp P E = r.wp P NoE := by cases r <;> rfl
theorem w_if {α : Type} {c : Prop} [Decidable c] {a b : R α} {P : α → S → Prop} {E : Nat → List (Str × D) → S → Prop} : (if c then a else b).wp P E = if c then a.wp P E else b.wp P E := by split <;> rfl
theorem wS_if {c : Prop} [Decidable c] {a b : RS} {Q : EQ} : (if c then a else b).wp Q = if c then a.wp Q else b.wp Q := by split <;> rfl
theorem w_var {i : Nat} {e : En} {s : S} : cVar i e s = match e[i]? with
  | some (some d) => .ok d s
  | _ => .bad := rfl
theorem w_mul {i j : Int} {s : S} {P : D → S → Prop} {E : Nat → List (Str × D) → S → Prop} : (dMul (.int i) (.int j) s).wp P E = (mulB i j = true ∧ P (.int (i * j)) s) := by
  show (if mulB i j = true then R.ok (D.int (i * j)) s else .bad).wp P E = _
  rw [w_if]; by_cases h : mulB i j = true <;> simp [h, w_ok, w_bad]
theorem w_fdv {i j : Int} {s : S} {P : D → S → Prop} {E : Nat → List (Str × D) → S → Prop} : (dFdv (.int i) (.int j) s).wp P E = ((j ≠ 0 ∧ bLog j < 9000) ∧ P (.int (i.fdiv j)) s) := by
  show (if (decide (j ≠ 0) && decide (bLog j < 9000)) = true then R.ok (D.int (i.fdiv j)) s else .bad).wp P E = _
  rw [w_if]; by_cases h : (decide (j ≠ 0) && decide (bLog j < 9000)) = true
  · rw [if_pos h]; simp only [Bool.and_eq_true, decide_eq_true_eq] at h; simp only [w_ok, h, true_and, ne_eq, not_false_eq_true]
  · rw [if_neg h]; simp only [Bool.and_eq_true, decide_eq_true_eq] at h; simp only [w_bad, h, false_and]
theorem w_mod {i j : Int} {s : S} {P : D → S → Prop} {E : Nat → List (Str × D) → S → Prop} : (dMod (.int i) (.int j) s).wp P E = (j ≠ 0 ∧ P (.int (i.fmod j)) s) := by
  show (if j = 0 then R.bad else R.ok (D.int (i.fmod j)) s).wp P E = _
  rw [w_if]; by_cases h : j = 0 <;> simp [h, w_ok, w_bad]
theorem w_add {i j : Int} {s : S} : dAdd (.int i) (.int j) s = .ok (.int (i + j)) s := rfl
theorem w_sub {i j : Int} {s : S} : dSub (.int i) (.int j) s = .ok (.int (i - j)) s := rfl
theorem w_neg {i : Int} {s : S} : dNeg (.int i) s = .ok (.int (-i)) s := rfl
theorem w_mkTup {ds : List D} {s : S} {P : D → S → Prop} {E : Nat → List (Str × D) → S → Prop} : (mkTup ds s).wp P E = (short zLine ds = true ∧ P (.tup ds) s) := by
  unfold mkTup; rw [w_if]; by_cases h : short zLine ds = true <;> simp [h, w_ok, w_bad]
theorem w_mkLst {ds : List D} {s : S} {P : D → S → Prop} {E : Nat → List (Str × D) → S → Prop} : (mkLst ds s).wp P E = (short zLine ds = true ∧ P (.ref s.n) (s.push (.lst ds))) := by
  unfold mkLst; rw [w_if]; by_cases h : short zLine ds = true <;> simp [h, w_ok, w_bad]
theorem w_addT {a b : List D} {s : S} : dAdd (.tup a) (.tup b) s = mkTup (a ++ b) s := rfl
theorem w_addL {p q : Ps} {a b : List D} {s : S} (h1 : s.get p = some (.lst a)) (h2 : s.get q = some (.lst b)) : dAdd (.ref p) (.ref q) s = mkLst (a ++ b) s := by
  simp only [dAdd, h1, h2]
theorem w_lt {i j : Int} {s : S} : onP pLt (.int i) (.int j) s = .ok (.bl (decide (i < j))) s := by
  show R.ok (D.bl (PySem.W.dataLt (.int i) (.int j))) s = _
  rw [PySem.W.dataLt_int]
theorem w_gt {i j : Int} {s : S} : onP pGt (.int i) (.int j) s = .ok (.bl (decide (j < i))) s := by
  show R.ok (D.bl (PySem.W.dataLt (.int j) (.int i))) s = _
  rw [PySem.W.dataLt_int]
theorem w_le {i j : Int} {s : S} : onP pLe (.int i) (.int j) s = .ok (.bl (decide (i ≤ j))) s := by
  show R.ok (D.bl (!PySem.W.dataLt (.int j) (.int i))) s = _
  rw [PySem.W.dataLt_int]; congr 2; rw [← decide_not]; exact decide_eq_decide.mpr (by omega)
theorem w_ge {i j : Int} {s : S} : onP pGe (.int i) (.int j) s = .ok (.bl (decide (j ≤ i))) s := by
  show R.ok (D.bl (!PySem.W.dataLt (.int i) (.int j))) s = _
  rw [PySem.W.dataLt_int]; congr 2; rw [← decide_not]; exact decide_eq_decide.mpr (by omega)
theorem eqv_int {i j : Int} : PyData.eqv (.int i) (.int j) = decide (i = j) := by
  show (i == j) = _
  by_cases h : i = j <;> simp [h]
theorem w_eq {i j : Int} {s : S} : onP pEq (.int i) (.int j) s = .ok (.bl (decide (i = j))) s := by
  show R.ok (D.bl (PyData.eqv (.int i) (.int j))) s = _
  rw [eqv_int]
theorem w_ne {i j : Int} {s : S} : onP pNe (.int i) (.int j) s = .ok (.bl (decide (i ≠ j))) s := by
  show R.ok (D.bl (!PyData.eqv (.int i) (.int j))) s = _
  rw [eqv_int, decide_not]
theorem w_i0 {x : D} {ds : List D} {s : S} : dIdx (.tup (x :: ds)) (.int 0) s = .ok x s := by simp [dIdx, lIdx, atI, ixN]
theorem w_i1 {x y : D} {ds : List D} {s : S} : dIdx (.tup (x :: y :: ds)) (.int 1) s = .ok y s := by
  have e : (1 : Int) < (ds.length : Int) + 1 + 1 := by omega
  simp [dIdx, lIdx, atI, ixN, e]
theorem w_toS {α : Type} {r : R α} {e : En} {k : α → S → RS} {P : EQ} : (r.toS e k).wp P = r.wp (fun a s => (k a s).wp P) (fun c fs s => P.ex c fs e s) := toS_wp
def EQ.sq (Q : EQ) (k : En → S → RS) : EQ := { Q with nx := fun e s => (k e s).wp Q }
theorem w_seq {r : RS} {k : En → S → RS} {Q : EQ} : (r.seq k).wp Q = r.wp (Q.sq k) := by cases r <;> rfl
def finQ (P : D → S → Prop) (E : Nat → List (Str × D) → S → Prop) : EQ := ⟨fun _ s => P .non s, P, fun _ _ => False, fun _ _ => False, fun c fs _ s => E c fs s⟩
theorem w_fin {r : RS} {P : D → S → Prop} {E : Nat → List (Str × D) → S → Prop} : r.fin.wp P E = r.wp (finQ P E) := by cases r <;> rfl
theorem w_fnE {n : Nat} {b : SS} {ds : List D} {s : S} {P : D → S → Prop} {E : Nat → List (Str × D) → S → Prop} : (fnE n b ds s).wp P E = (b (ds.map some ++ List.replicate (n - ds.length) none) s).wp (finQ P E) := w_fin
def EQ.turn (Q : EQ) (I : En → S → Prop) : EQ := { Q with nx := I, ct := I, bk := Q.nx }
theorem w_turn {r : RS} {k : En → S → RS} {Q : EQ} : (r.turn k).wp Q = r.wp (Q.turn fun e s => (k e s).wp Q) := by cases r <;> rfl
theorem wS_nx {e : En} {s : S} {Q : EQ} : (RS.nx e s).wp Q = Q.nx e s := rfl
theorem wS_rt {d : D} {s : S} {Q : EQ} : (RS.rt d s).wp Q = Q.rt d s := rfl
theorem wS_bk {e : En} {s : S} {Q : EQ} : (RS.bk e s).wp Q = Q.bk e s := rfl
theorem wS_ct {e : En} {s : S} {Q : EQ} : (RS.ct e s).wp Q = Q.ct e s := rfl
theorem wS_bad {Q : EQ} : (RS.bad).wp Q = False := rfl
/-! ### loops -/
def Wk (j : Jn) (ds : List D) (s : S) : Prop := ∀ i, i ≤ ds.length → j i s = some ds[i]?
theorem wk_sq {s : S} {d : D} {xs : List D} (h : Its s d xs) : Wk (jSq d) xs s := fun i _ => by simp only [jSq, h.items, oSq]
def rgD (lo : Int) (n : Nat) : List D := (List.range n).map fun (i : Nat) => D.int (lo + i)
theorem wk_rg {s : S} {lo : Int} {n : Nat} : Wk (jRg lo n) (rgD lo n) s := fun i h => by
  unfold jRg rgD
  simp only [rgD, List.length_map, List.length_range] at h
  by_cases z : i < n
  · rw [if_pos z]; simp [z]
  · rw [if_neg z]; simp [z]
def enD : Nat → List D → List D
  | _, [] => []
  | k, x :: r => .tup [.int k, x] :: enD (k + 1) r
theorem enD_get : ∀ (xs : List D) (k i : Nat), (enD k xs)[i]? = xs[i]?.map fun x => .tup [.int ((k + i : Nat) : Int), x]
  | [], _, _ => by simp [enD]
  | x :: r, k, 0 => by simp [enD]
  | x :: r, k, i + 1 => by simp [enD, enD_get r (k + 1) i, Nat.add_comm, Nat.add_left_comm]
theorem fuelN_eq : fuelN = 2 ^ 10000 := by with_unfolding_all rfl
theorem fuel_big : 2 ^ 9999 < fuelN :=
  fuelN_eq ▸ show 2 ^ 9999 < 2 ^ 10000 from Nat.pow_lt_pow_right (by decide) (by decide)
theorem lt_fuel {n k : Nat} (h : n < 2 ^ k) (hk : k ≤ 9999) : n < fuelN := Nat.lt_trans (Nat.lt_of_lt_of_le h (Nat.pow_le_pow_right (by decide) hk)) fuel_big
theorem lt_fuelZ {n : Nat} (h : n ≤ zLine) : n < fuelN := lt_fuel (k := 30) (by unfold zLine at h; omega) (by decide)
theorem for_rest {α : Type} {j : Jn} {g : IT} {body : SS} {Q : EQ} {ds : List D} (l : List α) (td : α → D) (Inv : List α → En → S → Prop) (hd : ds = l.map td) (hl : l.length < fuelN) {e : En} {s : S} (h0 : Inv l e s)
    (wk : ∀ r e s, Inv r e s → Wk j ds s)
    (step : ∀ dn a r e s, l = dn ++ a :: r → Inv (a :: r) e s → ∃ e1, g.to (td a) e = some e1 ∧ (body e1 s).wp (Q.turn (Inv r)))
    (fin : ∀ e s, Inv [] e s → Q.nx e s) : (forLoop j g body fuelN 0 e s).wp Q := by
  have go : ∀ (r dn : List α) (m : Nat) (e : En) (s : S), l = dn ++ r → r.length < m → Inv r e s → (forLoop j g body m dn.length e s).wp Q := by
    intro r
    induction r with
    | nil =>
      intro dn m e s hl hm h
      obtain ⟨m, rfl⟩ : ∃ k, m = k + 1 := ⟨m - 1, by simp at hm; omega⟩
      rw [forLoop_succ, wk _ _ _ h dn.length (by rw [hd, hl]; simp)]
      have : ds[dn.length]? = none := by rw [hd, hl]; simp
      rw [this]
      exact fin e s h
    | cons a r ih =>
      intro dn m e s hl hm h
      obtain ⟨m, rfl⟩ : ∃ k, m = k + 1 := ⟨m - 1, by simp at hm; omega⟩
      rw [forLoop_succ, wk _ _ _ h dn.length (by rw [hd, hl]; simp)]
      have : ds[dn.length]? = some (td a) := by rw [hd, hl]; simp
      rw [this]
      obtain ⟨e1, h1, h2⟩ := step dn a r e s hl h
      show (forGo body (forLoop j g body m) dn.length s (g.to (td a) e)).wp Q
      rw [h1]
      show ((body e1 s).turn (forLoop j g body m (dn.length + 1))).wp Q
      rw [w_turn]
      have k : ∀ e s, Inv r e s → (forLoop j g body m (dn.length + 1) e s).wp Q := fun e s q => by
        have := ih (dn ++ [a]) m e s (by rw [hl]; simp) (by simpa using hm) q
        simpa using this
      exact h2.mono (fun e s q => k e s q) (fun _ _ q => q) (fun _ _ q => q) (fun e s q => k e s q) (fun _ _ _ _ q => q)
  exact go l [] fuelN e s rfl hl h0
theorem lc_rest {α : Type} {j : Jn} {g : IT} {tt : ET} {te : SE} {e0 : En} {p : Ps} {P : D → S → Prop} {ds : List D} (l : List α) (td : α → D) (Inv : List α → List D → S → Prop) (hd : ds = l.map td) (hl : l.length < fuelN) {s : S} (h0 : Inv l [] s)
    (wk : ∀ r acc s, Inv r acc s → Wk j ds s ∧ s.get p = some (.lst acc) ∧ acc.length ≤ l.length) (hz : l.length ≤ zLine)
    (step : ∀ dn a r acc s, l = dn ++ a :: r → Inv (a :: r) acc s → ∃ e1, g.to (td a) e0 = some e1 ∧ (tt e1 s).wp (fun b s1 => if b = true then (te e1 s1).wp (fun y s2 => s2.get p = some (.lst acc) ∧ Inv r (acc ++ [y]) (s2.set p (.lst (acc ++ [y])))) NoE else Inv r acc s1) NoE)
    (fin : ∀ acc s, Inv [] acc s → P (.ref p) s) {E : Nat → List (Str × D) → S → Prop} : (lcLoop j g tt te e0 p fuelN 0 s).wp P E := by
  have go : ∀ (r dn : List α) (m : Nat) (acc : List D) (s : S), l = dn ++ r → r.length < m → Inv r acc s → (lcLoop j g tt te e0 p m dn.length s).wp P E := by
    intro r
    induction r with
    | nil =>
      intro dn m acc s hl hm h
      obtain ⟨m, rfl⟩ : ∃ k, m = k + 1 := ⟨m - 1, by simp at hm; omega⟩
      rw [lcLoop_succ, (wk _ _ _ h).1 dn.length (by rw [hd, hl]; simp)]
      have : ds[dn.length]? = none := by rw [hd, hl]; simp
      rw [this]
      exact fin acc s h
    | cons a r ih =>
      intro dn m acc s hl' hm h
      obtain ⟨m, rfl⟩ : ∃ k, m = k + 1 := ⟨m - 1, by simp at hm; omega⟩
      rw [lcLoop_succ, (wk _ _ _ h).1 dn.length (by rw [hd, hl']; simp)]
      have : ds[dn.length]? = some (td a) := by rw [hd, hl']; simp
      rw [this]
      obtain ⟨e1, h1, h2⟩ := step dn a r acc s hl' h
      show (lcGo tt te p (lcLoop j g tt te e0 p m) dn.length s (g.to (td a) e0)).wp P E
      rw [h1]
      show ((noX (tt e1 s)).bind fun b s1 => if b = true then (noX (te e1 s1)).bind fun y s2 => lcPut (lcLoop j g tt te e0 p m) dn.length p y s2 (s2.get p) else lcLoop j g tt te e0 p m (dn.length + 1) s1).wp P E
      rw [wp_bind, w_noX]
      refine h2.mono (fun b s1 q => ?_) (fun _ _ _ q => q)
      have k : ∀ acc s, Inv r acc s → (lcLoop j g tt te e0 p m (dn.length + 1) s).wp P E := fun acc s q => by
        have := ih (dn ++ [a]) m acc s (by rw [hl']; simp) (by simpa using hm) q
        simpa using this
      by_cases z : b = true
      · rw [if_pos z] at q ⊢
        rw [wp_bind, w_noX]
        refine q.mono (fun y s2 q => ?_) (fun _ _ _ q => q)
        obtain ⟨q1, q2⟩ := q
        rw [q1]
        have hs : short zLine acc = true := short_of (Nat.le_trans (wk _ _ _ h).2.2 hz)
        show (if short zLine acc = true then lcLoop j g tt te e0 p m (dn.length + 1) (s2.set p (.lst (acc ++ [y]))) else .bad).wp P E
        rw [if_pos hs]
        exact k _ _ q2
      · rw [if_neg z] at q ⊢
        exact k _ _ q
  exact go l [] fuelN [] s rfl hl h0
theorem wh_wp {t : ET} {body : SS} {Q : EQ} (Inv : Nat → En → S → Prop) {m : Nat} (hm : m < fuelN) {e : En} {s : S} (h0 : Inv m e s)
    (step : ∀ m e s, Inv m e s → (t e s).wp (fun b s1 => if b = true then (body e s1).wp (Q.turn fun e s => ∃ k, k < m ∧ Inv k e s) else Q.nx e s1) (fun c fs s => Q.ex c fs e s)) : (cWh t body e s).wp Q := by
  have go : ∀ (f m : Nat) (e : En) (s : S), m < f → Inv m e s → (whLoop t body f e s).wp Q := by
    intro f
    induction f with
    | zero => intro m e s h; omega
    | succ f ih =>
      intro m e s h hI
      rw [whLoop_succ]
      unfold whTurn
      rw [w_toS]
      refine (step m e s hI).mono (fun b s1 q => ?_) (fun _ _ _ q => q)
      by_cases z : b = true
      · rw [if_pos z] at q ⊢
        rw [w_turn]
        have k : ∀ e s, (∃ k, k < m ∧ Inv k e s) → (whLoop t body f e s).wp Q := fun e s ⟨k, h1, h2⟩ => ih k e s (by omega) h2
        exact q.mono k (fun _ _ q => q) (fun _ _ q => q) k (fun _ _ _ _ q => q)
      · rw [if_neg z] at q ⊢
        exact q
  exact go fuelN m e s hm h0
end Ev
set_option maxHeartbeats 1000000
namespace Ev
open PySem PySem.Spec PyProof.Rows L2
theorem wk_z {s : S} {b : Bool} {d d' : D} {xs ys : List D} (h : Its s d xs) (h' : Its s d' ys) (hb : b = true → xs.length = ys.length) : Wk (jZ b d d') (zipD xs ys) s := fun i hi => by
  rw [zipD_length] at hi
  simp only [jZ, h.items, h'.items, oZ]
  by_cases h1 : i < xs.length
  · by_cases h2 : i < ys.length
    · rw [List.getElem?_eq_getElem h1, List.getElem?_eq_getElem h2, zipD_get _ _ _ _ _ (List.getElem?_eq_getElem h1) (List.getElem?_eq_getElem h2)]
      rfl
    · have e : ys[i]? = none := List.getElem?_eq_none_iff.mpr (by omega)
      have e2 : (zipD xs ys)[i]? = none := List.getElem?_eq_none_iff.mpr (by rw [zipD_length]; omega)
      rw [e, e2, List.getElem?_eq_getElem h1]
      have z : zStop b i xs.length ys.length = true := by
        unfold zStop
        cases b with
        | true => have := hb rfl; omega
        | false =>
          simp only [Bool.false_eq_true, if_false, Bool.and_eq_true, Nat.ble_eq, Bool.or_eq_true, beq_iff_eq]
          omega
      show (if zStop b i xs.length ys.length = true then some none else none) = _
      rw [if_pos z]
  · have e : xs[i]? = none := List.getElem?_eq_none_iff.mpr (by omega)
    have e2 : (zipD xs ys)[i]? = none := List.getElem?_eq_none_iff.mpr (by rw [zipD_length]; omega)
    rw [e, e2]
    have z : zStop b i xs.length ys.length = true := by
      unfold zStop
      cases b with
      | true =>
        have := hb rfl
        simp only [if_true, Bool.and_eq_true, beq_iff_eq]
        omega
      | false =>
        simp only [Bool.false_eq_true, if_false, Bool.and_eq_true, Nat.ble_eq, Bool.or_eq_true, beq_iff_eq]
        omega
    show (if zStop b i xs.length ys.length = true then some none else none) = _
    rw [if_pos z]
theorem enD_len : ∀ (xs : List D) (k : Nat), (enD k xs).length = xs.length
  | [], _ => rfl
  | _ :: r, k => by simp [enD, enD_len r]
theorem wk_en {s : S} {d : D} {xs : List D} (h : Its s d xs) : Wk (jEn d) (enD 0 xs) s := fun i hi => by
  simp only [jEn, h.items, enD_get, Nat.zero_add]
  rw [enD_len] at hi
  cases q : xs[i]? with
  | none =>
    have := List.getElem?_eq_none_iff.mp q
    simp only [oEn, q, Option.map_none]
    rw [if_pos (by omega)]
  | some x => simp [oEn, q]
/-! ### each construct, read by wp -/
section
variable {P : D → S → Prop} {Ps : List D → S → Prop} {Pb : Bool → S → Prop} {Pj : Jn → S → Prop} {E : Nat → List (Str × D) → S → Prop} {Q : EQ} {e : En} {s : S} {a b c : SE} {as r : SEs} {t t' : ST} {f g : D → D → S → R D} {u : D → S → R D}
theorem cl {α : Type} {r : R α} {P Q : α → S → Prop} (h : r.wp Q NoE) (k : ∀ d s, Q d s → P d s) : r.wp P E := h.mono k fun _ _ _ z => z.elim
def rdVar : Option (Option D) → S → R D
  | some (some d), s => .ok d s
  | _, _ => .bad
@[simp] theorem q_var {i : Nat} : cVar i e s = rdVar e[i]? s := by
  unfold cVar rdVar
  cases h : e[i]? with
  | none => rfl
  | some o => cases o <;> rfl
@[simp] theorem q_rd {d : D} : rdVar (some (some d)) s = .ok d s := (rfl)
@[simp] theorem q_cst {d : D} : cCst d e s = .ok d s := (rfl)
@[simp] theorem q_ok {α : Type} {a : α} {P : α → S → Prop} : (R.ok a s).wp P E = P a s := (rfl)
@[simp] theorem q_un : (cUn u a e s).wp P E = (a e s).wp (fun d s1 => (u d s1).wp P NoE) E := by
  unfold cUn; rw [wp_bind]; simp only [w_noX]
@[simp] theorem q_bin : (cBin f a b e s).wp P E = (a e s).wp (fun d s1 => (b e s1).wp (fun d' s2 => (f d d' s2).wp P NoE) E) E := by
  unfold cBin; simp only [wp_bind, w_noX]
@[simp] theorem q_nil : cNil e s = .ok [] s := (rfl)
@[simp] theorem q_cons : (cCons a r e s).wp Ps E = (a e s).wp (fun d s1 => (r e s1).wp (fun ds s2 => Ps (d :: ds) s2) E) E := by
  unfold cCons; simp only [wp_bind, w_ok]
@[simp] theorem q_star : (cStar a r e s).wp Ps E = (a e s).wp (fun d s1 => ∃ xs, items s1 d = some xs ∧ (r e s1).wp (fun ds s2 => Ps (xs ++ ds) s2) E) E := by
  unfold cStar; rw [wp_bind]; congr 1; funext d s1; cases h : items s1 d with
  | none => simp [w_bad]
  | some xs => simp [wp_bind, w_ok]
@[simp] theorem q_tup : (cTup as e s).wp P E = (as e s).wp (fun ds s1 => short zLine ds = true ∧ P (.tup ds) s1) E := by
  unfold cTup; simp only [wp_bind, w_noX, w_mkTup]
@[simp] theorem q_lst : (cLst as e s).wp P E = (as e s).wp (fun ds s1 => short zLine ds = true ∧ P (.ref s1.n) (s1.push (.lst ds))) E := by
  unfold cLst; simp only [wp_bind, w_noX, w_mkLst]
@[simp] theorem q_short0 {α : Type} {n : Nat} : short n ([] : List α) = true := by cases n <;> rfl
@[simp] theorem q_shortZ1 {α : Type} {x : α} : short zLine [x] = true := short_of (by simp [zLine])
@[simp] theorem q_shortZ2 {α : Type} {x y : α} : short zLine [x, y] = true := short_of (by simp [zLine])
@[simp] theorem q_shortZ3 {α : Type} {x y z : α} : short zLine [x, y, z] = true := short_of (by simp [zLine])
@[simp] theorem q_tru : (cTru a e s).wp Pb E = (a e s).wp (fun d s1 => ∃ k, dTru s1 d = some k ∧ Pb k s1) E := by
  unfold cTru; rw [wp_bind]; congr 1; funext d s1; cases h : dTru s1 d <;> simp [w_bad, w_ok]
@[simp] theorem q_tst : (cTst a e s).wp Pb E = (a e s).wp (fun d s1 => ∃ k, d = .bl k ∧ Pb k s1) E := by
  unfold cTst; rw [wp_bind]; congr 1; funext d s1; cases d <;> simp [w_bad, w_ok]
@[simp] theorem q_val : (cVal t e s).wp P E = (t e s).wp (fun k s1 => P (.bl k) s1) E := by
  unfold cVal; rw [wp_bind]; rfl
@[simp] theorem q_notT : (cNotT t e s).wp Pb E = (t e s).wp (fun k s1 => Pb (!k) s1) E := by
  unfold cNotT; rw [wp_bind]; rfl
@[simp] theorem q_andT : (cAndT t t' e s).wp Pb E = (t e s).wp (fun k s1 => if k = true then (t' e s1).wp Pb E else Pb false s1) E := by
  unfold cAndT; rw [wp_bind]; simp only [w_if, w_ok]
@[simp] theorem q_orT : (cOrT t t' e s).wp Pb E = (t e s).wp (fun k s1 => if k = true then Pb true s1 else (t' e s1).wp Pb E) E := by
  unfold cOrT; rw [wp_bind]; simp only [w_if, w_ok]
@[simp] theorem q_yes : cYes e s = .ok true s := (rfl)
@[simp] theorem q_ifE : (cIfE t a b e s).wp P E = (t e s).wp (fun k s1 => if k = true then (a e s1).wp P E else (b e s1).wp P E) E := by
  unfold cIfE; rw [wp_bind]; simp only [w_if]
@[simp] theorem q_orV : (cOrV a b e s).wp P E = (a e s).wp (fun d s1 => ∃ k, dTru s1 d = some k ∧ if k = true then P d s1 else (b e s1).wp P E) E := by
  unfold cOrV; rw [wp_bind]; congr 1; funext d s1; cases h : dTru s1 d with
  | none => simp [w_bad]
  | some k => cases k <;> simp [w_ok]
@[simp] theorem q_andV : (cAndV a b e s).wp P E = (a e s).wp (fun d s1 => ∃ k, dTru s1 d = some k ∧ if k = true then (b e s1).wp P E else P d s1) E := by
  unfold cAndV; rw [wp_bind]; congr 1; funext d s1; cases h : dTru s1 d with
  | none => simp [w_bad]
  | some k => cases k <;> simp [w_ok]
@[simp] theorem q_notV : (cNotV a e s).wp P E = (a e s).wp (fun d s1 => ∃ k, dTru s1 d = some k ∧ P (.bl (!k)) s1) E := by
  unfold cNotV; rw [wp_bind]; congr 1; funext d s1; cases h : dTru s1 d <;> simp [w_bad, w_ok]
@[simp] theorem q_chain : (cChain f g a b c e s).wp P E = (a e s).wp (fun x s1 => (b e s1).wp (fun y s2 => (f x y s2).wp (fun z s3 => ∃ k, z = .bl k ∧ if k = true then (c e s3).wp (fun w s4 => (g y w s4).wp P NoE) E else P (.bl false) s3) NoE) E) E := by
  unfold cChain; simp only [wp_bind, w_noX]; congr 1; funext x s1; congr 1; funext y s2
  congr 1; funext z s3
  cases z with
  | bl k => cases k <;> simp [wp_bind, w_noX, w_ok]
  | _ => simp [w_bad]
@[simp] theorem q_call {F : List D → S → R D} : (cCall F as e s).wp P E = (as e s).wp (fun ds s1 => (F ds s1).wp P NoE) E := by
  unfold cCall; rw [wp_bind]; simp only [w_noX]
@[simp] theorem q_def {F : List D → S → R D} {n : Nat} : (cDef F n as e s).wp P E = (as e s).wp (fun ds s1 => ds.length = n ∧ (F ds s1).wp P E) E := by
  unfold cDef; rw [wp_bind]; congr 1; funext ds s1; rw [w_if]; by_cases h : ds.length = n <;> simp [h, w_bad]
@[simp] theorem q_m {F : D → List D → S → R D} : (cM F a as e s).wp P E = (a e s).wp (fun d s1 => isLst s1 d = true ∧ (as e s1).wp (fun ds s2 => (F d ds s2).wp P NoE) E) E := by
  unfold cM; rw [wp_bind]; congr 1; funext d s1; rw [w_if]; by_cases h : isLst s1 d = true <;> simp [h, w_bad, wp_bind, w_noX]
@[simp] theorem q_lc {it : SI} {g : IT} {tt : ET} {te : SE} {own : List Nat} : (cLc it g tt te own e s).wp P E = (it e s).wp (fun j s1 => (lcLoop j g tt te (wipeE e own) s1.n fuelN 0 (s1.push (.lst []))).wp P E) E := by
  unfold cLc; rw [wp_bind]
@[simp] theorem q_part0 {Po : Option Int → S → Prop} : (cPart none e s).wp Po E = Po none s := (rfl)
@[simp] theorem q_part1 {Po : Option Int → S → Prop} : (cPart (some a) e s).wp Po E = (a e s).wp (fun d s1 => ∃ i, d = .int i ∧ Po (some i) s1) E := by
  unfold cPart; rw [wp_bind]; congr 1; funext d s1; cases d <;> simp [w_bad, w_ok]
@[simp] theorem q_sl {lo hi : Option SE} : (cSl a lo hi e s).wp P E = (a e s).wp (fun d s1 => (cPart lo e s1).wp (fun l s2 => (cPart hi e s2).wp (fun u s3 => (dSl d l u s3).wp P NoE) E) E) E := by
  unfold cSl; simp only [wp_bind, w_noX]
@[simp] theorem q_slT {ds : List D} {l u : Option Int} : dSl (.tup ds) l u s = .ok (.tup (cutD ds l u)) s := (rfl)
@[simp] theorem q_it : (cIt a e s).wp Pj E = (a e s).wp (fun d s1 => (items s1 d).isSome = true ∧ Pj (jSq d) s1) E := by
  unfold cIt; rw [wp_bind]; congr 1; funext d s1; rw [w_if]; by_cases h : (items s1 d).isSome = true <;> simp [h, w_bad, w_ok]
@[simp] theorem q_en : (cEn a e s).wp Pj E = (a e s).wp (fun d s1 => (items s1 d).isSome = true ∧ Pj (jEn d) s1) E := by
  unfold cEn; rw [wp_bind]; congr 1; funext d s1; rw [w_if]; by_cases h : (items s1 d).isSome = true <;> simp [h, w_bad, w_ok]
@[simp] theorem q_z {k : Bool} : (cZ k a b e s).wp Pj E = (a e s).wp (fun d s1 => (b e s1).wp (fun d' s2 => ((items s2 d).isSome && (items s2 d').isSome) = true ∧ Pj (jZ k d d') s2) E) E := by
  unfold cZ; simp only [wp_bind]; congr 1; funext d s1; congr 1; funext d' s2; rw [w_if]; by_cases h : ((items s2 d).isSome && (items s2 d').isSome) = true <;> simp [h, w_bad, w_ok]
@[simp] theorem q_rg1 : (cRg1 a e s).wp Pj E = (a e s).wp (fun d s1 => ∃ i, d = .int i ∧ w62 i = true ∧ Pj (jRg 0 i.toNat) s1) E := by
  unfold cRg1; rw [wp_bind]; congr 1; funext d s1; cases d with
  | int i => simp only [gRg, w_if]; by_cases h : w62 i = true <;> simp [h, w_bad, w_ok]
  | _ => simp [gRg, w_bad]
@[simp] theorem q_rg2 : (cRg2 a b e s).wp Pj E = (a e s).wp (fun d s1 => (b e s1).wp (fun d' s2 => ∃ i j, d = .int i ∧ d' = .int j ∧ w62 i = true ∧ w62 j = true ∧ Pj (jRg i (j - i).toNat) s2) E) E := by
  unfold cRg2; simp only [wp_bind]; congr 1; funext d s1; congr 1; funext d' s2
  cases d with
  | int i => cases d' with
    | int j => simp only [gRg, w_if]; by_cases h : w62 i = true <;> by_cases h' : w62 j = true <;> simp [h, h', w_bad, w_ok]
    | _ => simp [gRg, w_bad]
  | _ => simp [gRg, w_bad]
@[simp] theorem to_nm {i : Nat} {d : D} : IT.to (.nm i) d e = some (e.set i (some d)) := by unfold IT.to; rfl
@[simp] theorem to_tp {ts : ITs} {ds : List D} : IT.to (.tp ts) (.tup ds) e = ITs.to ts ds e := by conv => lhs; unfold IT.to
@[simp] theorem to_nil : ITs.to .nil [] e = some e := by unfold ITs.to; rfl
@[simp] theorem to_cons {x : IT} {ts : ITs} {d : D} {ds : List D} : ITs.to (.cons x ts) (d :: ds) e = (IT.to x d e).bind fun e' => ITs.to ts ds e' := by
  conv => lhs; unfold ITs.to
  generalize h : IT.to x d e = o
  cases o <;> simp [h]
@[simp] theorem q_as {g : IT} : (cAs g a e s).wp Q = (a e s).wp (fun d s1 => ∃ e1, g.to d e = some e1 ∧ Q.nx e1 s1) (fun c fs s => Q.ex c fs e s) := by
  unfold cAs; rw [w_toS]; congr 1; funext d s1; cases h : g.to d e <;> simp [wS_bad, wS_nx]
@[simp] theorem q_par {g : ITs} : (cPar g as e s).wp Q = (as e s).wp (fun ds s1 => ∃ e1, g.to ds e = some e1 ∧ Q.nx e1 s1) (fun c fs s => Q.ex c fs e s) := by
  unfold cPar; rw [w_toS]; congr 1; funext d s1; cases h : g.to d e <;> simp [wS_bad, wS_nx]
@[simp] theorem q_ret : (cRet a e s).wp Q = (a e s).wp Q.rt (fun c fs s => Q.ex c fs e s) := by
  unfold cRet; rw [w_toS]; rfl
@[simp] theorem q_retN : (cRetN e s).wp Q = Q.rt .non s := (rfl)
@[simp] theorem q_drop : (cDrop a e s).wp Q = (a e s).wp (fun _ s1 => Q.nx e s1) (fun c fs s => Q.ex c fs e s) := by
  unfold cDrop; rw [w_toS]; rfl
@[simp] theorem q_pass : (cPass e s).wp Q = Q.nx e s := (rfl)
@[simp] theorem q_brk : (cBrk e s).wp Q = Q.bk e s := (rfl)
@[simp] theorem q_ct : (cCt e s).wp Q = Q.ct e s := (rfl)
@[simp] theorem q_seq {m n : SS} : (cSeq m n e s).wp Q = (m e s).wp (Q.sq n) := by unfold cSeq; rw [w_seq]
@[simp] theorem q_if {m n : SS} : (cIf t m n e s).wp Q = (t e s).wp (fun k s1 => if k = true then (m e s1).wp Q else (n e s1).wp Q) (fun c fs s => Q.ex c fs e s) := by
  unfold cIf; rw [w_toS]; simp only [wS_if]
@[simp] theorem q_for {it : SI} {g : IT} {m : SS} : (cFor it g m e s).wp Q = (it e s).wp (fun j s1 => (forLoop j g m fuelN 0 e s1).wp Q) (fun c fs s => Q.ex c fs e s) := by
  unfold cFor; rw [w_toS]
@[simp] theorem q_put {fo fi fv : SE} : (cPut fo fi fv e s).wp Q = (fv e s).wp (fun d s1 => (fo e s1).wp (fun o s2 => (fi e s2).wp (fun i s3 => ∃ s4, dSto o i d s3 = some s4 ∧ Q.nx e s4) (fun c fs s => Q.ex c fs e s)) (fun c fs s => Q.ex c fs e s)) (fun c fs s => Q.ex c fs e s) := by
  unfold cPut; simp only [w_toS]; congr 1; funext d s1; congr 1; funext o s2; congr 1; funext i s3; cases h : dSto o i d s3 <;> simp [RS.of, wS_bad, wS_nx]
@[simp] theorem q_fn {n : Nat} {m : SS} {ds : List D} : (fnE n m ds s).wp P E = (m (ds.map some ++ List.replicate (n - ds.length) none) s).wp (finQ P E) := w_fnE
@[simp] theorem sq_nx {k : En → S → RS} : (Q.sq k).nx e s = (k e s).wp Q := (rfl)
@[simp] theorem sq_rt {k : En → S → RS} : (Q.sq k).rt = Q.rt := (rfl)
@[simp] theorem sq_bk {k : En → S → RS} : (Q.sq k).bk = Q.bk := (rfl)
@[simp] theorem sq_ct {k : En → S → RS} : (Q.sq k).ct = Q.ct := (rfl)
@[simp] theorem sq_ex {k : En → S → RS} : (Q.sq k).ex = Q.ex := (rfl)
@[simp] theorem tn_nx {I : En → S → Prop} : (Q.turn I).nx = I := (rfl)
@[simp] theorem tn_rt {I : En → S → Prop} : (Q.turn I).rt = Q.rt := (rfl)
@[simp] theorem tn_bk {I : En → S → Prop} : (Q.turn I).bk = Q.nx := (rfl)
@[simp] theorem tn_ct {I : En → S → Prop} : (Q.turn I).ct = I := (rfl)
@[simp] theorem tn_ex {I : En → S → Prop} : (Q.turn I).ex = Q.ex := (rfl)
@[simp] theorem fq_nx : (finQ P E).nx e s = P .non s := (rfl)
@[simp] theorem fq_rt : (finQ P E).rt = P := (rfl)
@[simp] theorem fq_bk : (finQ P E).bk e s = False := (rfl)
@[simp] theorem fq_ct : (finQ P E).ct e s = False := (rfl)
@[simp] theorem fq_ex {c : Nat} {fs : List (Str × D)} : (finQ P E).ex c fs e s = E c fs s := (rfl)
end
section
variable {P : D → S → Prop} {E : Nat → List (Str × D) → S → Prop} {s : S} {i j : Int}
@[simp] theorem v_add : dAdd (.int i) (.int j) s = .ok (.int (i + j)) s := (rfl)
@[simp] theorem v_sub : dSub (.int i) (.int j) s = .ok (.int (i - j)) s := (rfl)
@[simp] theorem v_neg : dNeg (.int i) s = .ok (.int (-i)) s := (rfl)
@[simp] theorem v_mul : (dMul (.int i) (.int j) s).wp P E = (mulB i j = true ∧ P (.int (i * j)) s) := w_mul
@[simp] theorem v_fdv : (dFdv (.int i) (.int j) s).wp P E = ((j ≠ 0 ∧ bLog j < 9000) ∧ P (.int (i.fdiv j)) s) := w_fdv
@[simp] theorem v_mod : (dMod (.int i) (.int j) s).wp P E = (j ≠ 0 ∧ P (.int (i.fmod j)) s) := w_mod
@[simp] theorem v_lt : onP pLt (.int i) (.int j) s = .ok (.bl (decide (i < j))) s := w_lt
@[simp] theorem v_gt : onP pGt (.int i) (.int j) s = .ok (.bl (decide (j < i))) s := w_gt
@[simp] theorem v_le : onP pLe (.int i) (.int j) s = .ok (.bl (decide (i ≤ j))) s := w_le
@[simp] theorem v_ge : onP pGe (.int i) (.int j) s = .ok (.bl (decide (j ≤ i))) s := w_ge
@[simp] theorem v_eq : onP pEq (.int i) (.int j) s = .ok (.bl (decide (i = j))) s := w_eq
@[simp] theorem v_ne : onP pNe (.int i) (.int j) s = .ok (.bl (decide (i ≠ j))) s := w_ne
@[simp] theorem v_i0 {x : D} {ds : List D} : dIdx (.tup (x :: ds)) (.int 0) s = .ok x s := w_i0
@[simp] theorem v_i1 {x y : D} {ds : List D} : dIdx (.tup (x :: y :: ds)) (.int 1) s = .ok y s := w_i1
@[simp] theorem v_abs : bAbs [.int i] s = .ok (.int (if i < 0 then -i else i)) s := (rfl)
@[simp] theorem v_int : bInt [.int i] s = .ok (.int i) s := (rfl)
@[simp] theorem v_intb {k : Bool} : bInt [.bl k] s = .ok (.int (if k then 1 else 0)) s := (rfl)
@[simp] theorem v_max : bMax2 [.int i, .int j] s = .ok (.int (if j > i then j else i)) s := (rfl)
@[simp] theorem v_min : bMin2 [.int i, .int j] s = .ok (.int (if j < i then j else i)) s := (rfl)
@[simp] theorem v_gcd : bGcd [.int i, .int j] s = .ok (.int ((Nat.gcd i.natAbs j.natAbs : Nat) : Int)) s := (rfl)
@[simp] theorem v_lenT {xs : List D} : bLen [.tup xs] s = .ok (.int xs.length) s := (rfl)
@[simp] theorem v_addT {xs ys : List D} : (dAdd (.tup xs) (.tup ys) s).wp P E = (short zLine (xs ++ ys) = true ∧ P (.tup (xs ++ ys)) s) := w_mkTup
@[simp] theorem v_isN {i : D} : dIsN .non s = .ok (.bl true) s := (rfl)
@[simp] theorem v_notN : dNotN .non s = .ok (.bl false) s := (rfl)
@[simp] theorem v_notNt {xs : List D} : dNotN (.tup xs) s = .ok (.bl true) s := (rfl)
@[simp] theorem v_isNt {xs : List D} : dIsN (.tup xs) s = .ok (.bl false) s := (rfl)
@[simp] theorem v_isT {k : Bool} : dIsT (.bl k) s = .ok (.bl k) s := (rfl)
@[simp] theorem v_notT {k : Bool} : dNotTr (.bl k) s = .ok (.bl (!k)) s := (rfl)
end
end Ev
namespace Ev
/-! sizes -/
def SzI (k : Nat) (i : Int) : Prop := i.natAbs < 2 ^ k
structure SzR (k : Nat) (x : Rat) : Prop where
  num : SzI k x.num
  den : x.den < 2 ^ k
theorem SzI.mono {k m : Nat} {i : Int} (h : SzI k i) (l : k ≤ m) : SzI m i := Nat.lt_of_lt_of_le h (Nat.pow_le_pow_right (by decide) l)
theorem SzR.mono {k m : Nat} {i : Rat} (h : SzR k i) (l : k ≤ m) : SzR m i := ⟨h.num.mono l, Nat.lt_of_lt_of_le h.den (Nat.pow_le_pow_right (by decide) l)⟩
theorem SzR.deni {k : Nat} {x : Rat} (h : SzR k x) : SzI k (x.den : Int) := by show (x.den : Int).natAbs < _; simpa using h.den
theorem SzI.mul {a b : Nat} {i j : Int} (h : SzI a i) (g : SzI b j) : SzI (a + b) (i * j) := by
  unfold SzI at *
  rw [Int.natAbs_mul, Nat.pow_add]
  exact Nat.mul_lt_mul'' h g
theorem SzI.add {a : Nat} {i j : Int} (h : SzI a i) (g : SzI a j) : SzI (a + 1) (i + j) := by
  unfold SzI at *
  have := Int.natAbs_add_le i j
  rw [Nat.pow_succ]; omega
theorem SzI.neg {a : Nat} {i : Int} (h : SzI a i) : SzI a (-i) := by unfold SzI at *; rwa [Int.natAbs_neg]
theorem SzI.sub {a : Nat} {i j : Int} (h : SzI a i) (g : SzI a j) : SzI (a + 1) (i - j) := by
  rw [Int.sub_eq_add_neg]; exact h.add g.neg
theorem SzI.of {k : Nat} {i : Int} (h : -(2 ^ k : Int) < i) (g : i < (2 ^ k : Int)) : SzI k i := by
  unfold SzI
  have e : ((2 ^ k : Nat) : Int) = (2 ^ k : Int) := by norm_cast
  generalize (2 ^ k : Nat) = z at *
  omega
theorem SzR.den_pos {x : Rat} : 0 < (x.den : Int) := by have := x.den_pos; omega
theorem SzR.divInt {k : Nat} {a b : Int} (hk : 1 ≤ k) (h : SzI k a) (g : SzI k b) : SzR k (Rat.divInt a b) := by
  unfold SzI at *
  constructor
  · unfold SzI
    rw [Rat.num_divInt]
    by_cases z : b = 0
    · subst z; simp; exact Nat.two_pow_pos k
    · refine Nat.lt_of_le_of_lt ?_ h
      have : (b.sign * a).natAbs ≤ a.natAbs := by
        rw [Int.natAbs_mul]
        have : b.sign.natAbs = 1 := Int.natAbs_sign_of_ne_zero z
        rw [this]; simp
      exact Nat.le_trans (Int.natAbs_ediv_le_natAbs _ _) this
  · rw [Rat.den_divInt]
    split
    · exact Nat.one_lt_two_pow (by omega)
    · exact Nat.lt_of_le_of_lt (Nat.div_le_self _ _) g
theorem SzR.pos {k : Nat} {x : Rat} (h : SzR k x) : 1 ≤ k := by
  have := h.den
  have p := x.den_pos
  cases k with
  | zero => simp at this; omega
  | succ k => omega
theorem divInt_nd (x : Rat) : Rat.divInt x.num x.den = x := Rat.num_divInt_den x
theorem dne (x : Rat) : (x.den : Int) ≠ 0 := by have := x.den_nz; omega
theorem add_divInt (x y : Rat) : x + y = Rat.divInt (x.num * y.den + y.num * x.den) (x.den * y.den) := by
  conv => lhs; rw [← divInt_nd x, ← divInt_nd y]
  rw [Rat.divInt_add_divInt _ _ (dne x) (dne y)]
theorem sub_divInt (x y : Rat) : x - y = Rat.divInt (x.num * y.den - y.num * x.den) (x.den * y.den) := by
  conv => lhs; rw [← divInt_nd x, ← divInt_nd y]
  rw [Rat.divInt_sub_divInt _ _ (dne x) (dne y)]
theorem mul_divInt (x y : Rat) : x * y = Rat.divInt (x.num * y.num) (x.den * y.den) := by
  conv => lhs; rw [← divInt_nd x, ← divInt_nd y]
  rw [Rat.divInt_mul_divInt _ _]
theorem div_divInt (x y : Rat) : x / y = Rat.divInt (x.num * y.den) (x.den * y.num) := by
  rw [Rat.div_def]
  conv => lhs; rw [← divInt_nd x, ← divInt_nd y]
  rw [Rat.inv_divInt, Rat.divInt_mul_divInt _ _]
theorem SzR.add {a b : Nat} {x y : Rat} (h : SzR a x) (g : SzR b y) : SzR (a + b + 1) (x + y) := by
  rw [add_divInt]
  refine .divInt (by have := h.pos; omega) (SzI.add (h.num.mul g.deni) ?_) ((h.deni.mul g.deni).mono (by omega))
  exact (g.num.mul h.deni).mono (by omega)
theorem SzR.sub {a b : Nat} {x y : Rat} (h : SzR a x) (g : SzR b y) : SzR (a + b + 1) (x - y) := by
  rw [sub_divInt]
  refine .divInt (by have := h.pos; omega) (SzI.sub (h.num.mul g.deni) ?_) ((h.deni.mul g.deni).mono (by omega))
  exact (g.num.mul h.deni).mono (by omega)
theorem SzR.mul {a b : Nat} {x y : Rat} (h : SzR a x) (g : SzR b y) : SzR (a + b) (x * y) := by
  rw [mul_divInt]
  exact .divInt (by have := h.pos; omega) (h.num.mul g.num) (h.deni.mul g.deni)
theorem SzR.div {a b : Nat} {x y : Rat} (h : SzR a x) (g : SzR b y) : SzR (a + b) (x / y) := by
  rw [div_divInt]
  exact .divInt (by have := h.pos; omega) (h.num.mul g.deni) (h.deni.mul g.num)
theorem SzR.neg {a : Nat} {x : Rat} (h : SzR a x) : SzR a (-x) := ⟨by rw [Rat.neg_num]; exact h.num.neg, h.den⟩
theorem SzR.int {a : Nat} {i : Int} (h : SzI a i) (ha : 1 ≤ a) : SzR a (i : Rat) := ⟨h, by rw [Rat.den_intCast]; exact Nat.one_lt_two_pow (by omega)⟩
/-! the quotient in its form -/
theorem fdiv_gcd {a g : Int} (hd : g ∣ a) : a.fdiv g = a / g := by
  rw [Int.fdiv_eq_ediv_of_dvd hd]
theorem made_num {a b : Int} (hb : b ≠ 0) : a.fdiv (if 0 < b then (Nat.gcd a.natAbs b.natAbs : Int) else -(Nat.gcd a.natAbs b.natAbs : Int)) = (Rat.divInt a b).num := by
  have d1 : ((Nat.gcd a.natAbs b.natAbs : Nat) : Int) ∣ a := Int.gcd_dvd_left a b
  rw [Rat.num_divInt]
  have e : (b.gcd a : Int) = (Nat.gcd a.natAbs b.natAbs : Int) := by rw [Int.gcd_comm]; rfl
  rw [e]
  split
  · rename_i h
    rw [Int.sign_eq_one_of_pos h, Int.one_mul, fdiv_gcd d1]
  · have h : b < 0 := by omega
    rw [Int.sign_eq_neg_one_of_neg h, fdiv_gcd (Int.neg_dvd.mpr d1), Int.ediv_neg]
    rw [Int.neg_one_mul, Int.neg_ediv_of_dvd d1]
theorem made_den {a b : Int} (hb : b ≠ 0) : b.fdiv (if 0 < b then (Nat.gcd a.natAbs b.natAbs : Int) else -(Nat.gcd a.natAbs b.natAbs : Int)) = ((Rat.divInt a b).den : Int) := by
  have d1 : ((Nat.gcd a.natAbs b.natAbs : Nat) : Int) ∣ b := Int.gcd_dvd_right a b
  rw [Rat.den_divInt, if_neg hb]
  have e : (b.gcd a) = (Nat.gcd a.natAbs b.natAbs) := by rw [Int.gcd_comm]; rfl
  rw [e, Int.natCast_ediv]
  split
  · rename_i h
    rw [fdiv_gcd d1]
    congr 1; omega
  · rw [fdiv_gcd (Int.neg_dvd.mpr d1), Int.ediv_neg, ← Int.neg_ediv_of_dvd d1]
    congr 1; omega
theorem gcd_ne {a b : Int} (hb : b ≠ 0) : (Nat.gcd a.natAbs b.natAbs : Int) ≠ 0 := by
  have : 0 < Nat.gcd a.natAbs b.natAbs := Nat.gcd_pos_of_pos_right _ (by omega)
  omega
theorem gcd_sz {k : Nat} {a b : Int} (hb : b ≠ 0) (h : SzI k b) : SzI k (Nat.gcd a.natAbs b.natAbs : Int) := by
  unfold SzI at *
  exact Nat.lt_of_le_of_lt (Nat.gcd_le_right _ (by omega)) h
theorem rat_lt {x y : Rat} : (x.num * y.den < y.num * x.den) = (x < y) := propext (Rat.lt_iff x y).symm
end Ev
namespace Ev
/-! lines over [0, 1]: what is greatest of them, and where that is least -/
def lv (t : Rat) (z : Rat × Rat) : Rat := z.1 + (z.2 - z.1) * t
def Cross (z w : Rat × Rat) : Prop := (0 < z.1 - w.1 ∧ z.2 - w.2 < 0) ∨ (z.1 - w.1 < 0 ∧ 0 < z.2 - w.2)
def cm (z w : Rat × Rat) : Rat := (z.1 - w.1) / ((z.1 - w.1) - (z.2 - w.2))
theorem mul_pos' {a b : Rat} (h : 0 < a) (g : 0 < b) : 0 < a * b := Rat.mul_pos h g
theorem exists_max {α : Type} (f : α → Rat) : ∀ (l : List α), l ≠ [] → ∃ x ∈ l, ∀ y ∈ l, f y ≤ f x
  | [], h => absurd rfl h
  | [x], _ => ⟨x, by simp, fun y hy => by simp at hy; subst hy; exact Rat.le_refl⟩
  | x :: y :: r, _ => by
    obtain ⟨z, h1, h2⟩ := exists_max f (y :: r) (by simp)
    by_cases h : f z ≤ f x
    · exact ⟨x, by simp, fun w hw => by
        rcases List.mem_cons.mp hw with rfl | hw
        · exact Rat.le_refl
        · exact Rat.le_trans (h2 w hw) h⟩
    · have h := Rat.not_le.mp h
      exact ⟨z, by simp [List.mem_cons.mp h1], fun w hw => by
        rcases List.mem_cons.mp hw with rfl | hw
        · exact Rat.le_of_lt h
        · exact h2 w hw⟩
theorem cm_cross {a b : Rat} (h : (0 < a ∧ b < 0) ∨ (a < 0 ∧ 0 < b)) : 0 < a / (a - b) ∧ a / (a - b) < 1 ∧ a + (b - a) * (a / (a - b)) = 0 := by
  have ne : a - b ≠ 0 := by grind
  have e : a / (a - b) * (a - b) = a := Rat.div_mul_cancel ne
  generalize a / (a - b) = t at e
  rcases h with ⟨h1, h2⟩ | ⟨h1, h2⟩
  · refine ⟨?_, ?_, by grind⟩
    · refine Rat.not_le.mp fun w => ?_
      have := Rat.mul_nonneg (a := -t) (b := a - b) (by grind) (by grind)
      grind
    · refine Rat.not_le.mp fun w => ?_
      have := Rat.mul_nonneg (a := t - 1) (b := a - b) (by grind) (by grind)
      grind
  · refine ⟨?_, ?_, by grind⟩
    · refine Rat.not_le.mp fun w => ?_
      have := Rat.mul_nonneg (a := -t) (b := b - a) (by grind) (by grind)
      grind
    · refine Rat.not_le.mp fun w => ?_
      have := Rat.mul_nonneg (a := t - 1) (b := b - a) (by grind) (by grind)
      grind
/-- the least of what is greatest is at a moment -/
theorem at_moment {ls : List (Rat × Rat)} {ms : List Rat} (h0 : (0 : Rat) ∈ ms) (h1 : (1 : Rat) ∈ ms) (hc : ∀ z ∈ ls, ∀ w ∈ ls, Cross z w → cm z w ∈ ms) {t M : Rat} (ht0 : 0 ≤ t) (ht1 : t ≤ 1) (hM : ∀ z ∈ ls, lv t z ≤ M) (hz : ∃ z ∈ ls, lv t z = M) : ∃ m ∈ ms, ∀ z ∈ ls, lv m z ≤ M := by
  obtain ⟨k, hk, ek⟩ := hz
  by_cases up : k.1 ≤ k.2
  · -- to the left
    obtain ⟨m, hm, gm⟩ := exists_max (fun x : Rat => x) (ms.filter fun m => decide (m ≤ t)) (by
      intro e
      have : (0 : Rat) ∈ ms.filter fun m => decide (m ≤ t) := List.mem_filter.mpr ⟨h0, by simpa using ht0⟩
      rw [e] at this; simp at this)
    have hm' := List.mem_filter.mp hm
    have hmt : m ≤ t := by simpa using hm'.2
    have m0 : 0 ≤ m := gm 0 (List.mem_filter.mpr ⟨h0, by simpa using ht0⟩)
    refine ⟨m, hm'.1, fun j hj => ?_⟩
    have km : lv m k ≤ M := by
      unfold lv at *
      have := Rat.mul_nonneg (a := k.2 - k.1) (b := t - m) (by grind) (by grind)
      grind
    refine Rat.not_lt.mp fun w => ?_
    have jt := hM j hj
    -- j is above k at m, not above it at t
    have d1 : 0 < lv m j - lv m k := by grind
    have d2 : lv t j - lv t k ≤ 0 := by grind
    have mt : m < t := by
      refine Rat.lt_of_le_of_ne hmt fun e => ?_
      subst e; grind
    unfold lv at *
    have slope : (j.2 - j.1) - (k.2 - k.1) < 0 := by
      refine Rat.not_le.mp fun e => ?_
      have := Rat.mul_nonneg (a := (j.2 - j.1) - (k.2 - k.1)) (b := t - m) e (by grind)
      grind
    have a1 : 0 < j.1 - k.1 := by
      have := Rat.mul_nonneg (a := -((j.2 - j.1) - (k.2 - k.1))) (b := m) (by grind) m0
      grind
    have a2 : j.2 - k.2 ≤ 0 := by
      have := Rat.mul_nonneg (a := -((j.2 - j.1) - (k.2 - k.1))) (b := 1 - t) (by grind) (by grind)
      grind
    by_cases z : j.2 - k.2 = 0
    · -- they meet at 1, so t is 1
      have : t = 1 := by
        refine Rat.le_antisymm ht1 (Rat.not_lt.mp fun e => ?_)
        have := Rat.mul_pos (a := -((j.2 - j.1) - (k.2 - k.1))) (b := 1 - t) (by grind) (by grind)
        grind
      have := gm 1 (List.mem_filter.mpr ⟨h1, by simp [this]⟩)
      grind
    · have cr : (0 < j.1 - k.1 ∧ j.2 - k.2 < 0) ∨ (j.1 - k.1 < 0 ∧ 0 < j.2 - k.2) := .inl ⟨a1, Rat.lt_of_le_of_ne a2 z⟩
      have cin := hc j hj k hk cr
      obtain ⟨c1, c2, c3⟩ := cm_cross cr
      have ec : cm j k = (j.1 - k.1) / ((j.1 - k.1) - (j.2 - k.2)) := rfl
      rw [← ec] at c1 c2 c3
      generalize cm j k = c at *
      have ct : c ≤ t := by
        refine Rat.not_lt.mp fun e => ?_
        have := Rat.mul_pos (a := -((j.2 - j.1) - (k.2 - k.1))) (b := c - t) (by grind) (by grind)
        grind
      have cm : m < c := by
        refine Rat.not_le.mp fun e => ?_
        have := Rat.mul_nonneg (a := -((j.2 - j.1) - (k.2 - k.1))) (b := m - c) (by grind) (by grind)
        grind
      have := gm c (List.mem_filter.mpr ⟨cin, by simpa using ct⟩)
      grind
  · -- to the right
    have up := Rat.not_le.mp up
    obtain ⟨m, hm, gm⟩ := exists_max (fun x : Rat => -x) (ms.filter fun m => decide (t ≤ m)) (by
      intro e
      have : (1 : Rat) ∈ ms.filter fun m => decide (t ≤ m) := List.mem_filter.mpr ⟨h1, by simpa using ht1⟩
      rw [e] at this; simp at this)
    have hm' := List.mem_filter.mp hm
    have hmt : t ≤ m := by simpa using hm'.2
    have m1 : m ≤ 1 := by have := gm 1 (List.mem_filter.mpr ⟨h1, by simpa using ht1⟩); grind
    refine ⟨m, hm'.1, fun j hj => ?_⟩
    have km : lv m k ≤ M := by
      unfold lv at *
      have := Rat.mul_nonneg (a := k.1 - k.2) (b := m - t) (by grind) (by grind)
      grind
    refine Rat.not_lt.mp fun w => ?_
    have jt := hM j hj
    have d1 : 0 < lv m j - lv m k := by grind
    have d2 : lv t j - lv t k ≤ 0 := by grind
    have mt : t < m := by
      refine Rat.lt_of_le_of_ne hmt fun e => ?_
      subst e; grind
    unfold lv at *
    have slope : 0 < (j.2 - j.1) - (k.2 - k.1) := by
      refine Rat.not_le.mp fun e => ?_
      have := Rat.mul_nonneg (a := -((j.2 - j.1) - (k.2 - k.1))) (b := m - t) (by grind) (by grind)
      grind
    have a1 : 0 < j.2 - k.2 := by
      have := Rat.mul_nonneg (a := (j.2 - j.1) - (k.2 - k.1)) (b := 1 - m) (by grind) (by grind)
      grind
    have a2 : j.1 - k.1 ≤ 0 := by
      have := Rat.mul_nonneg (a := (j.2 - j.1) - (k.2 - k.1)) (b := t) (by grind) (by grind)
      grind
    by_cases z : j.1 - k.1 = 0
    · have : t = 0 := by
        refine Rat.le_antisymm (Rat.not_lt.mp fun e => ?_) ht0
        have := Rat.mul_pos (a := (j.2 - j.1) - (k.2 - k.1)) (b := t) (by grind) (by grind)
        grind
      have := gm 0 (List.mem_filter.mpr ⟨h0, by simp [this]⟩)
      grind
    · have cr : (0 < j.1 - k.1 ∧ j.2 - k.2 < 0) ∨ (j.1 - k.1 < 0 ∧ 0 < j.2 - k.2) := .inr ⟨Rat.lt_of_le_of_ne a2 z, a1⟩
      have cin := hc j hj k hk cr
      obtain ⟨c1, c2, c3⟩ := cm_cross cr
      have ec : cm j k = (j.1 - k.1) / ((j.1 - k.1) - (j.2 - k.2)) := rfl
      rw [← ec] at c1 c2 c3
      generalize cm j k = c at *
      have ct : t ≤ c := by
        refine Rat.not_lt.mp fun e => ?_
        have := Rat.mul_pos (a := (j.2 - j.1) - (k.2 - k.1)) (b := t - c) (by grind) (by grind)
        grind
      have cm : c < m := by
        refine Rat.not_le.mp fun e => ?_
        have := Rat.mul_nonneg (a := (j.2 - j.1) - (k.2 - k.1)) (b := c - m) (by grind) (by grind)
        grind
      have := gm c (List.mem_filter.mpr ⟨cin, by simpa using ct⟩)
      grind
/-! what bars -/
def Bar (ls : List (Rat × Rat)) : Prop := ∃ t, 0 < t ∧ t < 1 ∧ ∀ z ∈ ls, lv t z < 0
theorem not_bar {ls : List (Rat × Rat)} {z : Rat × Rat} (h : z ∈ ls) (h1 : 0 ≤ z.1) (h2 : 0 ≤ z.2) : ¬ Bar ls := by
  rintro ⟨t, t0, t1, w⟩
  have := w z h
  unfold lv at this
  have e1 := Rat.mul_nonneg (a := z.1) (b := 1 - t) h1 (by grind)
  have e2 := Rat.mul_nonneg (a := z.2) (b := t) h2 (by grind)
  grind
/-- first not below 0, last below 0 -/
theorem lv_first {a b t : Rat} (h1 : 0 ≤ a) (h2 : b < 0) : (lv t (a, b) < 0) ↔ a / (a - b) < t := by
  have ne : a - b ≠ 0 := by grind
  have e : a / (a - b) * (a - b) = a := Rat.div_mul_cancel ne
  unfold lv
  generalize a / (a - b) = c at e
  constructor
  · intro h
    refine Rat.not_le.mp fun w => ?_
    have := Rat.mul_nonneg (a := c - t) (b := a - b) (by grind) (by grind)
    grind
  · intro h
    have := Rat.mul_pos (a := t - c) (b := a - b) (by grind) (by grind)
    grind
theorem lv_last {a b t : Rat} (h1 : a < 0) (h2 : 0 ≤ b) : (lv t (a, b) < 0) ↔ t < a / (a - b) := by
  have ne : a - b ≠ 0 := by grind
  have e : a / (a - b) * (a - b) = a := Rat.div_mul_cancel ne
  unfold lv
  generalize a / (a - b) = c at e
  constructor
  · intro h
    refine Rat.not_le.mp fun w => ?_
    have := Rat.mul_nonneg (a := t - c) (b := b - a) (by grind) (by grind)
    grind
  · intro h
    have := Rat.mul_pos (a := c - t) (b := b - a) (by grind) (by grind)
    grind
theorem lv_neg {a b t : Rat} (h1 : a < 0) (h2 : b < 0) (t0 : 0 < t) (t1 : t < 1) : lv t (a, b) < 0 := by
  unfold lv
  have := Rat.mul_pos (a := -a) (b := 1 - t) (by grind) (by grind)
  have := Rat.mul_pos (a := -b) (b := t) (by grind) (by grind)
  grind
theorem quo_pos {a b : Rat} (h1 : 0 ≤ a) (h2 : b < 0) : 0 ≤ a / (a - b) := by
  have ne : a - b ≠ 0 := by grind
  have e : a / (a - b) * (a - b) = a := Rat.div_mul_cancel ne
  generalize a / (a - b) = c at e
  refine Rat.not_lt.mp fun w => ?_
  have := Rat.mul_pos (a := -c) (b := a - b) (by grind) (by grind)
  grind
theorem quo_le {a b : Rat} (h1 : a < 0) (h2 : 0 ≤ b) : a / (a - b) ≤ 1 := by
  have ne : a - b ≠ 0 := by grind
  have e : a / (a - b) * (a - b) = a := Rat.div_mul_cancel ne
  generalize a / (a - b) = c at e
  refine Rat.not_lt.mp fun w => ?_
  have := Rat.mul_pos (a := c - 1) (b := b - a) (by grind) (by grind)
  grind
end Ev
namespace Ev
/-! a row of moments, and what bars between them -/
def Asc (row : List Rat) : Prop := ∀ i j (hi : i < row.length) (hj : j < row.length), i < j → row[i] < row[j]
theorem asc_around {row : List Rat} {t : Rat} : ∀ (k : Nat) (hk : k < row.length), (∃ i, ∃ h : i < row.length, i ≤ k ∧ row[i] ≤ t) → t < row[k] → ∃ i, ∃ h : i + 1 < row.length, row[i] ≤ t ∧ t < row[i + 1]
  | 0, hk, ⟨i, h, hi, e⟩, g => by
    have : i = 0 := by omega
    subst this
    exact absurd (Rat.not_lt.mpr e) (fun w => w g)
  | k + 1, hk, ⟨i, h, hi, e⟩, g => by
    by_cases c : row[k] ≤ t
    · exact ⟨k, hk, c, g⟩
    · have c := Rat.not_le.mp c
      by_cases hik : i = k + 1
      · subst hik; exact absurd g (Rat.not_lt.mpr e)
      · exact asc_around k (by omega) ⟨i, h, by omega, e⟩ c
theorem asc_le {row : List Rat} (ha : Asc row) {i j : Nat} (hi : i < row.length) (hj : j < row.length) (h : i ≤ j) : row[i] ≤ row[j] := by
  by_cases e : i = j
  · subst e; exact Rat.le_refl
  · exact Rat.le_of_lt (ha i j hi hj (by omega))
def mid (a b : Rat) : Rat := (a + b) * (1 / 2)
/-- where all is below 0 at a moment, it is below 0 at a middle -/
theorem bar_mid {row : List Rat} {ls : List (Rat × Rat)} (ha : Asc row) (h0 : (0 : Rat) ∈ row) (h1 : (1 : Rat) ∈ row) (h01 : ∀ x ∈ row, 0 ≤ x ∧ x ≤ 1)
    (hz : ∀ z ∈ ls, z.1 ≠ z.2 → 0 ≤ z.1 / (z.1 - z.2) → z.1 / (z.1 - z.2) ≤ 1 → z.1 / (z.1 - z.2) ∈ row) (hb : Bar ls) : ∃ i, ∃ h : i + 1 < row.length, ∀ z ∈ ls, lv (mid row[i] row[i + 1]) z < 0 := by
  obtain ⟨t, t0, t1, ht⟩ := hb
  obtain ⟨i0, hi0, e0⟩ := List.getElem_of_mem h0
  obtain ⟨i1, hi1, e1⟩ := List.getElem_of_mem h1
  have le01 : i0 ≤ i1 := Nat.not_lt.mp fun w => by
    have := ha i1 i0 hi1 hi0 w
    rw [e0, e1] at this; grind
  obtain ⟨i, hi, g1, g2⟩ := asc_around (t := t) i1 hi1 ⟨i0, hi0, le01, by rw [e0]; exact Rat.le_of_lt t0⟩ (by rw [e1]; exact t1)
  refine ⟨i, hi, fun z hzm => ?_⟩
  have hai : row[i] < row[i + 1] := ha i (i + 1) (by omega) hi (by omega)
  have m1 : row[i] < mid row[i] row[i + 1] := by unfold mid; grind
  have m2 : mid row[i] row[i + 1] < row[i + 1] := by unfold mid; grind
  have ra := h01 row[i] (List.getElem_mem _)
  have rb := h01 row[i + 1] (List.getElem_mem _)
  generalize hm : mid row[i] row[i + 1] = m at *
  have hlt := ht z hzm
  refine Rat.not_le.mp fun hge => ?_
  have no : ∀ c ∈ row, ¬ (row[i] < c ∧ c < row[i + 1]) := by
    rintro c hc ⟨w1, w2⟩
    obtain ⟨j, hj, rfl⟩ := List.getElem_of_mem hc
    by_cases hji : j ≤ i
    · have := asc_le ha hj (by omega) hji
      grind
    · have := asc_le ha hi hj (by omega)
      grind
  have hne : z.1 ≠ z.2 := fun e => by unfold lv at hlt hge; grind
  have hd : z.1 - z.2 ≠ 0 := by grind
  have ec : z.1 / (z.1 - z.2) * (z.1 - z.2) = z.1 := Rat.div_mul_cancel hd
  have hzc := hz z hzm hne
  generalize z.1 / (z.1 - z.2) = c at *
  -- c lies between t and m
  have lc : ∀ x, lv x z = (c - x) * (z.1 - z.2) := fun x => by unfold lv; grind
  rw [lc] at hlt hge
  by_cases up : 0 < z.1 - z.2
  · have k1 : c < t := Rat.not_le.mp fun w => by
      have := Rat.mul_nonneg (a := c - t) (b := z.1 - z.2) (by grind) (by grind)
      grind
    have k2 : m ≤ c := Rat.not_lt.mp fun w => by
      have := Rat.mul_pos (a := m - c) (b := z.1 - z.2) (by grind) up
      grind
    exact no c (hzc (by grind) (by grind)) ⟨by grind, by grind⟩
  · have dn : z.1 - z.2 < 0 := by grind
    have k1 : t < c := Rat.not_le.mp fun w => by
      have := Rat.mul_nonneg (a := t - c) (b := -(z.1 - z.2)) (by grind) (by grind)
      grind
    have k2 : c ≤ m := Rat.not_lt.mp fun w => by
      have := Rat.mul_pos (a := c - m) (b := -(z.1 - z.2)) (by grind) (by grind)
      grind
    exact no c (hzc (by grind) (by grind)) ⟨by grind, by grind⟩
/-- a middle at which all is below 0 bars -/
theorem mid_bar {row : List Rat} {ls : List (Rat × Rat)} (ha : Asc row) (h01 : ∀ x ∈ row, 0 ≤ x ∧ x ≤ 1) {i : Nat} (h : i + 1 < row.length) (hl : ∀ z ∈ ls, lv (mid row[i] row[i + 1]) z < 0) : Bar ls := by
  have hai : row[i] < row[i + 1] := ha i (i + 1) (by omega) h (by omega)
  have ra := h01 row[i] (List.getElem_mem _)
  have rb := h01 row[i + 1] (List.getElem_mem _)
  refine ⟨mid row[i] row[i + 1], ?_, ?_, hl⟩ <;> unfold mid <;> grind
end Ev
set_option maxHeartbeats 1000000
set_option exponentiation.threshold 20000
namespace Ev
open PySem PySem.Spec PyProof.Rows L2
def rD (x : Rat) : D := .tup [.int x.num, .int (x.den : Int)]
theorem eq_of_wp {r : R D} {v : D} {s : S} (h : r.wp (fun d s' => d = v ∧ s' = s) NoE) : r = .ok v s := by
  cases r with
  | ok d s' => obtain ⟨rfl, rfl⟩ := h; rfl
  | ex _ _ _ => exact h.elim
  | bad => exact h.elim
theorem bLog_of {k : Nat} {i : Int} (h : SzI k i) (hk : k ≤ 9000) : bLog i < 9000 := by
  unfold bLog
  by_cases z : i.natAbs = 0
  · rw [z]; decide
  · exact (Nat.log2_lt z).mpr (Nat.lt_of_lt_of_le h (Nat.pow_le_pow_right (by decide) hk))
theorem bLog_le {k : Nat} {i : Int} (h : SzI k i) : bLog i ≤ k := by
  unfold bLog
  by_cases z : i.natAbs = 0
  · rw [z]; exact Nat.zero_le _
  · exact Nat.le_of_lt ((Nat.log2_lt z).mpr h)
theorem mulB_of {a b : Nat} {i j : Int} (h : SzI a i) (g : SzI b j) (hk : a + b < 1000000) : mulB i j = true := by
  unfold mulB
  simp only [Bool.or_eq_true, Nat.ble_eq, Nat.blt_eq]
  have := bLog_le h
  have := bLog_le g
  right; right; omega
theorem abs_eq {i : Int} : (if i < 0 then -i else i) = (i.natAbs : Int) := by split <;> omega
theorem szI_lit {k : Nat} {i : Int} (h : i.natAbs < 2 ^ k) : SzI k i := h
section
variable {s : S} {a b : Int} {x y : Rat} {k m : Nat}
theorem divNe {a b : Int} (hb : b ≠ 0) : (if 0 < b then (Nat.gcd a.natAbs b.natAbs : Int) else -(Nat.gcd a.natAbs b.natAbs : Int)) ≠ 0 := by
  have := gcd_ne (a := a) hb
  split <;> omega
theorem divSz {a b : Int} (hb : b ≠ 0) (hz : SzI 8999 b) : bLog (if 0 < b then (Nat.gcd a.natAbs b.natAbs : Int) else -(Nat.gcd a.natAbs b.natAbs : Int)) < 9000 := by
  have := gcd_sz (a := a) hb hz
  split
  · exact bLog_of this (by decide)
  · exact bLog_of this.neg (by decide)
theorem made_eq (hb : b ≠ 0) (hz : SzI 8999 b) : f_made [.int a, .int b] s = .ok (rD (Rat.divInt a b)) s := by
  refine eq_of_wp ?_
  have h1 := made_num (a := a) hb
  have h2 := made_den (a := a) hb
  have h3 := divNe (a := a) hb
  have h4 := divSz (a := a) hb hz
  by_cases z : 0 < b
  · simp only [z, if_true] at h1 h2 h3 h4
    simp [f_made, b_made, z, h1, h2, h3, h4, rD]
    omega
  · simp only [z, if_false] at h1 h2 h3 h4
    simp [f_made, b_made, z, h1, h2, h4, rD]
    omega
theorem gcd_step (p q : Nat) (hq : q ≠ 0) : Nat.gcd q (p % q) = Nat.gcd p q := by
  rw [Nat.gcd_comm p q, Nat.gcd_rec q p, Nat.gcd_comm]
theorem law_least_eq (hb : b ≠ 0) (hz : SzI 8999 b) : f__law_least [.int a, .int b] s = .ok (rD (Rat.divInt a b)) s := by
  refine eq_of_wp ?_
  have h1 := made_num (a := a) hb
  have h2 := made_den (a := a) hb
  have h3 := divNe (a := a) hb
  have h4 := divSz (a := a) hb hz
  simp [f__law_least, b__law_least, abs_eq]
  refine wh_wp (fun m e s' => s' = s ∧ ∃ p q : Nat, e = [some (.int a), some (.int b), some (.int p), some (.int q)] ∧ q ≤ m ∧ Nat.gcd p q = Nat.gcd a.natAbs b.natAbs) (m := b.natAbs) (lt_fuel (k := 8999) hz (by decide)) ⟨rfl, _, _, rfl, Nat.le_refl _, rfl⟩ ?_
  rintro m e s' ⟨rfl, p, q, rfl, hm, hg⟩
  by_cases hq : q = 0
  · subst hq
    rw [Nat.gcd_zero_right] at hg
    subst hg
    by_cases z : 0 < b
    · simp only [z, if_true] at h1 h2 h3 h4
      simp [z, h1, h2, h3, h4, rD]
      omega
    · simp only [z, if_false] at h1 h2 h3 h4
      simp [z, h1, h2, h4, rD]
      omega
  · simp [hq]
    refine ⟨p % q, by have := Nat.mod_lt p (Nat.pos_of_ne_zero hq); omega, q, p % q, ⟨rfl, ?_⟩, Nat.le_refl _, (gcd_step p q hq).trans hg⟩
    rw [Int.fmod_eq_emod_of_nonneg _ (by omega)]; rfl
theorem dden (x y : Rat) : (x.den : Int) * y.den ≠ 0 := Int.mul_ne_zero (dne x) (dne y)
theorem plus_eq (hx : SzR k x) (hy : SzR m y) (h : k + m ≤ 8000) : f_plus [rD x, rD y] s = .ok (rD (x + y)) s := by
  have hz : SzI 8999 ((x.den : Int) * y.den) := (hx.deni.mul hy.deni).mono (by omega)
  have e := made_eq (s := s) (a := x.num * y.den + y.num * x.den) (dden x y) hz
  rw [← add_divInt] at e
  refine eq_of_wp ?_
  simp [f_plus, b_plus, rD, e, mulB_of hx.num hy.num (by omega), mulB_of hx.num hy.deni (by omega), mulB_of hx.deni hy.deni (by omega), mulB_of hy.num hx.deni (by omega), mulB_of hx.deni hy.num (by omega)]
theorem minus_eq (hx : SzR k x) (hy : SzR m y) (h : k + m ≤ 8000) : f_minus [rD x, rD y] s = .ok (rD (x - y)) s := by
  have hz : SzI 8999 ((x.den : Int) * y.den) := (hx.deni.mul hy.deni).mono (by omega)
  have e := made_eq (s := s) (a := x.num * y.den - y.num * x.den) (dden x y) hz
  rw [← sub_divInt] at e
  refine eq_of_wp ?_
  simp [f_minus, b_minus, rD, e, mulB_of hx.num hy.num (by omega), mulB_of hx.num hy.deni (by omega), mulB_of hx.deni hy.deni (by omega), mulB_of hy.num hx.deni (by omega), mulB_of hx.deni hy.num (by omega)]
theorem times_eq (hx : SzR k x) (hy : SzR m y) (h : k + m ≤ 8000) : f_times [rD x, rD y] s = .ok (rD (x * y)) s := by
  have hz : SzI 8999 ((x.den : Int) * y.den) := (hx.deni.mul hy.deni).mono (by omega)
  have e := made_eq (s := s) (a := x.num * y.num) (dden x y) hz
  rw [← mul_divInt] at e
  refine eq_of_wp ?_
  simp [f_times, b_times, rD, e, mulB_of hx.num hy.num (by omega), mulB_of hx.num hy.deni (by omega), mulB_of hx.deni hy.deni (by omega), mulB_of hy.num hx.deni (by omega), mulB_of hx.deni hy.num (by omega)]
theorem law_plus_eq (hx : SzR k x) (hy : SzR m y) (h : k + m ≤ 8000) : f__law_sum [rD x, rD y] s = .ok (rD (x + y)) s := by
  have hz : SzI 8999 ((x.den : Int) * y.den) := (hx.deni.mul hy.deni).mono (by omega)
  have e := law_least_eq (s := s) (a := x.num * y.den + y.num * x.den) (dden x y) hz
  rw [← add_divInt] at e
  refine eq_of_wp ?_
  simp [f__law_sum, b__law_sum, rD, e, mulB_of hx.num hy.num (by omega), mulB_of hx.num hy.deni (by omega), mulB_of hx.deni hy.deni (by omega), mulB_of hy.num hx.deni (by omega), mulB_of hx.deni hy.num (by omega)]
theorem law_minus_eq (hx : SzR k x) (hy : SzR m y) (h : k + m ≤ 8000) : f__law_minus [rD x, rD y] s = .ok (rD (x - y)) s := by
  have hz : SzI 8999 ((x.den : Int) * y.den) := (hx.deni.mul hy.deni).mono (by omega)
  have e := law_least_eq (s := s) (a := x.num * y.den - y.num * x.den) (dden x y) hz
  rw [← sub_divInt] at e
  refine eq_of_wp ?_
  simp [f__law_minus, b__law_minus, rD, e, mulB_of hx.num hy.num (by omega), mulB_of hx.num hy.deni (by omega), mulB_of hx.deni hy.deni (by omega), mulB_of hy.num hx.deni (by omega), mulB_of hx.deni hy.num (by omega)]
theorem law_times_eq (hx : SzR k x) (hy : SzR m y) (h : k + m ≤ 8000) : f__law_times [rD x, rD y] s = .ok (rD (x * y)) s := by
  have hz : SzI 8999 ((x.den : Int) * y.den) := (hx.deni.mul hy.deni).mono (by omega)
  have e := law_least_eq (s := s) (a := x.num * y.num) (dden x y) hz
  rw [← mul_divInt] at e
  refine eq_of_wp ?_
  simp [f__law_times, b__law_times, rD, e, mulB_of hx.num hy.num (by omega), mulB_of hx.num hy.deni (by omega), mulB_of hx.deni hy.deni (by omega), mulB_of hy.num hx.deni (by omega), mulB_of hx.deni hy.num (by omega)]
theorem num_ne {x : Rat} (h : x ≠ 0) : x.num ≠ 0 := fun e => h (Rat.num_eq_zero.mp e)
theorem over_eq (hne : y ≠ 0) (hx : SzR k x) (hy : SzR m y) (h : k + m ≤ 8000) : f_over [rD x, rD y] s = .ok (rD (x / y)) s := by
  have hz : SzI 8999 ((x.den : Int) * y.num) := (hx.deni.mul hy.num).mono (by omega)
  have e := made_eq (s := s) (a := x.num * y.den) (Int.mul_ne_zero (dne x) (num_ne hne)) hz
  rw [← div_divInt] at e
  refine eq_of_wp ?_
  simp [f_over, b_over, rD, e, mulB_of hx.num hy.num (by omega), mulB_of hx.num hy.deni (by omega), mulB_of hx.deni hy.deni (by omega), mulB_of hy.num hx.deni (by omega), mulB_of hx.deni hy.num (by omega)]
theorem less_eq (hx : SzR k x) (hy : SzR m y) (h : k + m ≤ 8000) : f_less [rD x, rD y] s = .ok (.bl (decide (x < y))) s := by
  refine eq_of_wp ?_
  simp [f_less, b_less, rD, mulB_of hx.num hy.deni (by omega), mulB_of hy.num hx.deni (by omega)]
  exact Iff.of_eq rat_lt
theorem law_below_eq (hx : SzR k x) (hy : SzR m y) (h : k + m ≤ 8000) : f__law_is_below [rD x, rD y] s = .ok (.bl (decide (x < y))) s := by
  refine eq_of_wp ?_
  simp [f__law_is_below, b__law_is_below, rD, mulB_of hx.num hy.deni (by omega), mulB_of hy.num hx.deni (by omega)]
  exact Iff.of_eq rat_lt
theorem whole_eq {i : Int} : f_whole [.int i] s = .ok (rD (i : Rat)) s := by
  refine eq_of_wp ?_
  simp [f_whole, b_whole, rD]
/-- the sign -/
def sg (x : Rat) : Int := if 0 < x then 1 else if x < 0 then -1 else 0
theorem num_pos {x : Rat} : (0 < x.num) = (0 < x) := by
  rw [← rat_lt]; simp
theorem num_neg {x : Rat} : (x.num < 0) = (x < 0) := by
  rw [← rat_lt]; simp
theorem sign_of_eq : f_sign_of [rD x] s = .ok (.int (sg x)) s := by
  refine eq_of_wp ?_
  simp [f_sign_of, b_sign_of, rD, num_pos, num_neg, sg]
  by_cases h : 0 < x <;> by_cases h' : x < 0 <;> simp [h, h']
  exact absurd (Rat.lt_iff_le_and_ne.mp h).1 (by intro w; have := Rat.not_le.mpr h'; exact this w)
end
end Ev
set_option maxHeartbeats 1000000
set_option exponentiation.threshold 20000
namespace Ev
open PySem PySem.Spec PyProof.Rows L2
section
variable {s : S} {d : D} {xs : List D}
theorem its_le {s' : S} (h : Its s d xs) (l : Le s s') : Its s' d xs := h.le l
theorem its_some (h : Its s d xs) : (items s d).isSome = true := by rw [h.items]; rfl
theorem its_len (h : Its s d xs) : bLen [d] s = .ok (.int xs.length) s := by
  cases h with
  | tup => rfl
  | lst h => simp only [bLen, h.get, items]
theorem its_idx {i : Int} {x : D} (h : Its s d xs) (hx : atI xs i = some x) : dIdx d (.int i) s = .ok x s := by
  cases h with
  | tup => simp only [dIdx, lIdx, hx]
  | lst h => simp only [dIdx, h.get, lIdx, hx]
theorem atI_nat {α : Type} {xs : List α} {i : Nat} (h : i < xs.length) : atI xs (i : Int) = some xs[i] := by
  simp [atI, ixN, h]
theorem atI_0 {α : Type} {x : α} {xs : List α} : atI (x :: xs) 0 = some x := by simp [atI, ixN]
theorem atI_last {α : Type} {xs : List α} {x : α} : atI (xs ++ [x]) (-1) = some x := by
  have : ¬ (0 : Int) ≤ -1 := by decide
  simp only [atI, ixN, if_neg this, List.length_append, List.length_singleton]
  rw [if_pos (by omega)]
  have e : (-1 + ((xs.length + 1 : Nat) : Int)).toNat = xs.length := by omega
  rw [Option.bind_some, e]
  simp
theorem cut1 {α : Type} {xs : List D} : cutD xs (some 1) none = xs.tail := by
  unfold cutD HT.sIx
  cases xs with
  | nil => simp
  | cons x r => simp
theorem its_sl1 {P : D → S → Prop} {E : Nat → List (Str × D) → S → Prop} (h : Its s d xs) (k : ∀ d' s', Le s s' → Its s' d' xs.tail → P d' s') : (dSl d (some 1) none s).wp P E := by
  cases h with
  | tup => rw [q_slT]; rw [cut1 (α := D)]; exact k _ _ .rfl .tup
  | lst h =>
    simp only [dSl, items, h.get]
    rw [cut1 (α := D)]
    exact k _ _ .push (.lst .push)
theorem lc_filter {α : Type} {j : Jn} {g : IT} {tt : ET} {te : SE} {e0 : En} {P : D → S → Prop} {E : Nat → List (Str × D) → S → Prop} (l : List α) (td : α → D) (Pr : α → Bool) (F : α → D) {ds : List D} (hd : ds = l.map td) (hz : l.length ≤ zLine)
    (wk : ∀ s', Le s s' → Wk j ds s')
    (step : ∀ a ∈ l, ∀ s', Le s s' → ∃ e1, g.to (td a) e0 = some e1 ∧ (tt e1 s').wp (fun b s2 => b = Pr a ∧ Le s' s2) NoE ∧ (Pr a = true → ∀ s2, Le s s2 → (te e1 s2).wp (fun y s3 => y = F a ∧ Le s2 s3) NoE))
    (fin : ∀ p s', Le s s' → s.n.nat ≤ p.nat → Has s' p (.lst ((l.filter Pr).map F)) → P (.ref p) s') : (lcLoop j g tt te e0 s.n fuelN 0 (s.push (.lst []))).wp P E := by
  refine lc_rest l td (fun r acc s' => Le s s' ∧ Has s' s.n (.lst acc) ∧ ∃ dn, l = dn ++ r ∧ acc = (dn.filter Pr).map F) hd (lt_fuelZ hz) ⟨.push, .push, [], rfl, rfl⟩ ?_ hz ?_ ?_
  · rintro r acc s' ⟨h1, h2, dn, h3, h4⟩
    refine ⟨wk _ h1, h2.get, ?_⟩
    subst h4
    rw [List.length_map, h3, List.length_append]
    have := List.length_filter_le Pr dn
    omega
  · rintro dn' a r acc s' hl ⟨h1, h2, dn, h3, h4⟩
    obtain ⟨e1, g1, g2, g3⟩ := step a (by rw [hl]; simp) s' h1
    refine ⟨e1, g1, g2.mono (fun b s2 q => ?_) fun _ _ _ z => z⟩
    obtain ⟨rfl, q⟩ := q
    by_cases z : Pr a = true
    · rw [if_pos z]
      refine (g3 z s2 (h1.trans q)).mono (fun y s3 w => ?_) fun _ _ _ z => z
      obtain ⟨rfl, w⟩ := w
      have h5 := (h2.le q).le w
      refine ⟨h5.get, ((h1.trans q).trans w).set (Nat.le_refl _), h5.set, dn ++ [a], by simp [h3], ?_⟩
      simp [h4, List.filter_append, z]
    · rw [if_neg z]
      refine ⟨h1.trans q, h2.le q, dn ++ [a], by simp [h3], ?_⟩
      simp [h4, List.filter_append, z]
  · rintro acc s' ⟨h1, h2, dn, h3, h4⟩
    refine fin _ _ h1 (Nat.le_refl _) ?_
    have : dn = l := by simpa using h3.symm
    subst this; subst h4; exact h2
theorem filter_true {α : Type} : ∀ l : List α, l.filter (fun _ => true) = l
  | [] => rfl
  | x :: r => by rw [List.filter_cons_of_pos rfl, filter_true r]
theorem lc_map {α : Type} {j : Jn} {g : IT} {te : SE} {e0 : En} {P : D → S → Prop} {E : Nat → List (Str × D) → S → Prop} (l : List α) (td : α → D) (F : α → D) {ds : List D} (hd : ds = l.map td) (hz : l.length ≤ zLine)
    (wk : ∀ s', Le s s' → Wk j ds s')
    (step : ∀ a ∈ l, ∀ s', Le s s' → ∃ e1, g.to (td a) e0 = some e1 ∧ (te e1 s').wp (fun y s3 => y = F a ∧ Le s' s3) NoE)
    (fin : ∀ p s', Le s s' → s.n.nat ≤ p.nat → Has s' p (.lst (l.map F)) → P (.ref p) s') : (lcLoop j g cYes te e0 s.n fuelN 0 (s.push (.lst []))).wp P E := by
  refine lc_filter l td (fun _ => true) F hd hz wk (fun a ha s' h => ?_) (fun p s' h1 h2 h3 => fin p s' h1 h2 (by rwa [filter_true] at h3))
  obtain ⟨e1, h1, h2⟩ := step a ha s' h
  refine ⟨e1, h1, by simp; exact .rfl, fun _ s2 h2 => ?_⟩
  obtain ⟨e1', h1', h2'⟩ := step a ha s2 h2
  rw [h1] at h1'; cases h1'
  exact h2'
end
/-! ### the greatest, the least -/
def IsMax (m : Rat) (xs : List Rat) : Prop := m ∈ xs ∧ ∀ y ∈ xs, y ≤ m
def IsMin (m : Rat) (xs : List Rat) : Prop := m ∈ xs ∧ ∀ y ∈ xs, m ≤ y
theorem IsMax.uniq {m m' : Rat} {xs : List Rat} (h : IsMax m xs) (h' : IsMax m' xs) : m = m' := Rat.le_antisymm (h'.2 _ h.1) (h.2 _ h'.1)
theorem IsMin.uniq {m m' : Rat} {xs : List Rat} (h : IsMin m xs) (h' : IsMin m' xs) : m = m' := Rat.le_antisymm (h.2 _ h'.1) (h'.2 _ h.1)
section
variable {s : S} {d : D} {x : Rat} {xs : List Rat} {k : Nat}
theorem greatest_ok (h : Its s d ((x :: xs).map rD)) (hz : ∀ y ∈ x :: xs, SzR k y) (hk : k ≤ 4000) (hl : (x :: xs).length ≤ zLine) : (f_greatest [d] s).wp (fun v s' => Le s s' ∧ ∃ m, v = rD m ∧ IsMax m (x :: xs)) NoE := by
  simp [f_greatest, b_greatest, its_idx h atI_0]
  refine its_sl1 h fun d' s' hle h' => ⟨its_some h', ?_⟩
  obtain ⟨Inv, hI⟩ : ∃ Inv : List Rat → En → S → Prop, ∀ r e s2, Inv r e s2 ↔ (Le s' s2 ∧ ∃ m o, e = [some d, some (rD m), o] ∧ m ∈ x :: xs ∧ ∀ y ∈ x :: xs, y ∈ r ∨ y ≤ m) := ⟨_, fun _ _ _ => Iff.rfl⟩
  refine for_rest xs rD (fun r e s2 => Inv r e s2) rfl (lt_fuelZ (by simp at hl; omega)) ((hI _ _ _).mpr ⟨.rfl, x, none, rfl, by simp, ?_⟩) (fun r e s2 h2 => wk_sq (its_le h' ((hI _ _ _).mp h2).1)) ?_ ?_
  · intro y hy
    rcases List.mem_cons.mp hy with rfl | hy
    · right; exact Rat.le_refl
    · left; exact hy
  · intro dn a r e s2 hl h
    obtain ⟨h2, m, o, rfl, h3, h4⟩ := (hI _ _ _).mp h
    have ha : a ∈ x :: xs := by rw [hl]; simp
    refine ⟨_, to_nm, ?_⟩
    by_cases z : m < a
    · simp [less_eq (hz m h3) (hz a ha) (by omega), dTru, z, hI]
      refine ⟨h2, a, rfl, by simpa using ha, ?_⟩
      have : ∀ y ∈ x :: xs, y ∈ r ∨ y ≤ a := fun y hy => by
        rcases h4 y hy with h | h
        · rcases List.mem_cons.mp h with rfl | h
          · right; exact Rat.le_refl
          · left; exact h
        · right; exact Rat.le_trans h (Rat.le_of_lt z)
      simpa using this
    · simp [less_eq (hz m h3) (hz a ha) (by omega), dTru, z, hI]
      refine ⟨h2, m, rfl, by simpa using h3, ?_⟩
      have : ∀ y ∈ x :: xs, y ∈ r ∨ y ≤ m := fun y hy => by
        rcases h4 y hy with h | h
        · rcases List.mem_cons.mp h with rfl | h
          · right; exact Rat.not_lt.mp z
          · left; exact h
        · right; exact h
      simpa using this
  · intro e s2 h
    obtain ⟨h2, m, o, rfl, h3, h4⟩ := (hI _ _ _).mp h
    simp
    exact ⟨hle.trans h2, m, rfl, h3, fun y hy => by simpa using h4 y hy⟩
theorem least_ok (h : Its s d ((x :: xs).map rD)) (hz : ∀ y ∈ x :: xs, SzR k y) (hk : k ≤ 4000) (hl : (x :: xs).length ≤ zLine) : (f_least [d] s).wp (fun v s' => Le s s' ∧ ∃ m, v = rD m ∧ IsMin m (x :: xs)) NoE := by
  simp [f_least, b_least, its_idx h atI_0]
  refine its_sl1 h fun d' s' hle h' => ⟨its_some h', ?_⟩
  obtain ⟨Inv, hI⟩ : ∃ Inv : List Rat → En → S → Prop, ∀ r e s2, Inv r e s2 ↔ (Le s' s2 ∧ ∃ m o, e = [some d, some (rD m), o] ∧ m ∈ x :: xs ∧ ∀ y ∈ x :: xs, y ∈ r ∨ m ≤ y) := ⟨_, fun _ _ _ => Iff.rfl⟩
  refine for_rest xs rD (fun r e s2 => Inv r e s2) rfl (lt_fuelZ (by simp at hl; omega)) ((hI _ _ _).mpr ⟨.rfl, x, none, rfl, by simp, ?_⟩) (fun r e s2 h2 => wk_sq (its_le h' ((hI _ _ _).mp h2).1)) ?_ ?_
  · intro y hy
    rcases List.mem_cons.mp hy with rfl | hy
    · right; exact Rat.le_refl
    · left; exact hy
  · intro dn a r e s2 hl h
    obtain ⟨h2, m, o, rfl, h3, h4⟩ := (hI _ _ _).mp h
    have ha : a ∈ x :: xs := by rw [hl]; simp
    refine ⟨_, to_nm, ?_⟩
    by_cases z : a < m
    · simp [less_eq (hz a ha) (hz m h3) (by omega), dTru, z, hI]
      refine ⟨h2, a, rfl, by simpa using ha, ?_⟩
      have : ∀ y ∈ x :: xs, y ∈ r ∨ a ≤ y := fun y hy => by
        rcases h4 y hy with h | h
        · rcases List.mem_cons.mp h with rfl | h
          · right; exact Rat.le_refl
          · left; exact h
        · right; exact Rat.le_trans (Rat.le_of_lt z) h
      simpa using this
    · simp [less_eq (hz a ha) (hz m h3) (by omega), dTru, z, hI]
      refine ⟨h2, m, rfl, by simpa using h3, ?_⟩
      have : ∀ y ∈ x :: xs, y ∈ r ∨ m ≤ y := fun y hy => by
        rcases h4 y hy with h | h
        · rcases List.mem_cons.mp h with rfl | h
          · right; exact Rat.not_lt.mp z
          · left; exact h
        · right; exact h
      simpa using this
  · intro e s2 h
    obtain ⟨h2, m, o, rfl, h3, h4⟩ := (hI _ _ _).mp h
    simp
    exact ⟨hle.trans h2, m, rfl, h3, fun y hy => by simpa using h4 y hy⟩
theorem law_most_ok (h : Its s d ((x :: xs).map rD)) (hz : ∀ y ∈ x :: xs, SzR k y) (hk : k ≤ 4000) (hl : (x :: xs).length ≤ zLine) : (f__law_most [d] s).wp (fun v s' => Le s s' ∧ ∃ m, v = rD m ∧ IsMax m (x :: xs)) NoE := by
  simp [f__law_most, b__law_most, its_idx h atI_0]
  refine ⟨its_some h, ?_⟩
  obtain ⟨Inv, hI⟩ : ∃ Inv : List Rat → En → S → Prop, ∀ r e s2, Inv r e s2 ↔ (Le s s2 ∧ ∃ m o, e = [some d, some (rD m), o] ∧ m ∈ x :: xs ∧ ∀ y ∈ x :: xs, y ∈ r ∨ y ≤ m) := ⟨_, fun _ _ _ => Iff.rfl⟩
  refine for_rest (x :: xs) rD (fun r e s2 => Inv r e s2) rfl (lt_fuelZ (by simpa using hl)) ((hI _ _ _).mpr ⟨.rfl, x, none, rfl, by simp, fun y hy => .inl hy⟩) (fun r e s2 h2 => wk_sq (its_le h ((hI _ _ _).mp h2).1)) ?_ ?_
  · intro dn a r e s2 hl h
    obtain ⟨h2, m, o, rfl, h3, h4⟩ := (hI _ _ _).mp h
    have ha : a ∈ x :: xs := by rw [hl]; simp
    refine ⟨_, to_nm, ?_⟩
    by_cases z : m < a
    · simp [law_below_eq (hz m h3) (hz a ha) (by omega), dTru, z, hI]
      refine ⟨h2, a, rfl, by simpa using ha, ?_⟩
      have : ∀ y ∈ x :: xs, y ∈ r ∨ y ≤ a := fun y hy => by
        rcases h4 y hy with h | h
        · rcases List.mem_cons.mp h with rfl | h
          · right; exact Rat.le_refl
          · left; exact h
        · right; exact Rat.le_trans h (Rat.le_of_lt z)
      simpa using this
    · simp [law_below_eq (hz m h3) (hz a ha) (by omega), dTru, z, hI]
      refine ⟨h2, m, rfl, by simpa using h3, ?_⟩
      have : ∀ y ∈ x :: xs, y ∈ r ∨ y ≤ m := fun y hy => by
        rcases h4 y hy with h | h
        · rcases List.mem_cons.mp h with rfl | h
          · right; exact Rat.not_lt.mp z
          · left; exact h
        · right; exact h
      simpa using this
  · intro e s2 h
    obtain ⟨h2, m, o, rfl, h3, h4⟩ := (hI _ _ _).mp h
    simp
    exact ⟨h2, m, rfl, h3, fun y hy => by simpa using h4 y hy⟩
theorem law_fewest_ok (h : Its s d ((x :: xs).map rD)) (hz : ∀ y ∈ x :: xs, SzR k y) (hk : k ≤ 4000) (hl : (x :: xs).length ≤ zLine) : (f__law_fewest [d] s).wp (fun v s' => Le s s' ∧ ∃ m, v = rD m ∧ IsMin m (x :: xs)) NoE := by
  simp [f__law_fewest, b__law_fewest, its_idx h atI_0]
  refine ⟨its_some h, ?_⟩
  obtain ⟨Inv, hI⟩ : ∃ Inv : List Rat → En → S → Prop, ∀ r e s2, Inv r e s2 ↔ (Le s s2 ∧ ∃ m o, e = [some d, some (rD m), o] ∧ m ∈ x :: xs ∧ ∀ y ∈ x :: xs, y ∈ r ∨ m ≤ y) := ⟨_, fun _ _ _ => Iff.rfl⟩
  refine for_rest (x :: xs) rD (fun r e s2 => Inv r e s2) rfl (lt_fuelZ (by simpa using hl)) ((hI _ _ _).mpr ⟨.rfl, x, none, rfl, by simp, fun y hy => .inl hy⟩) (fun r e s2 h2 => wk_sq (its_le h ((hI _ _ _).mp h2).1)) ?_ ?_
  · intro dn a r e s2 hl h
    obtain ⟨h2, m, o, rfl, h3, h4⟩ := (hI _ _ _).mp h
    have ha : a ∈ x :: xs := by rw [hl]; simp
    refine ⟨_, to_nm, ?_⟩
    by_cases z : a < m
    · simp [law_below_eq (hz a ha) (hz m h3) (by omega), dTru, z, hI]
      refine ⟨h2, a, rfl, by simpa using ha, ?_⟩
      have : ∀ y ∈ x :: xs, y ∈ r ∨ a ≤ y := fun y hy => by
        rcases h4 y hy with h | h
        · rcases List.mem_cons.mp h with rfl | h
          · right; exact Rat.le_refl
          · left; exact h
        · right; exact Rat.le_trans (Rat.le_of_lt z) h
      simpa using this
    · simp [law_below_eq (hz a ha) (hz m h3) (by omega), dTru, z, hI]
      refine ⟨h2, m, rfl, by simpa using h3, ?_⟩
      have : ∀ y ∈ x :: xs, y ∈ r ∨ m ≤ y := fun y hy => by
        rcases h4 y hy with h | h
        · rcases List.mem_cons.mp h with rfl | h
          · right; exact Rat.not_lt.mp z
          · left; exact h
        · right; exact h
      simpa using this
  · intro e s2 h
    obtain ⟨h2, m, o, rfl, h3, h4⟩ := (hI _ _ _).mp h
    simp
    exact ⟨h2, m, rfl, h3, fun y hy => by simpa using h4 y hy⟩
end
end Ev
set_option maxHeartbeats 1000000
set_option exponentiation.threshold 20000
namespace Ev
open PySem PySem.Spec PyProof.Rows L2
/-! ### pure data -/
theorem mapO_map {α β : Type} {f : D → Option β} {td : α → D} {g : α → β} : ∀ {l : List α}, (∀ a ∈ l, f (td a) = some (g a)) → mapO f (l.map td) = some (l.map g)
  | [], _ => rfl
  | a :: l, h => by
    rw [List.map_cons, List.map_cons, mapO, h a (by simp), mapO_map (l := l) fun b hb => h b (by simp [hb])]
section
variable {s : S} {n : Nat}
theorem toP_int {i : Int} : toP s (n + 1) (.int i) = some (.int i) := by unfold toP; rfl
theorem toP_bl {i : Bool} : toP s (n + 1) (.bl i) = some (.bool i) := by unfold toP; rfl
theorem toP_tup {α : Type} {l : List α} {td : α → D} {g : α → PyData} (h : ∀ a ∈ l, toP s n (td a) = some (g a)) : toP s (n + 1) (.tup (l.map td)) = some (.tuple (l.map g)) := by
  conv => lhs; unfold toP
  simp only [mapO_map h]
theorem toP_tup1 {ds : List D} {ps : List PyData} (h : mapO (toP s n) ds = some ps) : toP s (n + 1) (.tup ds) = some (.tuple ps) := by
  conv => lhs; unfold toP
  simp only [h]
theorem toP_lst {p : Ps} {ds : List D} {ps : List PyData} (hs : Has s p (.lst ds)) (h : mapO (toP s n) ds = some ps) : toP s (n + 1) (.ref p) = some (.list ps) := by
  conv => lhs; unfold toP
  simp only [items, hs.get, h]
def pR (x : Rat) : PyData := .tuple [.int x.num, .int (x.den : Int)]
theorem toP_rD {x : Rat} : toP s (n + 2) (rD x) = some (pR x) := toP_tup1 (by simp [mapO, toP_int])
theorem eqv_nil {xs : List PyData} : PyData.eqv (.list xs) (.list []) = xs.isEmpty := by
  cases xs <;> simp [PyData.eqv, PyData.eqvAll]
theorem eqv_nilT {xs : List PyData} : PyData.eqv (.tuple xs) (.tuple []) = xs.isEmpty := by
  cases xs <;> simp [PyData.eqv, PyData.eqvAll]
theorem mapO_empty {f : D → Option PyData} {xs : List D} {ps : List PyData} (h : mapO f xs = some ps) : ps.isEmpty = xs.isEmpty := by
  cases xs with
  | nil => simp [mapO] at h; subst h; rfl
  | cons x r =>
    simp only [mapO] at h
    cases e : f x with
    | none => rw [e] at h; cases h
    | some y =>
      cases e2 : mapO f r with
      | none => rw [e, e2] at h; cases h
      | some ys => rw [e, e2] at h; cases h; rfl
theorem eq_nil {p q : Ps} {xs : List D} {ps : List PyData} (h1 : Has s p (.lst xs)) (h2 : Has s q (.lst [])) (hp : mapO (toP s 39) xs = some ps) : onP pEq (.ref p) (.ref q) s = .ok (.bl xs.isEmpty) s := by
  have e1 : toQ s (.ref p) = some (.list ps) := toP_lst (n := 39) h1 hp
  have e2 : toQ s (.ref q) = some (.list []) := toP_lst (n := 39) h2 rfl
  simp only [onP, e1, e2, pEq, eqv_nil, mapO_empty hp]
theorem ne_nil {p q : Ps} {xs : List D} {ps : List PyData} (h1 : Has s p (.lst xs)) (h2 : Has s q (.lst [])) (hp : mapO (toP s 39) xs = some ps) : onP pNe (.ref p) (.ref q) s = .ok (.bl (!xs.isEmpty)) s := by
  have e1 : toQ s (.ref p) = some (.list ps) := toP_lst (n := 39) h1 hp
  have e2 : toQ s (.ref q) = some (.list []) := toP_lst (n := 39) h2 rfl
  simp only [onP, e1, e2, pNe, eqv_nil, mapO_empty hp]
theorem eq_nilT {xs : List D} {ps : List PyData} (hp : mapO (toP s 39) xs = some ps) : onP pEq (.tup xs) (.tup []) s = .ok (.bl xs.isEmpty) s := by
  have e1 : toQ s (.tup xs) = some (.tuple ps) := toP_tup1 (n := 39) hp
  have e2 : toQ s (.tup []) = some (.tuple []) := toP_tup1 (n := 39) rfl
  simp only [onP, e1, e2, pEq, eqv_nilT, mapO_empty hp]
theorem ne_nilT {xs : List D} {ps : List PyData} (hp : mapO (toP s 39) xs = some ps) : onP pNe (.tup xs) (.tup []) s = .ok (.bl (!xs.isEmpty)) s := by
  have e1 : toQ s (.tup xs) = some (.tuple ps) := toP_tup1 (n := 39) hp
  have e2 : toQ s (.tup []) = some (.tuple []) := toP_tup1 (n := 39) rfl
  simp only [onP, e1, e2, pNe, eqv_nilT, mapO_empty hp]
theorem isa_tup {xs : List D} {ps : List PyData} (hp : mapO (toP s 39) xs = some ps) : bIsa .tuple_ [.tup xs] s = .ok (.bl true) s := by
  have e1 : toQ s (.tup xs) = some (.tuple ps) := toP_tup1 (n := 39) hp
  simp only [bIsa, e1, bIsaO, Ty.has, PyData.isTuple]
@[simp] theorem isa_int {i : Int} : bIsa .int_ [.int i] s = .ok (.bl true) s := by
  have e1 : toQ s (.int i) = some (.int i) := toP_int (n := 39)
  simp only [bIsa, e1, bIsaO, Ty.has, PyData.isInt]
@[simp] theorem isa_intb {i : Int} : bIsa .bool_ [.int i] s = .ok (.bl false) s := by
  have e1 : toQ s (.int i) = some (.int i) := toP_int (n := 39)
  simp only [bIsa, e1, bIsaO, Ty.has, PyData.isBool]
end
/-! ### forms -/
def fmD (f : List Int) : D := .tup (f.map .int)
def stD (p : List Rat) : D := .tup (p.map rD)
def dot : List (Int × Rat) → Rat
  | [] => 0
  | (a, x) :: r => a * x + dot r
def fv : List Int → List Rat → Rat
  | [], _ => 0
  | c :: f, p => c + dot (f.zip p)
theorem zipD_map {α β : Type} {f : α → D} {g : β → D} : ∀ (xs : List α) (ys : List β), zipD (xs.map f) (ys.map g) = (xs.zip ys).map fun z => .tup [f z.1, g z.2]
  | [], _ => rfl
  | _ :: _, [] => rfl
  | x :: xs, y :: ys => by simp [zipD, zipD_map xs ys]
theorem rD_int {i : Int} : rD (i : Rat) = .tup [.int i, .int 1] := by simp [rD]
theorem rD_0 : rD 0 = .tup [.int 0, .int 1] := rfl
theorem rD_1 : rD 1 = .tup [.int 1, .int 1] := rfl
def FSz (k : Nat) (f : List Int) : Prop := ∀ a ∈ f, SzI k a
def PSz (k : Nat) (p : List Rat) : Prop := ∀ x ∈ p, SzR k x
section
variable {s : S} {d : D} {c : Int} {f : List Int} {p : List Rat} {kf kp : Nat}
theorem dot_sz {kf kp : Nat} (h0 : 1 ≤ kf) : ∀ (zs : List (Int × Rat)), (∀ z ∈ zs, SzI kf z.1 ∧ SzR kp z.2) → SzR (1 + zs.length * (kf + kp + 1)) (dot zs)
  | [], _ => by
    refine SzR.mono (k := 1) ?_ (by simp)
    show SzR 1 ((0 : Int) : Rat)
    exact .int (szI_lit (by decide)) (by decide)
  | (a, x) :: r, h => by
    have h1 := h (a, x) (by simp)
    have h2 := dot_sz h0 r fun z hz => h z (by simp [hz])
    have := (SzR.mul (SzR.int h1.1 h0) h1.2).add h2
    refine this.mono ?_
    rw [List.length_cons, Nat.succ_mul r.length]
    omega
/-- the sizes of what is reckoned of a form at a standing -/
def VS (n kf kp : Nat) : Nat := kf + 2 + n * (kf + kp + 1)
theorem VS_succ {n kf kp : Nat} : VS (n + 1) kf kp = VS n kf kp + (kf + kp) + 1 := by unfold VS; rw [Nat.succ_mul]; omega
theorem VS_mono {m n kf kp : Nat} (h : m ≤ n) : VS m kf kp ≤ VS n kf kp := by
  unfold VS
  have := Nat.mul_le_mul_right (kf + kp + 1) h
  omega
theorem fv_sz (h0 : 1 ≤ kf) (hf : FSz kf (c :: f)) (hp : PSz kp p) (hl : f.length = p.length) : SzR (VS f.length kf kp) (fv (c :: f) p) := by
  have h1 := dot_sz (kf := kf) (kp := kp) h0 (f.zip p) fun z hz => ⟨hf z.1 (by simp [(List.of_mem_zip (a := z.1) (b := z.2) hz).1]), hp z.2 (List.of_mem_zip (a := z.1) (b := z.2) hz).2⟩
  have := (SzR.int (hf c (by simp)) h0).add h1
  refine this.mono ?_
  rw [List.length_zip, ← hl, Nat.min_self]
  unfold VS
  omega
end
end Ev
set_option maxHeartbeats 1000000
set_option exponentiation.threshold 20000
namespace Ev
open PySem PySem.Spec PyProof.Rows L2
section
variable {s : S} {d : D} {c : Int} {f : List Int} {p : List Rat} {kf kp : Nat}
theorem zip_mem {α β : Type} {xs : List α} {ys : List β} {z : α × β} (h : z ∈ xs.zip ys) : z.1 ∈ xs ∧ z.2 ∈ ys := List.of_mem_zip (a := z.1) (b := z.2) h
theorem dot_dn {kf kp : Nat} (h0 : 1 ≤ kf) {zs : List (Int × Rat)} (hz : ∀ z ∈ zs, SzI kf z.1 ∧ SzR kp z.2) {i : Nat} {a : Int} {x m : Rat} {r dn : List (Int × Rat)} (e : zs = dn ++ (a, x) :: r) (hm : SzR (VS i kf kp) m) : SzI kf a ∧ SzR kp x ∧ SzR (VS (i + 1) kf kp) (m + a * x) := by
  have h1 := hz (a, x) (by rw [e]; simp)
  refine ⟨h1.1, h1.2, (hm.add (SzR.mul (SzR.int h1.1 h0) h1.2)).mono ?_⟩
  rw [VS_succ]; omega
theorem value_at_eq (h : Its s d (p.map rD)) (h0 : 1 ≤ kf) (hf : FSz kf (c :: f)) (hp : PSz kp p) (hl : f.length = p.length) (hk : VS f.length kf kp ≤ 4000) (hz : f.length ≤ 100) : f_value_at [fmD (c :: f), d] s = .ok (rD (fv (c :: f) p)) s := by
  refine eq_of_wp ?_
  simp [f_value_at, b_value_at, fmD, whole_eq, cut1 (α := D)]
  refine ⟨⟨rfl, its_some h⟩, ?_⟩
  obtain ⟨Inv, hI⟩ : ∃ Inv : List (Int × Rat) → En → S → Prop, ∀ r e s2, Inv r e s2 ↔ (s2 = s ∧ ∃ m o3 o4 i, e = [some (.tup (.int c :: f.map .int)), some d, some (rD m), o3, o4] ∧ i + r.length = (f.zip p).length ∧ SzR (VS i kf kp) m ∧ m + dot r = fv (c :: f) p) := ⟨_, fun _ _ _ => Iff.rfl⟩
  have hzs : ∀ z ∈ f.zip p, SzI kf z.1 ∧ SzR kp z.2 := fun z hz => ⟨hf _ (by simp [(zip_mem hz).1]), hp _ (zip_mem hz).2⟩
  refine for_rest (f.zip p) _ Inv (zipD_map (f := D.int) (g := rD) f p) (lt_fuelZ ?_) ((hI _ _ _).mpr ⟨rfl, c, none, none, 0, rfl, by simp, (SzR.int (hf c (by simp)) h0).mono (by unfold VS; omega), rfl⟩) ?_ ?_ ?_
  · rw [List.length_zip]; unfold zLine; omega
  · intro r e s2 h2
    obtain ⟨rfl, _⟩ := (hI _ _ _).mp h2
    exact wk_z .tup h fun _ => by simpa using hl
  · rintro dn ⟨a, x⟩ r e s2 e2 h2
    obtain ⟨rfl, m, o3, o4, i, rfl, h3, h4, h5⟩ := (hI _ _ _).mp h2
    obtain ⟨g1, g2, g3⟩ := dot_dn h0 hzs e2 h4
    have hi : i + 1 ≤ f.length := by rw [List.length_cons, List.length_zip] at h3; omega
    have hb : VS (i + 1) kf kp ≤ 4000 := Nat.le_trans (VS_mono hi) hk
    have hb' : VS i kf kp + (kf + kp) + 1 ≤ 4000 := by rw [← VS_succ]; exact hb
    simp [whole_eq, times_eq (SzR.int g1 h0) g2 (by omega), plus_eq h4 (SzR.mul (SzR.int g1 h0) g2) (by omega), hI]
    refine ⟨m + a * x, rfl, i + 1, by simp at h3; omega, g3, ?_⟩
    rw [← h5, dot]; exact Rat.add_assoc ..
  · intro e s2 h2
    obtain ⟨rfl, m, o3, o4, i, rfl, h3, h4, h5⟩ := (hI _ _ _).mp h2
    simp
    rw [← h5, dot, Rat.add_zero]
theorem law_sum_raw {x : Rat} {n q : Int} {k m : Nat} (hx : SzR k x) (hn : SzI m n) (hq : SzI m q) (h0 : q ≠ 0) (h : k + m ≤ 8000) : f__law_sum [rD x, .tup [.int n, .int q]] s = .ok (rD (x + Rat.divInt n q)) s := by
  have hz : SzI 8999 ((x.den : Int) * q) := (hx.deni.mul hq).mono (by omega)
  have e := law_least_eq (s := s) (a := x.num * q + n * x.den) (Int.mul_ne_zero (dne x) h0) hz
  rw [← Rat.divInt_add_divInt _ _ (dne x) h0, divInt_nd] at e
  refine eq_of_wp ?_
  simp [f__law_sum, b__law_sum, rD, e, mulB_of hx.num hq (by omega), mulB_of hn hx.deni (by omega), mulB_of hx.deni hq (by omega)]
theorem divInt_sc (a : Int) (x : Rat) : Rat.divInt (a * x.num) x.den = a * x := by
  rw [mul_divInt, Rat.num_intCast, Rat.den_intCast, Int.natCast_one, Int.one_mul]
theorem law_value_eq (h : Its s d (p.map rD)) (h0 : 1 ≤ kf) (hf : FSz kf (c :: f)) (hp : PSz kp p) (hl : f.length = p.length) (hk : VS f.length kf kp ≤ 4000) (hz : f.length ≤ 100) : f__law_value [fmD (c :: f), d] s = .ok (rD (fv (c :: f) p)) s := by
  refine eq_of_wp ?_
  simp [f__law_value, b__law_value, fmD, cut1 (α := D)]
  refine ⟨⟨rfl, its_some h⟩, ?_⟩
  obtain ⟨Inv, hI⟩ : ∃ Inv : List (Int × Rat) → En → S → Prop, ∀ r e s2, Inv r e s2 ↔ (s2 = s ∧ ∃ m o3 o4 i, e = [some (.tup (.int c :: f.map .int)), some d, some (rD m), o3, o4] ∧ i + r.length = (f.zip p).length ∧ SzR (VS i kf kp) m ∧ m + dot r = fv (c :: f) p) := ⟨_, fun _ _ _ => Iff.rfl⟩
  have hzs : ∀ z ∈ f.zip p, SzI kf z.1 ∧ SzR kp z.2 := fun z hz => ⟨hf _ (by simp [(zip_mem hz).1]), hp _ (zip_mem hz).2⟩
  refine for_rest (f.zip p) _ Inv (zipD_map (f := D.int) (g := rD) f p) (lt_fuelZ ?_) ((hI _ _ _).mpr ⟨rfl, c, none, none, 0, by rw [rD_int], by simp, (SzR.int (hf c (by simp)) h0).mono (by unfold VS; omega), rfl⟩) ?_ ?_ ?_
  · rw [List.length_zip]; unfold zLine; omega
  · intro r e s2 h2
    obtain ⟨rfl, _⟩ := (hI _ _ _).mp h2
    exact wk_z .tup h fun _ => by simpa using hl
  · rintro dn ⟨a, x⟩ r e s2 e2 h2
    obtain ⟨rfl, m, o3, o4, i, rfl, h3, h4, h5⟩ := (hI _ _ _).mp h2
    obtain ⟨g1, g2, g3⟩ := dot_dn h0 hzs e2 h4
    have hi : i + 1 ≤ f.length := by rw [List.length_cons, List.length_zip] at h3; omega
    have hb : VS (i + 1) kf kp ≤ 4000 := Nat.le_trans (VS_mono hi) hk
    have hb' : VS i kf kp + (kf + kp) + 1 ≤ 4000 := by rw [← VS_succ]; exact hb
    refine ⟨_, rfl, ?_⟩
    have hfin : Inv r [some (.tup (.int c :: f.map .int)), some d, some (rD (m + a * x)), some (.int a), some (rD x)] s2 := (hI _ _ _).mpr ⟨rfl, m + a * x, _, _, i + 1, rfl, by rw [List.length_cons] at h3; omega, g3, by rw [← h5, dot]; exact Rat.add_assoc ..⟩
    have e1 := law_sum_raw (s := s2) h4 (SzI.mul g1 g2.num) (g2.deni.mono (by omega)) (dne x) (by omega)
    rw [divInt_sc] at e1
    have e0 : f__law_sum [rD m, .tup [.int 0, .int 1]] s2 = .ok (rD m) s2 := by
      have := law_plus_eq (s := s2) h4 (SzR.int (i := 0) (a := 1) (szI_lit (by decide)) (by decide)) (by omega)
      rw [rD_int] at this
      simpa [Rat.add_zero] using this
    by_cases z : a = 0
    · subst z
      simp [e0]
      simpa [Rat.add_zero] using hfin
    · simp [z, mulB_of g1 g2.num (by omega), rD] 
      simp [rD] at e1
      rw [e1]
      simpa [rD] using hfin
  · intro e s2 h2
    obtain ⟨rfl, m, o3, o4, i, rfl, h3, h4, h5⟩ := (hI _ _ _).mp h2
    simp
    rw [← h5, dot, Rat.add_zero]
end
end Ev
set_option maxHeartbeats 1000000
set_option exponentiation.threshold 20000
namespace Ev
open PySem PySem.Spec PyProof.Rows L2
def ctD (ct : List CK) : D := .tup (ct.map ckD)
def sl (p : List Rat) (k : CK) : Rat := -(k.2 : Rat) * fv k.1 p
/-- a contact of forms of n sliders -/
def CtOk (n kf : Nat) (ct : List CK) : Prop := ∀ k ∈ ct, k.1.length = n + 1 ∧ FSz kf k.1 ∧ SzI kf k.2
section
variable {s : S} {d : D} {p q : List Rat} {kf kp : Nat} {k : CK} {ct : List CK}
theorem ckD_eq : ckD k = .tup [fmD k.1, .int k.2] := rfl
theorem value_at_ck (h : Its s d (p.map rD)) (h0 : 1 ≤ kf) (hc : k.1.length = p.length + 1 ∧ FSz kf k.1 ∧ SzI kf k.2) (hp : PSz kp p) (hk : VS p.length kf kp ≤ 4000) (hz : p.length ≤ 100) : f_value_at [fmD k.1, d] s = .ok (rD (fv k.1 p)) s := by
  obtain ⟨f, sd⟩ := k
  obtain ⟨h1, h2, h3⟩ := hc
  cases f with
  | nil => simp at h1
  | cons c f =>
    have hl : f.length = p.length := by simpa using h1
    exact value_at_eq h h0 h2 hp hl (by rw [hl]; exact hk) (by omega)
theorem law_value_ck (h : Its s d (p.map rD)) (h0 : 1 ≤ kf) (hc : k.1.length = p.length + 1 ∧ FSz kf k.1 ∧ SzI kf k.2) (hp : PSz kp p) (hk : VS p.length kf kp ≤ 4000) (hz : p.length ≤ 100) : f__law_value [fmD k.1, d] s = .ok (rD (fv k.1 p)) s := by
  obtain ⟨f, sd⟩ := k
  obtain ⟨h1, h2, h3⟩ := hc
  cases f with
  | nil => simp at h1
  | cons c f =>
    have hl : f.length = p.length := by simpa using h1
    exact law_value_eq h h0 h2 hp hl (by rw [hl]; exact hk) (by omega)
theorem fv_szk (h0 : 1 ≤ kf) (hc : k.1.length = p.length + 1 ∧ FSz kf k.1 ∧ SzI kf k.2) (hp : PSz kp p) : SzR (VS p.length kf kp) (fv k.1 p) := by
  obtain ⟨f, sd⟩ := k
  obtain ⟨h1, h2, h3⟩ := hc
  cases f with
  | nil => simp at h1
  | cons c f =>
    have hl : f.length = p.length := by simpa using h1
    have := fv_sz h0 h2 hp hl
    rwa [hl] at this
theorem kf_le (hk : VS p.length kf kp ≤ 4000) : kf ≤ 4000 := by
  unfold VS at hk; omega
theorem sl_sz (h0 : 1 ≤ kf) (hc : k.1.length = p.length + 1 ∧ FSz kf k.1 ∧ SzI kf k.2) (hp : PSz kp p) : SzR (kf + VS p.length kf kp) (sl p k) := SzR.mul (SzR.int hc.2.2 h0).neg (fv_szk h0 hc hp)
theorem distances_at_ok (h : Its s d (p.map rD)) (h0 : 1 ≤ kf) (hc : CtOk p.length kf ct) (hp : PSz kp p) (hk : VS p.length kf kp ≤ 4000) (hz : p.length ≤ 100) (hz' : ct.length ≤ zLine) : (f_distances_at [ctD ct, d] s).wp (fun v s' => Le s s' ∧ Its s' v ((ct.map (sl p)).map rD)) NoE := by
  simp [f_distances_at, b_distances_at, ctD, wipeE]
  refine ⟨rfl, lc_map ct ckD (fun k => rD (sl p k)) rfl hz' (fun s' _ => wk_sq .tup) (fun k hk' s' hs => ?_) fun p' s' h1 h2 h3 => ⟨h1, .lst h3⟩⟩
  have h1 := hc k hk'
  have h2 := value_at_ck (its_le h hs) h0 h1 hp hk hz
  have h3 := kf_le hk
  have h4 := times_eq (s := s') (SzR.int h1.2.2 h0).neg (fv_szk h0 h1 hp) (by omega)
  simp [ckD_eq, whole_eq, h2, h4]
  exact ⟨rfl, .rfl⟩
theorem law_slack_list_ok (h : Its s d (p.map rD)) (h0 : 1 ≤ kf) (hc : CtOk p.length kf ct) (hp : PSz kp p) (hk : VS p.length kf kp ≤ 4000) (hz : p.length ≤ 100) (hz' : ct.length ≤ zLine) : (f__law_slack_list [ctD ct, d] s).wp (fun v s' => Le s s' ∧ Its s' v ((ct.map (sl p)).map rD)) NoE := by
  simp [f__law_slack_list, b__law_slack_list, ctD, wipeE]
  refine ⟨rfl, lc_map ct ckD (fun k => rD (sl p k)) rfl hz' (fun s' _ => wk_sq .tup) (fun k hk' s' hs => ?_) fun p' s' h1 h2 h3 => ⟨h1, .lst h3⟩⟩
  have h1 := hc k hk'
  have h2 := law_value_ck (its_le h hs) h0 h1 hp hk hz
  have h3 := kf_le hk
  have h4 := law_times_eq (s := s') (SzR.int h1.2.2 h0).neg (fv_szk h0 h1 hp) (by omega)
  have e : rD (-(k.2 : Rat)) = .tup [.int (-k.2), .int 1] := by rw [← Rat.intCast_neg, rD_int]
  rw [e] at h4
  simp [ckD_eq, h2, h4]
  exact ⟨rfl, .rfl⟩
/-! limits -/
def lmD (l : List (Int × Int)) : D := .tup (l.map fun z => .tup [.int z.1, .int z.2])
def Wn (l : List (Int × Int)) (p : List Rat) : Prop := ∀ z ∈ l.zip p, (z.1.1 : Rat) ≤ z.2 ∧ z.2 ≤ (z.1.2 : Rat)
def LSz (k : Nat) (l : List (Int × Int)) : Prop := ∀ z ∈ l, SzI k z.1 ∧ SzI k z.2
variable {l : List (Int × Int)}
theorem is_within_ok (h : Its s d (p.map rD)) (h0 : 1 ≤ kf) (hp : PSz kp p) (hL : LSz kf l) (hl : l.length = p.length) (hk : kf + kp ≤ 4000) (hz : p.length ≤ 100) (hw : Wn l p) : f_is_within [lmD l, d] s = .ok (.bl true) s := by
  refine eq_of_wp ?_
  simp [f_is_within, b_is_within, lmD]
  refine ⟨⟨rfl, its_some h⟩, ?_⟩
  obtain ⟨Inv, hI⟩ : ∃ Inv : List ((Int × Int) × Rat) → En → S → Prop, ∀ r e s2, Inv r e s2 ↔ (s2 = s ∧ ∃ o2 o3 o4, e = [some (lmD l), some d, o2, o3, o4]) := ⟨_, fun _ _ _ => Iff.rfl⟩
  refine for_rest (l.zip p) _ Inv (zipD_map (f := fun z : Int × Int => D.tup [.int z.1, .int z.2]) (g := rD) l p) (lt_fuelZ ?_) ((hI _ _ _).mpr ⟨rfl, _, _, _, rfl⟩) ?_ ?_ ?_
  · rw [List.length_zip]; unfold zLine; omega
  · intro r e s2 h2
    obtain ⟨rfl, _⟩ := (hI _ _ _).mp h2
    exact wk_z .tup h fun _ => by simpa using hl
  · rintro dn ⟨⟨a, b⟩, x⟩ r e s2 e2 h2
    obtain ⟨rfl, o2, o3, o4, rfl⟩ := (hI _ _ _).mp h2
    have hm : ((a, b), x) ∈ l.zip p := by rw [e2]; simp
    have h1 := hL _ (zip_mem hm).1
    have h3 := hp _ (zip_mem hm).2
    obtain ⟨w1, w2⟩ := hw _ hm
    have w1 := Rat.not_lt.mpr w1
    have w2 := Rat.not_lt.mpr w2
    simp at w1 w2
    simp [whole_eq, less_eq h3 (SzR.int h1.1 h0) (by omega), less_eq (SzR.int h1.2 h0) h3 (by omega), dTru, hI, w1, w2]
  · intro e s2 h2
    obtain ⟨rfl, o2, o3, o4, rfl⟩ := (hI _ _ _).mp h2
    simp
end
theorem toP_ck {s : S} {n : Nat} {k : CK} : ∃ p, toP s (n + 3) (ckD k) = some p := by
  refine ⟨.tuple [.tuple (k.1.map PyData.int), .int k.2], toP_tup1 ?_⟩
  have h1 : toP s (n + 2) (.tup (k.1.map .int)) = some (.tuple (k.1.map PyData.int)) := toP_tup fun _ _ => toP_int
  simp only [mapO, h1, toP_int]
theorem toP_some {α : Type} {s : S} {n : Nat} {td : α → D} (h : ∀ a, ∃ p, toP s n (td a) = some p) (l : List α) : ∃ ps, mapO (toP s n) (l.map td) = some ps := by
  induction l with
  | nil => exact ⟨[], rfl⟩
  | cons a r ih =>
    obtain ⟨p, hp⟩ := h a
    obtain ⟨ps, hps⟩ := ih
    exact ⟨p :: ps, by rw [List.map_cons, mapO, hp, hps]⟩
theorem toP_ct {s : S} {n : Nat} {ct : List CK} : ∃ p, toP s (n + 4) (ctD ct) = some p := by
  obtain ⟨ps, h⟩ := toP_some (s := s) (n := n + 3) (fun k => toP_ck (k := k)) ct
  exact ⟨_, toP_tup1 h⟩
end Ev
set_option maxHeartbeats 1000000
set_option exponentiation.threshold 20000
namespace Ev
open PySem PySem.Spec PyProof.Rows L2
/-- bounds that all reckonings keep -/
def Bd (n kf kp : Nat) : Prop := 1 ≤ kf ∧ n ≤ 100 ∧ 10 * (kf + VS n kf kp) + 30 ≤ 4000 ∧ kf + kp ≤ 4000
theorem Bd.vs {n kf kp : Nat} (h : Bd n kf kp) : VS n kf kp ≤ 4000 := by have := h.2.2; omega
/-- two standings of a leg, as data -/
structure Lg (s : S) (n kf kp : Nat) (ct : List CK) (p q : List Rat) (dp dq : D) : Prop where
  bd : Bd n kf kp
  cto : CtOk n kf ct
  ln : ct.length ≤ 1000
  p1 : Its s dp (p.map rD)
  q1 : Its s dq (q.map rD)
  pl : p.length = n
  ql : q.length = n
  ps : PSz kp p
  qs : PSz kp q
def AS (n kf kp : Nat) : Nat := kf + VS n kf kp
def lns (ct : List CK) (p q : List Rat) : List (Rat × Rat) := ct.map fun k => (sl p k, sl q k)
section
variable {s : S} {n kf kp : Nat} {ct : List CK} {p q : List Rat} {dp dq : D}
theorem Lg.le {s' : S} (h : Lg s n kf kp ct p q dp dq) (l : Le s s') : Lg s' n kf kp ct p q dp dq := { h with p1 := h.p1.le l, q1 := h.q1.le l }
theorem Lg.da (h : Lg s n kf kp ct p q dp dq) : (f_distances_at [ctD ct, dp] s).wp (fun v s' => Le s s' ∧ Its s' v ((ct.map (sl p)).map rD)) NoE :=
  distances_at_ok h.p1 h.bd.1 (by rw [h.pl]; exact h.cto) h.ps (by rw [h.pl]; exact h.bd.vs) (by rw [h.pl]; exact h.bd.2.1) (Nat.le_trans h.ln (by decide))
theorem Lg.db (h : Lg s n kf kp ct p q dp dq) : (f_distances_at [ctD ct, dq] s).wp (fun v s' => Le s s' ∧ Its s' v ((ct.map (sl q)).map rD)) NoE :=
  distances_at_ok h.q1 h.bd.1 (by rw [h.ql]; exact h.cto) h.qs (by rw [h.ql]; exact h.bd.vs) (by rw [h.ql]; exact h.bd.2.1) (Nat.le_trans h.ln (by decide))
theorem Lg.sa (h : Lg s n kf kp ct p q dp dq) {k : CK} (hk : k ∈ ct) : SzR (AS n kf kp) (sl p k) := by
  have := sl_sz h.bd.1 (p := p) (k := k) (kf := kf) (kp := kp) (by rw [h.pl]; exact h.cto k hk) h.ps
  rwa [h.pl] at this
theorem Lg.sb (h : Lg s n kf kp ct p q dp dq) {k : CK} (hk : k ∈ ct) : SzR (AS n kf kp) (sl q k) := by
  have := sl_sz h.bd.1 (p := q) (k := k) (kf := kf) (kp := kp) (by rw [h.ql]; exact h.cto k hk) h.qs
  rwa [h.ql] at this
theorem Lg.as (h : Lg s n kf kp ct p q dp dq) : 10 * AS n kf kp + 30 ≤ 4000 := h.bd.2.2.1
theorem Lg.lsz (h : Lg s n kf kp ct p q dp dq) {z : Rat × Rat} (hz : z ∈ lns ct p q) : SzR (AS n kf kp) z.1 ∧ SzR (AS n kf kp) z.2 := by
  obtain ⟨k, hk, rfl⟩ := List.mem_map.mp hz
  exact ⟨h.sa hk, h.sb hk⟩
theorem sg_nonneg {x : Rat} : (0 ≤ sg x) = (0 ≤ x) := by
  unfold sg
  by_cases h : 0 < x
  · simp [h, Rat.le_of_lt h]
  · by_cases h' : x < 0
    · simp [h, h', Rat.not_le.mpr h']
    · simp [h, h', Rat.not_lt.mp h']
theorem zip_lns : (ct.map (sl p)).zip (ct.map (sl q)) = lns ct p q := by
  unfold lns
  induction ct with
  | nil => rfl
  | cons k r ih => simp [ih]
theorem span_ok (h : Lg s n kf kp ct p q dp dq) : (f_span [ctD ct, dp, dq] s).wp (fun v s' => Le s s' ∧ ((v = .non ∧ ¬ Bar (lns ct p q)) ∨ ∃ lo hi, v = .tup [rD lo, rD hi] ∧ Bar (lns ct p q))) NoE := by
  simp [f_span, b_span]
  refine cl h.da fun v1 s1 ⟨l1, i1⟩ => ?_
  refine cl (h.le l1).db fun v2 s2 ⟨l2, i2⟩ => ?_
  have i1 := i1.le l2
  refine ⟨⟨its_some i1, its_some i2⟩, ?_⟩
  have hz : ∀ z ∈ lns ct p q, SzR (AS n kf kp) z.1 ∧ SzR (AS n kf kp) z.2 := fun z => h.lsz
  have has := h.as
  have hlen : (lns ct p q).length ≤ 1000 := by unfold lns; rw [List.length_map]; exact h.ln
  generalize AS n kf kp = A at *
  generalize hls : lns ct p q = ls at *
  obtain ⟨Inv, hI⟩ : ∃ Inv : List (Rat × Rat) → En → S → Prop, ∀ r e s3, Inv r e s3 ↔ (Le s2 s3 ∧ ∃ lo hi o5 o6 o7, e = [some (ctD ct), some dp, some dq, some (rD lo), some (rD hi), o5, o6, o7] ∧ SzR (3 * A + 1) lo ∧ SzR (3 * A + 1) hi ∧ 0 ≤ lo ∧ hi ≤ 1 ∧ ∀ t, 0 < t → t < 1 → ((∀ z ∈ ls, lv t z < 0) ↔ lo < t ∧ t < hi ∧ ∀ z ∈ r, lv t z < 0)) := ⟨_, fun _ _ _ => Iff.rfl⟩
  have sz0 : SzR (3 * A + 1) (0 : Rat) := (SzR.int (i := 0) (a := 1) (szI_lit (by decide)) (by decide)).mono (by omega)
  have sz1 : SzR (3 * A + 1) (1 : Rat) := (SzR.int (i := 1) (a := 1) (szI_lit (by decide)) (by decide)).mono (by omega)
  refine for_rest (ds := zipD ((ct.map (sl p)).map rD) ((ct.map (sl q)).map rD)) ls (fun z => .tup [rD z.1, rD z.2]) Inv (by rw [zipD_map, zip_lns, hls]) (lt_fuelZ (Nat.le_trans hlen (by decide))) ((hI _ _ _).mpr ⟨.rfl, 0, 1, _, _, _, rfl, sz0, sz1, Rat.le_refl, Rat.le_refl, fun t h0 h1 => by simp [h0, h1]⟩) ?_ ?_ ?_
  · intro r e s3 h3
    obtain ⟨l3, _⟩ := (hI _ _ _).mp h3
    exact wk_z (i1.le l3) (i2.le l3) fun _ => by simp
  · rintro dn ⟨a, b⟩ r e s3 e3 h3
    obtain ⟨l3, lo, hi, o5, o6, o7, rfl, z1, z2, g1, g2, g3⟩ := (hI _ _ _).mp h3
    have hm : (a, b) ∈ ls := by rw [e3]; simp
    obtain ⟨za, zb⟩ := hz _ hm
    refine ⟨_, rfl, ?_⟩
    by_cases ha : 0 ≤ a
    · by_cases hb : 0 ≤ b
      · simp [sign_of_eq, sg_nonneg, ha, hb]
        exact ⟨l1.trans (l2.trans l3), not_bar hm ha hb⟩
      · have hb' := Rat.not_le.mp hb
        have hab : a - b ≠ 0 := by grind
        have e1 := minus_eq (s := s3) za zb (by omega)
        have e2 := over_eq (s := s3) hab za (za.sub zb) (by omega)
        have zq := (za.div (za.sub zb)).mono (m := 3 * A + 1) (by omega)
        simp [sign_of_eq, sg_nonneg, ha, hb, e1, e2]
        refine cl (greatest_ok (xs := [a / (a - b)]) (k := 3 * A + 1) (.lst .push) (by simp; exact ⟨z1, zq⟩) (by omega) (by simp [zLine])) fun v s4 ⟨l4, m, hm1, hm2⟩ => ?_
        subst hm1
        refine (hI _ _ _).mpr ⟨l3.trans (.trans .push l4), m, hi, _, _, _, rfl, ?_, z2, ?_, g2, fun t t0 t1 => ?_⟩
        · rcases List.mem_cons.mp hm2.1 with rfl | hm3
          · exact z1
          · simp at hm3; subst hm3; exact zq
        · have := hm2.2 lo (by simp); grind
        · rw [g3 t t0 t1]
          have k1 := hm2.2 lo (by simp)
          have k2 := hm2.2 (a / (a - b)) (by simp)
          have k3 := lv_first (t := t) ha hb'
          have k4 : m = lo ∨ m = a / (a - b) := by simpa using hm2.1
          simp only [List.mem_cons, forall_eq_or_imp, k3]
          generalize a / (a - b) = c at *
          constructor
          · rintro ⟨w1, w2, w3, w4⟩
            exact ⟨by rcases k4 with rfl | rfl <;> assumption, w2, w4⟩
          · rintro ⟨w1, w2, w3⟩
            exact ⟨by grind, w2, by grind, w3⟩
    · have ha' := Rat.not_le.mp ha
      by_cases hb : 0 ≤ b
      · have hab : a - b ≠ 0 := by grind
        have e1 := minus_eq (s := s3) za zb (by omega)
        have e2 := over_eq (s := s3) hab za (za.sub zb) (by omega)
        have zq := (za.div (za.sub zb)).mono (m := 3 * A + 1) (by omega)
        simp [sign_of_eq, sg_nonneg, ha, hb, e1, e2]
        refine cl (least_ok (xs := [a / (a - b)]) (k := 3 * A + 1) (.lst .push) (by simp; exact ⟨z2, zq⟩) (by omega) (by simp [zLine])) fun v s4 ⟨l4, m, hm1, hm2⟩ => ?_
        subst hm1
        refine (hI _ _ _).mpr ⟨l3.trans (.trans .push l4), lo, m, _, _, _, rfl, z1, ?_, g1, ?_, fun t t0 t1 => ?_⟩
        · rcases List.mem_cons.mp hm2.1 with rfl | hm3
          · exact z2
          · simp at hm3; subst hm3; exact zq
        · have := hm2.2 hi (by simp); grind
        · rw [g3 t t0 t1]
          have k1 := hm2.2 hi (by simp)
          have k2 := hm2.2 (a / (a - b)) (by simp)
          have k3 := lv_last (t := t) ha' hb
          have k4 : m = hi ∨ m = a / (a - b) := by simpa using hm2.1
          simp only [List.mem_cons, forall_eq_or_imp, k3]
          generalize a / (a - b) = c at *
          constructor
          · rintro ⟨w1, w2, w3, w4⟩
            exact ⟨w1, by rcases k4 with rfl | rfl <;> assumption, w4⟩
          · rintro ⟨w1, w2, w3⟩
            exact ⟨w1, by grind, by grind, w3⟩
      · have hb' := Rat.not_le.mp hb
        simp [sign_of_eq, sg_nonneg, ha, hb]
        refine (hI _ _ _).mpr ⟨l3, lo, hi, _, _, _, rfl, z1, z2, g1, g2, fun t t0 t1 => ?_⟩
        rw [g3 t t0 t1]
        simp only [List.mem_cons, forall_eq_or_imp, lv_neg ha' hb' t0 t1, true_and]
  · intro e s3 h3
    obtain ⟨l3, lo, hi, o5, o6, o7, rfl, z1, z2, g1, g2, g3⟩ := (hI _ _ _).mp h3
    simp [less_eq z1 z2 (by omega), dTru]
    by_cases c : lo < hi
    · simp [c]
      refine ⟨l1.trans (l2.trans l3), ⟨⟨_, rfl⟩, ⟨_, rfl⟩⟩, (lo + hi) / 2, ?_, ?_, ?_⟩
      · grind
      · grind
      · exact (g3 _ (by grind) (by grind)).mpr ⟨by grind, by grind, by simp⟩
    · simp [c]
      refine ⟨l1.trans (l2.trans l3), ?_⟩
      rintro ⟨t, t0, t1, w⟩
      have := (g3 t t0 t1).mp w
      grind
end
end Ev
set_option maxHeartbeats 1000000
set_option exponentiation.threshold 20000
namespace Ev
open PySem PySem.Spec PyProof.Rows L2
section
variable {s : S} {d : D} {p : Ps} {xs : List D} {x : D}
theorem isL_ok (h : Has s p (.lst xs)) : isLst s (.ref p) = true := by simp only [isLst, h.get]
theorem append_ok (h : Has s p (.lst xs)) (hl : xs.length ≤ zLine) : mL gApp (.ref p) [x] s = .ok .non (s.set p (.lst (xs ++ [x]))) := by
  simp only [mL, h.get, onL, gApp, short_of hl, if_true]
theorem its_get {α : Type} {f : α → D} {l : List α} {i : Nat} (h : Its s d (l.map f)) (hi : i < l.length) : dIdx d (.int (i : Int)) s = .ok (f l[i]) s := by
  have := its_idx h (i := (i : Int)) (x := f l[i]) (by rw [atI_nat (by simpa using hi)]; simp)
  exact this
theorem w62_nat {i : Nat} (h : i ≤ 100000) : w62 (i : Int) = true := by
  unfold w62
  simp only [Bool.and_eq_true, decide_eq_true_eq]
  omega
theorem rgD_eq {n : Nat} : rgD 0 n = (List.range n).map fun (i : Nat) => D.int (i : Int) := by
  unfold rgD; congr 1; funext i; rw [Int.zero_add]
end
def IsInf (m : Rat) (ls : List (Rat × Rat)) : Prop := (∃ t, 0 ≤ t ∧ t ≤ 1 ∧ IsMax m (ls.map (lv t))) ∧ ∀ t, 0 ≤ t → t ≤ 1 → ∃ z ∈ ls, m ≤ lv t z
theorem IsInf.uniq {m m' : Rat} {ls : List (Rat × Rat)} (h : IsInf m ls) (h' : IsInf m' ls) : m = m' := by
  obtain ⟨⟨t, t0, t1, w⟩, g⟩ := h
  obtain ⟨⟨t', t0', t1', w'⟩, g'⟩ := h'
  obtain ⟨z, hz, e⟩ := g' t t0 t1
  obtain ⟨z', hz', e'⟩ := g t' t0' t1'
  have a := w.2 _ (List.mem_map.mpr ⟨z, hz, rfl⟩)
  have b := w'.2 _ (List.mem_map.mpr ⟨z', hz', rfl⟩)
  exact Rat.le_antisymm (Rat.le_trans e' b) (Rat.le_trans e a)
theorem sg_mul {a b : Rat} : sg a * sg b < 0 ↔ (0 < a ∧ b < 0) ∨ (a < 0 ∧ 0 < b) := by
  unfold sg
  by_cases h1 : 0 < a <;> by_cases h2 : a < 0 <;> by_cases h3 : 0 < b <;> by_cases h4 : b < 0 <;> simp [h1, h2, h3, h4] <;> grind
theorem sg_sz {a : Rat} : SzI 1 (sg a) := by
  unfold sg SzI
  split
  · decide
  · split <;> decide
section
variable {s : S} {n kf kp : Nat} {ct : List CK} {p q : List Rat} {dp dq : D}
/-- the moments that are found -/
structure Mo (A : Nat) (ms : List Rat) : Prop where
  m0 : (0 : Rat) ∈ ms
  m1 : (1 : Rat) ∈ ms
  all : ∀ m ∈ ms, 0 ≤ m ∧ m ≤ 1 ∧ SzR (6 * A + 4) m
theorem Mo.add {A : Nat} {ms : List Rat} {m : Rat} (h : Mo A ms) (h0 : 0 ≤ m) (h1 : m ≤ 1) (hz : SzR (6 * A + 4) m) : Mo A (ms ++ [m]) := ⟨by simp [h.m0], by simp [h.m1], fun x hx => by
  rcases List.mem_append.mp hx with hx | hx
  · exact h.all x hx
  · simp at hx; subst hx; exact ⟨h0, h1, hz⟩⟩
/-- the pair of numbers i, j has its moment -/
def Pd (ct : List CK) (p q : List Rat) (ms : List Rat) (i j : Nat) : Prop := ∀ (hi : i < ct.length) (hj : j < ct.length), Cross (sl p ct[i], sl q ct[i]) (sl p ct[j], sl q ct[j]) → cm (sl p ct[i], sl q ct[i]) (sl p ct[j], sl q ct[j]) ∈ ms
theorem Pd.mono {ms ms' : List Rat} {i j : Nat} (h : Pd ct p q ms i j) (l : ∀ m ∈ ms, m ∈ ms') : Pd ct p q ms' i j := fun hi hj c => l _ (h hi hj c)
theorem cm_symm {z w : Rat × Rat} : cm z w = cm w z := by
  unfold cm
  have e : (w.1 - z.1) - (w.2 - z.2) = -((z.1 - w.1) - (z.2 - w.2)) := by grind
  rw [e]
  by_cases h : (z.1 - w.1) - (z.2 - w.2) = 0
  · rw [h]; grind
  · grind
theorem Cross.symm {z w : Rat × Rat} (h : Cross z w) : Cross w z := by
  unfold Cross at *
  grind
theorem cross_all {ms : List Rat} (h : ∀ i j, j < i → i < ct.length → Pd ct p q ms i j) : ∀ z ∈ lns ct p q, ∀ w ∈ lns ct p q, Cross z w → cm z w ∈ ms := by
  intro z hz w hw c
  obtain ⟨k, hk, rfl⟩ := List.mem_map.mp hz
  obtain ⟨k', hk', rfl⟩ := List.mem_map.mp hw
  obtain ⟨i, hi, rfl⟩ := List.getElem_of_mem hk
  obtain ⟨j, hj, rfl⟩ := List.getElem_of_mem hk'
  rcases Nat.lt_trichotomy j i with l | l | l
  · exact h i j l hi hi hj c
  · subst l; unfold Cross at c; grind
  · rw [cm_symm]; exact h j i l hj hj hi c.symm
end
end Ev
set_option maxHeartbeats 1000000
set_option exponentiation.threshold 20000
namespace Ev
open PySem PySem.Spec PyProof.Rows L2
section
variable {s : S} {x : Rat} {p q : List Rat}
theorem bools_map : ∀ bs : List Bool, bools (bs.map D.bl) = some bs
  | [] => rfl
  | b :: bs => by simp [bools, bools_map bs]
theorem all_ok {p : Ps} {bs : List Bool} (h : Has s p (.lst (bs.map .bl))) : bAll [.ref p] s = .ok (.bl (bs.all id)) s := by
  simp only [bAll, lItems, items, h.get, bools_map]
theorem any_ok {p : Ps} {bs : List Bool} (h : Has s p (.lst (bs.map .bl))) : bAny [.ref p] s = .ok (.bl (bs.any id)) s := by
  simp only [bAny, lItems, items, h.get, bools_map]
theorem is_integer_eq {i : Int} : f_is_integer [.int i] s = .ok (.bl true) s := by
  refine eq_of_wp ?_
  simp [f_is_integer, b_is_integer, dTru]
theorem is_fraction_ok : (f_is_fraction [rD x] s).wp (fun v s' => v = .bl true ∧ Le s s') NoE := by
  have h0 : bIsa .tuple_ [rD x] s = .ok (.bl true) s := isa_tup (ps := [.int x.num, .int (x.den : Int)]) (by simp [mapO, toP_int (n := 38)])
  simp [f_is_fraction, b_is_fraction, h0, dTru, wipeE]
  have e : bLen [rD x] s = .ok (.int 2) s := rfl
  simp [e]
  refine ⟨rfl, ?_⟩
  refine lc_map [x.num, (x.den : Int)] D.int (fun _ => .bl true) (ds := [.int x.num, .int (x.den : Int)]) rfl (by simp [zLine]) (fun s' _ => wk_sq .tup) ?_ ?_
  · intro a _ s' hs
    refine ⟨_, rfl, ?_⟩
    simp [is_integer_eq]
    exact .rfl
  · intro p s' l1 _ h1
    have : bAll [.ref p] s' = .ok (.bl true) s' := all_ok (bs := [true, true]) h1
    have e0 : ∀ s, dIdx (rD x) (.int 0) s = .ok (.int x.num) s := fun s => v_i0
    have e1 : ∀ s, dIdx (rD x) (.int 1) s = .ok (.int (x.den : Int)) s := fun s => v_i1
    have hd := x.den_pos
    have hr : Nat.gcd x.num.natAbs x.den = 1 := x.reduced
    simp [this, e0, e1, hd, hr, l1]
theorem toP_st {n : Nat} : toP s (n + 3) (stD p) = some (.tuple (p.map pR)) := toP_tup fun _ _ => toP_rD
theorem is_standing_ok (hl : p.length ≤ 1000) : (f_is_standing [stD p, .int p.length] s).wp (fun v s' => v = .bl true ∧ Le s s') NoE := by
  have h0 : bIsa .tuple_ [stD p] s = .ok (.bl true) s := isa_tup (ps := p.map pR) (mapO_map fun _ _ => toP_rD (n := 37))
  have e : bLen [stD p] s = .ok (.int p.length) s := by simp [stD]
  simp [f_is_standing, b_is_standing, h0, e, dTru, wipeE]
  refine ⟨rfl, ?_⟩
  refine lc_map p rD (fun _ => .bl true) rfl (Nat.le_trans hl (by decide)) (fun s' _ => wk_sq .tup) ?_ ?_
  · intro a _ s' hs
    refine ⟨_, rfl, ?_⟩
    simp
    exact is_fraction_ok
  · intro p' s' l1 _ h1
    have : bAll [.ref p'] s' = .ok (.bl true) s' := by
      rw [all_ok (bs := p.map fun _ => true) (by simpa [Function.comp_def] using h1)]
      simp
    simp [this, l1]
end
/-! ways -/
def wyD (w : List (List Rat)) : D := .tup (w.map stD)
def legs : List (List Rat) → List (List Rat × List Rat)
  | [] => []
  | [p] => [(p, p)]
  | p :: q :: r => (p :: q :: r).zip (q :: r)
structure Wy (s : S) (n kf kp : Nat) (l : List (Int × Int)) (cts : List (List CK)) (w : List (List Rat)) (dc : D) : Prop where
  bd : Bd n kf kp
  ln : l.length = n
  ls : LSz kf l
  cto : ∀ ct ∈ cts, CtOk n kf ct ∧ ct.length ≤ 63
  cl : cts.length ≤ 1000
  dc : Its s dc (cts.map ctD)
  pts : ∀ p ∈ w, p.length = n ∧ PSz kp p ∧ Wn l p
  ne : w ≠ []
  wl : w.length ≤ 1000
section
variable {s : S} {n kf kp : Nat} {l : List (Int × Int)} {cts : List (List CK)} {w : List (List Rat)} {dc : D}
theorem Wy.le {s' : S} (h : Wy s n kf kp l cts w dc) (x : Le s s') : Wy s' n kf kp l cts w dc := { h with dc := h.dc.le x }
theorem Wy.lg (h : Wy s n kf kp l cts w dc) {ct : List CK} (hc : ct ∈ cts) {p q : List Rat} (hp : p ∈ w) (hq : q ∈ w) : Lg s n kf kp ct p q (stD p) (stD q) :=
  ⟨h.bd, (h.cto ct hc).1, by have := (h.cto ct hc).2; omega, .tup, .tup, (h.pts p hp).1, (h.pts q hq).1, (h.pts p hp).2.1, (h.pts q hq).2.1⟩
theorem Wy.within (h : Wy s n kf kp l cts w dc) {p : List Rat} (hp : p ∈ w) : f_is_within [lmD l, stD p] s = .ok (.bl true) s := by
  obtain ⟨h1, h2, h3⟩ := h.pts p hp
  have hb := h.bd
  exact is_within_ok .tup hb.1 h2 h.ls (by rw [h.ln, h1]) hb.2.2.2 (by rw [h1]; exact hb.2.1) h3
theorem legs_mem {w : List (List Rat)} {z : List Rat × List Rat} (h : z ∈ legs w) : z.1 ∈ w ∧ z.2 ∈ w := by
  match w, h with
  | [], h => simp [legs] at h
  | [p], h => simp [legs] at h; subst h; simp
  | p :: q :: r, h =>
    have := zip_mem (xs := p :: q :: r) (ys := q :: r) h
    exact ⟨this.1, List.mem_cons_of_mem _ this.2⟩
theorem legs_len {w : List (List Rat)} : (legs w).length ≤ w.length := by
  match w with
  | [] => simp [legs]
  | [p] => simp [legs]
  | p :: q :: r => simp [legs]
def lgD (z : List Rat × List Rat) : D := .tup [stD z.1, stD z.2]
theorem legs_of_ok (hne : w ≠ []) (hl : w.length ≤ 1000) : (f_legs_of [wyD w] s).wp (fun v s' => Le s s' ∧ Its s' v ((legs w).map lgD)) NoE := by
  match w, hne, hl with
  | [p], _, _ =>
    simp [f_legs_of, b_legs_of, wyD]
    exact ⟨.push, .lst .push⟩
  | p :: q :: r, _, hl =>
    have hg : (1 : Int) < (r.length : Int) + 1 + 1 := by omega
    simp [f_legs_of, b_legs_of, wyD, hg]
    have e : cutD (stD p :: stD q :: r.map stD) (some 1) none = stD q :: r.map stD := cut1 (α := D)
    have hz : short zLine (zipD (stD p :: stD q :: r.map stD) (stD q :: r.map stD)) = true := short_of (by rw [zipD_length]; simp at hl ⊢; unfold zLine; omega)
    have hz2 : zipD (stD p :: stD q :: r.map stD) (stD q :: r.map stD) = (legs (p :: q :: r)).map lgD := by
      have := zipD_map (f := stD) (g := stD) (p :: q :: r) (q :: r)
      exact this
    unfold cLz
    simp [wp_bind]
    rw [e]
    simp only [items, lzGo, hz, if_true, q_ok]
    exact ⟨.push, .lst (hz2 ▸ Has.push)⟩
theorem has_form_ok (hn : l.length = n) (hw : ∀ p ∈ w, p.length = n) (hn' : n ≤ 1000) (hne : w ≠ []) (hl : w.length ≤ 1000) : (f_has_form [lmD l, wyD w] s).wp (fun v s' => v = .bl true ∧ Le s s') NoE := by
  have h0 : bIsa .tuple_ [wyD w] s = .ok (.bl true) s := isa_tup (ps := w.map fun p => .tuple (p.map pR)) (mapO_map fun _ _ => toP_st (n := 36))
  have e : bLen [wyD w] s = .ok (.int w.length) s := by simp [wyD]
  have e2 : ∀ s, bLen [lmD l] s = .ok (.int n) s := fun s => by simp [lmD, hn]
  have hp : ¬ (w.length : Int) = 0 := by simpa using hne
  simp [f_has_form, b_has_form, h0, e, dTru, hne, wipeE]
  refine ⟨rfl, ?_⟩
  refine lc_map w stD (fun _ => .bl true) rfl (Nat.le_trans hl (by decide)) (fun s' _ => wk_sq .tup) ?_ ?_
  · intro a ha s' hs
    refine ⟨_, rfl, ?_⟩
    simp [e2]
    rw [← hw a ha]
    exact is_standing_ok (by rw [hw a ha]; exact hn')
  · intro p' s' l1 _ h1
    have : bAll [.ref p'] s' = .ok (.bl true) s' := by
      rw [all_ok (bs := w.map fun _ => true) (by simpa [Function.comp_def] using h1)]
      simp
    simp [this, l1]
end
end Ev
set_option maxHeartbeats 1000000
set_option exponentiation.threshold 20000
namespace Ev
open PySem PySem.Spec PyProof.Rows L2
def enL {α : Type} : Nat → List α → List (Nat × α)
  | _, [] => []
  | k, x :: r => (k, x) :: enL (k + 1) r
theorem enD_map {α : Type} {f : α → D} : ∀ (l : List α) (k : Nat), enD k (l.map f) = (enL k l).map fun z => .tup [.int (z.1 : Int), f z.2]
  | [], _ => rfl
  | x :: r, k => by simp [enD, enL, enD_map r (k + 1)]
theorem enL_mem {α : Type} : ∀ {l : List α} {k : Nat} {z : Nat × α}, z ∈ enL k l → z.2 ∈ l
  | [], _, _, h => by simp [enL] at h
  | x :: r, k, z, h => by
    rcases List.mem_cons.mp h with rfl | h
    · simp
    · exact List.mem_cons_of_mem _ (enL_mem h)
theorem enL_len {α : Type} : ∀ (l : List α) (k : Nat), (enL k l).length = l.length
  | [], _ => rfl
  | x :: r, k => by simp [enL, enL_len r (k + 1)]
section
variable {s : S} {n kf kp : Nat} {l : List (Int × Int)} {cts : List (List CK)} {w : List (List Rat)} {dc : D}
theorem judge_way_ok (h : Wy s n kf kp l cts w dc) (hf : ∀ z ∈ legs w, ∀ ct ∈ cts, ¬ Bar (lns ct z.1 z.2)) : (f_judge_way [lmD l, dc, wyD w] s).wp (fun v s' => v = .non ∧ Le s s') NoE := by
  simp [f_judge_way, b_judge_way]
  refine cl (has_form_ok h.ln (fun p hp => (h.pts p hp).1) (by have := h.bd.2.1; omega) h.ne h.wl) fun v s1 ⟨e1, l1⟩ => ?_
  subst e1
  simp [dTru]
  refine ⟨rfl, ?_⟩
  obtain ⟨Inv, hI⟩ : ∃ Inv : List (Nat × List Rat) → En → S → Prop, ∀ r e s3, Inv r e s3 ↔ (Le s1 s3 ∧ ∃ o3 o4, e = [some (lmD l), some dc, some (wyD w), o3, o4, none, none, none, none, none]) := ⟨_, fun _ _ _ => Iff.rfl⟩
  refine for_rest (ds := enD 0 (w.map stD)) (enL 0 w) (fun z => .tup [.int (z.1 : Int), stD z.2]) Inv (enD_map w 0) (lt_fuelZ (by rw [enL_len]; exact Nat.le_trans h.wl (by decide))) ((hI _ _ _).mpr ⟨.rfl, _, _, rfl⟩) (fun r e s3 _ => wk_en .tup) ?_ ?_
  · rintro dn ⟨i, p⟩ r e s3 e3 h3
    obtain ⟨l3, o3, o4, rfl⟩ := (hI _ _ _).mp h3
    have hp : p ∈ w := enL_mem (k := 0) (z := (i, p)) (by rw [e3]; simp)
    have hw := (h.le (l1.trans l3)).within hp
    refine ⟨_, rfl, ?_⟩
    simp [hw, dTru]
    exact (hI _ _ _).mpr ⟨l3, _, _, rfl⟩
  · intro e s3 h3
    obtain ⟨l3, o3, o4, rfl⟩ := (hI _ _ _).mp h3
    simp
    refine cl (legs_of_ok h.ne h.wl) fun v s4 ⟨l4, i4⟩ => ?_
    refine ⟨its_some i4, ?_⟩
    obtain ⟨Jnv, hJ⟩ : ∃ Jnv : List (Nat × (List Rat × List Rat)) → En → S → Prop, ∀ r e s5, Jnv r e s5 ↔ (Le s4 s5 ∧ ∃ o3 o4 o5 o6 o7 o8 o9, e = [some (lmD l), some dc, some (wyD w), o3, o4, o5, o6, o7, o8, o9]) := ⟨_, fun _ _ _ => Iff.rfl⟩
    refine for_rest (ds := enD 0 ((legs w).map lgD)) (enL 0 (legs w)) (fun z => .tup [.int (z.1 : Int), lgD z.2]) Jnv (enD_map (legs w) 0) (lt_fuelZ (by rw [enL_len]; exact Nat.le_trans legs_len (Nat.le_trans h.wl (by decide)))) ((hJ _ _ _).mpr ⟨.rfl, _, _, _, _, _, _, _, rfl⟩) ?_ ?_ ?_
    · intro r e s5 h5
      obtain ⟨l5, _⟩ := (hJ _ _ _).mp h5
      exact wk_en (i4.le l5)
    · rintro dn ⟨i, p, q⟩ r e s5 e5 h5
      obtain ⟨l5, q3, q4, q5, q6, q7, q8, q9, rfl⟩ := (hJ _ _ _).mp h5
      have hpq : (p, q) ∈ legs w := enL_mem (k := 0) (z := (i, (p, q))) (by rw [e5]; simp)
      refine ⟨_, rfl, ?_⟩
      have h6 := h.le (l1.trans (l3.trans (l4.trans l5)))
      simp [its_some h6.dc]
      obtain ⟨Knv, hK⟩ : ∃ Knv : List (Nat × List CK) → En → S → Prop, ∀ r e s6, Knv r e s6 ↔ (Le s5 s6 ∧ ∃ o7 o8 o9, e = [some (lmD l), some dc, some (wyD w), some (.int i), q4, some (stD p), some (stD q), o7, o8, o9]) := ⟨_, fun _ _ _ => Iff.rfl⟩
      refine for_rest (ds := enD 0 (cts.map ctD)) (enL 0 cts) (fun z => .tup [.int (z.1 : Int), ctD z.2]) Knv (enD_map cts 0) (lt_fuelZ (by rw [enL_len]; exact Nat.le_trans h.cl (by decide))) ((hK _ _ _).mpr ⟨.rfl, _, _, _, rfl⟩) ?_ ?_ ?_
      · intro r e s6 h7
        obtain ⟨l6, _⟩ := (hK _ _ _).mp h7
        exact wk_en (h6.dc.le l6)
      · rintro dn ⟨k, ct⟩ r' e s6 e6 h7
        obtain ⟨l6, o7, o8, o9, rfl⟩ := (hK _ _ _).mp h7
        have hct : ct ∈ cts := enL_mem (k := 0) (z := (k, ct)) (by rw [e6]; simp)
        refine ⟨_, rfl, ?_⟩
        simp
        refine cl (span_ok ((h6.le l6).lg hct (legs_mem hpq).1 (legs_mem hpq).2)) fun v s7 ⟨l7, hv⟩ => ?_
        rcases hv with ⟨rfl, _⟩ | ⟨lo, hi, rfl, hb⟩
        · simp
          exact (hK _ _ _).mpr ⟨l6.trans l7, _, _, _, rfl⟩
        · exact absurd hb (hf _ hpq ct hct)
      · intro e s6 h7
        obtain ⟨l6, o7, o8, o9, rfl⟩ := (hK _ _ _).mp h7
        exact (hJ _ _ _).mpr ⟨l5.trans l6, _, _, _, _, _, _, _, rfl⟩
    · intro e s5 h5
      obtain ⟨l5, q3, q4, q5, q6, q7, q8, q9, rfl⟩ := (hJ _ _ _).mp h5
      simp
      exact l1.trans (l3.trans (l4.trans l5))
/-- clear of a contact on a leg -/
def Clr (ct : List CK) (p q : List Rat) : Prop := ct ≠ [] ∧ ∀ m, IsInf m (lns ct p q) → 0 < m
theorem sg_pos {x : Rat} : (0 < sg x) = (0 < x) := by
  unfold sg
  by_cases h : 0 < x
  · simp [h]
  · by_cases h' : x < 0 <;> simp [h, h']
end
end Ev
set_option maxHeartbeats 1000000
set_option exponentiation.threshold 20000
namespace Ev
open PySem PySem.Spec PyProof.Rows L2
theorem eq_of_wpB {r : R Bool} {v : Bool} {s : S} (h : r.wp (fun d s' => d = v ∧ s' = s) NoE) : r = .ok v s := by
  cases r with
  | ok d s' => obtain ⟨rfl, rfl⟩ := h; rfl
  | ex _ _ _ => exact h.elim
  | bad => exact h.elim
theorem wh_wp2 {t : ET} {body : SS} {Q : EQ} (Inv : Nat → En → S → Prop) {m : Nat} (hm : m < fuelN) {e : En} {s : S} (h0 : Inv m e s)
    (step : ∀ m e s, Inv m e s → (t e s = .ok true s ∧ (body e s).wp (Q.turn fun e s => ∃ k, k < m ∧ Inv k e s)) ∨ (t e s = .ok false s ∧ Q.nx e s)) : (cWh t body e s).wp Q := by
  refine wh_wp Inv hm h0 fun m e s h => ?_
  rcases step m e s h with ⟨h1, h2⟩ | ⟨h1, h2⟩
  · rw [h1]; simpa using h2
  · rw [h1]; simpa using h2
/-! ### the source of what is drawn -/
/-- what stands from B on stays -/
structure Lx (B : Nat) (s s' : S) : Prop where
  n : s.n.nat ≤ s'.n.nat
  get : ∀ p : Ps, B ≤ p.nat → p.nat < s.n.nat → s'.get p = s.get p
section
variable {B : Nat} {s s1 s2 s' : S} {p : Ps} {o' o2 : O} {d : D} {xs : List D}
theorem Lx.rfl : Lx B s s := ⟨Nat.le_refl _, fun _ _ _ => Eq.refl _⟩
theorem Lx.trans (a : Lx B s s1) (b : Lx B s1 s2) : Lx B s s2 := ⟨Nat.le_trans a.n b.n, fun p h g => (b.get p h (Nat.lt_of_lt_of_le g a.n)).trans (a.get p h g)⟩
theorem Le.lx (a : Le s s') : Lx B s s' := ⟨a.n, fun p _ g => a.get p g⟩
theorem Lx.set {p : Ps} {o' : O} (a : Lx B s s') (h : s.n.nat ≤ p.nat ∨ p.nat < B) : Lx B s (s'.set p o') := ⟨a.n, fun q h1 h2 => (S.get_set_ne (fun e => by subst e; omega)).trans (a.get q h1 h2)⟩
theorem Has.lx {p : Ps} {o' : O} (h : Has s p o') (b : B ≤ p.nat) (l : Lx B s s') : Has s' p o' := ⟨Nat.lt_of_lt_of_le h.lt l.n, (l.get p b h.lt).trans h.get⟩
def Fr (B : Nat) : D → Prop
  | .ref p => B ≤ p.nat
  | _ => True
theorem Its.lx (h : Its s d xs) (b : Fr B d) (l : Lx B s s') : Its s' d xs := by
  cases h with
  | tup => exact .tup
  | lst h => exact .lst (h.lx b l)
end
theorem mulB_lit {i j : Int} (h : j.natAbs ≤ 9223372036854775807) : mulB i j = true := by
  unfold mulB
  simp only [Bool.or_eq_true, Nat.ble_eq, h, true_or, or_true]
def kC : Key := .inr ⟨#[99, 101, 108, 108, 115]⟩
def kL : Key := .inr ⟨#[108, 101, 102, 116]⟩
def kM : Key := .inr ⟨#[109, 105, 120, 101, 100]⟩
def kT : Key := .inr ⟨#[116, 117, 114, 110]⟩
def srcK (x y z w : D) : O := .dct [(kC, x), (kL, y), (kM, z), (kT, w)]
structure SrcV (B : Nat) (o c : Ps) (s : S) (cells : List Int) (left mixed turn : Int) : Prop where
  ob : o.nat < B
  cb : c.nat < B
  ne : o ≠ c
  bn : B ≤ s.n.nat
  go : s.get o = some (srcK (.ref c) (.int left) (.int mixed) (.int turn))
  gc : s.get c = some (.lst (cells.map .int))
  len : cells.length ≤ 63
def Src (B : Nat) (o c : Ps) (s : S) : Prop := ∃ cells left mixed turn, SrcV B o c s cells left mixed turn
section
variable {B : Nat} {o c : Ps} {s s' : S} {x y z w v : D} {cells : List Int} {left mixed turn : Int}
theorem k_C (h : s.get o = some (srcK x y z w)) : dIdx (.ref o) (.str [99, 101, 108, 108, 115]) s = .ok x s := by
  simp only [dIdx, h, srcK]; rfl
theorem k_L (h : s.get o = some (srcK x y z w)) : dIdx (.ref o) (.str [108, 101, 102, 116]) s = .ok y s := by
  simp only [dIdx, h, srcK]; rfl
theorem k_M (h : s.get o = some (srcK x y z w)) : dIdx (.ref o) (.str [109, 105, 120, 101, 100]) s = .ok z s := by
  simp only [dIdx, h, srcK]; rfl
theorem k_T (h : s.get o = some (srcK x y z w)) : dIdx (.ref o) (.str [116, 117, 114, 110]) s = .ok w s := by
  simp only [dIdx, h, srcK]; rfl
theorem p_L (h : s.get o = some (srcK x y z w)) : dSto (.ref o) (.str [108, 101, 102, 116]) v s = some (s.set o (srcK x v z w)) := by
  simp only [dSto, h, srcK]; rfl
theorem p_M (h : s.get o = some (srcK x y z w)) : dSto (.ref o) (.str [109, 105, 120, 101, 100]) v s = some (s.set o (srcK x y v w)) := by
  simp only [dSto, h, srcK]; rfl
theorem p_T (h : s.get o = some (srcK x y z w)) : dSto (.ref o) (.str [116, 117, 114, 110]) v s = some (s.set o (srcK x y z v)) := by
  simp only [dSto, h, srcK]; rfl
theorem SrcV.setO (h : SrcV B o c s cells left mixed turn) {l m t : Int} : SrcV B o c (s.set o (srcK (.ref c) (.int l) (.int m) (.int t))) cells l m t := ⟨h.ob, h.cb, h.ne, h.bn, S.get_set_same _ _ _, (S.get_set_ne h.ne).trans h.gc, h.len⟩
theorem SrcV.le (h : SrcV B o c s cells left mixed turn) (l : Le s s') : SrcV B o c s' cells left mixed turn := ⟨h.ob, h.cb, h.ne, Nat.le_trans h.bn l.n, (l.get o (Nat.lt_of_lt_of_le h.ob h.bn)).trans h.go, (l.get c (Nat.lt_of_lt_of_le h.cb h.bn)).trans h.gc, h.len⟩
theorem SrcV.set {p : Ps} {o' : O} (h : SrcV B o c s cells left mixed turn) (hp : B ≤ p.nat) : SrcV B o c (s.set p o') cells left mixed turn := ⟨h.ob, h.cb, h.ne, h.bn, (S.get_set_ne (fun e => by subst e; have := h.ob; omega)).trans h.go, (S.get_set_ne (fun e => by subst e; have := h.cb; omega)).trans h.gc, h.len⟩
theorem Src.le (h : Src B o c s) (l : Le s s') : Src B o c s' := by
  obtain ⟨a, b, d, e, h⟩ := h
  exact ⟨a, b, d, e, h.le l⟩
theorem Src.set {p : Ps} {o' : O} (h : Src B o c s) (hp : B ≤ p.nat) : Src B o c (s.set p o') := by
  obtain ⟨a, b, d, e, h⟩ := h
  exact ⟨a, b, d, e, h.set hp⟩
theorem Src.bn (h : Src B o c s) : B ≤ s.n.nat := by
  obtain ⟨a, b, d, e, h⟩ := h
  exact h.bn
/-- a step of drawing -/
structure Tr (B : Nat) (o c : Ps) (s s' : S) : Prop where
  src : Src B o c s'
  lx : Lx B s s'
theorem Tr.trans {s1 : S} (a : Tr B o c s s1) (b : Tr B o c s1 s') : Tr B o c s s' := ⟨b.src, a.lx.trans b.lx⟩
theorem Tr.of (h : Src B o c s) (l : Le s s') : Tr B o c s s' := ⟨h.le l, l.lx⟩
theorem Tr.le {s1 : S} (a : Tr B o c s s1) (l : Le s1 s') : Tr B o c s s' := ⟨a.src.le l, a.lx.trans l.lx⟩
theorem Tr.set {p : Ps} {o' : O} (a : Tr B o c s s') (h : s.n.nat ≤ p.nat) (hb : B ≤ s.n.nat) : Tr B o c s (s'.set p o') := ⟨a.src.set (Nat.le_trans hb h), a.lx.set (.inl h)⟩
theorem pick_ok {many : Int} (h : Src B o c s) (hz : SzI 8999 many) : (f__law_pick [.ref o, .int many] s).wp (fun v s' => ∃ r : Int, v = .int r ∧ 0 ≤ r ∧ r < max 1 many ∧ Tr B o c s s') NoE := by
  obtain ⟨cells, left, mixed, turn, h⟩ := h
  simp [f__law_pick, b__law_pick]
  obtain ⟨Inv, hI⟩ : ∃ Inv : Nat → En → S → Prop, ∀ m e s', Inv m e s' ↔ (e = [some (.ref o), some (.int many), none, none] ∧ Lx B s s' ∧ ∃ (cells : List Int) (left : Int), cells.length = m ∧ SrcV B o c s' cells left mixed turn) := ⟨_, fun _ _ _ => Iff.rfl⟩
  have hmax : max 1 many ≠ 0 := by omega
  have hmaxz : SzI 8999 (max 1 many) := by
    rcases Int.le_total 1 many with w | w
    · rw [Int.max_eq_right w]; exact hz
    · rw [Int.max_eq_left w]; exact (szI_lit (k := 1) (by decide)).mono (by decide)
  have hmx : (if (1 : Int) < many then many else 1) = max 1 many := by omega
  refine wh_wp2 (m := cells.length) Inv (lt_fuelZ (Nat.le_trans h.len (by decide))) ((hI _ _ _).mpr ⟨rfl, .rfl, cells, left, rfl, h⟩) ?_
  intro m e s1 h1
  obtain ⟨rfl, l1, cells1, left1, hl1, v1⟩ := (hI _ _ _).mp h1
  have hb := v1.go
  have hlen : bLen [.ref c] s1 = .ok (.int cells1.length) s1 := by simp only [bLen, v1.gc, items, List.length_map]
  by_cases hc : 1 < many ∧ left1 < 2 ∧ 0 < cells1.length
  · left
    obtain ⟨a1, a2, a3⟩ := hc
    obtain ⟨cs, x, rfl⟩ : ∃ cs x, cells1 = cs ++ [x] := ⟨cells1.dropLast, cells1.getLast (by intro e; subst e; simp at a3), (List.dropLast_concat_getLast _).symm⟩
    have hpop : mL gPop (.ref c) [] s1 = .ok (.int x) (s1.set c (.lst (cs.map .int))) := by
      simp [mL, v1.gc, onL, gPop]
    have hL : isLst s1 (.ref c) = true := by simp only [isLst, v1.gc]
    have hg2 : (s1.set c (.lst (cs.map D.int))).get o = some (srcK (.ref c) (.int left1) (.int mixed) (.int turn)) := (S.get_set_ne (Ne.symm h.ne)).trans hb
    have e1 : (0 : Int) < (cs.length : Int) + 1 := by omega
    constructor
    · refine eq_of_wpB ?_
      simp at hlen
      simp [k_L hb, k_C hb, a1, a2, hlen, e1]
    · simp [k_C hb, hL, hpop, p_L hg2]
      refine ⟨cs.length, by simp at hl1; omega, (hI _ _ _).mpr ⟨rfl, (l1.set (.inr h.cb)).set (.inr h.ob), cs, x, rfl, ?_⟩⟩
      have : SrcV B o c (s1.set c (.lst (cs.map .int))) cs left1 mixed turn := ⟨h.ob, h.cb, h.ne, v1.bn, hg2, S.get_set_same _ _ _, by have := v1.len; simp at this; omega⟩
      exact this.setO
  · right
    constructor
    · refine eq_of_wpB ?_
      by_cases a1 : 1 < many
      · by_cases a2 : left1 < 2
        · have a3 : ¬ 0 < (cells1.length : Int) := fun w => hc ⟨a1, a2, by omega⟩
          have a4 : cells1 = [] := List.length_eq_zero_iff.mp (by omega)
          simp [k_L hb, k_C hb, a1, a2, hlen, a4]
        · simp [k_L hb, a1, a2]
      · simp [a1]
    · have hz16 : bLog 16 < 9000 := by decide
      have hst : ∀ l : Int, (Src B o c (s1.set o (srcK (.ref c) (.int l) (.int mixed) (.int turn))) ∧ Lx B s (s1.set o (srcK (.ref c) (.int l) (.int mixed) (.int turn)))) := fun l => ⟨⟨_, _, _, _, v1.setO⟩, l1.set (.inr h.ob)⟩
      by_cases b1 : many < 2 ∨ 1 < left1
      · have hr0 : 0 ≤ left1.fmod (max 1 many) := Int.fmod_nonneg_of_pos _ (by omega)
        have hr1 : left1.fmod (max 1 many) < max 1 many := Int.fmod_lt_of_pos _ (by omega)
        obtain ⟨g1, g2⟩ := hst (left1.fdiv (max 1 many))
        by_cases b2 : many < 2
        · simp [k_L hb, b2, p_L hb, hmx, hmax, bLog_of hmaxz (by decide)]
          exact ⟨hr0, hr1, g1, g2⟩
        · simp [k_L hb, b2, b1.resolve_left b2, p_L hb, hmx, hmax, bLog_of hmaxz (by decide)]
          exact ⟨hr0, hr1, g1, g2⟩
      · have b2 : ¬ many < 2 := fun w => b1 (.inl w)
        have b3 : ¬ 1 < left1 := fun w => b1 (.inr w)
        have v2 := v1.setO (l := left1) (m := mixed) (t := turn + 1)
        have b4 : many ≠ 0 := by omega
        have hm1 : max 1 many = many := by omega
        generalize hx : (mixed + (turn + 1) * 104729).fmod 998244353 = x at *
        have hx0 : 0 ≤ x := by rw [← hx]; exact Int.fmod_nonneg_of_pos _ (by decide)
        have hx1 : x < 998244353 := by rw [← hx]; exact Int.fmod_lt_of_pos _ (by decide)
        have hxx : mulB x x = true := mulB_of (a := 40) (b := 40) (show x.natAbs < 2 ^ 40 by omega) (show x.natAbs < 2 ^ 40 by omega) (by decide)
        generalize hy : (x * x + (turn + 1) * 17).fmod 2147483647 = y at *
        have v3 := v2.setO (l := left1) (m := y) (t := turn + 1)
        have hr0 : 0 ≤ (y.fdiv 16).fmod many := Int.fmod_nonneg_of_pos _ (by omega)
        have hr1 : (y.fdiv 16).fmod many < many := Int.fmod_lt_of_pos _ (by omega)
        simp [k_L hb, b2, b3, k_T hb, p_T hb, k_T v2.go, k_M v2.go, p_M v2.go, mulB_lit (i := turn + 1) (j := 104729) (by decide), mulB_lit (i := turn + 1) (j := 17) (by decide), hx, hxx, hy, hz16, b4, hr0]
        exact ⟨by rw [hm1]; exact hr1, ⟨_, _, _, _, v3⟩, (l1.set (.inr h.ob)).set (.inr h.ob)⟩
end
end Ev
set_option maxHeartbeats 1000000
set_option exponentiation.threshold 20000
namespace Ev
open PySem PySem.Spec PyProof.Rows L2
theorem dsp_src {oo : Ps} {s5 : S} {x y z w : D} (h : s5.get oo = some (.dct [])) : dspEnd oo [(kC, x), (kL, y), (kM, z), (kT, w)] s5 (s5.get oo) = .ok (.ref oo) (s5.set oo (srcK x y z w)) := by
  rw [h]
  simp only [dspEnd]
  rfl
theorem tk_C : toKey (.str [99, 101, 108, 108, 115]) = some kC := rfl
theorem tk_L : toKey (.str [108, 101, 102, 116]) = some kL := rfl
theorem tk_M : toKey (.str [109, 105, 120, 101, 100]) = some kM := rfl
theorem tk_T : toKey (.str [116, 117, 114, 110]) = some kT := rfl
section
variable {B : Nat} {o c : Ps} {s s' : S} {d : D} {xs : List D}
theorem wk_items (h : items s d = some xs) : Wk (jSq d) xs s := fun i _ => by simp only [jSq, h, oSq]
theorem dRev_ok {p : Ps} (h : Has s p (.lst xs)) : dRev (.ref p) s = .ok (.ref s.n) (s.push (.lst xs.reverse)) := by
  simp only [dRev, items, h.get]
theorem source_ok {p : Ps} {cells : List Int} (hp : p.nat < s.n.nat) (hg : s.get p = some (.frz (cells.map .int))) (hl : cells.length ≤ 63) : (f__law_source [.ref p] s).wp (fun v s' => ∃ o c, v = .ref o ∧ Src s'.n.nat o c s') NoE := by
  have hit : ∀ s', Le s s' → items s' (.ref p) = some (cells.map .int) := fun s' l => by simp only [items, l.get p hp, hg]
  simp [f__law_source, b__law_source, hit s .rfl]
  obtain ⟨Inv, hI⟩ : ∃ Inv : List Int → En → S → Prop, ∀ r e s2, Inv r e s2 ↔ (s2 = s ∧ ∃ m o2, e = [some (.ref p), some (.int m), o2]) := ⟨_, fun _ _ _ => Iff.rfl⟩
  refine for_rest (ds := cells.map .int) cells D.int Inv rfl (lt_fuelZ (Nat.le_trans hl (by decide))) ((hI _ _ _).mpr ⟨rfl, _, _, rfl⟩) ?_ ?_ ?_
  · intro r e s2 h2
    obtain ⟨rfl, _⟩ := (hI _ _ _).mp h2
    exact wk_items (hit _ .rfl)
  · intro dn a r e s2 _ h2
    obtain ⟨rfl, m, o2, rfl⟩ := (hI _ _ _).mp h2
    refine ⟨_, rfl, ?_⟩
    simp [mulB_lit (i := m) (j := 69069) (by decide), mulB_lit (i := a) (j := 31) (by decide)]
    exact (hI _ _ _).mpr ⟨rfl, _, _, rfl⟩
  · intro e s2 h2
    obtain ⟨rfl, m, o2, rfl⟩ := (hI _ _ _).mp h2
    simp
    unfold cDsp
    simp only [wp_bind, dspGo, q_un, q_lc, q_it, q_var, List.getElem?_cons_zero, List.getElem?_cons_succ, q_rd, q_ok, q_cst]
    generalize ho : s2.n = oo
    have hH : Has (s2.push (.dct [])) oo (.dct []) := ho ▸ Has.push
    have hL : Le s2 (s2.push (.dct [])) := .push
    generalize s2.push (.dct []) = s3 at *
    refine ⟨by rw [hit s3 hL]; rfl, ?_⟩
    simp only [wipeE]
    refine lc_map cells D.int (fun i => D.int (i.natAbs : Int)) rfl (Nat.le_trans hl (by decide)) (fun s' l => wk_items (hit s' (hL.trans l))) ?_ ?_
    · intro a _ s' l
      refine ⟨_, rfl, ?_⟩
      simp [abs_eq]
      exact .rfl
    · intro p4 s4 l4 _ h4
      rw [dRev_ok h4]
      have hH4 := hH.le l4
      have hH5 := hH4.le (Le.push (o := .lst ((cells.map fun i => D.int (i.natAbs : Int)).reverse)))
      have hc : Has (s4.push (.lst ((cells.map fun i => D.int (i.natAbs : Int)).reverse))) s4.n (.lst (((cells.map fun i => (i.natAbs : Int)).reverse).map .int)) := by
        have := Has.push (s := s4) (o := .lst ((cells.map fun i => D.int (i.natAbs : Int)).reverse))
        simpa [Function.comp_def] using this
      have hne : oo ≠ s4.n := fun e => by have := hH4.lt; rw [e] at this; omega
      generalize hs5 : s4.push (.lst ((cells.map fun i => D.int (i.natAbs : Int)).reverse)) = s5 at *
      simp only [q_ok, tk_C, tk_L, tk_M, tk_T]
      rw [dsp_src hH5.get]
      simp only [q_ok]
      refine ⟨oo, rfl, s4.n, (cells.map fun i => (i.natAbs : Int)).reverse, 1, m, 0, ?_⟩
      exact ⟨hH5.lt, hc.lt, hne, Nat.le_refl _, S.get_set_same _ _ _, (S.get_set_ne hne).trans hc.get, by simpa using hl⟩
theorem of_ok (h : Src B o c s) (hi : Its s d xs) (hf : Fr B d) (hne : xs ≠ []) (hl : xs.length ≤ 1000000) : (f__law_of [.ref o, d] s).wp (fun v s' => v ∈ xs ∧ Tr B o c s s') NoE := by
  simp [f__law_of, b__law_of, its_len hi]
  have hz : SzI 8999 (xs.length : Int) := (show SzI 20 (xs.length : Int) by show (xs.length : Int).natAbs < 2 ^ 20; omega).mono (by decide)
  refine cl (pick_ok h hz) fun v s1 ⟨r, e, r0, r1, t⟩ => ?_
  subst e
  have hpos : 0 < xs.length := List.length_pos_iff.mpr hne
  obtain ⟨i, rfl⟩ : ∃ i : Nat, r = i := ⟨r.toNat, by omega⟩
  have hi2 : i < xs.length := by omega
  rw [its_idx (hi.lx hf t.lx) (atI_nat hi2)]
  simp
  exact t
theorem common_eq {a b : Int} (hz : SzI 8999 b) : f__law_common [.int a, .int b] s = .ok (.int (Nat.gcd a.natAbs b.natAbs : Nat)) s := by
  refine eq_of_wp ?_
  simp [f__law_common, b__law_common, abs_eq]
  refine wh_wp (fun m e s' => s' = s ∧ ∃ p q : Nat, e = [some (.int a), some (.int b), some (.int p), some (.int q)] ∧ q ≤ m ∧ Nat.gcd p q = Nat.gcd a.natAbs b.natAbs) (m := b.natAbs) (lt_fuel (k := 8999) hz (by decide)) ⟨rfl, _, _, rfl, Nat.le_refl _, rfl⟩ ?_
  rintro m e s' ⟨rfl, p, q, rfl, hm, hg⟩
  by_cases hq : q = 0
  · subst hq
    rw [Nat.gcd_zero_right] at hg
    subst hg
    simp
  · simp [hq]
    refine ⟨p % q, by have := Nat.mod_lt p (Nat.pos_of_ne_zero hq); omega, q, p % q, ⟨rfl, ?_⟩, Nat.le_refl _, (gcd_step p q hq).trans hg⟩
    rw [Int.fmod_eq_emod_of_nonneg _ (by omega)]; rfl
end
end Ev
set_option maxHeartbeats 1000000
set_option exponentiation.threshold 20000
namespace Ev
open PySem PySem.Spec PyProof.Rows L2
section
variable {B : Nat} {o c : Ps} {s s' : S} {d : D} {xs : List D}
theorem pick_lit {many : Int} (h : Src B o c s) (hz : many.natAbs < 2 ^ 64) : (f__law_pick [.ref o, .int many] s).wp (fun v s' => ∃ r : Int, v = .int r ∧ 0 ≤ r ∧ r < max 1 many ∧ Tr B o c s s') NoE :=
  pick_ok h ((show SzI 64 many from hz).mono (by decide))
theorem tuple_ok {p : Ps} (h : Has s p (.lst xs)) : bTuple [.ref p] s = .ok (.tup xs) s := by
  simp only [bTuple, items, h.get]
theorem Tr.rfl (h : Src B o c s) : Tr B o c s s := ⟨h, .rfl⟩
theorem Tr.has {p : Ps} {o' : O} (t : Tr B o c s s') (h : Has s p o') (hb : B ≤ p.nat) : Has s' p o' := h.lx hb t.lx
theorem lc_draw {α β : Type} {j : Jn} {g : IT} {te : SE} {e0 : En} {P : D → S → Prop} {E : Nat → List (Str × D) → S → Prop} (hS : Src B o c s) (l : List α) (td : α → D) (fb : β → D) (Pb : β → Prop) {ds : List D} (hd : ds = l.map td) (hz : l.length ≤ zLine)
    (wk : ∀ s', Tr B o c s s' → Wk j ds s')
    (step : ∀ a ∈ l, ∀ s', Tr B o c s s' → ∃ e1, g.to (td a) e0 = some e1 ∧ (te e1 s').wp (fun y s2 => (∃ b, y = fb b ∧ Pb b) ∧ Tr B o c s' s2) NoE)
    (fin : ∀ p s' (bs : List β), Tr B o c s s' → s.n.nat ≤ p.nat → Has s' p (.lst (bs.map fb)) → bs.length = l.length → (∀ b ∈ bs, Pb b) → P (.ref p) s') : (lcLoop j g cYes te e0 s.n fuelN 0 (s.push (.lst []))).wp P E := by
  have hb := hS.bn
  refine lc_rest l td (fun r acc s' => Tr B o c s s' ∧ Has s' s.n (.lst acc) ∧ ∃ bs : List β, acc = bs.map fb ∧ bs.length + r.length = l.length ∧ ∀ b ∈ bs, Pb b) hd (lt_fuelZ hz) ⟨.of hS .push, .push, [], rfl, by simp, by simp⟩ ?_ hz ?_ ?_
  · rintro r acc s' ⟨h1, h2, bs, h3, h4, h5⟩
    exact ⟨wk _ h1, h2.get, by rw [h3, List.length_map]; omega⟩
  · rintro dn a r acc s' hl ⟨h1, h2, bs, h3, h4, h5⟩
    obtain ⟨e1, g1, g2⟩ := step a (by rw [hl]; simp) s' h1
    refine ⟨e1, g1, ?_⟩
    simp
    refine g2.mono (fun y s2 q => ?_) fun _ _ _ z => z
    obtain ⟨⟨b, rfl, hb'⟩, q⟩ := q
    have h6 := q.has h2 hb
    refine ⟨h6.get, (h1.trans q).set (Nat.le_refl _) hb, h6.set, bs ++ [b], by simp [h3], by simp at h4 ⊢; omega, fun x hx => ?_⟩
    rcases List.mem_append.mp hx with hx | hx
    · exact h5 x hx
    · simp at hx; subst hx; exact hb'
  · rintro acc s' ⟨h1, h2, bs, h3, h4, h5⟩
    subst h3
    exact fin _ _ bs h1 (Nat.le_refl _) h2 (by simpa using h4) h5
/-! limits -/
def pD (z : Int × Int) : D := .tup [.int z.1, .int z.2]
theorem lmD_eq {l : List (Int × Int)} : lmD l = .tup (l.map pD) := rfl
def LimOk (l : List (Int × Int)) : Prop := ∀ z ∈ l, -5 ≤ z.1 ∧ z.1 + 2 ≤ z.2 ∧ z.2 ≤ 12
theorem any_limits_ok {n : Nat} (h : Src B o c s) (hn : n ≤ 1000) : (f__law_any_limits [.ref o, .int (n : Int)] s).wp (fun v s' => (∃ l, v = lmD l ∧ l.length = n ∧ LimOk l) ∧ Tr B o c s s') NoE := by
  simp [f__law_any_limits, b__law_any_limits, w62_nat (i := n) (by omega)]
  have hb := h.bn
  generalize hp : s.n = p at *
  have hge : s.n.nat ≤ p.nat := by rw [hp]; exact Nat.le_refl _
  have hH : Has (s.push (.lst [])) p (.lst []) := hp ▸ Has.push
  have hT : Tr B o c s (s.push (.lst [])) := .of h .push
  obtain ⟨Inv, hI⟩ : ∃ Inv : List Nat → En → S → Prop, ∀ r e s2, Inv r e s2 ↔ (Tr B o c s s2 ∧ ∃ (l : List (Int × Int)) (o3 o4 : Option D), e = [some (.ref o), some (.int n), some (.ref p), o3, o4] ∧ Has s2 p (.lst (l.map pD)) ∧ l.length + r.length = n ∧ LimOk l) := ⟨_, fun _ _ _ => Iff.rfl⟩
  refine for_rest (ds := rgD 0 n) (List.range n) (fun (i : Nat) => D.int (i : Int)) Inv rgD_eq (lt_fuelZ (by simp [zLine]; omega)) ((hI _ _ _).mpr ⟨hT, [], _, _, rfl, hH, by simp, by simp [LimOk]⟩) (fun r e s3 _ => wk_rg) ?_ ?_
  · intro dn a r e s2 _ h2
    obtain ⟨t2, l, o3, o4, rfl, hH2, hl, hok⟩ := (hI _ _ _).mp h2
    refine ⟨_, rfl, ?_⟩
    simp
    refine cl (pick_lit t2.src (by decide)) fun v s3 ⟨r1, e1, r0, r1', t3⟩ => ?_
    subst e1
    have hH3 := t3.has hH2 hb
    simp [isL_ok hH3]
    refine cl (pick_lit t3.src (by decide)) fun v s4 ⟨r2, e2, q0, q1, t4⟩ => ?_
    subst e2
    have hH4 := t4.has hH3 hb
    simp [append_ok hH4 (x := .tup [.int (r1 - 5), .int (r1 - 5 + 2 + r2)]) (by rw [List.length_map]; unfold zLine; omega)]
    refine (hI _ _ _).mpr ⟨((t2.trans t3).trans t4).set hge (by rw [hp]; exact hb), l ++ [(r1 - 5, r1 - 5 + 2 + r2)], _, _, rfl, by rw [List.map_append]; exact hH4.set, by simp at hl ⊢; omega, fun z hz => ?_⟩
    rcases List.mem_append.mp hz with hz | hz
    · exact hok z hz
    · simp at hz; subst hz
      simp; omega
  · intro e s2 h2
    obtain ⟨t2, l, o3, o4, rfl, hH2, hl, hok⟩ := (hI _ _ _).mp h2
    simp [tuple_ok hH2]
    exact ⟨⟨l, lmD_eq.symm, by simpa using hl, hok⟩, t2⟩
end
end Ev
set_option maxHeartbeats 1000000
set_option exponentiation.threshold 20000
namespace Ev
open PySem PySem.Spec PyProof.Rows L2
section
variable {B : Nat} {o c : Ps} {s s' : S} {d : D} {xs : List D}
theorem mapO_ints {n : Nat} {ns : List Int} : mapO (toP s (n + 1)) (ns.map .int) = some (ns.map .int) := mapO_map fun _ _ => toP_int
theorem sto_ok {p : Ps} {v : D} {i : Nat} (h : Has s p (.lst xs)) (hi : i < xs.length) : dSto (.ref p) (.int (i : Int)) v s = some (s.set p (.lst (xs.set i v))) := by
  have : ixN xs.length (i : Int) = some i := by simp [ixN, hi]
  simp only [dSto, h.get, stoO, stoL, this]
theorem addL_ok {p q : Ps} {ys : List D} {P : D → S → Prop} {E : Nat → List (Str × D) → S → Prop} (h1 : Has s p (.lst xs)) (h2 : Has s q (.lst ys)) (hl : (xs ++ ys).length ≤ zLine) (k : P (.ref s.n) (s.push (.lst (xs ++ ys)))) : (dAdd (.ref p) (.ref q) s).wp P E := by
  rw [w_addL h1.get h2.get, w_mkLst]
  exact ⟨short_of hl, k⟩
theorem fdiv_small {n u : Int} {b : Int} (hu : 0 < u) (h1 : -b ≤ n) (h2 : n ≤ b) : -b ≤ n.fdiv u ∧ n.fdiv u ≤ b := by
  rw [Int.fdiv_eq_ediv_of_nonneg _ (by omega)]
  have hb : 0 ≤ b := by omega
  constructor
  · refine (Int.le_ediv_iff_mul_le hu).mpr ?_
    have := Int.mul_le_mul_of_nonneg_left (show (1 : Int) ≤ u by omega) hb
    have : -b * u = -(b * u) := Int.neg_mul _ _
    omega
  · refine Int.le_of_lt_add_one ((Int.ediv_lt_iff_lt_mul hu).mpr ?_)
    have := Int.mul_le_mul_of_nonneg_left (show (1 : Int) ≤ u by omega) (show 0 ≤ b + 1 by omega)
    omega
def EQ.to (Q : EQ) (J : En → S → Prop) : EQ := { Q with nx := J }
theorem w_fnE' {n : Nat} {b : SS} {ds : List D} {s : S} {P : D → S → Prop} {E : Nat → List (Str × D) → S → Prop} (h : ∀ e, e = ds.map some ++ List.replicate (n - ds.length) none → (b e s).wp (finQ P E)) : (fnE n b ds s).wp P E := by
  rw [w_fnE]; exact h _ rfl
theorem w_sq {Q : EQ} {m n : SS} {e : En} {s : S} (J : En → S → Prop) (h1 : (m e s).wp (Q.to J)) (h2 : ∀ e s, J e s → (n e s).wp Q) : (cSeq m n e s).wp Q := by
  rw [q_seq]
  exact h1.mono h2 (fun _ _ q => q) (fun _ _ q => q) (fun _ _ q => q) (fun _ _ _ _ q => q)
@[simp] theorem et_nx {Q : EQ} {I : En → S → Prop} : (Q.to I).nx = I := (rfl)
@[simp] theorem et_rt {Q : EQ} {I : En → S → Prop} : (Q.to I).rt = Q.rt := (rfl)
@[simp] theorem et_bk {Q : EQ} {I : En → S → Prop} : (Q.to I).bk = Q.bk := (rfl)
@[simp] theorem et_ct {Q : EQ} {I : En → S → Prop} : (Q.to I).ct = Q.ct := (rfl)
@[simp] theorem et_ex {Q : EQ} {I : En → S → Prop} : (Q.to I).ex = Q.ex := (rfl)
structure AfJ (B : Nat) (o c : Ps) (s : S) (n : Nat) (z : Bool) (e : En) (s1 : S) : Prop where
  ex : ∃ (ns : List Int) (p : Ps), e = [some (.ref o), some (.int n), some (.ref p), none, none, none, none, none] ∧ Tr B o c s s1 ∧ s.n.nat ≤ p.nat ∧ Has s1 p (.lst (ns.map .int)) ∧ ns.length = n ∧ (∀ b ∈ ns, -2 ≤ b ∧ b ≤ 2) ∧ (z = true → ∃ b ∈ ns, b ≠ 0)
theorem any_form_ok {n : Nat} (h : Src B o c s) (hn : n ≤ 1000) (hn0 : 1 ≤ n) : (f__law_any_form [.ref o, .int (n : Int)] s).wp (fun v s' => (∃ f : List Int, v = fmD f ∧ f.length = n + 1 ∧ ∀ a ∈ f, -10 ≤ a ∧ a ≤ 10) ∧ Tr B o c s s') NoE := by
  have hb := h.bn
  have hwk : ∀ {s0 s' : S} {p : Ps} {ns : List Int}, Has s0 p (.lst (ns.map .int)) → Le s0 s' → Wk (jSq (.ref p)) (ns.map .int) s' := fun h l => wk_sq (.lst (h.le l))
  have hJ : ∀ z e s1, AfJ B o c s n z e s1 ↔ AfJ B o c s n z e s1 := fun _ _ _ => Iff.rfl
  refine w_fnE' fun e he => ?_
  delta b__law_any_form
  refine w_sq (AfJ B o c s n false) ?_ fun e s1 h1 => ?_
  · subst he
    simp [w62_nat (i := n) (by omega), wipeE]
    refine lc_draw h (List.range n) (fun (i : Nat) => D.int (i : Int)) D.int (fun x : Int => -2 ≤ x ∧ x ≤ 2) rgD_eq (by simp [zLine]; omega) (fun s' _ => wk_rg) ?_ ?_
    · intro a _ s1 t1
      refine ⟨_, rfl, ?_⟩
      simp
      refine cl (pick_lit t1.src (by decide)) fun v s2 ⟨r, e, r0, r1, t2⟩ => ?_
      subst e
      simp
      exact ⟨⟨by omega, by omega⟩, t2⟩
    · intro p s1 ns t1 hp hH1 hl1 hP1
      exact (hJ _ _ _).mpr <| .mk ⟨ns, p, rfl, t1, hp, hH1, by simpa using hl1, hP1, fun w => by cases w⟩
  refine w_sq (AfJ B o c s n true) ?_ fun e s3 h3 => ?_
  · obtain ⟨ns, p, rfl, t1, hp, hH1, hl1, hP1, _⟩ := h1.ex
    have hpB : B ≤ p.nat := Nat.le_trans hb hp
    simp [its_some (.lst hH1), wipeE]
    refine lc_filter ns D.int (fun n => decide (n ≠ 0)) D.int rfl (by unfold zLine; omega) (fun s' l => hwk hH1 l) ?_ ?_
    · intro a _ s2 l2
      refine ⟨_, rfl, ?_, fun _ s3 l3 => ?_⟩
      · by_cases h0 : a = 0 <;> simp [h0] <;> exact Le.rfl
      · simp; exact .rfl
    · intro q s2 l2 hq hH2
      have hE : Has (s2.push (.lst [])) s2.n (.lst []) := .push
      have hq2 := hH2.le (Le.push (o := .lst []))
      have hH1' := (hH1.le l2).le (Le.push (o := .lst []))
      have t2 := (t1.le l2).le (Le.push (o := .lst []))
      rw [eq_nil hq2 hE (mapO_ints (n := 38))]
      by_cases hemp : (ns.filter (fun n => decide (n ≠ 0))).isEmpty = true
      · simp only [List.isEmpty_map, hemp]
        simp
        refine cl (pick_ok t2.src ((show SzI 20 (n : Int) from by show (n : Int).natAbs < 2 ^ 20; omega).mono (by decide))) fun v s3 ⟨r, e, r0, r1, t3⟩ => ?_
        subst e
        obtain ⟨i, rfl⟩ : ∃ i : Nat, r = i := ⟨r.toNat, by omega⟩
        have hi : i < n := by omega
        have hH3 := t3.has hH1' hpB
        refine ⟨_, sto_ok hH3 (by simpa [hl1] using hi), (hJ _ _ _).mpr <| .mk ⟨ns.set i 1, p, rfl, (t2.trans t3).set hp hb, hp, ?_, by simp [hl1], fun b hb' => ?_, fun _ => ⟨1, List.mem_set (by omega) _, by decide⟩⟩⟩
        · rw [List.map_set]; exact hH3.set
        · rcases List.mem_or_eq_of_mem_set hb' with w | w
          · exact hP1 b w
          · subst w; omega
      · simp only [List.isEmpty_map, hemp]
        simp
        refine (hJ _ _ _).mpr <| .mk ⟨ns, p, rfl, t2, hp, hH1', hl1, hP1, fun _ => ?_⟩
        cases e : ns.filter (fun n => decide (n ≠ 0)) with
        | nil => rw [e] at hemp; simp at hemp
        | cons x xr =>
          have : x ∈ ns.filter (fun n => decide (n ≠ 0)) := by rw [e]; simp
          have := List.mem_filter.mp this
          exact ⟨x, this.1, by simpa using this.2⟩
  · obtain ⟨ns, p, rfl, t3, hp, hH3, hl3, hP3, hz3⟩ := h3.ex
    have hpB : B ≤ p.nat := Nat.le_trans hb hp
    obtain ⟨b0, hb0, hb0'⟩ := hz3 rfl
    simp [its_some (.lst hH3), wipeE]
    refine lc_filter ns D.int (fun n => decide (n ≠ 0)) D.int rfl (by unfold zLine; omega) (fun s' l => hwk hH3 l) ?_ ?_
    · intro a _ s2 l2
      refine ⟨_, rfl, ?_, fun _ s3 l3 => ?_⟩
      · by_cases h0 : a = 0 <;> simp [h0] <;> exact Le.rfl
      · simp; exact .rfl
    intro q4 s4 l4 hq4 hH4
    obtain ⟨x, xr, hx⟩ : ∃ x xr, ns.filter (fun n => decide (n ≠ 0)) = x :: xr := by
      cases e : ns.filter (fun n => decide (n ≠ 0)) with
      | nil => 
        have : b0 ∈ ns.filter (fun n => decide (n ≠ 0)) := List.mem_filter.mpr ⟨hb0, by simpa using hb0'⟩
        rw [e] at this; simp at this
      | cons x xr => exact ⟨x, xr, rfl⟩
    rw [hx] at hH4
    rw [its_idx (.lst hH4) (x := .int x) atI_0]
    simp
    refine cl (pick_lit (t3.le l4).src (by decide)) fun v s5 ⟨r, e, r0, r1, t5⟩ => ?_
    subst e
    have t5' := (t3.le l4).trans t5
    have hH5 := t5.has (hH3.le l4) hpB
    simp
    have hL1 : Has (s5.push (.lst [D.int (r - 10)])) s5.n (.lst [D.int (r - 10)]) := .push
    have hp5 := hH5.le (Le.push (o := .lst [D.int (r - 10)]))
    have t6 := t5'.le (Le.push (o := .lst [D.int (r - 10)]))
    generalize hq5 : s5.n = q5 at *
    generalize hs6 : s5.push (.lst [D.int (r - 10)]) = s6 at *
    refine ⟨its_some (.lst hp5), ?_⟩
    refine lc_map ns D.int (fun a => D.int (if 0 < x then a else -a)) rfl (by unfold zLine; omega) (fun s' l => hwk hp5 l) ?_ ?_
    · intro a _ s7 l7
      refine ⟨_, rfl, ?_⟩
      by_cases hx0 : 0 < x
      · simp [hx0]; exact .rfl
      · simp [hx0]; exact .rfl
    intro p7 s7 l7 hp7 hH7
    have hq7 := hL1.le l7
    refine addL_ok hq7 hH7 (by simp [zLine]; omega) ?_
    have t8 := (t6.le l7).le (Le.push (o := .lst ([D.int (r - 10)] ++ ns.map fun a => D.int (if 0 < x then a else -a))))
    obtain ⟨ms, hms, hml, hmb, hm0⟩ : ∃ ms : List Int, [D.int (r - 10)] ++ (ns.map fun a => D.int (if 0 < x then a else -a)) = ms.map .int ∧ ms.length = n + 1 ∧ (∀ a ∈ ms, -10 ≤ a ∧ a ≤ 10) ∧ ∃ a ∈ ms, a ≠ 0 := by
      refine ⟨(r - 10) :: ns.map fun a => if 0 < x then a else -a, by simp, by simp [hl3], fun a ha => ?_, (if 0 < x then b0 else -b0), ?_, ?_⟩
      · rcases List.mem_cons.mp ha with rfl | ha
        · omega
        · obtain ⟨b, hb, rfl⟩ := List.mem_map.mp ha
          have := hP3 b hb
          split <;> omega
      · exact List.mem_cons_of_mem _ (List.mem_map.mpr ⟨b0, hb0, rfl⟩)
      · split <;> omega
    rw [hms] at t8 ⊢
    have hH8 : Has (s7.push (.lst (ms.map .int))) s7.n (.lst (ms.map .int)) := .push
    generalize hp8 : s7.n = p8 at *
    generalize hs8 : s7.push (.lst (ms.map .int)) = s8 at *
    simp [its_some (.lst hH8)]
    obtain ⟨Inv, hI⟩ : ∃ Inv : List Int → En → S → Prop, ∀ r e s9, Inv r e s9 ↔ (s9 = s8 ∧ ∃ (u : Nat) (o7 : Option D), e = [some (.ref o), some (.int n), some (.ref p8), none, none, some (.int x), some (.int u), o7] ∧ u ≤ 10 ∧ ∀ z ∈ ms, z ∈ r ∨ z = 0 ∨ u ≠ 0) := ⟨_, fun _ _ _ => Iff.rfl⟩
    refine for_rest (ds := ms.map .int) ms D.int Inv rfl (lt_fuelZ (by rw [hml]; unfold zLine; omega)) ((hI _ _ _).mpr ⟨rfl, 0, none, rfl, by omega, fun z hz => .inl hz⟩) ?_ ?_ ?_
    · intro r e s9 h9
      obtain ⟨rfl, _⟩ := (hI _ _ _).mp h9
      exact wk_sq (.lst hH8)
    · intro dn a r e s9 e9 h9
      obtain ⟨rfl, u, o7, rfl, hu, hz⟩ := (hI _ _ _).mp h9
      have ha : a ∈ ms := by rw [e9]; simp
      have hab := hmb a ha
      have hg := common_eq (s := s9) (a := (u : Int)) (b := a) ((show SzI 10 a from by show a.natAbs < 2 ^ 10; omega).mono (by decide))
      refine ⟨_, rfl, ?_⟩
      simp at hg
      simp [hg]
      refine (hI _ _ _).mpr ⟨rfl, Nat.gcd u a.natAbs, _, rfl, ?_, fun z hz' => ?_⟩
      · by_cases a0 : a.natAbs = 0
        · rw [a0, Nat.gcd_zero_right]; exact hu
        · exact Nat.le_trans (Nat.gcd_le_right _ (by omega)) (by omega)
      · rcases hz z hz' with w | w | w
        · rcases List.mem_cons.mp w with rfl | w
          · by_cases a0 : z = 0
            · exact .inr (.inl a0)
            · exact .inr (.inr (Nat.ne_of_gt (Nat.gcd_pos_of_pos_right _ (by omega))))
          · exact .inl w
        · exact .inr (.inl w)
        · exact .inr (.inr (Nat.ne_of_gt (Nat.gcd_pos_of_pos_left _ (by omega))))
    · intro e s9 h9
      obtain ⟨rfl, u, o7, rfl, hu, hz⟩ := (hI _ _ _).mp h9
      obtain ⟨a0, ha0, ha0'⟩ := hm0
      have hu0 : u ≠ 0 := ((hz a0 ha0).resolve_left (by simp)).resolve_left ha0'
      simp [its_some (.lst hH8), wipeE]
      have hbl : bLog (u : Int) < 9000 := bLog_of (show SzI 10 (u : Int) from by show (u : Int).natAbs < 2 ^ 10; omega) (by decide)
      refine lc_map ms D.int (fun a => D.int (a.fdiv u)) rfl (by rw [hml]; unfold zLine; omega) (fun s' l => hwk hH8 l) ?_ ?_
      · intro a _ s10 l10
        refine ⟨_, rfl, ?_⟩
        simp [hu0, hbl]
        exact .rfl
      · intro p10 s10 l10 _ h10
        simp [tuple_ok h10]
        refine ⟨⟨ms.map fun a => a.fdiv u, by simp [fmD, Function.comp_def], by simp [hml], fun a ha => ?_⟩, t8.le l10⟩
        obtain ⟨b, hb', rfl⟩ := List.mem_map.mp ha
        have := hmb b hb'
        exact fdiv_small (by omega) (by omega) (by omega)
end
end Ev
set_option maxHeartbeats 1000000
set_option exponentiation.threshold 20000
namespace Ev
open PySem PySem.Spec PyProof.Rows L2
theorem intsD_map : ∀ is : List Int, intsD (is.map .int) = some is
  | [] => rfl
  | i :: is => by simp [intsD, intsD_map is]
theorem ckOf_ckD {k : CK} : ckOf (ckD k) = some k := by
  simp only [ckD, ckOf, intsD_map, Option.map_some]
theorem cksOf_map : ∀ ks : List CK, cksOf (ks.map ckD) = some ks
  | [] => rfl
  | k :: ks => by simp [cksOf, ckOf_ckD, cksOf_map ks]
theorem ddup_len : ∀ ks : List CK, (ddup ks).length ≤ ks.length
  | [] => Nat.le_refl _
  | k :: ks => by
    unfold ddup
    have := ddup_len ks
    split <;> simp <;> omega
theorem soset_len {ks : List CK} : (soset ks).length ≤ ks.length := by
  unfold soset; rw [List.length_mergeSort]; exact ddup_len ks
section
variable {B : Nat} {o c : Ps} {s s' : S} {d : D} {xs : List D}
theorem soset_ok {p : Ps} {ks : List CK} (h : Has s p (.lst (ks.map ckD))) (hl : ks.length < 64) : bSoSet [.ref p] s = .ok (.ref s.n) (s.push (.lst ((soset ks).map ckD))) := by
  simp only [bSoSet, h.get, soIt, cksOf_map, soGo, hl, if_true]
theorem szI5 {a : Int} (h1 : -31 ≤ a) (h2 : a ≤ 31) : SzI 5 a := by unfold SzI; omega
theorem any_contact_ok {l : List (Int × Int)} (h : Src B o c s) (hl : LimOk l) (h1 : 1 ≤ l.length) (h3 : l.length ≤ 3) : (f__law_any_contact [.ref o, lmD l] s).wp (fun v s' => (∃ ct, v = ctD ct ∧ CtOk l.length 5 ct ∧ ct.length ≤ 63) ∧ Tr B o c s s') NoE := by
  have hb := h.bn
  have hlen : bLen [lmD l] = fun s => R.ok (.int l.length) s := by funext s; simp [lmD]
  simp [f__law_any_contact, b__law_any_contact, hlen]
  have hH0 : Has (s.push (.lst [])) s.n (.lst (([] : List CK).map ckD)) := .push
  have hT0 : Tr B o c s (s.push (.lst [])) := .of h .push
  generalize hp0 : s.n = p0 at hH0 ⊢
  have hp0B : B ≤ p0.nat := by rw [← hp0]; exact hb
  have hp0s : s.n.nat ≤ p0.nat := by rw [← hp0]; exact Nat.le_refl _
  generalize s.push (.lst []) = s0 at hH0 hT0 ⊢
  refine cl (pick_lit hT0.src (by decide)) fun v s1 ⟨r1, e1, r10, r11, t1⟩ => ?_
  subst e1
  have t1 := hT0.trans t1
  have hH1 := hH0.lx hp0B (by assumption : Tr B o c s0 s1).lx
  simp
  by_cases hr1 : r1 = 0
  · simp [hr1]
    exact ⟨⟨[], rfl, by simp [CtOk], by simp⟩, t1⟩
  simp [hr1, w62_nat (i := l.length) (by omega)]
  generalize hn : l.length = n at *
  -- a box
  obtain ⟨Inv, hI⟩ : ∃ Inv : List Nat → En → S → Prop, ∀ r e s2, Inv r e s2 ↔ (Tr B o c s s2 ∧ ∃ (p : Ps) (ks : List CK) (o4 o5 o6 o7 o8 o9 o10 : Option D), e = [some (.ref o), some (lmD l), some (.int n), some (.ref p), o4, o5, o6, o7, o8, o9, o10, none] ∧ B ≤ p.nat ∧ s.n.nat ≤ p.nat ∧ Has s2 p (.lst (ks.map ckD)) ∧ CtOk n 5 ks ∧ ks.length + 2 * r.length ≤ 2 * n) := ⟨_, fun _ _ _ => Iff.rfl⟩
  refine for_rest (ds := rgD 0 n) (List.range n) (fun (i : Nat) => D.int (i : Int)) Inv rgD_eq (lt_fuelZ (by simp [zLine]; omega)) ((hI _ _ _).mpr ⟨t1, p0, [], _, _, _, _, _, _, _, rfl, hp0B, hp0s, hH1, by simp [CtOk], by simp⟩) (fun r e s3 _ => wk_rg) ?_ ?_
  · intro dn k r e s2 e2 h2
    obtain ⟨t2, p, ks, o4, o5, o6, o7, o8, o9, o10, rfl, hpB, hps, hH2, hct, hkl⟩ := (hI _ _ _).mp h2
    have hk : k < l.length := by
      have : k ∈ List.range n := by rw [e2]; simp
      rw [hn]; simpa using this
    have hlim := hl l[k] (List.getElem_mem hk)
    have hgl : ∀ s, dIdx (lmD l) (.int k) s = .ok (.tup [.int l[k].1, .int l[k].2]) s := fun s => its_get (f := pD) .tup hk
    refine ⟨_, rfl, ?_⟩
    simp [hgl]
    have hmax : (if (1 : Int) < l[k].2 - l[k].1 then l[k].2 - l[k].1 else 1) = l[k].2 - l[k].1 := by omega
    rw [hmax]
    refine cl (pick_lit t2.src (by omega)) fun v s3 ⟨ra, e3, ra0, ra1, t3⟩ => ?_
    subst e3
    simp
    refine cl (pick_lit t3.src (by decide)) fun v s4 ⟨rb, e4, rb0, rb1, t4⟩ => ?_
    subst e4
    simp [w62_nat (i := n) (by omega), wipeE]
    have t24 := t2.trans (t3.trans t4)
    have hH4 := hH2.lx hpB (t3.trans t4).lx
    refine lc_map (List.range n) (fun (i : Nat) => D.int (i : Int)) (fun j => D.int (if j = k then 1 else 0)) rgD_eq (by simp [zLine]; omega) (fun s' _ => wk_rg) ?_ ?_
    · intro j _ s5 l5
      refine ⟨_, rfl, ?_⟩
      simp
      by_cases hjk : j = k
      · subst hjk; simp; exact .rfl
      · have hjk' : ¬ ((j : Int) = k) := by omega
        simp [hjk, hjk']; exact .rfl
    intro q5 s5 l5 hq5 hH5
    simp [tuple_ok hH5]
    have t25 := t24.le l5
    have hH45 := hH4.le l5
    refine cl (pick_lit t25.src (by decide)) fun v s6 ⟨rc, e6, rc0, rc1, t6⟩ => ?_
    subst e6
    have t26 := t25.trans t6
    have hH6 := hH45.lx hpB t6.lx
    have hl1 : CtOk n 5 [((0 - (l[k].1 + ra)) :: (List.range n).map fun j => if j = k then (1 : Int) else 0, 1), ((0 - (l[k].1 + ra + 1 + rb)) :: (List.range n).map fun j => if j = k then (1 : Int) else 0, -1)] := by
      intro z hz
      have hline : ∀ a ∈ (List.range n).map (fun j => if j = k then (1 : Int) else 0), SzI 5 a := fun a ha => by
        obtain ⟨j, _, rfl⟩ := List.mem_map.mp ha
        split <;> exact szI5 (by decide) (by decide)
      have hra : ra < l[k].2 - l[k].1 := by omega
      simp at hz
      rcases hz with rfl | rfl
      · refine ⟨by simp, fun a ha => ?_, (szI5 (a := 1) (by decide) (by decide) : SzI 5 1)⟩
        rcases List.mem_cons.mp ha with rfl | ha
        · exact szI5 (by omega) (by omega)
        · exact hline a ha
      · refine ⟨by simp, fun a ha => ?_, (szI5 (a := -1) (by decide) (by decide) : SzI 5 (-1))⟩
        rcases List.mem_cons.mp ha with rfl | ha
        · exact szI5 (by omega) (by omega)
        · exact hline a ha
    by_cases hrc : 0 < rc
    · simp [hrc]
      have hz1 : ∀ x : D, short zLine (x :: (List.range n).map fun j => D.int (if j = k then 1 else 0)) = true := fun x => short_of (by simp [zLine]; omega)
      refine ⟨hz1 _, hz1 _, ?_⟩
      have e7 : ([D.tup [D.tup (D.int (-(l[k].1 + ra)) :: (List.range n).map fun j => D.int (if j = k then 1 else 0)), D.int 1], D.tup [D.tup (D.int (-(l[k].1 + ra + 1 + rb)) :: (List.range n).map fun j => D.int (if j = k then 1 else 0)), D.int (-1)]] : List D) = ([((0 - (l[k].1 + ra)) :: (List.range n).map fun j => if j = k then (1 : Int) else 0, 1), ((0 - (l[k].1 + ra + 1 + rb)) :: (List.range n).map fun j => if j = k then (1 : Int) else 0, -1)] : List CK).map ckD := by
        simp [ckD, Function.comp_def]
      rw [e7]
      generalize ([((0 - (l[k].1 + ra)) :: (List.range n).map fun j => if j = k then (1 : Int) else 0, 1), ((0 - (l[k].1 + ra + 1 + rb)) :: (List.range n).map fun j => if j = k then (1 : Int) else 0, -1)] : List CK) = k2 at *
      have hk2 : k2.length = 2 := by have := congrArg List.length e7; simpa using this.symm
      have hN : Has (s6.push (.lst (k2.map ckD))) s6.n (.lst (k2.map ckD)) := .push
      have hH7 := hH6.le (Le.push (o := .lst (k2.map ckD)))
      have t27 := t26.le (Le.push (o := .lst (k2.map ckD)))
      have hs6 : s.n.nat ≤ s6.n.nat := t26.lx.n
      have hs7 : (s6.push (.lst (k2.map ckD))).n.nat = s6.n.nat + 1 := push_n
      generalize s6.push (.lst (k2.map ckD)) = s7 at *
      refine addL_ok hH7 hN (by simp at hkl ⊢; unfold zLine; omega) ?_
      refine (hI _ _ _).mpr ⟨t27.le .push, s7.n, ks ++ k2, _, _, _, _, _, _, _, rfl, by omega, by omega, by rw [List.map_append]; exact Has.push, fun z hz => ?_, by simp at hkl ⊢; omega⟩
      rcases List.mem_append.mp hz with hz | hz
      · exact hct z hz
      · exact hl1 z hz
    · simp [hrc]
      refine (hI _ _ _).mpr ⟨t26, p, ks, _, _, _, _, _, _, _, rfl, hpB, hps, hH6, hct, by simp at hkl; omega⟩
  · intro e s2 h2
    obtain ⟨t2, p, ks, o4, o5, o6, o7, o8, o9, o10, rfl, hpB, hps, hH2, hct, hkl⟩ := (hI _ _ _).mp h2
    simp
    refine cl (pick_lit t2.src (by decide)) fun v s3 ⟨ra, e3, ra0, ra1, t3⟩ => ?_
    subst e3
    obtain ⟨m, rfl⟩ : ∃ m : Nat, ra = m := ⟨ra.toNat, by omega⟩
    simp [w62_nat (i := m) (by omega)]
    obtain ⟨Jnv, hJ⟩ : ∃ Jnv : List Nat → En → S → Prop, ∀ r e s4, Jnv r e s4 ↔ (Tr B o c s s4 ∧ ∃ (ks : List CK) (o11 : Option D), e = [some (.ref o), some (lmD l), some (.int n), some (.ref p), o4, o5, o6, o7, o8, o9, o10, o11] ∧ Has s4 p (.lst (ks.map ckD)) ∧ CtOk n 5 ks ∧ ks.length + r.length ≤ 2 * n + m) := ⟨_, fun _ _ _ => Iff.rfl⟩
    refine for_rest (ds := rgD 0 m) (List.range m) (fun (i : Nat) => D.int (i : Int)) Jnv rgD_eq (lt_fuelZ (by simp [zLine]; omega)) ((hJ _ _ _).mpr ⟨t2.trans t3, ks, _, rfl, hH2.lx hpB t3.lx, hct, by simp at hkl ⊢; omega⟩) (fun r e s3 _ => wk_rg) ?_ ?_
    · intro dn k r e s4 e4 h4
      obtain ⟨t4, ks, o11, rfl, hH4, hct4, hkl4⟩ := (hJ _ _ _).mp h4
      refine ⟨_, rfl, ?_⟩
      simp [isL_ok hH4]
      refine cl (any_form_ok t4.src (by omega) h1) fun v s5 ⟨⟨f, e5, hf1, hf2⟩, t5⟩ => ?_
      subst e5
      refine cl (pick_lit t5.src (by decide)) fun v s6 ⟨rb, e6, rb0, rb1, t6⟩ => ?_
      subst e6
      have hH6 := hH4.lx hpB (t5.trans t6).lx
      have hmu : mulB 2 rb = true := mulB_of (a := 5) (b := 5) (szI5 (by decide) (by decide)) (szI5 (by omega) (by omega)) (by decide)
      simp [hmu, append_ok hH6 (x := .tup [fmD f, .int (1 - 2 * rb)]) (by rw [List.length_map]; unfold zLine; omega)]
      refine (hJ _ _ _).mpr ⟨(t4.trans (t5.trans t6)).set hps hb, ks ++ [(f, 1 - 2 * rb)], _, rfl, by rw [List.map_append]; exact hH6.set, fun z hz => ?_, by simp at hkl4 ⊢; omega⟩
      rcases List.mem_append.mp hz with hz | hz
      · exact hct4 z hz
      · simp at hz; subst hz
        exact ⟨hf1, fun a ha => szI5 (by have := hf2 a ha; omega) (by have := hf2 a ha; omega), szI5 (by omega) (by omega)⟩
    · intro e s4 h4
      obtain ⟨t4, ks, o11, rfl, hH4, hct4, hkl4⟩ := (hJ _ _ _).mp h4
      have hkl5 : ks.length < 64 := by simp at hkl4; omega
      simp [soset_ok hH4 hkl5, tuple_ok (Has.push (s := s4) (o := .lst ((soset ks).map ckD)))]
      exact ⟨⟨soset ks, rfl, fun z hz => hct4 z (soset_mem.mp hz), by have := soset_len (ks := ks); omega⟩, t4.le .push⟩
end
end Ev
set_option maxHeartbeats 1000000
set_option exponentiation.threshold 20000
namespace Ev
open PySem PySem.Spec PyProof.Rows L2
section
variable {B : Nat} {o c : Ps} {s s' : S} {d : D} {xs : List D} {p : List Rat} {l : List (Int × Int)} {kf kp : Nat}
theorem lz_ok {xs ys : List D} {a b : SE} {e : En} {P : D → S → Prop} {E : Nat → List (Str × D) → S → Prop} {d d' : D} (ha : a e s = .ok d s) (hb : b e s = .ok d' s) (h1 : Its s d xs) (h2 : Its s d' ys) (hl : xs.length ≤ zLine) (k : P (.ref s.n) (s.push (.lst (zipD xs ys)))) : (cLz a b e s).wp P E := by
  unfold cLz
  rw [ha, m_bind', hb, m_bind', h1.items, h2.items]
  have hz : short zLine (zipD xs ys) = true := short_of (by rw [zipD_length]; omega)
  simp only [lzGo, hz, if_true, q_ok]
  exact k
where m_bind' {α β : Type} {a : α} {s : S} {f : α → S → R β} : (R.ok a s).bind f = f a s := rfl
instance : Decidable (Wn l p) := by unfold Wn; infer_instance
theorem zDec (x : Rat) (z : Int × Int) : (decide ((z.1 : Rat) ≤ x ∧ x ≤ (z.2 : Rat)) = true) ↔ ((z.1 : Rat) ≤ x ∧ x ≤ (z.2 : Rat)) := decide_eq_true_iff
theorem law_in_limits_ok (h : Its s d (p.map rD)) (h0 : 1 ≤ kf) (hp : PSz kp p) (hL : LSz kf l) (hl : l.length = p.length) (hk : kf + kp ≤ 4000) (hz : p.length ≤ 100) : (f__law_in_limits [lmD l, d] s).wp (fun v s' => Le s s' ∧ v = .bl (decide (Wn l p))) NoE := by
  have hlm : Its s (lmD l) (l.map pD) := .tup
  simp [f__law_in_limits, b__law_in_limits]
  refine lz_ok (d := lmD l) (d' := d) rfl rfl hlm h (by simp [zLine]; omega) ?_
  rw [zipD_map]
  have hH : Has (s.push (.lst ((l.zip p).map fun z => D.tup [pD z.1, rD z.2]))) s.n (.lst ((l.zip p).map fun z => D.tup [pD z.1, rD z.2])) := .push
  have hL1 : Le s (s.push (.lst ((l.zip p).map fun z => D.tup [pD z.1, rD z.2]))) := .push
  generalize s.push (.lst ((l.zip p).map fun z => D.tup [pD z.1, rD z.2])) = s1 at *
  generalize s.n = q1 at *
  simp [its_some (.lst hH), wipeE]
  refine lc_filter (l.zip p) (fun z => D.tup [pD z.1, rD z.2]) (fun z => !decide ((z.1.1 : Rat) ≤ z.2 ∧ z.2 ≤ (z.1.2 : Rat))) (fun _ => D.int 1) rfl (by simp [zLine]; omega) (fun s' l => wk_sq (.lst (hH.le l))) ?_ ?_
  · rintro ⟨⟨a, b⟩, x⟩ hm s2 l2
    have h1 := hL _ (zip_mem hm).1
    have h3 := hp _ (zip_mem hm).2
    have e1 := law_below_eq (s := s2) h3 (SzR.int h1.1 h0) (by omega)
    have e2 := law_below_eq (s := s2) (SzR.int h1.2 h0) h3 (by omega)
    rw [rD_int] at e1 e2
    refine ⟨_, rfl, ?_, fun _ s3 l3 => ?_⟩
    · by_cases w1 : x < (a : Rat)
      · have := Rat.not_le.mpr w1
        simp [pD, e1, dTru, w1, this]; exact .rfl
      · by_cases w2 : (b : Rat) < x
        · have := Rat.not_le.mpr w2
          simp [pD, e1, e2, dTru, w1, w2, this]; exact .rfl
        · have v1 := Rat.not_lt.mp w1
          have v2 := Rat.not_lt.mp w2
          simp [pD, e1, e2, dTru, w1, w2, v1, v2]; exact .rfl
    · simp; exact .rfl
  · intro q s2 l2 _ hH2
    have hE : Has (s2.push (.lst [])) s2.n (.lst []) := .push
    have hq2 := hH2.le (Le.push (o := .lst []))
    rw [eq_nil hq2 hE (mapO_map (g := fun _ => PyData.int 1) fun _ _ => toP_int (n := 38))]
    simp only [q_ok]
    refine ⟨hL1.trans (l2.trans .push), ?_⟩
    congr 1
    rw [Bool.eq_iff_iff, decide_eq_true_iff, List.isEmpty_map, List.isEmpty_iff, List.filter_eq_nil_iff]
    constructor
    · intro hz z hz'
      simpa using hz z hz'
    · intro hz z hm
      have := hz z hm
      simpa using this
end
end Ev
set_option maxHeartbeats 1000000
set_option exponentiation.threshold 20000
namespace Ev
open PySem PySem.Spec PyProof.Rows L2
def Und (a b : List Int) : Prop := ∀ z ∈ a.zip b, z.1 = 0 ∨ z.1 = z.2
instance {a b : List Int} : Decidable (Und a b) := by unfold Und; infer_instance
section
variable {B : Nat} {o c : Ps} {s s' : S} {d : D} {xs : List D} {p : List Rat} {kf kp : Nat}
/-! signs -/
def prt (W : Int) (x : Rat) : Int := x.num * (W / x.den)
theorem prt_cast {W : Int} {x : Rat} (h : (x.den : Int) ∣ W) : ((prt W x : Int) : Rat) = W * x := by
  obtain ⟨k, rfl⟩ := h
  unfold prt
  rw [Int.mul_ediv_cancel_left _ (dne x)]
  have e : (x.num : Rat) = x * ((x.den : Int) : Rat) := by
    have := divInt_nd x
    rw [Rat.divInt_eq_div] at this
    have h0 : ((x.den : Int) : Rat) ≠ 0 := by
      intro w; exact dne x (Rat.intCast_inj.mp (by simpa using w))
    have h1 := Rat.div_mul_cancel (a := (x.num : Rat)) h0
    rw [this] at h1
    exact h1.symm
  rw [Rat.intCast_mul, Rat.intCast_mul, e]
  grind
theorem dot_cast {W : Int} : ∀ (f : List Int) (p : List Rat), (∀ x ∈ p, (x.den : Int) ∣ W) → ((((f.zip (p.map (prt W))).map fun z => z.1 * z.2).sum : Int) : Rat) = W * dot (f.zip p)
  | [], _, _ => by simp [dot]
  | _ :: _, [], _ => by simp [dot]
  | a :: f, x :: p, h => by
    have ih := dot_cast f p fun y hy => h y (by simp [hy])
    simp only [List.map_cons, List.zip_cons_cons, List.sum_cons, dot, Rat.intCast_add, Rat.intCast_mul, ih, prt_cast (h x (by simp))]
    grind
def isg (v : Int) : Int := (if 0 < v then 1 else 0) - (if v < 0 then 1 else 0)
theorem isg_sg {W v : Int} {x : Rat} (hW : 0 < W) (h : (v : Rat) = W * x) : isg v = sg x := by
  have hW' : (0 : Rat) < W := Rat.intCast_pos.mpr hW
  unfold isg sg
  by_cases h1 : 0 < x
  · have : 0 < v := Rat.intCast_pos.mp (by rw [h]; exact Rat.mul_pos hW' h1)
    have : ¬ v < 0 := by omega
    simp [*]
  · by_cases h2 : x < 0
    · have : v < 0 := Rat.intCast_neg_iff.mp (by rw [h]; exact (Rat.mul_neg_iff_of_pos_left hW').mpr h2)
      have : ¬ 0 < v := by omega
      simp [*]
    · have : x = 0 := Rat.le_antisymm (Rat.not_lt.mp h1) (Rat.not_lt.mp h2)
      subst this
      rw [Rat.mul_zero] at h
      have : v = 0 := Rat.intCast_inj.mp (by simpa using h)
      subst this
      simp
theorem allInt_map : ∀ ns : List Int, allInt (ns.map .int) = some ns
  | [] => rfl
  | n :: ns => by simp [allInt, allInt_map ns]
theorem sum_ok {q : Ps} {ns : List Int} (h : Has s q (.lst (ns.map .int))) : bSum [.ref q] s = .ok (.int ns.sum) s := by
  simp only [bSum, lItems, items, h.get, allInt_map]
end
end Ev
set_option maxHeartbeats 1000000
set_option exponentiation.threshold 20000
namespace Ev
open PySem PySem.Spec PyProof.Rows L2
theorem sq_to {Q : EQ} {r : RS} {n : SS} (J : En → S → Prop) (h1 : r.wp (Q.to J)) (h2 : ∀ e s, J e s → (n e s).wp Q) : r.wp (Q.sq n) :=
  h1.mono h2 (fun _ _ q => q) (fun _ _ q => q) (fun _ _ q => q) (fun _ _ _ _ q => q)
section
variable {B : Nat} {o c : Ps} {s s' : S} {d dc : D} {xs : List D} {p : List Rat} {kf kp : Nat} {l : List (Int × Int)} {cts : List (List CK)}
theorem lim_sz (hl : LimOk l) : LSz 5 l := fun z hz => by have := hl z hz; exact ⟨szI5 (by omega) (by omega), szI5 (by omega) (by omega)⟩
end
end Ev
set_option maxHeartbeats 1000000
set_option exponentiation.threshold 20000
namespace Ev
open PySem PySem.Spec PyProof.Rows L2
def Adj {α : Type} (R : α → α → Prop) (w : List α) : Prop := ∀ z ∈ w.zip w.tail, R z.1 z.2
theorem adj_append {α : Type} {R : α → α → Prop} {a x : α} (h : R a x) : ∀ {w : List α}, Adj R (w ++ [a]) → Adj R (w ++ [a] ++ [x])
  | [], _ => by
    intro z hz
    simp at hz; subst hz; exact h
  | [b], hw => by
    intro z hz
    simp at hz
    rcases hz with rfl | rfl
    · exact hw (b, a) (by simp)
    · exact h
  | b :: b' :: r, hw => by
    have ih := adj_append h (w := b' :: r) fun z hz => hw z (by
      simp only [List.cons_append, List.tail_cons, List.zip_cons_cons] at hz ⊢
      exact List.mem_cons_of_mem _ hz)
    intro z hz
    simp only [List.cons_append, List.tail_cons, List.zip_cons_cons] at hz ih hw
    rcases List.mem_cons.mp hz with rfl | hz
    · exact hw (b, b') (by simp)
    · exact ih z hz
theorem adj_map {α β : Type} {R : α → α → Prop} {R' : β → β → Prop} {f : α → β} {w : List α} (h : Adj R w) (hf : ∀ a b, a ∈ w → b ∈ w → R a b → R' (f a) (f b)) : Adj R' (w.map f) := by
  intro z hz
  rw [← List.map_tail, List.zip_map] at hz
  obtain ⟨y, hy, rfl⟩ := List.mem_map.mp hz
  have := zip_mem hy
  exact hf _ _ this.1 (List.mem_of_mem_tail this.2) (h y hy)
theorem getD_eq {α : Type} {l : List α} {i : Nat} {d : α} (h : i < l.length) : l[i] = l.getD i d := by
  simp [List.getD, h]
section
variable {B : Nat} {o c : Ps} {s s' : S} {dp dr dg : D}
theorem its_getD {α : Type} {f : α → D} {l : List α} {d : D} {i : Nat} {x : α} (h : Its s d (l.map f)) (hi : i < l.length) : dIdx d (.int (i : Int)) s = .ok (f (l.getD i x)) s := by
  rw [its_get h hi, getD_eq]
def Nb (rows : List (List Int)) (i j : Nat) : Prop := Und (rows.getD j []) (rows.getD i []) ∨ Und (rows.getD i []) (rows.getD j [])
instance {rows : List (List Int)} {i j : Nat} : Decidable (Nb rows i j) := by unfold Nb; infer_instance
end
end Ev
set_option maxHeartbeats 1000000
set_option exponentiation.threshold 20000
namespace Ev
open PySem PySem.Spec PyProof.Rows L2
/-! k66: the mathematics -/
def mxL : List Rat → Rat
  | [] => 0
  | [x] => x
  | x :: y :: r => if x < mxL (y :: r) then mxL (y :: r) else x
theorem mxL_is : ∀ l : List Rat, l ≠ [] → IsMax (mxL l) l
  | [], h => absurd rfl h
  | [x], _ => ⟨by simp [mxL], fun y hy => by simp at hy; subst hy; exact Rat.le_refl⟩
  | x :: y :: r, _ => by
    have ih := mxL_is (y :: r) (by simp)
    unfold mxL
    split
    · rename_i h
      exact ⟨List.mem_cons_of_mem _ ih.1, fun z hz => by
        rcases List.mem_cons.mp hz with rfl | hz
        · exact Rat.le_of_lt h
        · exact ih.2 z hz⟩
    · rename_i h
      exact ⟨by simp, fun z hz => by
        rcases List.mem_cons.mp hz with rfl | hz
        · exact Rat.le_refl
        · exact Rat.le_trans (ih.2 z hz) (Rat.not_lt.mp h)⟩
theorem sg_zero {x : Rat} : sg x = 0 ↔ x = 0 := by
  unfold sg
  by_cases h : 0 < x
  · simp [h]; grind
  · by_cases h' : x < 0
    · simp [h, h']; grind
    · simp [h, h']; grind
theorem sg_same {x y : Rat} (h : sg x = sg y) : (0 < x ↔ 0 < y) ∧ (x < 0 ↔ y < 0) := by
  unfold sg at h
  by_cases h1 : 0 < x <;> by_cases h2 : x < 0 <;> by_cases h3 : 0 < y <;> by_cases h4 : y < 0 <;> simp [h1, h2, h3, h4] at h ⊢ <;> grind
def UndP (fs : List (List Int)) (p q : List Rat) : Prop := ∀ f ∈ fs, sg (fv f p) = 0 ∨ sg (fv f p) = sg (fv f q)
theorem sl_ge {k : CK} {p q : List Rat} (h : sg (fv k.1 p) = 0 ∨ sg (fv k.1 p) = sg (fv k.1 q)) (hq : 0 ≤ sl q k) : 0 ≤ sl p k := by
  unfold sl at *
  generalize -(k.2 : Rat) = a at *
  rcases h with h | h
  · rw [sg_zero.mp h]; rw [Rat.mul_zero]; exact Rat.le_refl
  · obtain ⟨h1, h2⟩ := sg_same h
    generalize fv k.1 p = x at *
    generalize fv k.1 q = y at *
    by_cases x0 : x = 0
    · rw [x0, Rat.mul_zero]; exact Rat.le_refl
    · by_cases xp : 0 < x
      · have yp := h1.mp xp
        have a0 : 0 ≤ a := Rat.not_lt.mp fun w => by
          have := Rat.mul_pos (a := -a) (b := y) (by grind) yp
          grind
        exact Rat.mul_nonneg a0 (Rat.le_of_lt xp)
      · have xn : x < 0 := by grind
        have yn := h2.mp xn
        have a0 : a ≤ 0 := Rat.not_lt.mp fun w => by
          have := Rat.mul_pos (a := a) (b := -y) w (by grind)
          grind
        have := Rat.mul_nonneg (a := -a) (b := -x) (by grind) (by grind)
        grind
theorem sl_gt {k : CK} {p q : List Rat} (h : sg (fv k.1 p) = 0 ∨ sg (fv k.1 p) = sg (fv k.1 q)) (hp : 0 < sl p k) : 0 < sl q k := by
  unfold sl at *
  generalize -(k.2 : Rat) = a at *
  rcases h with h | h
  · rw [sg_zero.mp h, Rat.mul_zero] at hp; grind
  · obtain ⟨h1, h2⟩ := sg_same h
    generalize fv k.1 p = x at *
    generalize fv k.1 q = y at *
    have x0 : x ≠ 0 := by intro e; rw [e, Rat.mul_zero] at hp; grind
    by_cases xp : 0 < x
    · have yp := h1.mp xp
      have a0 : 0 < a := Rat.not_le.mp fun w => by
        have := Rat.mul_nonneg (a := -a) (b := x) (by grind) (Rat.le_of_lt xp)
        grind
      exact Rat.mul_pos a0 yp
    · have xn : x < 0 := by grind
      have yn := h2.mp xn
      have a0 : a < 0 := Rat.not_le.mp fun w => by
        have := Rat.mul_nonneg (a := a) (b := -x) w (by grind)
        grind
      have := Rat.mul_pos (a := -a) (b := -y) (by grind) (by grind)
      grind
def FreeAt (cts : List (List CK)) (p : List Rat) : Prop := ∀ ct ∈ cts, 0 ≤ (mxL (ct.map (sl p))).num
def ClearAt (cts : List (List CK)) (p : List Rat) : Prop := ∀ ct ∈ cts, 0 < (mxL (ct.map (sl p))).num
theorem free_ex {ct : List CK} {p : List Rat} (hne : ct ≠ []) (h : 0 ≤ (mxL (ct.map (sl p))).num) : ∃ k ∈ ct, 0 ≤ sl p k := by
  have := mxL_is (ct.map (sl p)) (by simpa using hne)
  obtain ⟨k, hk, e⟩ := List.mem_map.mp this.1
  exact ⟨k, hk, by rw [e]; exact Rat.num_nonneg.mp h⟩
theorem clear_ex {ct : List CK} {p : List Rat} (hne : ct ≠ []) (h : 0 < (mxL (ct.map (sl p))).num) : ∃ k ∈ ct, 0 < sl p k := by
  have := mxL_is (ct.map (sl p)) (by simpa using hne)
  obtain ⟨k, hk, e⟩ := List.mem_map.mp this.1
  exact ⟨k, hk, by rw [e]; rw [← num_pos]; exact h⟩
/-- beside each other -/
def Near (fs : List (List Int)) (p q : List Rat) : Prop := p = q ∨ UndP fs p q ∨ UndP fs q p
theorem leg_free {cts : List (List CK)} {fs : List (List Int)} {p q : List Rat} (hfs : ∀ ct ∈ cts, ∀ k ∈ ct, k.1 ∈ fs) (hn : Near fs p q) (hp : FreeAt cts p) (hq : FreeAt cts q) : ∀ ct ∈ cts, ct ≠ [] → ¬ Bar (lns ct p q) := by
  intro ct hct hne
  have key : ∃ k ∈ ct, 0 ≤ sl p k ∧ 0 ≤ sl q k := by
    rcases hn with rfl | h | h
    · obtain ⟨k, hk, h⟩ := free_ex hne (hp ct hct)
      exact ⟨k, hk, h, h⟩
    · obtain ⟨k, hk, g⟩ := free_ex hne (hq ct hct)
      exact ⟨k, hk, sl_ge (h _ (hfs ct hct k hk)) g, g⟩
    · obtain ⟨k, hk, g⟩ := free_ex hne (hp ct hct)
      exact ⟨k, hk, g, sl_ge (h _ (hfs ct hct k hk)) g⟩
  obtain ⟨k, hk, a, b⟩ := key
  exact not_bar (z := (sl p k, sl q k)) (List.mem_map.mpr ⟨k, hk, rfl⟩) a b
theorem leg_clear {cts : List (List CK)} {fs : List (List Int)} {p q : List Rat} (hfs : ∀ ct ∈ cts, ∀ k ∈ ct, k.1 ∈ fs) (hn : Near fs p q) (hp : ClearAt cts p) (hq : ClearAt cts q) : ∀ ct ∈ cts, ct ≠ [] → Clr ct p q := by
  intro ct hct hne
  have key : ∃ k ∈ ct, 0 < sl p k ∧ 0 < sl q k := by
    rcases hn with rfl | h | h
    · obtain ⟨k, hk, h⟩ := clear_ex hne (hp ct hct)
      exact ⟨k, hk, h, h⟩
    · obtain ⟨k, hk, g⟩ := clear_ex hne (hp ct hct)
      exact ⟨k, hk, g, sl_gt (h _ (hfs ct hct k hk)) g⟩
    · obtain ⟨k, hk, g⟩ := clear_ex hne (hq ct hct)
      exact ⟨k, hk, sl_gt (h _ (hfs ct hct k hk)) g, g⟩
  obtain ⟨k, hk, a, b⟩ := key
  refine ⟨hne, fun m hm => ?_⟩
  obtain ⟨⟨t, t0, t1, hM⟩, _⟩ := hm
  have := hM.2 (lv t (sl p k, sl q k)) (List.mem_map.mpr ⟨_, List.mem_map.mpr ⟨k, hk, rfl⟩, rfl⟩)
  have pos : 0 < lv t (sl p k, sl q k) := by
    unfold lv
    by_cases z : t = 0
    · subst z; grind
    · have e1 := Rat.mul_nonneg (a := sl p k) (b := 1 - t) (Rat.le_of_lt a) (by grind)
      have e2 := Rat.mul_pos (a := sl q k) (b := t) b (by grind)
      grind
  grind
theorem und_rows {fs : List (List Int)} {p q : List Rat} (h : Und (fs.map fun f => sg (fv f p)) (fs.map fun f => sg (fv f q))) : UndP fs p q := by
  intro f hf
  refine h (sg (fv f p), sg (fv f q)) ?_
  rw [List.zip_map']
  exact List.mem_map.mpr ⟨f, hf, rfl⟩
theorem clear_free {cts : List (List CK)} {p : List Rat} (h : ClearAt cts p) : FreeAt cts p := fun ct hc => by have := h ct hc; omega
/-- the legs of a row of beside ones -/
theorem legs_near {fs : List (List Int)} {f : Nat → List Rat} {rows : List (List Int)} {w : List Nat} (hadj : Adj (Nb rows) w) (hr : ∀ i ∈ w, rows.getD i [] = fs.map fun g => sg (fv g (f i))) : ∀ z ∈ legs (w.map f), Near fs z.1 z.2 ∧ z.1 ∈ w.map f ∧ z.2 ∈ w.map f := by
  intro z hz
  refine ⟨?_, legs_mem hz⟩
  match w, hadj, hr, hz with
  | [], _, _, hz => simp [legs] at hz
  | [i], _, _, hz =>
    simp [legs] at hz; subst hz; exact .inl rfl
  | i :: j :: r, hadj, hr, hz =>
    have hm := adj_map (R' := Near fs) (f := f) hadj fun a b ha hb hab => by
      unfold Nb at hab
      rw [hr a ha, hr b hb] at hab
      rcases hab with h | h
      · exact .inr (.inr (und_rows h))
      · exact .inr (.inl (und_rows h))
    exact hm z hz
end Ev
set_option maxHeartbeats 1000000
set_option exponentiation.threshold 20000
namespace Ev
open PySem PySem.Spec PyProof.Rows L2
/-! k64: legs that are free, ways made lean -/
def FreeLeg (l : List (Int × Int)) (cts : List (List CK)) (p q : List Rat) : Prop := Wn l p ∧ Wn l q ∧ ∀ ct ∈ cts, ¬ Bar (lns ct p q)
structure Ws (s : S) (n kf kp : Nat) (l : List (Int × Int)) (cts : List (List CK)) (w : List (List Rat)) (dc : D) : Prop where
  bd : Bd n kf kp
  ln : l.length = n
  ls : LSz kf l
  cto : ∀ ct ∈ cts, CtOk n kf ct ∧ ct.length ≤ 63
  ctl : cts.length ≤ 1000
  dc : Its s dc (cts.map ctD)
  pts : ∀ p ∈ w, p.length = n ∧ PSz kp p
  wl : w.length ≤ 1000
section
variable {s : S} {n kf kp : Nat} {l : List (Int × Int)} {cts : List (List CK)} {w : List (List Rat)} {dc d : D} {p q : List Rat}
theorem Ws.le {s' : S} (h : Ws s n kf kp l cts w dc) (x : Le s s') : Ws s' n kf kp l cts w dc := { h with dc := h.dc.le x }
theorem Ws.sub {w' : List (List Rat)} (h : Ws s n kf kp l cts w dc) (hs : ∀ p ∈ w', p ∈ w) (hl : w'.length ≤ 1000) : Ws s n kf kp l cts w' dc := { h with pts := fun p hp => h.pts p (hs p hp), wl := hl }
theorem Ws.lg (h : Ws s n kf kp l cts w dc) {ct : List CK} (hc : ct ∈ cts) (hp : p ∈ w) (hq : q ∈ w) : Lg s n kf kp ct p q (stD p) (stD q) :=
  ⟨h.bd, (h.cto ct hc).1, by have := (h.cto ct hc).2; omega, .tup, .tup, (h.pts p hp).1, (h.pts q hq).1, (h.pts p hp).2, (h.pts q hq).2⟩
theorem is_within_dec (h : Its s d (p.map rD)) (h0 : 1 ≤ kf) (hp : PSz kp p) (hL : LSz kf l) (hl : l.length = p.length) (hk : kf + kp ≤ 4000) (hz : p.length ≤ 100) : f_is_within [lmD l, d] s = .ok (.bl (decide (Wn l p))) s := by
  refine eq_of_wp ?_
  simp [f_is_within, b_is_within, lmD]
  refine ⟨⟨rfl, its_some h⟩, ?_⟩
  obtain ⟨Inv, hI⟩ : ∃ Inv : List ((Int × Int) × Rat) → En → S → Prop, ∀ r e s2, Inv r e s2 ↔ (s2 = s ∧ ∃ o2 o3 o4, e = [some (lmD l), some d, o2, o3, o4] ∧ ∀ z ∈ l.zip p, z ∈ r ∨ ((z.1.1 : Rat) ≤ z.2 ∧ z.2 ≤ (z.1.2 : Rat))) := ⟨_, fun _ _ _ => Iff.rfl⟩
  refine for_rest (l.zip p) _ Inv (zipD_map (f := fun z : Int × Int => D.tup [.int z.1, .int z.2]) (g := rD) l p) (lt_fuelZ ?_) ((hI _ _ _).mpr ⟨rfl, _, _, _, rfl, fun z hz => .inl hz⟩) ?_ ?_ ?_
  · rw [List.length_zip]; unfold zLine; omega
  · intro r e s2 h2
    obtain ⟨rfl, _⟩ := (hI _ _ _).mp h2
    exact wk_z .tup h fun _ => by simpa using hl
  · rintro dn ⟨⟨a, b⟩, x⟩ r e s2 e2 h2
    obtain ⟨rfl, o2, o3, o4, rfl, hd⟩ := (hI _ _ _).mp h2
    have hm : ((a, b), x) ∈ l.zip p := by rw [e2]; simp
    have h1 := hL _ (zip_mem hm).1
    have h3 := hp _ (zip_mem hm).2
    have no : ∀ {X : Prop}, ¬ ((a : Rat) ≤ x ∧ x ≤ (b : Rat)) → decide (Wn l p) = false := fun w => by
      simp only [decide_eq_false_iff_not]
      exact fun hw => w (hw _ hm)
    by_cases w1 : x < (a : Rat)
    · have := no (X := True) (fun w => Rat.not_le.mpr w1 w.1)
      simp [whole_eq, less_eq h3 (SzR.int h1.1 h0) (by omega), dTru, w1, this]
    · by_cases w2 : (b : Rat) < x
      · have := no (X := True) (fun w => Rat.not_le.mpr w2 w.2)
        simp [whole_eq, less_eq h3 (SzR.int h1.1 h0) (by omega), less_eq (SzR.int h1.2 h0) h3 (by omega), dTru, w1, w2]
        simpa using this
      · simp [whole_eq, less_eq h3 (SzR.int h1.1 h0) (by omega), less_eq (SzR.int h1.2 h0) h3 (by omega), dTru, w1, w2]
        refine (hI _ _ _).mpr ⟨rfl, _, _, _, rfl, fun z hz => ?_⟩
        rcases hd z hz with w | w
        · rcases List.mem_cons.mp w with rfl | w
          · exact .inr ⟨Rat.not_lt.mp w1, Rat.not_lt.mp w2⟩
          · exact .inl w
        · exact .inr w
  · intro e s2 h2
    obtain ⟨rfl, o2, o3, o4, rfl, hd⟩ := (hI _ _ _).mp h2
    have : decide (Wn l p) = true := decide_eq_true (fun z hz => (hd z hz).resolve_left (by simp))
    simp [this]
theorem Ws.within (h : Ws s n kf kp l cts w dc) (hp : p ∈ w) : f_is_within [lmD l, stD p] s = .ok (.bl (decide (Wn l p))) s := by
  obtain ⟨h1, h2⟩ := h.pts p hp
  have hb := h.bd
  exact is_within_dec .tup hb.1 h2 h.ls (by rw [h.ln, h1]) hb.2.2.2 (by rw [h1]; exact hb.2.1)
theorem leg_fault_ok (h : Ws s n kf kp l cts w dc) (hp : p ∈ w) (hq : q ∈ w) : (f_leg_fault [lmD l, dc, stD p, stD q] s).wp (fun v s' => Le s s' ∧ ((FreeLeg l cts p q ∧ v = .non) ∨ (¬ FreeLeg l cts p q ∧ ∃ ds, v = .tup ds))) NoE := by
  simp [f_leg_fault, b_leg_fault]
  refine ⟨rfl, ?_⟩
  obtain ⟨Inv, hI⟩ : ∃ Inv : List (Nat × List Rat) → En → S → Prop, ∀ r e s2, Inv r e s2 ↔ (s2 = s ∧ ∃ o4 o5, e = [some (lmD l), some dc, some (stD p), some (stD q), o4, o5, none, none] ∧ ∀ z ∈ enL 0 [p, q], z ∈ r ∨ Wn l z.2) := ⟨_, fun _ _ _ => Iff.rfl⟩
  refine for_rest (ds := enD 0 ([p, q].map stD)) (enL 0 [p, q]) (fun z => .tup [.int (z.1 : Int), stD z.2]) Inv (enD_map [p, q] 0) (lt_fuelZ (by rw [enL_len]; simp [zLine])) ((hI _ _ _).mpr ⟨rfl, _, _, rfl, fun z hz => .inl hz⟩) (fun r e s3 _ => wk_en .tup) ?_ ?_
  · rintro dn ⟨i, x⟩ r e s3 e3 h3
    obtain ⟨rfl, o4, o5, rfl, hd⟩ := (hI _ _ _).mp h3
    have hx : x = p ∨ x = q := by
      have := enL_mem (l := [p, q]) (k := 0) (z := (i, x)) (by rw [e3]; simp)
      simpa using this
    have hxw : x ∈ w := by rcases hx with rfl | rfl <;> assumption
    refine ⟨_, rfl, ?_⟩
    by_cases c : Wn l x
    · simp [h.within hxw, c, dTru]
      refine (hI _ _ _).mpr ⟨rfl, _, _, rfl, fun z hz => ?_⟩
      rcases hd z hz with w | w
      · rcases List.mem_cons.mp w with rfl | w
        · exact .inr c
        · exact .inl w
      · exact .inr w
    · have nf : ¬ FreeLeg l cts p q := fun w => by
        rcases hx with rfl | rfl
        · exact c w.1
        · exact c w.2.1
      simp [h.within hxw, c, dTru]
      exact ⟨.rfl, nf⟩
  · intro e s3 h3
    obtain ⟨rfl, o4, o5, rfl, hd⟩ := (hI _ _ _).mp h3
    have hw1 : Wn l p := (hd (0, p) (by simp [enL])).resolve_left (by simp)
    have hw2 : Wn l q := (hd (1, q) (by simp [enL])).resolve_left (by simp)
    simp [its_some h.dc]
    obtain ⟨Knv, hK⟩ : ∃ Knv : List (Nat × List CK) → En → S → Prop, ∀ r e s6, Knv r e s6 ↔ (Le s3 s6 ∧ ∃ o4 o6 o7, e = [some (lmD l), some dc, some (stD p), some (stD q), o4, o5, o6, o7] ∧ ∀ z ∈ enL 0 cts, z ∈ r ∨ ¬ Bar (lns z.2 p q)) := ⟨_, fun _ _ _ => Iff.rfl⟩
    refine for_rest (ds := enD 0 (cts.map ctD)) (enL 0 cts) (fun z => .tup [.int (z.1 : Int), ctD z.2]) Knv (enD_map cts 0) (lt_fuelZ (by rw [enL_len]; exact Nat.le_trans h.ctl (by decide))) ((hK _ _ _).mpr ⟨.rfl, _, _, _, rfl, fun z hz => .inl hz⟩) ?_ ?_ ?_
    · intro r e s6 h7
      obtain ⟨l6, _⟩ := (hK _ _ _).mp h7
      exact wk_en (h.dc.le l6)
    · rintro dn ⟨k, ct⟩ r' e s6 e6 h7
      obtain ⟨l6, o4, o6, o7, rfl, hd'⟩ := (hK _ _ _).mp h7
      have hct : ct ∈ cts := enL_mem (k := 0) (z := (k, ct)) (by rw [e6]; simp)
      refine ⟨_, rfl, ?_⟩
      simp
      refine cl (span_ok ((h.le l6).lg hct hp hq)) fun v s7 ⟨l7, hv⟩ => ?_
      rcases hv with ⟨rfl, hb⟩ | ⟨lo, hi, rfl, hb⟩
      · simp
        refine (hK _ _ _).mpr ⟨l6.trans l7, _, _, _, rfl, fun z hz => ?_⟩
        rcases hd' z hz with w | w
        · rcases List.mem_cons.mp w with rfl | w
          · exact .inr hb
          · exact .inl w
        · exact .inr w
      · have nf : ¬ FreeLeg l cts p q := fun w => w.2.2 ct hct hb
        simp [items, nf]
        exact ⟨short_of (by simp [zLine]), l6.trans l7⟩
    · intro e s6 h7
      obtain ⟨l6, o4, o6, o7, rfl, hd'⟩ := (hK _ _ _).mp h7
      have yes : FreeLeg l cts p q := ⟨hw1, hw2, fun ct hct => by
        have mem : ∀ (l : List (List CK)) (k : Nat), ct ∈ l → ∃ i, (i, ct) ∈ enL k l := by
          intro l
          induction l with
          | nil => intro k h; simp at h
          | cons a b ih =>
            intro k h
            rcases List.mem_cons.mp h with rfl | h
            · exact ⟨k, by simp [enL]⟩
            · obtain ⟨i, hi⟩ := ih (k + 1) h
              exact ⟨i, by simp [enL, hi]⟩
        obtain ⟨i, hi⟩ := mem cts 0 hct
        exact (hd' _ hi).resolve_left (by simp)⟩
      simp [yes]
      exact l6
end
end Ev
set_option maxHeartbeats 1000000
set_option exponentiation.threshold 20000
namespace Ev
open PySem PySem.Spec PyProof.Rows L2
noncomputable instance {l : List (Int × Int)} {cts : List (List CK)} {p q : List Rat} : Decidable (FreeLeg l cts p q) := Classical.propDecidable _
def pt (w : List (List Rat)) (i : Nat) : List Rat := w.getD i []
noncomputable def firstN (l : List (Int × Int)) (cts : List (List CK)) (w : List (List Rat)) : Option Nat := (List.range (w.length - 2)).find? fun i => decide (FreeLeg l cts (pt w i) (pt w (i + 2)))
def nD : Option Nat → D
  | some i => .int (1 + (i : Int))
  | none => .non
noncomputable def mlF (l : List (Int × Int)) (cts : List (List CK)) : Nat → List (List Rat) → List (List Rat)
  | 0, w => w
  | n + 1, w => match firstN l cts w with
    | some i => mlF l cts n (w.eraseIdx (i + 1))
    | none => w
section
variable {s : S} {n kf kp : Nat} {l : List (Int × Int)} {cts : List (List CK)} {w : List (List Rat)} {dc d : D} {p q : List Rat}
theorem pt_mem {i : Nat} (h : i < w.length) : pt w i ∈ w := by
  unfold pt
  rw [← getD_eq h]
  exact List.getElem_mem h
theorem wy_get {i : Nat} (h : i < w.length) : dIdx (wyD w) (.int (i : Int)) s = .ok (stD (pt w i)) s := its_getD (f := stD) .tup h
theorem firstN_lt {i : Nat} (h : firstN l cts w = some i) : i + 2 < w.length ∧ FreeLeg l cts (pt w i) (pt w (i + 2)) := by
  unfold firstN at h
  have h1 := List.mem_of_find?_eq_some h
  have h2 := List.find?_some h
  rw [List.mem_range] at h1
  exact ⟨by omega, of_decide_eq_true h2⟩
theorem first_needless_ok (h : Ws s n kf kp l cts w dc) : (f_first_needless [lmD l, dc, wyD w] s).wp (fun v s' => Le s s' ∧ v = nD (firstN l cts w)) NoE := by
  have e : bLen [wyD w] s = .ok (.int w.length) s := by simp [wyD]
  have hwl := h.wl
  simp [f_first_needless, b_first_needless, e]
  have e62 : w62 ((w.length : Int) - 1) = true := by
    unfold w62; simp only [Bool.and_eq_true, decide_eq_true_eq]; omega
  refine ⟨w62_nat (i := 1) (by decide), e62, ?_⟩
  have em : w.length - 1 - 1 = w.length - 2 := by omega
  rw [em]
  obtain ⟨Inv, hI⟩ : ∃ Inv : List Nat → En → S → Prop, ∀ r e s2, Inv r e s2 ↔ (Le s s2 ∧ ∃ o3, e = [some (lmD l), some dc, some (wyD w), o3] ∧ ∀ dn, List.range (w.length - 2) = dn ++ r → ∀ i ∈ dn, ¬ FreeLeg l cts (pt w i) (pt w (i + 2))) := ⟨_, fun _ _ _ => Iff.rfl⟩
  refine for_rest (ds := rgD 1 (w.length - 2)) (List.range (w.length - 2)) (fun (i : Nat) => D.int (1 + (i : Int))) Inv rfl (lt_fuelZ (by simp [zLine]; omega)) ((hI _ _ _).mpr ⟨.rfl, _, rfl, fun dn hdn i hi => ?_⟩) (fun r e s3 _ => wk_rg) ?_ ?_
  · have : dn = [] := by simpa using hdn
    subst this; simp at hi
  · intro dn i r e s2 e2 h2
    obtain ⟨l2, o3, rfl, hd⟩ := (hI _ _ _).mp h2
    have hi : i < w.length - 2 := by
      have : i ∈ List.range (w.length - 2) := by rw [e2]; simp
      simpa using this
    have k1 : (1 : Int) + (i : Int) - 1 = (i : Int) := by omega
    have k2 : (1 : Int) + (i : Int) + 1 = ((i + 2 : Nat) : Int) := by omega
    have hdn := hd dn e2
    refine ⟨_, to_nm, ?_⟩
    have g1 : ∀ s, dIdx (wyD w) (.int ((1 : Int) + (i : Int) - 1)) s = .ok (stD (pt w i)) s := fun s => by rw [k1]; exact wy_get (by omega)
    have g2 : ∀ s, dIdx (wyD w) (.int ((1 : Int) + (i : Int) + 1)) s = .ok (stD (pt w (i + 2))) s := fun s => by rw [k2]; exact wy_get (by omega)
    simp [g1, g2]
    refine cl (leg_fault_ok (h.le l2) (pt_mem (i := i) (by omega)) (pt_mem (i := i + 2) (by omega))) fun v s3 ⟨l3, hv⟩ => ?_
    rcases hv with ⟨hf, rfl⟩ | ⟨hf, ds, rfl⟩
    · refine .inr ⟨rfl, l2.trans l3, ?_⟩
      have : firstN l cts w = some i := by
        unfold firstN
        rw [e2, List.find?_append]
        have : dn.find? (fun i => decide (FreeLeg l cts (pt w i) (pt w (i + 2)))) = none := by
          rw [List.find?_eq_none]
          intro x hx
          simpa using hdn x hx
        rw [this]
        simp [hf]
      rw [this]; rfl
    · refine .inl ⟨rfl, (hI _ _ _).mpr ⟨l2.trans l3, _, rfl, fun dn' hdn' j hj => ?_⟩⟩
      have : dn' = dn ++ [i] := by
        have hh : dn' ++ r = (dn ++ [i]) ++ r := by rw [← hdn', e2]; simp
        exact List.append_cancel_right hh
      subst this
      rcases List.mem_append.mp hj with hj | hj
      · exact hdn j hj
      · simp at hj; subst hj; exact hf
  · intro e s2 h2
    obtain ⟨l2, o3, rfl, hd⟩ := (hI _ _ _).mp h2
    simp
    refine ⟨l2, ?_⟩
    have : firstN l cts w = none := by
      unfold firstN
      rw [List.find?_eq_none]
      intro x hx
      simpa using hd _ (List.append_nil _).symm x hx
    rw [this]; rfl
theorem is_lean_way_ok (h : Ws s n kf kp l cts w dc) : (f_is_lean_way [lmD l, dc, wyD w] s).wp (fun v s' => Le s s' ∧ v = .bl (firstN l cts w).isNone) NoE := by
  simp [f_is_lean_way, b_is_lean_way]
  refine cl (first_needless_ok h) fun v s1 ⟨l1, e1⟩ => ?_
  subst e1
  cases firstN l cts w <;> exact ⟨l1, rfl⟩
theorem eraseIdx_sub {i : Nat} : ∀ p ∈ w.eraseIdx i, p ∈ w := fun p hp => List.mem_of_mem_eraseIdx hp
theorem mlF_sub {x : List Rat} : ∀ (m : Nat) (w : List (List Rat)), x ∈ mlF l cts m w → x ∈ w
  | 0, _, h => h
  | m + 1, w, h => by
    unfold mlF at h
    split at h
    · exact eraseIdx_sub _ (mlF_sub m _ h)
    · exact h
theorem mlF_len : ∀ (m : Nat) (w : List (List Rat)), (mlF l cts m w).length ≤ w.length
  | 0, _ => Nat.le_refl _
  | m + 1, w => by
    unfold mlF
    split
    · rename_i i e
      have h1 := firstN_lt e
      have h2 := mlF_len m (w.eraseIdx (i + 1))
      rw [List.length_eraseIdx_of_lt (by omega)] at h2
      omega
    · exact Nat.le_refl _
theorem made_lean_ok (h : Ws s n kf kp l cts w dc) : (f_made_lean [lmD l, dc, wyD w] s).wp (fun v s' => Le s s' ∧ v = wyD (mlF l cts w.length w)) NoE := by
  simp [f_made_lean, b_made_lean]
  refine cl (first_needless_ok h) fun v s1 ⟨l1, e1⟩ => ?_
  subst e1
  obtain ⟨Inv, hI⟩ : ∃ Inv : Nat → En → S → Prop, ∀ m e s2, Inv m e s2 ↔ (Le s s2 ∧ ∃ w' : List (List Rat), e = [some (lmD l), some dc, some (wyD w'), some (nD (firstN l cts w'))] ∧ w'.length = m ∧ (∀ p ∈ w', p ∈ w) ∧ w'.length ≤ 1000 ∧ mlF l cts m w' = mlF l cts w.length w) := ⟨_, fun _ _ _ => Iff.rfl⟩
  refine wh_wp2 (m := w.length) Inv (lt_fuelZ (Nat.le_trans h.wl (by decide))) ((hI _ _ _).mpr ⟨l1, w, rfl, rfl, fun p hp => hp, h.wl, rfl⟩) ?_
  intro m e s2 h2
  obtain ⟨l2, w', rfl, hm, hsub, hwl, heq⟩ := (hI _ _ _).mp h2
  cases hf : firstN l cts w' with
  | none =>
    right
    refine ⟨eq_of_wpB ?_, ?_⟩
    · simp [nD]
    · simp
      refine ⟨l2, ?_⟩
      rw [← heq]
      cases m with
      | zero => rfl
      | succ m => unfold mlF; rw [hf]
  | some i =>
    left
    obtain ⟨hlt, hfree⟩ := firstN_lt hf
    have hn : dNotN (.int (1 + (i : Int))) s2 = .ok (.bl true) s2 := rfl
    refine ⟨eq_of_wpB (by simp [nD, hn]), ?_⟩
    have c1 : cutD (w'.map stD) none (some (1 + (i : Int))) = (w'.take (i + 1)).map stD := by
      have e1 : (1 : Int) + (i : Int) = ((i + 1 : Nat) : Int) := by omega
      unfold cutD
      rw [e1, HT.sIx_nat, HT.sIx_none]
      simp
    have c2 : cutD (w'.map stD) (some (1 + (i : Int) + 1)) none = (w'.drop (i + 2)).map stD := by
      have e1 : (1 : Int) + (i : Int) + 1 = ((i + 2 : Nat) : Int) := by omega
      unfold cutD
      rw [e1, HT.sIx_nat, HT.sIx_none]
      simp only [List.length_map]
      rw [Nat.min_eq_left (by omega), ← List.map_drop, List.take_of_length_le (by simp)]
    have hlen : (w'.eraseIdx (i + 1)).length = w'.length - 1 := List.length_eraseIdx_of_lt (by omega)
    have hcat : List.take (i + 1) (w'.map stD) ++ List.drop (i + 2) (w'.map stD) = (w'.eraseIdx (i + 1)).map stD := by
      rw [← List.map_take, ← List.map_drop, ← List.map_append, List.eraseIdx_eq_take_drop_succ]
    have hshort : short zLine ((w'.eraseIdx (i + 1)).map stD) = true := short_of (by simp; unfold zLine; omega)
    have hsub' : ∀ p ∈ w'.eraseIdx (i + 1), p ∈ w := fun p hp => hsub p (eraseIdx_sub p hp)
    simp [nD, wyD, c1, c2]
    rw [hcat]
    refine ⟨hshort, ?_⟩
    refine cl (first_needless_ok ((h.le l2).sub hsub' (by omega))) fun v s3 ⟨l3, e3⟩ => ?_
    subst e3
    refine ⟨m - 1, by omega, (hI _ _ _).mpr ⟨l2.trans l3, w'.eraseIdx (i + 1), rfl, by omega, hsub', by omega, ?_⟩⟩
    rw [← heq]
    obtain ⟨m', rfl⟩ : ∃ m', m = m' + 1 := ⟨m - 1, by omega⟩
    show mlF l cts m' (w'.eraseIdx (i + 1)) = mlF l cts (m' + 1) w'
    conv => rhs; unfold mlF
    rw [hf]
end
end Ev
set_option maxHeartbeats 1000000
set_option exponentiation.threshold 20000
namespace Ev
open PySem PySem.Spec PyProof.Rows L2
def atM (t : Rat) (p q : List Rat) : List Rat := (p.zip q).map fun z => z.1 + (z.2 - z.1) * t
theorem dot_at (t : Rat) : ∀ (f : List Int) (p q : List Rat), p.length = q.length → dot (f.zip (atM t p q)) = dot (f.zip p) + (dot (f.zip q) - dot (f.zip p)) * t
  | [], _, _, _ => by simp [dot]; grind
  | _ :: _, [], [], _ => by simp [dot, atM]; grind
  | a :: f, x :: p, y :: q, h => by
    have ih := dot_at t f p q (by simpa using h)
    unfold atM at *
    simp only [List.zip_cons_cons, List.map_cons, dot, ih]
    grind
theorem fv_at {t : Rat} {f : List Int} {p q : List Rat} (h : p.length = q.length) : fv f (atM t p q) = fv f p + (fv f q - fv f p) * t := by
  cases f with
  | nil => simp [fv]; grind
  | cons c f => simp only [fv, dot_at t f p q h]; grind
theorem sl_at {t : Rat} {k : CK} {p q : List Rat} (h : p.length = q.length) : sl (atM t p q) k = lv t (sl p k, sl q k) := by
  unfold sl lv
  rw [fv_at h]
  grind
section
variable {s : S} {n kf kp kt : Nat} {p q : List Rat} {t : Rat}
theorem atM_len (h : p.length = q.length) : (atM t p q).length = p.length := by simp [atM, h]
theorem at_moment_ok (hp : PSz kp p) (hq : PSz kp q) (ht : SzR kt t) (hk : 3 * kp + kt + 2 ≤ 4000) (hl : p.length ≤ 1000) : (f__law_at_moment [stD p, stD q, rD t] s).wp (fun v s' => Le s s' ∧ v = stD (atM t p q) ∧ PSz (3 * kp + kt + 2) (atM t p q)) NoE := by
  simp [f__law_at_moment, b__law_at_moment, wipeE]
  refine ⟨⟨rfl, rfl⟩, ?_⟩
  refine lc_map (p.zip q) (fun z => .tup [rD z.1, rD z.2]) (fun z => rD (z.1 + (z.2 - z.1) * t)) (ds := zipD (p.map rD) (q.map rD)) (zipD_map _ _) (by simp; unfold zLine; omega) (fun s' l => wk_z .tup .tup (by simp)) ?_ ?_
  · rintro ⟨x, y⟩ hz s2 l2
    have hm := zip_mem hz
    have zx := hp x hm.1
    have zy := hq y hm.2
    have e1 := law_minus_eq (s := s2) zy zx (by omega)
    have e2 := law_times_eq (s := s2) (zy.sub zx) ht (by omega)
    have e3 := law_plus_eq (s := s2) zx ((zy.sub zx).mul ht) (by omega)
    refine ⟨_, rfl, ?_⟩
    simp [e1, e2, e3]
    exact .rfl
  · intro q2 s2 l2 _ h2
    simp [tuple_ok h2]
    refine ⟨l2, by simp [stD, atM, Function.comp_def], fun x hx => ?_⟩
    obtain ⟨z, hz, rfl⟩ := List.mem_map.mp hx
    have hm := zip_mem hz
    exact ((hp _ hm.1).add (((hq _ hm.2).sub (hp _ hm.1)).mul ht)).mono (by omega)
/-! moments -/
def pr (z : Rat × Rat) : D := .tup [rD z.1, rD z.2]
theorem eqv_pR {x y : Rat} : PyData.eqv (pR x) (pR y) = decide (x = y) := by
  unfold pR
  simp only [PyData.eqv, PyData.eqvAll, Bool.and_true]
  by_cases h : x = y
  · subst h; simp
  · have : ¬ (x.num = y.num ∧ x.den = y.den) := fun w => h (Rat.ext w.1 w.2)
    simp [h]
    intro e1 e2
    exact this ⟨e1, by omega⟩
theorem notIn_ok {qf : Ps} {fl : List Rat} (h : Has s qf (.lst (fl.map rD))) : dNi (rD t) (.ref qf) s = .ok (.bl (decide (t ∉ fl))) s := by
  have e1 : toQ s (rD t) = some (pR t) := toP_rD (n := 38)
  have e2 : toQ s (.ref qf) = some (.list (fl.map pR)) := toP_lst (n := 39) h (mapO_map fun _ _ => toP_rD (n := 37))
  have e3 : ((fl.map pR).any fun y => y.eqv (pR t)) = decide (t ∈ fl) := by
    rw [Bool.eq_iff_iff, List.any_eq_true, decide_eq_true_iff]
    constructor
    · rintro ⟨y, hy, e⟩
      obtain ⟨x, hx, rfl⟩ := List.mem_map.mp hy
      rw [eqv_pR] at e
      have := of_decide_eq_true e
      subst this; exact hx
    · intro hx
      exact ⟨pR t, List.mem_map.mpr ⟨t, hx, rfl⟩, by rw [eqv_pR]; simp⟩
  simp only [dNi, h.get, onP, e1, e2, pNi, e3]
  congr 2
  by_cases c : t ∈ fl <;> simp [c]
end
end Ev
set_option maxHeartbeats 1000000
set_option exponentiation.threshold 20000
namespace Ev
open PySem PySem.Spec PyProof.Rows L2
theorem map_getD_range {α : Type} {d : α} : ∀ l : List α, (List.range l.length).map (fun i => l.getD i d) = l := fun l => by
  refine List.ext_getElem (by simp) fun i h1 h2 => ?_
  simp [List.getD, h2]
/-- the moments found -/
structure MoF (A : Nat) (rs : List (Rat × Rat)) (r : List (Rat × Rat)) (fl : List Rat) : Prop where
  m0 : (0 : Rat) ∈ fl
  m1 : (1 : Rat) ∈ fl
  all : ∀ m ∈ fl, (0 ≤ m ∧ m ≤ 1) ∧ SzR (6 * A + 4) m
  nd : fl.Nodup
  len : fl.length + r.length ≤ 2 + rs.length
  cp : ∀ z ∈ rs, z ∈ r ∨ (z.1 ≠ z.2 → 0 ≤ z.1 / (z.1 - z.2) → z.1 / (z.1 - z.2) ≤ 1 → z.1 / (z.1 - z.2) ∈ fl)
section
variable {s : S} {n kf kp : Nat} {ct : List CK} {p q : List Rat} {dp dq : D}
theorem Lg.la (h : Lg s n kf kp ct p q dp dq) : (f__law_slack_list [ctD ct, dp] s).wp (fun v s' => Le s s' ∧ Its s' v ((ct.map (sl p)).map rD)) NoE :=
  law_slack_list_ok h.p1 h.bd.1 (by rw [h.pl]; exact h.cto) h.ps (by rw [h.pl]; exact h.bd.vs) (by rw [h.pl]; exact h.bd.2.1) (Nat.le_trans h.ln (by decide))
theorem Lg.lb (h : Lg s n kf kp ct p q dp dq) : (f__law_slack_list [ctD ct, dq] s).wp (fun v s' => Le s s' ∧ Its s' v ((ct.map (sl q)).map rD)) NoE :=
  law_slack_list_ok h.q1 h.bd.1 (by rw [h.ql]; exact h.cto) h.qs (by rw [h.ql]; exact h.bd.vs) (by rw [h.ql]; exact h.bd.2.1) (Nat.le_trans h.ln (by decide))
/-- one turn of what is found -/
theorem MoF.step {A : Nat} {rs r : List (Rat × Rat)} {z : Rat × Rat} {fl : List Rat} (h : MoF A rs (z :: r) fl) (hin : (z.1 ≠ z.2 → 0 ≤ z.1 / (z.1 - z.2) → z.1 / (z.1 - z.2) ≤ 1 → z.1 / (z.1 - z.2) ∈ fl)) : MoF A rs r fl :=
  ⟨h.m0, h.m1, h.all, h.nd, by have := h.len; simp at this; omega, fun w hw => by
    rcases h.cp w hw with c | c
    · rcases List.mem_cons.mp c with rfl | c
      · exact .inr hin
      · exact .inl c
    · exact .inr c⟩
theorem MoF.add {A : Nat} {rs r : List (Rat × Rat)} {z : Rat × Rat} {fl : List Rat} {t : Rat} (h : MoF A rs (z :: r) fl) (ht : 0 ≤ t ∧ t ≤ 1) (hs : SzR (6 * A + 4) t) (hn : t ∉ fl) (hin : z.1 ≠ z.2 → z.1 / (z.1 - z.2) = t) : MoF A rs r (fl ++ [t]) :=
  ⟨by simp [h.m0], by simp [h.m1], fun m hm => by
    rcases List.mem_append.mp hm with hm | hm
    · exact h.all m hm
    · simp at hm; subst hm; exact ⟨ht, hs⟩, by
    rw [List.nodup_append]
    refine ⟨h.nd, by simp, fun a ha b hb => ?_⟩
    simp at hb; subst hb
    exact fun e => hn (e ▸ ha), by have := h.len; simp at this ⊢; omega, fun w hw => by
    rcases h.cp w hw with c | c
    · rcases List.mem_cons.mp c with rfl | c
      · exact .inr fun h1 _ _ => by rw [hin h1]; simp
      · exact .inl c
    · exact .inr fun h1 h2 h3 => List.mem_append.mpr (.inl (c h1 h2 h3))⟩
/-- the part of law_moments that finds them -/
theorem find_turn {A : Nat} (hA : 10 * A + 30 ≤ 4000) {rs r : List (Rat × Rat)} {z : Rat × Rat} {fl : List Rat} (h : MoF A rs (z :: r) fl) (hz : SzR (2 * A + 1) z.1 ∧ SzR (2 * A + 1) z.2) (hlen : rs.length ≤ 100000) {pf : Ps} (hH : Has s pf (.lst (fl.map rD))) {d0 d1 d2 d3 d4 d6 : Option D} {o7 o8 o11 o12 o13 : Option D} {Q : EQ}
    (k : ∀ o11 o12 fl' s', MoF A rs r fl' → (s' = s ∧ fl' = fl ∨ ∃ t, s' = s.set pf (.lst (fl'.map rD)) ∧ fl' = fl ++ [t]) → Q.nx [d0, d1, d2, d3, d4, some (.ref pf), d6, o7, o8, some (rD z.1), some (rD z.2), o11, o12, o13] s') :
    ((cSeq (cAs (.nm 11) (cDef f__law_minus 2 (cCons (cVar 9) (cCons (cVar 10) (cNil))))) (cSeq (cAs (.nm 12) (cIfE (cTst (cBin (onP pNe) (cBin dIdx (cVar 11) (cCst (.int 0))) (cCst (.int 0)))) (cDef f__law_least 2 (cCons (cBin dMul (cBin dIdx (cVar 9) (cCst (.int 0))) (cBin dIdx (cVar 11) (cCst (.int 1)))) (cCons (cBin dMul (cBin dIdx (cVar 9) (cCst (.int 1))) (cBin dIdx (cVar 11) (cCst (.int 0)))) (cNil)))) (cTup (cCons (cCst (.int 0)) (cCons (cCst (.int 1)) (cNil)))))) (cIf (cAndT (cNotT (cTru (cDef f__law_is_below 2 (cCons (cVar 12) (cCons (cTup (cCons (cCst (.int 0)) (cCons (cCst (.int 1)) (cNil)))) (cNil)))))) (cAndT (cNotT (cTru (cDef f__law_is_below 2 (cCons (cTup (cCons (cCst (.int 1)) (cCons (cCst (.int 1)) (cNil)))) (cCons (cVar 12) (cNil)))))) (cTst (cBin dNi (cVar 12) (cVar 5))))) (cDrop (cM (mL gApp) (cVar 5) (cCons (cVar 12) (cNil)))) (cPass)))) [d0, d1, d2, d3, d4, some (.ref pf), d6, o7, o8, some (rD z.1), some (rD z.2), o11, o12, o13] s).wp Q := by
  obtain ⟨a, b⟩ := z
  obtain ⟨za, zb⟩ := hz
  have e1 := law_minus_eq (s := s) za zb (by omega)
  have zr := za.sub zb
  have e0 : ∀ x : Rat, dIdx (rD x) (.int 0) s = .ok (.int x.num) s := fun x => v_i0
  have e0' : ∀ x : Rat, dIdx (rD x) (.int 1) s = .ok (.int (x.den : Int)) s := fun x => v_i1
  -- the moment
  obtain ⟨t, htn, hts, hex⟩ : ∃ t : Rat, (a ≠ b → a / (a - b) = t) ∧ SzR (6 * A + 4) t ∧ ((cIfE (cTst (cBin (onP pNe) (cBin dIdx (cVar 11) (cCst (.int 0))) (cCst (.int 0)))) (cDef f__law_least 2 (cCons (cBin dMul (cBin dIdx (cVar 9) (cCst (.int 0))) (cBin dIdx (cVar 11) (cCst (.int 1)))) (cCons (cBin dMul (cBin dIdx (cVar 9) (cCst (.int 1))) (cBin dIdx (cVar 11) (cCst (.int 0)))) (cNil)))) (cTup (cCons (cCst (.int 0)) (cCons (cCst (.int 1)) (cNil))))) [d0, d1, d2, d3, d4, some (.ref pf), d6, o7, o8, some (rD a), some (rD b), some (rD (a - b)), o12, o13] s) = .ok (rD t) s := by
    by_cases c : a - b = 0
    · refine ⟨0, fun w => absurd (by grind) w, (SzR.int (i := 0) (a := 1) (szI_lit (by decide)) (by decide)).mono (by omega), eq_of_wp ?_⟩
      have : (a - b).num = 0 := Rat.num_eq_zero.mpr c
      simp [e0, this, rD_0]
    · refine ⟨a / (a - b), fun _ => rfl, (za.div zr).mono (by omega), eq_of_wp ?_⟩
      have hn := num_ne c
      have hden : SzI 8999 ((a.den : Int) * (a - b).num) := (za.deni.mul zr.num).mono (by omega)
      have e2 := law_least_eq (s := s) (a := a.num * (a - b).den) (b := (a.den : Int) * (a - b).num) (Int.mul_ne_zero (dne a) hn) hden
      rw [← div_divInt] at e2
      simp [e0, e0', hn, mulB_of za.num zr.deni (by omega), mulB_of za.deni zr.num (by omega), e2]
  rw [q_seq]
  simp only [q_as, q_def, q_cons, q_nil, q_var, List.getElem?_cons_zero, List.getElem?_cons_succ, q_rd, q_ok]
  refine ⟨rfl, ?_⟩
  rw [e1]
  refine ⟨_, to_nm, ?_⟩
  simp only [sq_nx, List.set_cons_zero, List.set_cons_succ]
  rw [q_seq]
  simp only [q_as]
  rw [hex]
  refine ⟨_, to_nm, ?_⟩
  simp only [sq_nx, List.set_cons_zero, List.set_cons_succ]
  have b1 := law_below_eq (s := s) hts (SzR.int (i := 0) (a := 1) (szI_lit (by decide)) (by decide)) (by omega)
  have b2 := law_below_eq (s := s) (SzR.int (i := 1) (a := 1) (szI_lit (by decide)) (by decide)) hts (by omega)
  rw [rD_int] at b1 b2
  have hkeep : ∀ {X : Prop}, (X → a ≠ b → 0 ≤ a / (a - b) → a / (a - b) ≤ 1 → a / (a - b) ∈ fl) → X → Q.nx [d0, d1, d2, d3, d4, some (.ref pf), d6, o7, o8, some (rD a), some (rD b), some (rD (a - b)), some (rD t), o13] s := fun w x => k _ _ fl s (h.step (w x)) (.inl ⟨rfl, rfl⟩)
  by_cases c1 : t < 0
  · simp [b1, dTru, c1]
    exact hkeep (X := True) (fun _ w g _ => by rw [htn w] at g; grind) trivial
  · by_cases c2 : 1 < t
    · simp [b1, b2, dTru, c1, c2]
      exact hkeep (X := True) (fun _ w _ g => by rw [htn w] at g; grind) trivial
    · by_cases c3 : t ∈ fl
      · simp [b1, b2, dTru, c1, c2, notIn_ok hH, c3]
        exact hkeep (X := True) (fun _ w _ _ => by rw [htn w]; exact c3) trivial
      · have hl := h.len
        simp [b1, b2, dTru, c1, c2, notIn_ok hH, c3, isL_ok hH, append_ok hH (x := rD t) (by simp at hl ⊢; unfold zLine; omega)]
        refine k _ _ (fl ++ [t]) _ (h.add ⟨by grind, by grind⟩ hts c3 htn) (.inr ⟨t, by rw [List.map_append]; rfl, rfl⟩)
end
end Ev
set_option maxHeartbeats 1000000
set_option exponentiation.threshold 20000
namespace Ev
open PySem PySem.Spec PyProof.Rows L2
theorem asc_add {wl : List Rat} {m : Rat} (h : Asc wl) (hm : ∀ x ∈ wl, x < m) : Asc (wl ++ [m]) := by
  intro i j hi hj hij
  simp only [List.length_append, List.length_singleton] at hi hj
  rw [List.getElem_append_left (by omega)]
  by_cases c : j < wl.length
  · rw [List.getElem_append_left c]
    exact h i j _ c hij
  · have : j = wl.length := by omega
    subst this
    rw [List.getElem_append_right (Nat.le_refl _)]
    simp
    exact hm _ (List.getElem_mem _)
theorem erase_at {rl : List Rat} {m : Rat} (nd : rl.Nodup) {j : Nat} (hj : j < rl.length) (e : rl[j] = m) : (rl.eraseIdx j).Nodup ∧ ∀ x, x ∈ rl.eraseIdx j ↔ x ∈ rl ∧ x ≠ m := by
  refine ⟨nd.sublist (List.eraseIdx_sublist _ _), fun x => ?_⟩
  rw [List.mem_eraseIdx_iff_getElem]
  constructor
  · rintro ⟨i, hi, hij, rfl⟩
    refine ⟨List.getElem_mem _, fun w => hij ?_⟩
    rw [← e] at w
    exact (List.getElem_inj nd).mp w
  · rintro ⟨hx, hne⟩
    obtain ⟨i, hi, rfl⟩ := List.getElem_of_mem hx
    exact ⟨i, hi, fun w => by subst w; exact hne e, rfl⟩
section
variable {s : S} {n kf kp : Nat} {ct : List CK} {p q : List Rat} {dp dq : D}
theorem remove_ok {pr_ : Ps} {rl : List Rat} {m : Rat} (h : Has s pr_ (.lst (rl.map rD))) (hm : m ∈ rl) (hl : rl.length ≤ zLine) : ∃ j, ∃ hj : j < rl.length, rl[j] = m ∧ mL gRem (.ref pr_) [rD m] s = .ok .non (s.set pr_ (.lst ((rl.eraseIdx j).map rD))) := by
  have e1 : toQ s (rD m) = some (pR m) := toP_rD (n := 38)
  have e2 : mapO (toQ s) (rl.map rD) = some (rl.map pR) := mapO_map fun _ _ => toP_rD (n := 38)
  cases hf : SeqAt.dataPlace (rl.map pR) (pR m) with
  | none =>
    unfold SeqAt.dataPlace at hf
    rw [List.findIdx?_eq_none_iff] at hf
    have := hf (pR m) (List.mem_map.mpr ⟨m, hm, rfl⟩)
    rw [eqv_pR] at this; simp at this
  | some j =>
    have hf' := hf
    unfold SeqAt.dataPlace at hf'
    rw [List.findIdx?_eq_some_iff_getElem] at hf'
    obtain ⟨hj, g1, _⟩ := hf'
    have hj' : j < rl.length := by simpa using hj
    refine ⟨j, hj', ?_, ?_⟩
    · rw [List.getElem_map, eqv_pR] at g1
      exact of_decide_eq_true g1
    · have hs : short zLine (rl.map rD) = true := short_of (by simpa using hl)
      simp only [mL, h.get, onL, gRem, e1, e2, hf, hs, if_true]
      congr 3
      simp [List.eraseIdx_eq_take_drop_succ]
theorem list_ok {d : D} {xs : List D} (h : Its s d xs) : bList [d] s = .ok (.ref s.n) (s.push (.lst xs)) := by
  simp only [bList, h.items]
/-- the rows of pairs that the law looks at -/
theorem moments_ok (h : Lg s n kf kp ct p q dp dq) (hn : ct.length ≤ 63) : (f__law_moments [ctD ct, dp, dq] s).wp (fun v s' => Le s s' ∧ ∃ row : List Rat, Its s' v (row.map rD) ∧ Asc row ∧ (0 : Rat) ∈ row ∧ (1 : Rat) ∈ row ∧ (∀ x ∈ row, (0 ≤ x ∧ x ≤ 1) ∧ SzR (6 * AS n kf kp + 4) x) ∧ row.length ≤ 10000 ∧ ∀ z ∈ lns ct p q, z.1 ≠ z.2 → 0 ≤ z.1 / (z.1 - z.2) → z.1 / (z.1 - z.2) ≤ 1 → z.1 / (z.1 - z.2) ∈ row) NoE := by
  simp [f__law_moments, b__law_moments]
  refine cl h.la fun v1 s1 ⟨l1, i1⟩ => ?_
  refine cl (h.le l1).lb fun v2 s2 ⟨l2, i2⟩ => ?_
  have i1 := i1.le l2
  have hA := h.as
  have szl : ∀ z ∈ lns ct p q, SzR (AS n kf kp) z.1 ∧ SzR (AS n kf kp) z.2 := fun z => h.lsz
  have sza : ∀ (i : Nat) (hi : i < ct.length), SzR (AS n kf kp) (sl p ct[i]) := fun i hi => h.sa (List.getElem_mem hi)
  have szb : ∀ (i : Nat) (hi : i < ct.length), SzR (AS n kf kp) (sl q ct[i]) := fun i hi => h.sb (List.getElem_mem hi)
  generalize AS n kf kp = A at *
  have hlns : (lns ct p q).length = ct.length := by simp [lns]
  have hF0 : Has (s2.push (.lst [rD 0, rD 1])) s2.n (.lst (([0, 1] : List Rat).map rD)) := .push
  have hL0 : Le s2 (s2.push (.lst [rD 0, rD 1])) := .push
  simp only [rD_0, rD_1] at hF0 hL0
  have i1 := i1.le hL0
  have i2 := i2.le hL0
  have l12 := l1.trans (l2.trans hL0)
  have hpf : s.n.nat ≤ s2.n.nat := (l1.trans l2).n
  generalize s2.push (.lst [D.tup [D.int 0, D.int 1], D.tup [D.int 1, D.int 1]]) = s3 at *
  generalize s2.n = pf at *
  simp [its_len i1, wipeE]
  refine ⟨w62_nat (by omega), ?_⟩
  refine lc_map (List.range ct.length) (fun (i : Nat) => D.int (i : Int)) (fun i => pr ((lns ct p q).getD i (0, 0))) rgD_eq (by simp [zLine]; omega) (fun s' _ => wk_rg) ?_ ?_
  · intro i hi s4 l4
    have hi : i < ct.length := by simpa using hi
    have ia := i1.le l4
    have ib := i2.le l4
    rw [List.map_map] at ia ib
    have g1 := its_get ia hi
    have g2 := its_get ib hi
    simp only [Function.comp] at g1 g2
    refine ⟨_, rfl, ?_⟩
    have e : (lns ct p q).getD i (0, 0) = (sl p ct[i], sl q ct[i]) := by
      rw [← getD_eq (by rw [hlns]; exact hi)]; simp [lns]
    rw [e]
    simp [g1, g2]
    exact ⟨rfl, .rfl⟩
  intro q4 s4 l4 hq4 hR4
  have hR4 : Has s4 q4 (.lst ((lns ct p q).map pr)) := by
    have := map_getD_range (d := ((0 : Rat), (0 : Rat))) (lns ct p q)
    rw [hlns] at this
    rw [← this, List.map_map]
    exact hR4
  simp [its_len (i1.le l4)]
  refine ⟨w62_nat (by omega), ?_⟩
  obtain ⟨Inv, hI⟩ : ∃ Inv : List Nat → En → S → Prop, ∀ r e s5, Inv r e s5 ↔ (Le s3 s5 ∧ ∃ (q6 : Ps) (rs : List (Rat × Rat)) (o7 : Option D), e = [some (ctD ct), some dp, some dq, some v1, some v2, some (.ref pf), some (.ref q6), o7, none, none, none, none, none, none] ∧ s3.n.nat ≤ q6.nat ∧ Has s5 q6 (.lst (rs.map pr)) ∧ (∀ z ∈ lns ct p q, z ∈ rs) ∧ (∀ z ∈ rs, SzR (2 * A + 1) z.1 ∧ SzR (2 * A + 1) z.2) ∧ rs.length + 63 * r.length ≤ 63 + 63 * 63) := ⟨_, fun _ _ _ => Iff.rfl⟩
  refine for_rest (ds := rgD 0 ct.length) (List.range ct.length) (fun (i : Nat) => D.int (i : Int)) Inv rgD_eq (lt_fuelZ (by simp [zLine]; omega)) ((hI _ _ _).mpr ⟨l4, q4, lns ct p q, none, rfl, hq4, hR4, fun z hz => hz, fun z hz => ⟨(szl z hz).1.mono (by omega), (szl z hz).2.mono (by omega)⟩, by simp; omega⟩) (fun r e s3 _ => wk_rg) ?_ ?_
  · intro dn i r e s5 e5 h5
    obtain ⟨l5, q6, rs, o7, rfl, hq6, hR5, hin, hsz, hln⟩ := (hI _ _ _).mp h5
    have hi : i < ct.length := by
      have : i ∈ List.range ct.length := by rw [e5]; simp
      simpa using this
    refine ⟨_, rfl, ?_⟩
    simp [w62_nat (i := i) (by omega), wipeE]
    refine lc_map (List.range i) (fun (i : Nat) => D.int (i : Int)) (fun j => pr (sl p (ct.getD i ([], 0)) - sl p (ct.getD j ([], 0)), sl q (ct.getD i ([], 0)) - sl q (ct.getD j ([], 0)))) rgD_eq (by simp [zLine]; omega) (fun s' _ => wk_rg) ?_ ?_
    · intro j hj s6 l6
      have hj : j < i := by simpa using hj
      have hjc : j < ct.length := by omega
      have ia := i1.le (l5.trans l6)
      have ib := i2.le (l5.trans l6)
      rw [List.map_map] at ia ib
      have g1 := its_get ia hi
      have g2 := its_get ia hjc
      have g3 := its_get ib hi
      have g4 := its_get ib hjc
      simp only [Function.comp] at g1 g2 g3 g4
      have m1 := law_minus_eq (s := s6) (sza i hi) (sza j hjc) (by omega)
      have m2 := law_minus_eq (s := s6) (szb i hi) (szb j hjc) (by omega)
      refine ⟨_, rfl, ?_⟩
      rw [← getD_eq (d := (([], 0) : CK)) hi, ← getD_eq (d := (([], 0) : CK)) hjc]
      simp [g1, g2, g3, g4, m1, m2]
      exact ⟨rfl, .rfl⟩
    · intro q7 s7 l7 hq7 hH7
      have hR7 := hR5.le l7
      have hH7' : Has s7 q7 (.lst (((List.range i).map fun j => (sl p (ct.getD i ([], 0)) - sl p (ct.getD j ([], 0)), sl q (ct.getD i ([], 0)) - sl q (ct.getD j ([], 0)))).map pr)) := by
        rw [List.map_map]; exact hH7
      refine addL_ok hR7 hH7' (by simp at hln ⊢; unfold zLine; omega) ?_
      rw [← List.map_append]
      refine (hI _ _ _).mpr ⟨(l5.trans l7).trans .push, _, rs ++ _, _, rfl, (l5.trans l7).n, .push, fun z hz => List.mem_append.mpr (.inl (hin z hz)), fun z hz => ?_, by simp at hln ⊢; omega⟩
      rcases List.mem_append.mp hz with hz | hz
      · exact hsz z hz
      · obtain ⟨j, hj, rfl⟩ := List.mem_map.mp hz
        have hjc : j < ct.length := by have : j < i := by simpa using hj
                                       omega
        rw [← getD_eq (d := (([], 0) : CK)) hi, ← getD_eq (d := (([], 0) : CK)) hjc]
        exact ⟨((sza i hi).sub (sza j hjc)).mono (by omega), ((szb i hi).sub (szb j hjc)).mono (by omega)⟩
  · intro e s5 h5
    obtain ⟨l5, q6, rs, o7, rfl, hq6, hR5, hin, hsz, hln⟩ := (hI _ _ _).mp h5
    have hF5 := hF0.le l5
    have hl5 := l12.trans l5
    have hne6 : pf ≠ q6 := fun w => by have := hF0.lt; rw [w] at this; omega
    have hrs : rs.length ≤ 63 + 63 * 63 := by simp at hln; omega
    have hl1z : ∀ z ∈ rs, z ∈ rs := fun z hz => hz
    have hM0 : MoF A rs rs [0, 1] := ⟨by simp, by simp, fun m hm => by
      simp at hm
      rcases hm with rfl | rfl
      · exact ⟨⟨Rat.le_refl, by decide⟩, (SzR.int (i := 0) (a := 1) (szI_lit (by decide)) (by decide)).mono (by omega)⟩
      · exact ⟨⟨by decide, Rat.le_refl⟩, (SzR.int (i := 1) (a := 1) (szI_lit (by decide)) (by decide)).mono (by omega)⟩, by simp, by simp, fun z hz => .inl hz⟩
    simp only [sq_nx]
    rw [q_seq, q_for]
    simp only [q_it, q_var, List.getElem?_cons_zero, List.getElem?_cons_succ, q_rd, q_ok]
    refine ⟨its_some (.lst hR5), ?_⟩
    obtain ⟨Jnv, hJ⟩ : ∃ Jnv : List (Rat × Rat) → En → S → Prop, ∀ r e s6, Jnv r e s6 ↔ (Le s s6 ∧ ∃ (fl : List Rat) (o7 o9 o10 o11 o12 : Option D), e = [some (ctD ct), some dp, some dq, some v1, some v2, some (.ref pf), some (.ref q6), o7, none, o9, o10, o11, o12, none] ∧ Has s6 q6 (.lst (rs.map pr)) ∧ Has s6 pf (.lst (fl.map rD)) ∧ MoF A rs r fl) := ⟨_, fun _ _ _ => Iff.rfl⟩
    refine for_rest (ds := rs.map pr) rs pr Jnv rfl (lt_fuelZ (by unfold zLine; omega)) ((hJ _ _ _).mpr ⟨hl5, [0, 1], _, _, _, _, _, rfl, hR5, hF5, hM0⟩) ?_ ?_ ?_
    · intro r e s6 h6
      obtain ⟨_, _, _, _, _, _, _, _, hR6, _⟩ := (hJ _ _ _).mp h6
      exact wk_sq (.lst hR6)
    · intro dn z r e s6 e6 h6
      obtain ⟨l6, fl, o7, o9, o10, o11, o12, rfl, hR6, hF6, hM6⟩ := (hJ _ _ _).mp h6
      have hz : z ∈ rs := by rw [e6]; simp
      refine ⟨_, rfl, ?_⟩
      refine find_turn (A := A) hA hM6 (hsz z hz) (by omega) hF6 fun o11' o12' fl' s7 hM7 hs7 => ?_
      rcases hs7 with ⟨rfl, rfl⟩ | ⟨t, rfl, rfl⟩
      · exact (hJ _ _ _).mpr ⟨l6, fl', _, _, _, _, _, rfl, hR6, hF6, hM7⟩
      · exact (hJ _ _ _).mpr ⟨l6.set hpf, _, _, _, _, _, _, rfl, hR6.set_ne hne6, hF6.set, hM7⟩
    · intro e s6 h6
      obtain ⟨l6, fl, o7', o9, o10, o11, o12, rfl, hR6, hF6, hM6⟩ := (hJ _ _ _).mp h6
      have hfl : fl.length ≤ 2 + rs.length := by have := hM6.len; simpa using this
      simp only [sq_nx]
      rw [q_seq]
      simp only [q_par, q_cons, q_nil, q_call, q_var, List.getElem?_cons_zero, List.getElem?_cons_succ, q_rd, q_ok, list_ok (.lst hF6), q_lst, q_short0, true_and]
      have hr1 : Has (s6.push (.lst (fl.map rD))) s6.n (.lst (fl.map rD)) := .push
      have hw0 : Has ((s6.push (.lst (fl.map rD))).push (.lst [])) (s6.push (.lst (fl.map rD))).n (.lst (([] : List Rat).map rD)) := .push
      have hr0 := hr1.le (Le.push (o := .lst []))
      have lA : Le s ((s6.push (.lst (fl.map rD))).push (.lst [])) := l6.trans (Le.push.trans .push)
      have n1 : s.n.nat ≤ s6.n.nat := l6.n
      have n2 : (s6.push (.lst (fl.map rD))).n.nat = s6.n.nat + 1 := push_n
      generalize (s6.push (.lst (fl.map rD))).push (.lst []) = s7 at *
      generalize (s6.push (.lst (fl.map rD))).n = pw at *
      generalize s6.n = pq at *
      have hne : pq ≠ pw := fun w => by rw [w] at n2; omega
      refine ⟨_, rfl, ?_⟩
      simp only [sq_nx, List.set_cons_zero, List.set_cons_succ]
      rw [q_seq]
      obtain ⟨Wnv, hW⟩ : ∃ Wnv : Nat → En → S → Prop, ∀ m e s8, Wnv m e s8 ↔ (Le s s8 ∧ ∃ (rl wl : List Rat), e = [some (ctD ct), some dp, some dq, some v1, some v2, some (.ref pf), some (.ref q6), o7', none, o9, o10, some (.ref pq), o12, some (.ref pw)] ∧ Has s8 pq (.lst (rl.map rD)) ∧ Has s8 pw (.lst (wl.map rD)) ∧ rl.length = m ∧ rl.Nodup ∧ Asc wl ∧ (∀ x ∈ wl, ∀ y ∈ rl, x < y) ∧ (∀ x, x ∈ fl ↔ x ∈ rl ∨ x ∈ wl) ∧ rl.length + wl.length = fl.length) := ⟨_, fun _ _ _ => Iff.rfl⟩
      refine wh_wp Wnv (m := fl.length) (lt_fuelZ (by unfold zLine; omega)) ((hW _ _ _).mpr ⟨lA, fl, [], rfl, hr0, hw0, rfl, hM6.nd, by intro i j hi; simp at hi, by simp, by simp, by simp⟩) ?_
      intro m e s8 h8
      obtain ⟨l8, rl, wl, rfl, hR8, hW8, hm, hnd, hasc, hlt, hmem, hlen⟩ := (hW _ _ _).mp h8
      have hE : Has (s8.push (.lst [])) s8.n (.lst []) := .push
      have hR9 := hR8.le (Le.push (o := .lst []))
      have hW9 := hW8.le (Le.push (o := .lst []))
      have l9 : Le s (s8.push (.lst [])) := l8.trans .push
      simp only [q_tst, q_bin, q_var, List.getElem?_cons_zero, List.getElem?_cons_succ, q_rd, q_ok, q_lst, q_nil, q_short0, true_and]
      rw [ne_nil hR9 hE (mapO_map fun _ _ => toP_rD (n := 37))]
      generalize s8.push (.lst []) = s9 at *
      refine ⟨_, rfl, ?_⟩
      rw [List.isEmpty_map]
      cases rl with
      | nil =>
        simp only [List.isEmpty_nil, Bool.not_true, Bool.false_eq_true, if_false]
        simp only [sq_nx, q_ret, q_var, List.getElem?_cons_zero, List.getElem?_cons_succ, q_rd, q_ok, fq_rt]
        refine ⟨l9, wl, .lst hW9, hasc, ?_, ?_, fun x hx => ?_, by simp at hlen; omega, fun za zb hz g1 g2 g3 => ?_⟩
        · simpa using (hmem 0).mp hM6.m0
        · simpa using (hmem 1).mp hM6.m1
        · exact hM6.all x ((hmem x).mpr (.inr hx))
        · have := (hM6.cp (za, zb) (hin (za, zb) hz)).resolve_left (by simp) g1 g2 g3
          simpa using (hmem _).mp this
      | cons x0 rr =>
        simp only [List.isEmpty_cons, Bool.not_false, if_true]
        have hszr : ∀ y ∈ x0 :: rr, SzR (6 * A + 4) y := fun y hy => (hM6.all y ((hmem y).mpr (.inl hy))).2
        have hL0 : isLst s9 (.ref pw) = true := isL_ok hW9
        rw [q_seq]
        simp only [q_drop, q_m, q_var, List.getElem?_cons_zero, List.getElem?_cons_succ, q_rd, q_ok, hL0, true_and, q_cons, q_nil, q_def]
        refine ⟨rfl, cl (law_fewest_ok (.lst hR9) hszr (by omega) (by simp at hlen ⊢; unfold zLine; omega)) fun v s10 ⟨l10, mn, e10, hmn⟩ => ?_⟩
        subst e10
        have hR10 := hR9.le l10
        have hW10 := hW9.le l10
        rw [append_ok hW10 (x := rD mn) (by simp at hlen ⊢; unfold zLine; omega)]
        simp only [q_ok, sq_nx]
        have hW11 : Has (s10.set pw (.lst (wl.map rD ++ [rD mn]))) pw (.lst ((wl ++ [mn]).map rD)) := by
          rw [List.map_append]; exact hW10.set
        have hR11 := hR10.set_ne (o' := .lst (wl.map rD ++ [rD mn])) (Ne.symm hne)
        have l11 : Le s (s10.set pw (.lst (wl.map rD ++ [rD mn]))) := (l9.trans l10).set (by omega)
        generalize s10.set pw (.lst (wl.map rD ++ [rD mn])) = s11 at *
        have hlast : dIdx (.ref pw) (.int (-1)) s11 = .ok (rD mn) s11 := its_idx (.lst hW11) (by rw [List.map_append]; exact atI_last)
        obtain ⟨j, hj, ej, hrem⟩ := remove_ok hR11 hmn.1 (by simp at hlen ⊢; unfold zLine; omega)
        obtain ⟨nd2, mem2⟩ := erase_at hnd hj ej
        simp only [q_drop, q_m, q_var, List.getElem?_cons_zero, List.getElem?_cons_succ, q_rd, q_ok, isL_ok hR11, true_and, q_cons, q_nil, q_bin, q_un, q_cst, v_neg, hlast, hrem, tn_nx]
        have hlen2 : ((x0 :: rr).eraseIdx j).length = m - 1 := by rw [List.length_eraseIdx_of_lt hj, hm]
        refine ⟨m - 1, by simp at hm; omega, (hW _ _ _).mpr ⟨l11.set n1, (x0 :: rr).eraseIdx j, wl ++ [mn], rfl, hR11.set, hW11.set_ne hne, hlen2, nd2, asc_add hasc fun x hx => hlt x hx mn hmn.1, ?_, ?_, by rw [hlen2]; simp at hlen hm ⊢; omega⟩⟩
        · intro x hx y hy
          obtain ⟨hy1, hy2⟩ := (mem2 y).mp hy
          rcases List.mem_append.mp hx with hx | hx
          · exact hlt x hx y hy1
          · simp at hx; subst hx
            exact Rat.lt_of_le_of_ne (hmn.2 y hy1) (fun w => hy2 w.symm)
        · intro x
          rw [hmem x, mem2 x, List.mem_append, List.mem_singleton]
          by_cases c : x = mn
          · subst c
            constructor
            · intro _; exact .inr (.inr rfl)
            · intro _; exact .inl hmn.1
          · constructor
            · rintro (w | w)
              · exact .inl ⟨w, c⟩
              · exact .inr (.inl w)
            · rintro (⟨w, _⟩ | w | w)
              · exact .inl w
              · exact .inr w
              · exact absurd w c
end
end Ev
set_option maxHeartbeats 1000000
set_option exponentiation.threshold 20000
namespace Ev
open PySem PySem.Spec PyProof.Rows L2
theorem rD_half : rD (1 / 2) = .tup [.int 1, .int 2] := by
  have e : (1 / 2 : Rat) = Rat.divInt 1 2 := by rw [Rat.divInt_eq_div]; rfl
  rw [e]; rfl
theorem sz_half : SzR 2 (1 / 2 : Rat) := by
  have e : (1 / 2 : Rat) = Rat.divInt 1 2 := by rw [Rat.divInt_eq_div]; rfl
  rw [e]
  exact SzR.divInt (by decide) (szI_lit (by decide)) (szI_lit (by decide))
section
variable {s : S} {n kf kp : Nat} {ct : List CK} {p q : List Rat}
theorem lv_max {m mx : Rat} (hm : IsMax mx (ct.map fun k => lv m (sl p k, sl q k))) : mx < 0 ↔ ∀ z ∈ lns ct p q, lv m z < 0 := by
  constructor
  · intro h z hz
    obtain ⟨k, hk, rfl⟩ := List.mem_map.mp hz
    have := hm.2 _ (List.mem_map.mpr ⟨k, hk, rfl⟩)
    grind
  · intro h
    obtain ⟨k, hk, e⟩ := List.mem_map.mp hm.1
    rw [← e]
    exact h _ (List.mem_map.mpr ⟨k, hk, rfl⟩)
theorem law_span_ok (h : Lg s n kf kp ct p q (stD p) (stD q)) (hn : ct.length ≤ 63) (hbig : kf + VS n kf (3 * kp + (12 * AS n kf kp + 11) + 2) ≤ 4000) (hb2 : 3 * kp + (12 * AS n kf kp + 11) + 2 ≤ 4000) :
    (f__law_span [ctD ct, stD p, stD q] s).wp (fun v s' => Le s s' ∧ ((v = .non ∧ ¬ Bar (lns ct p q)) ∨ ∃ ds, v = .tup ds ∧ Bar (lns ct p q))) NoE := by
  simp [f__law_span, b__law_span]
  obtain ⟨ps, hps⟩ := toP_some (s := s) (n := 39) (fun k => toP_ck (n := 36) (k := k)) ct
  rw [show ctD ct = .tup (ct.map ckD) from rfl, eq_nilT hps, List.isEmpty_map]
  by_cases hct : ct = []
  · subst hct
    simp
    exact ⟨.rfl, 1 / 2, by grind, by grind, by simp [lns]⟩
  have hemp : ct.isEmpty = false := by simpa using hct
  simp [hemp]
  rw [show D.tup (ct.map ckD) = ctD ct from rfl]
  refine cl (moments_ok h hn) fun v s1 ⟨l1, row, hrow, hasc, h0, h1, h01, hrl, hz⟩ => ?_
  have hF0 : Has (s1.push (.lst [])) s1.n (.lst (([] : List Rat).map rD)) := .push
  have hrow1 := hrow.le (Le.push (o := .lst []))
  have l1 := l1.trans (Le.push (o := .lst []))
  generalize s1.push (.lst []) = s2 at *
  generalize s1.n = pf at *
  simp [its_len hrow1]
  have e62 : w62 (row.length : Int) = true := w62_nat (by omega)
  have em : row.length - 1 = row.length - 1 := rfl
  have hAS := h.as
  refine ⟨w62_nat (i := 1) (by decide), e62, ?_⟩
  obtain ⟨Inv, hI⟩ : ∃ Inv : List Nat → En → S → Prop, ∀ r e s3, Inv r e s3 ↔ (Le s s3 ∧ Its s3 v (row.map rD) ∧ ∃ (pf : Ps) (fs : List Rat) (o5 o6 : Option D), e = [some (ctD ct), some (stD p), some (stD q), some v, some (.ref pf), o5, o6] ∧ Has s3 pf (.lst (fs.map rD)) ∧ fs.length + 2 * r.length ≤ 2 * row.length ∧ (fs ≠ [] → Bar (lns ct p q)) ∧ (fs = [] → ∀ dn, List.range (row.length - 1) = dn ++ r → ∀ i ∈ dn, ¬ ∀ z ∈ lns ct p q, lv (mid (row.getD i 0) (row.getD (i + 1) 0)) z < 0)) := ⟨_, fun _ _ _ => Iff.rfl⟩
  refine for_rest (ds := rgD 1 (row.length - 1)) (List.range (row.length - 1)) (fun (i : Nat) => D.int (1 + (i : Int))) Inv rfl (lt_fuelZ (by simp [zLine]; omega)) ((hI _ _ _).mpr ⟨l1, hrow1, pf, [], none, none, rfl, hF0, by simp; omega, by simp, fun _ dn hdn i hi => ?_⟩) (fun r e s3 _ => wk_rg) ?_ ?_
  · have : dn = [] := by simpa using hdn
    subst this; simp at hi
  · intro dn i r e s3 e3 h3
    obtain ⟨l3, hrow3, pf, fs, o5, o6, rfl, hF3, hfl, hbar, hno⟩ := (hI _ _ _).mp h3
    have hi : i < row.length - 1 := by
      have : i ∈ List.range (row.length - 1) := by rw [e3]; simp
      simpa using this
    have k1 : (1 : Int) + (i : Int) - 1 = (i : Int) := by omega
    have k2 : (1 : Int) + (i : Int) = ((i + 1 : Nat) : Int) := by omega
    have g1 : ∀ s, Its s v (row.map rD) → dIdx v (.int ((1 : Int) + (i : Int) - 1)) s = .ok (rD (row.getD i 0)) s := fun s hs => by rw [k1]; exact its_getD hs (by omega)
    have g2 : ∀ s, Its s v (row.map rD) → dIdx v (.int ((1 : Int) + (i : Int))) s = .ok (rD (row.getD (i + 1) 0)) s := fun s hs => by rw [k2]; exact its_getD hs (by omega)
    have ga : row.getD i 0 = row[i] := (getD_eq (by omega)).symm
    have gb : row.getD (i + 1) 0 = row[i + 1] := (getD_eq (by omega)).symm
    have za := (h01 (row.getD i 0) (by rw [ga]; exact List.getElem_mem _)).2
    have zb := (h01 (row.getD (i + 1) 0) (by rw [gb]; exact List.getElem_mem _)).2
    have e1 := law_plus_eq (s := s3) za zb (by omega)
    have e2 := law_times_eq (s := s3) (za.add zb) sz_half (by omega)
    rw [rD_half] at e2
    have zm : SzR (12 * AS n kf kp + 11) (mid (row.getD i 0) (row.getD (i + 1) 0)) := ((za.add zb).mul sz_half).mono (by omega)
    rw [show (row.getD i 0 + row.getD (i + 1) 0) * (1 / 2) = mid (row.getD i 0) (row.getD (i + 1) 0) from rfl] at e2
    refine ⟨_, to_nm, ?_⟩
    have hno2 : (fs = [] → ∀ j ∈ dn, ¬ ∀ z ∈ lns ct p q, lv (mid (row.getD j 0) (row.getD (j + 1) 0)) z < 0) := fun w => hno w dn e3
    have hib : (∀ z ∈ lns ct p q, lv (mid (row.getD i 0) (row.getD (i + 1) 0)) z < 0) → Bar (lns ct p q) := fun w => by
      rw [ga, gb] at w
      exact mid_bar hasc (fun x hx => (h01 x hx).1) (by omega) w
    generalize hmm : mid (row.getD i 0) (row.getD (i + 1) 0) = m at *
    clear ga gb za zb
    generalize hea : row.getD i 0 = ra at *
    generalize heb : row.getD (i + 1) 0 = rb at *
    simp [g1 s3 hrow3, g2 s3 hrow3, e1, e2]
    have hpq : p.length = q.length := by rw [h.pl, h.ql]
    refine cl (at_moment_ok h.ps h.qs zm hb2 (by have := h.pl; have := h.bd.2.1; omega)) fun w s4 ⟨l4, e4, zat⟩ => ?_
    subst e4
    have hatl : (atM m p q).length = n := by rw [atM_len hpq, h.pl]
    refine cl (law_slack_list_ok (kf := kf) (.tup) h.bd.1 (by rw [hatl]; exact h.cto) zat (by rw [hatl]; omega) (by rw [hatl]; exact h.bd.2.1) (Nat.le_trans h.ln (by decide))) fun w s5 ⟨l5, i5⟩ => ?_
    obtain ⟨k0, kr, hkr⟩ : ∃ k0 kr, ct = k0 :: kr := by
      cases ct with
      | nil => exact absurd rfl hct
      | cons a b => exact ⟨a, b, rfl⟩
    have hszm : ∀ y ∈ ct.map (sl (atM m p q)), SzR (kf + VS n kf (3 * kp + (12 * AS n kf kp + 11) + 2)) y := fun y hy => by
      obtain ⟨k, hk, rfl⟩ := List.mem_map.mp hy
      have := sl_sz (kf := kf) (p := atM m p q) (k := k) h.bd.1 (by rw [hatl]; exact h.cto k hk) zat
      rwa [hatl] at this
    have i5' := i5
    rw [hkr] at i5'
    refine cl (law_most_ok (x := sl (atM m p q) k0) (xs := kr.map (sl (atM m p q))) i5' (by rw [← List.map_cons, ← hkr]; exact hszm) hbig (by rw [← List.map_cons, ← hkr, List.length_map]; unfold zLine; omega)) fun w s6 ⟨l6, mx, e6, hmx⟩ => ?_
    subst e6
    rw [← List.map_cons, ← hkr] at hmx
    have hmx : IsMax mx (ct.map fun k => lv m (sl p k, sl q k)) := by
      have : ct.map (sl (atM m p q)) = ct.map fun k => lv m (sl p k, sl q k) := List.map_congr_left fun k _ => sl_at hpq
      rwa [this] at hmx
    have hiff := lv_max hmx
    have e0 : dIdx (rD mx) (.int 0) s6 = .ok (.int mx.num) s6 := v_i0
    have l36 := l4.trans (l5.trans l6)
    have hrow6 := hrow3.le l36
    have hF6 := hF3.le l36
    by_cases c : mx < 0
    · have c' : mx.num < 0 := by rw [num_neg]; exact c
      simp [e0, c', g1 s6 hrow6, g2 s6 hrow6]
      have hN : Has (s6.push (.lst [rD ra, rD rb])) s6.n (.lst (([ra, rb] : List Rat).map rD)) := .push
      refine addL_ok (hF6.le .push) hN (by simp at hfl ⊢; unfold zLine; omega) ?_
      rw [← List.map_append]
      refine (hI _ _ _).mpr ⟨(l3.trans l36).trans (Le.push.trans .push), hrow6.le (Le.push.trans .push), _, fs ++ [ra, rb], _, _, rfl, .push, by simp at hfl ⊢; omega, fun _ => hib (hiff.mp c), fun w => by simp at w⟩
    · have c' : ¬ mx.num < 0 := by rw [num_neg]; exact c
      simp [e0, c']
      refine (hI _ _ _).mpr ⟨l3.trans l36, hrow6, pf, fs, _, _, rfl, hF6, by simp at hfl ⊢; omega, hbar, fun w dn' hdn' j hj => ?_⟩
      have : dn' = dn ++ [i] := by
        have hh : dn' ++ r = (dn ++ [i]) ++ r := by rw [← hdn', e3]; simp
        exact List.append_cancel_right hh
      subst this
      rcases List.mem_append.mp hj with hj | hj
      · exact hno2 w j hj
      · simp at hj; subst hj
        rw [hea, heb, hmm]
        exact fun w => c (hiff.mpr w)
  · intro e s3 h3
    obtain ⟨l3, hrow3, pf, fs, o5, o6, rfl, hF3, hfl, hbar, hno⟩ := (hI _ _ _).mp h3
    have hE : Has (s3.push (.lst [])) s3.n (.lst []) := .push
    have hF4 := hF3.le (Le.push (o := .lst []))
    simp
    rw [ne_nil hF4 hE (mapO_map fun _ _ => toP_rD (n := 37)), List.isEmpty_map]
    have l4 := l3.trans (Le.push (o := .lst []))
    generalize s3.push (.lst []) = s4 at *
    cases fs with
    | nil =>
      simp
      refine ⟨l4, fun hb => ?_⟩
      obtain ⟨i, hi, hall⟩ := bar_mid hasc h0 h1 (fun x hx => (h01 x hx).1) (fun z hz' g1 g2 g3 => hz z hz' g1 g2 g3) hb
      have := hno rfl _ (List.append_nil _).symm i (by simp; omega)
      rw [getD_eq (d := (0 : Rat)) (show i < row.length by omega), getD_eq (d := (0 : Rat)) hi] at hall
      exact this hall
    | cons x r =>
      have g0 : dIdx (.ref pf) (.int 0) s4 = .ok (rD x) s4 := its_idx (.lst hF4) atI_0
      have g1 : dIdx (.ref pf) (.int (-1)) s4 = .ok (rD ((x :: r).getLast (by simp))) s4 := its_idx (.lst hF4) (by
        have := (List.dropLast_concat_getLast (l := x :: r) (by simp)).symm
        conv => lhs; rw [this, List.map_append]
        exact atI_last)
      simp [g0, g1]
      exact ⟨l4, hbar (by simp)⟩
end
end Ev
set_option maxHeartbeats 1000000
set_option exponentiation.threshold 20000
namespace Ev
open PySem PySem.Spec PyProof.Rows L2
noncomputable instance {ls : List (Rat × Rat)} : Decidable (Bar ls) := Classical.propDecidable _
section
variable {s : S} {n : Nat} {l : List (Int × Int)} {cts : List (List CK)} {w : List (List Rat)} {dc d : D} {p q : List Rat}
theorem szs {n : Nat} (hn : n ≤ 3) : 5 + VS n 5 (3 * 7 + (12 * AS n 5 7 + 11) + 2) ≤ 4000 ∧ 3 * 7 + (12 * AS n 5 7 + 11) + 2 ≤ 4000 := by
  have : n = 0 ∨ n = 1 ∨ n = 2 ∨ n = 3 := by omega
  rcases this with rfl | rfl | rfl | rfl <;> decide
theorem bd_7 {n : Nat} (hn : n ≤ 3) : Bd n 5 7 := by
  have : n = 0 ∨ n = 1 ∨ n = 2 ∨ n = 3 := by omega
  rcases this with rfl | rfl | rfl | rfl <;> exact ⟨by decide, by decide, by decide, by decide⟩
theorem eqv_sts : ∀ {p q : List Rat}, PyData.eqvAll (p.map pR) (q.map pR) = decide (p = q)
  | [], [] => by simp [PyData.eqvAll]
  | [], _ :: _ => by simp [PyData.eqvAll]
  | _ :: _, [] => by simp [PyData.eqvAll]
  | x :: p, y :: q => by
    simp only [List.map_cons, PyData.eqvAll, eqv_pR, eqv_sts (p := p) (q := q)]
    by_cases h1 : x = y <;> by_cases h2 : p = q <;> simp [h1, h2]
theorem eq_st : onP pEq (stD p) (stD q) s = .ok (.bl (decide (p = q))) s := by
  have e1 : toQ s (stD p) = some (.tuple (p.map pR)) := toP_st (n := 37)
  have e2 : toQ s (stD q) = some (.tuple (q.map pR)) := toP_st (n := 37)
  simp only [onP, e1, e2, pEq, PyData.eqv, eqv_sts]
theorem law_is_free_ok (hn : n ≤ 3) (h : Ws s n 5 7 l cts w dc) (hp : p ∈ w) (hq : q ∈ w) : (f__law_is_free [lmD l, dc, stD p, stD q] s).wp (fun v s' => Le s s' ∧ v = .bl (decide (FreeLeg l cts p q))) NoE := by
  obtain ⟨hp1, hp2⟩ := h.pts p hp
  obtain ⟨hq1, hq2⟩ := h.pts q hq
  simp [f__law_is_free, b__law_is_free]
  refine cl (law_in_limits_ok (kf := 5) (kp := 7) (.tup) (by decide) hp2 h.ls (by rw [h.ln, hp1]) (by decide) (by omega)) fun v s1 ⟨l1, e1⟩ => ?_
  subst e1
  by_cases c1 : Wn l p
  · simp [c1, dTru]
    refine cl (law_in_limits_ok (kf := 5) (kp := 7) (.tup) (by decide) hq2 h.ls (by rw [h.ln, hq1]) (by decide) (by omega)) fun v s2 ⟨l2, e2⟩ => ?_
    subst e2
    have h2 := h.le (l1.trans l2)
    by_cases c2 : Wn l q
    · simp [c2, its_some h2.dc, wipeE]
      refine lc_filter cts ctD (fun ct => decide (Bar (lns ct p q))) ctD rfl (Nat.le_trans h.ctl (by decide)) (fun s' x => wk_sq (h2.dc.le x)) ?_ ?_
      · intro ct hct s3 l3
        refine ⟨_, to_nm, ?_, fun _ s4 l4 => ?_⟩
        · simp
          refine cl (law_span_ok ((h2.le l3).lg hct hp hq) (h.cto ct hct).2 (szs hn).1 (szs hn).2) fun v s4 ⟨l4, hv⟩ => ?_
          rcases hv with ⟨rfl, hb⟩ | ⟨ds, rfl, hb⟩
          · simp [hb]; exact l4
          · simp [hb]; exact l4
        · simp; exact .rfl
      · intro q3 s3 l3 _ hH3
        have hE : Has (s3.push (.lst [])) s3.n (.lst []) := .push
        have hq3 := hH3.le (Le.push (o := .lst []))
        obtain ⟨ps, hps⟩ := toP_some (s := s3.push (.lst [])) (n := 39) (fun ct => toP_ct (n := 35) (ct := ct)) (cts.filter fun ct => decide (Bar (lns ct p q)))
        rw [eq_nil hq3 hE hps]
        simp only [q_ok]
        refine ⟨(l1.trans l2).trans (l3.trans .push), ?_⟩
        congr 1
        rw [Bool.eq_iff_iff, decide_eq_true_iff, List.isEmpty_map, List.isEmpty_iff, List.filter_eq_nil_iff]
        constructor
        · intro hz
          exact ⟨c1, c2, fun ct hct hb => by simpa [hb] using hz ct hct⟩
        · intro hz ct hct
          simpa using hz.2.2 ct hct
    · have : ¬ FreeLeg l cts p q := fun w => c2 w.2.1
      simp [c2, this]
      exact l1.trans l2
  · have : ¬ FreeLeg l cts p q := fun w => c1 w.1
    simp [c1, this, dTru]
    exact l1
theorem law_is_lean_ok (hn : n ≤ 3) (h : Ws s n 5 7 l cts w dc) : (f__law_is_lean [lmD l, dc, wyD w] s).wp (fun v s' => Le s s' ∧ v = .bl (firstN l cts w).isNone) NoE := by
  have e : bLen [wyD w] s = .ok (.int w.length) s := by simp [wyD]
  have hwl := h.wl
  simp [f__law_is_lean, b__law_is_lean, e, wipeE]
  have e62 : w62 ((w.length : Int) - 1) = true := by
    unfold w62; simp only [Bool.and_eq_true, decide_eq_true_eq]; omega
  refine ⟨w62_nat (i := 1) (by decide), e62, ?_⟩
  have em : w.length - 1 - 1 = w.length - 2 := by omega
  rw [em]
  refine lc_filter (List.range (w.length - 2)) (fun (i : Nat) => D.int (1 + (i : Int))) (fun i => decide (FreeLeg l cts (pt w i) (pt w (i + 2)))) (fun (i : Nat) => D.int (1 + (i : Int))) (ds := rgD 1 (w.length - 2)) rfl (by simp [zLine]; omega) (fun s' _ => wk_rg) ?_ ?_
  · intro i hi s2 l2
    have hi : i < w.length - 2 := by simpa using hi
    have k1 : (1 : Int) + (i : Int) - 1 = (i : Int) := by omega
    have k2 : (1 : Int) + (i : Int) + 1 = ((i + 2 : Nat) : Int) := by omega
    have g1 : ∀ s, dIdx (wyD w) (.int ((1 : Int) + (i : Int) - 1)) s = .ok (stD (pt w i)) s := fun s => by rw [k1]; exact wy_get (by omega)
    have g2 : ∀ s, dIdx (wyD w) (.int ((1 : Int) + (i : Int) + 1)) s = .ok (stD (pt w (i + 2))) s := fun s => by rw [k2]; exact wy_get (by omega)
    refine ⟨_, to_nm, ?_, fun _ s3 l3 => ?_⟩
    · simp [g1, g2]
      refine cl (law_is_free_ok hn (h.le l2) (pt_mem (i := i) (by omega)) (pt_mem (i := i + 2) (by omega))) fun v s3 ⟨l3, e3⟩ => ?_
      subst e3
      by_cases c : FreeLeg l cts (pt w i) (pt w (i + 2)) <;> simp [c, dTru] <;> exact l3
    · simp; exact .rfl
  · intro q3 s3 l3 _ hH3
    have hE : Has (s3.push (.lst [])) s3.n (.lst []) := .push
    have hq3 := hH3.le (Le.push (o := .lst []))
    rw [eq_nil hq3 hE (mapO_map (g := fun (i : Nat) => PyData.int (1 + (i : Int))) fun _ _ => toP_int (n := 38))]
    simp only [q_ok]
    refine ⟨l3.trans .push, ?_⟩
    congr 1
    unfold firstN
    rw [Bool.eq_iff_iff, List.isEmpty_map, List.isEmpty_iff, List.filter_eq_nil_iff, Option.isNone_iff_eq_none, List.find?_eq_none]
end
end Ev
set_option maxHeartbeats 1000000
set_option exponentiation.threshold 20000
namespace Ev
open PySem PySem.Spec PyProof.Rows L2
section
variable {s : S} {n : Nat} {l : List (Int × Int)} {cts : List (List CK)} {w wh : List (List Rat)} {dc d : D} {p q : List Rat}
theorem drop_cons {α : Type} {l : List α} {k : Nat} (h : k < l.length) : l.drop k = l[k] :: l.drop (k + 1) := List.drop_eq_getElem_cons h
/-- a part of a row that begins and ends as it does -/
theorem is_some_ok (hsub : w.Sublist wh) (hne : w ≠ []) (hh : w.head? = wh.head?) (hl : w.getLast? = wh.getLast?) (hlen : wh.length ≤ 1000) : (f__law_is_some [wyD w, wyD wh] s).wp (fun v s' => Le s s' ∧ v = .bl true) NoE := by
  have e : bLen [wyD w] = fun s => R.ok (.int w.length) s := by funext s; simp [wyD]
  have hwl := hsub.length_le
  have hgw : ∀ s i, i < w.length → dIdx (wyD w) (.int (i : Int)) s = .ok (stD (pt w i)) s := fun s i hi => wy_get hi
  have hpos : 0 < w.length := List.length_pos_iff.mpr hne
  simp [f__law_is_some, b__law_is_some]
  refine ⟨rfl, ?_⟩
  obtain ⟨Inv, hI⟩ : ∃ Inv : List (List Rat) → En → S → Prop, ∀ r e s2, Inv r e s2 ↔ (s2 = s ∧ ∃ (k : Nat) (o3 : Option D), e = [some (wyD w), some (wyD wh), some (.int k), o3] ∧ k ≤ w.length ∧ (w.drop k).Sublist r) := ⟨_, fun _ _ _ => Iff.rfl⟩
  refine for_rest (ds := wh.map stD) wh stD Inv rfl (lt_fuelZ (by unfold zLine; omega)) ((hI _ _ _).mpr ⟨rfl, 0, none, rfl, by omega, by simpa using hsub⟩) ?_ ?_ ?_
  · intro r e s2 h2
    obtain ⟨rfl, _⟩ := (hI _ _ _).mp h2
    exact wk_sq .tup
  · intro dn one r e s2 _ h2
    obtain ⟨rfl, k, o3, rfl, hk, hs⟩ := (hI _ _ _).mp h2
    refine ⟨_, to_nm, ?_⟩
    by_cases c1 : k < w.length
    · have hp : pt w k = w[k] := by unfold pt; rw [← getD_eq c1]
      rw [drop_cons c1] at hs
      by_cases c2 : w[k] = one
      · have c1' : (k : Int) < (w.length : Int) := by omega
        simp [e, c1', hgw _ k c1, hp, eq_st, c2]
        refine (hI _ _ _).mpr ⟨rfl, k + 1, _, rfl, by omega, ?_⟩
        rw [c2] at hs
        exact List.cons_sublist_cons.mp hs
      · have c1' : (k : Int) < (w.length : Int) := by omega
        simp [e, c1', hgw _ k c1, hp, eq_st, c2, c1]
        refine (hI _ _ _).mpr ⟨rfl, k, _, rfl, hk, ?_⟩
        rw [drop_cons c1]
        cases hs with
        | cons _ h => exact h
        | cons_cons _ h => exact absurd rfl c2
    · have c1' : ¬ (k : Int) < (w.length : Int) := by omega
      simp [e, c1', c1]
      refine (hI _ _ _).mpr ⟨rfl, k, _, rfl, hk, ?_⟩
      rw [List.drop_of_length_le (by omega)]
      exact List.nil_sublist _
  · intro e' s2 h2
    obtain ⟨rfl, k, o3, rfl, hk, hs⟩ := (hI _ _ _).mp h2
    have hk2 : k = w.length := by
      have := hs.length_le
      simp at this; omega
    subst hk2
    obtain ⟨a, wr, rfl⟩ : ∃ a wr, w = a :: wr := by
      cases w with
      | nil => exact absurd rfl hne
      | cons a b => exact ⟨a, b, rfl⟩
    obtain ⟨whr, rfl⟩ : ∃ whr, wh = a :: whr := by
      cases wh with
      | nil => simp at hh
      | cons b c => simp at hh; subst hh; exact ⟨c, rfl⟩
    have z1 : dIdx (wyD (a :: wr)) (.int 0) s2 = .ok (stD a) s2 := its_idx (xs := (a :: wr).map stD) .tup atI_0
    have z2 : dIdx (wyD (a :: whr)) (.int 0) s2 = .ok (stD a) s2 := its_idx (xs := (a :: whr).map stD) .tup atI_0
    have zl : ∀ (x : List (List Rat)) (hx : x ≠ []), dIdx (wyD x) (.int (-1)) s2 = .ok (stD (x.getLast hx)) s2 := fun x hx => its_idx (xs := x.map stD) .tup (by
      have := (List.dropLast_concat_getLast hx).symm
      conv => lhs; rw [this, List.map_append]
      exact atI_last)
    have hl' : (a :: wr).getLast (by simp) = (a :: whr).getLast (by simp) := by
      rw [List.getLast?_eq_some_getLast (by simp), List.getLast?_eq_some_getLast (by simp)] at hl
      exact Option.some.inj hl
    simp [e, dTru, z1, z2, zl _ (show a :: wr ≠ [] by simp), zl _ (show a :: whr ≠ [] by simp), eq_st, hl']
    exact .rfl
/-! what is left is some of it -/
theorem erase_sub {i : Nat} : (w.eraseIdx i).Sublist w := List.eraseIdx_sublist _ _
theorem erase_head {i : Nat} (h : i + 2 < w.length) : (w.eraseIdx (i + 1)).head? = w.head? := by
  cases w with
  | nil => simp at h
  | cons a r => simp
theorem erase_last {i : Nat} (h : i + 2 < w.length) : (w.eraseIdx (i + 1)).getLast? = w.getLast? := by
  rw [List.eraseIdx_eq_take_drop_succ]
  conv => rhs; rw [← List.take_append_drop (i + 2) w]
  have hd : w.drop (i + 2) ≠ [] := by
    intro e
    have := congrArg List.length e
    simp at this; omega
  rw [List.getLast?_append, List.getLast?_append]
  show (w.drop (i + 2)).getLast?.or _ = (w.drop (i + 2)).getLast?.or _
  cases hc : (w.drop (i + 2)).getLast? with
  | none => exact absurd (List.getLast?_eq_none_iff.mp hc) hd
  | some x => simp
theorem mlF_sublist : ∀ (m : Nat) (w : List (List Rat)), (mlF l cts m w).Sublist w
  | 0, _ => List.Sublist.refl _
  | m + 1, w => by
    unfold mlF
    split
    · exact (mlF_sublist m _).trans erase_sub
    · exact List.Sublist.refl _
theorem mlF_ends : ∀ (m : Nat) (w : List (List Rat)), (mlF l cts m w).head? = w.head? ∧ (mlF l cts m w).getLast? = w.getLast?
  | 0, _ => ⟨rfl, rfl⟩
  | m + 1, w => by
    unfold mlF
    split
    · rename_i i e
      obtain ⟨h1, _⟩ := firstN_lt e
      obtain ⟨a, b⟩ := mlF_ends m (w.eraseIdx (i + 1))
      exact ⟨a.trans (erase_head h1), b.trans (erase_last h1)⟩
    · exact ⟨rfl, rfl⟩
theorem mlF_lean : ∀ (m : Nat) (w : List (List Rat)), w.length ≤ m → firstN l cts (mlF l cts m w) = none
  | 0, w, h => by
    have : w = [] := List.length_eq_zero_iff.mp (by omega)
    subst this
    simp [mlF, firstN]
  | m + 1, w, h => by
    unfold mlF
    split
    · rename_i i e
      obtain ⟨h1, _⟩ := firstN_lt e
      exact mlF_lean m _ (by rw [List.length_eraseIdx_of_lt (by omega)]; omega)
    · rename_i e; exact e
theorem mlF_two : ∀ (m : Nat) (w : List (List Rat)), min 2 w.length ≤ (mlF l cts m w).length
  | 0, w => by simp [mlF]; omega
  | m + 1, w => by
    unfold mlF
    split
    · rename_i i e
      obtain ⟨h1, _⟩ := firstN_lt e
      have := mlF_two m (w.eraseIdx (i + 1))
      rw [List.length_eraseIdx_of_lt (by omega)] at this
      omega
    · omega
/-- the legs stay free -/
theorem adj_erase {R : List Rat → List Rat → Prop} : ∀ {w : List (List Rat)} {i : Nat}, Adj R w → (h : i + 2 < w.length) → R (pt w i) (pt w (i + 2)) → Adj R (w.eraseIdx (i + 1))
  | a :: b :: c :: r, 0, hw, _, hr => by
    intro z hz
    simp only [List.eraseIdx_cons_succ, List.eraseIdx_cons_zero, List.tail_cons, List.zip_cons_cons, List.mem_cons] at hz
    rcases hz with rfl | hz
    · exact hr
    · exact hw z (by simp only [List.tail_cons, List.zip_cons_cons, List.mem_cons]; exact .inr (.inr hz))
  | a :: b :: r, i + 1, hw, h, hr => by
    have ih := adj_erase (w := b :: r) (i := i) (fun z hz => hw z (by simp only [List.tail_cons, List.zip_cons_cons, List.mem_cons]; exact .inr (by simpa using hz))) (by simp only [List.length_cons] at h ⊢; omega) hr
    intro z hz
    simp only [List.eraseIdx_cons_succ, List.tail_cons] at hz ih
    cases r with
    | nil => simp at h; omega
    | cons c r =>
      simp only [List.eraseIdx_cons_succ, List.zip_cons_cons, List.mem_cons] at hz
      rcases hz with rfl | hz
      · exact hw (a, b) (by simp)
      · exact ih z (by simpa using hz)
  | [], _, _, h, _ => by simp at h
  | [_], _, _, h, _ => by simp at h
  | [_, _], 0, _, h, _ => by simp at h
theorem mlF_adj : ∀ (m : Nat) (w : List (List Rat)), Adj (FreeLeg l cts) w → Adj (FreeLeg l cts) (mlF l cts m w)
  | 0, _, h => h
  | m + 1, w, h => by
    unfold mlF
    split
    · rename_i i e
      obtain ⟨h1, h2⟩ := firstN_lt e
      exact mlF_adj m _ (adj_erase h h1 h2)
    · exact h
end
end Ev
set_option maxHeartbeats 1000000
set_option exponentiation.threshold 20000
namespace Ev
open PySem PySem.Spec PyProof.Rows L2
section
variable {B : Nat} {o c : Ps} {s s' : S} {n : Nat} {l : List (Int × Int)} {cts : List (List CK)} {w wh : List (List Rat)} {dc d : D} {p q : List Rat}
theorem below6 {v : D} (h : v ∈ ([.int 1, .int 1, .int 1, .int 2, .int 3, .int 7] : List D)) : ∃ b : Int, v = .int b ∧ 1 ≤ b ∧ b ≤ 7 := by
  simp at h
  rcases h with rfl | rfl | rfl | rfl <;> exact ⟨_, rfl, by decide, by decide⟩
theorem any_standing_ok (h : Src B o c s) (hl : LimOk l) (h1 : 1 ≤ l.length) (h3 : l.length ≤ 3) : (f__law_any_standing [.ref o, lmD l] s).wp (fun v s' => (∃ p, v = stD p ∧ p.length = l.length ∧ PSz 7 p) ∧ Tr B o c s s') NoE := by
  have hb := h.bn
  have hlm : ∀ s, Its s (lmD l) (l.map pD) := fun s => .tup
  simp [f__law_any_standing, b__law_any_standing, its_some (hlm _)]
  have hH0 : Has (s.push (.lst [])) s.n (.lst (([] : List Rat).map rD)) := .push
  have hT0 : Tr B o c s (s.push (.lst [])) := .of h .push
  generalize hp0 : s.n = p0 at hH0 ⊢
  have hp0B : B ≤ p0.nat := by rw [← hp0]; exact hb
  have hp0s : s.n.nat ≤ p0.nat := by rw [← hp0]; exact Nat.le_refl _
  generalize s.push (.lst []) = s0 at hH0 hT0 ⊢
  obtain ⟨Inv, hI⟩ : ∃ Inv : List (Int × Int) → En → S → Prop, ∀ r e s2, Inv r e s2 ↔ (Tr B o c s s2 ∧ ∃ (xs : List Rat) (o3 o4 o5 o6 : Option D), e = [some (.ref o), some (lmD l), some (.ref p0), o3, o4, o5, o6, none] ∧ Has s2 p0 (.lst (xs.map rD)) ∧ xs.length + r.length = l.length ∧ PSz 7 xs) := ⟨_, fun _ _ _ => Iff.rfl⟩
  refine for_rest (ds := l.map pD) l pD Inv rfl (lt_fuelZ (by unfold zLine; omega)) ((hI _ _ _).mpr ⟨hT0, [], _, _, _, _, rfl, hH0, by simp, by simp [PSz]⟩) (fun r e s3 _ => wk_sq (hlm s3)) ?_ ?_
  · rintro dn ⟨lo, hi⟩ r e s2 e2 h2
    obtain ⟨t2, xs, o3, o4, o5, o6, rfl, hH2, hxl, hxs⟩ := (hI _ _ _).mp h2
    have hlim := hl (lo, hi) (by rw [e2]; simp)
    simp only at hlim
    refine ⟨_, rfl, ?_⟩
    have hsh : short zLine ([D.int 1, .int 1, .int 1, .int 2, .int 3, .int 7] : List D) = true := short_of (by simp [zLine])
    have hN : Has (s2.push (.lst [D.int 1, .int 1, .int 1, .int 2, .int 3, .int 7])) s2.n (.lst [D.int 1, .int 1, .int 1, .int 2, .int 3, .int 7]) := .push
    have t2' := t2.le (Le.push (o := .lst [D.int 1, .int 1, .int 1, .int 2, .int 3, .int 7]))
    simp [hsh]
    refine cl (of_ok t2'.src (.lst hN) (show B ≤ s2.n.nat from t2.src.bn) (by simp) (by simp)) fun v s3 ⟨hv, t3⟩ => ?_
    obtain ⟨b, rfl, b1, b7⟩ := below6 hv
    have hH3 := (hH2.le (Le.push (o := .lst [D.int 1, .int 1, .int 1, .int 2, .int 3, .int 7]))).lx hp0B t3.lx
    have t3' := t2'.trans t3
    have zb : SzI 3 b := by unfold SzI; omega
    have m1 : mulB lo b = true := mulB_of (a := 6) (b := 3) (show lo.natAbs < 2 ^ 6 by omega) zb (by decide)
    have m2 : mulB (hi - lo) b = true := mulB_of (a := 6) (b := 3) (show (hi - lo).natAbs < 2 ^ 6 by omega) zb (by decide)
    have q1 : 0 ≤ (hi - lo) * b := Int.mul_nonneg (by omega) (by omega)
    have q2 : (hi - lo) * b ≤ 17 * 7 := Int.mul_le_mul (by omega) b7 (by omega) (by decide)
    have q3 : -35 ≤ lo * b := by
      have := Int.mul_le_mul_of_nonneg_right (show (-5 : Int) ≤ lo by omega) (show 0 ≤ b by omega)
      omega
    have q4 : lo * b ≤ 84 := by
      have := Int.mul_le_mul_of_nonneg_right (show lo ≤ (12 : Int) by omega) (show 0 ≤ b by omega)
      omega
    have q5 : hi * b ≤ 84 := by
      have := Int.mul_le_mul_of_nonneg_right (show hi ≤ (12 : Int) by omega) (show 0 ≤ b by omega)
      omega
    have q6 : (hi - lo) * b = hi * b - lo * b := Int.sub_mul _ _ _
    simp [m1, m2]
    refine cl (pick_lit t3'.src (by omega)) fun v s4 ⟨r4, e4, r40, r41, t4⟩ => ?_
    subst e4
    have hz : SzI 7 (lo * b + r4) := by unfold SzI; omega
    have e5 := law_least_eq (s := s4) (a := lo * b + r4) (b := b) (by omega) (zb.mono (by decide))
    have hH4 := hH3.lx hp0B t4.lx
    simp [isL_ok hH4, e5, append_ok hH4 (x := rD (Rat.divInt (lo * b + r4) b)) (by simp; unfold zLine; omega)]
    refine (hI _ _ _).mpr ⟨(t3'.trans t4).set hp0s hb, xs ++ [Rat.divInt (lo * b + r4) b], _, _, _, _, rfl, by rw [List.map_append]; exact hH4.set, by simp at hxl ⊢; omega, fun x hx => ?_⟩
    rcases List.mem_append.mp hx with hx | hx
    · exact hxs x hx
    · simp at hx; subst hx
      exact SzR.divInt (by decide) hz (zb.mono (by decide))
  · intro e s2 h2
    obtain ⟨t2, xs, o3, o4, o5, o6, rfl, hH2, hxl, hxs⟩ := (hI _ _ _).mp h2
    have hxl : xs.length = l.length := by simpa using hxl
    simp
    refine cl (pick_lit t2.src (by decide)) fun v s3 ⟨r, e3, r0, r1, t3⟩ => ?_
    subst e3
    have hH3 := hH2.lx hp0B t3.lx
    by_cases hr : r = 0
    · simp [hr, its_len (.lst hH3)]
      refine cl (pick_lit (t2.trans t3).src (by omega)) fun v s4 ⟨rk, e4, rk0, rk1, t4⟩ => ?_
      subst e4
      obtain ⟨k, rfl⟩ : ∃ k : Nat, rk = k := ⟨rk.toNat, by omega⟩
      have hk : k < l.length := by omega
      have hlim := hl l[k] (List.getElem_mem hk)
      have hgl : ∀ s, dIdx (lmD l) (.int k) s = .ok (.tup [.int l[k].1, .int l[k].2]) s := fun s => its_get (f := pD) .tup hk
      have hH4 := hH3.lx hp0B t4.lx
      have t24 := t2.trans (t3.trans t4)
      have m3 : mulB 2 l[k].2 = true := mulB_of (a := 6) (b := 6) (szI_lit (by decide)) (show l[k].2.natAbs < 2 ^ 6 by omega) (by decide)
      have e5 := fun s => law_least_eq (s := s) (a := 2 * l[k].2 + 1) (b := 2) (by decide) ((szI_lit (k := 2) (by decide)).mono (by decide))
      have ea : D.tup [.int (l[k].2 + 1), .int 1] = rD ((l[k].2 + 1 : Int) : Rat) := rD_int.symm
      have eb : D.tup [.int (l[k].1 - 1), .int 1] = rD ((l[k].1 - 1 : Int) : Rat) := rD_int.symm
      simp only [q_put, q_def, q_cons, q_nil, q_lst, q_tup, q_bin, q_var, List.getElem?_cons_zero, List.getElem?_cons_succ, q_rd, q_ok, q_cst, hgl, v_i1, v_i0, v_add, v_sub, v_mul, m3, true_and, q_shortZ2, e5, q_shortZ3, List.set_cons_zero, List.set_cons_succ, ea, eb]
      have hN : Has (s4.push (.lst [rD ((l[k].2 + 1 : Int) : Rat), rD ((l[k].1 - 1 : Int) : Rat), rD (Rat.divInt (2 * l[k].2 + 1) 2)])) s4.n (.lst (([((l[k].2 + 1 : Int) : Rat), ((l[k].1 - 1 : Int) : Rat), Rat.divInt (2 * l[k].2 + 1) 2] : List Rat).map rD)) := .push
      have t5 := t24.le (Le.push (o := .lst [rD ((l[k].2 + 1 : Int) : Rat), rD ((l[k].1 - 1 : Int) : Rat), rD (Rat.divInt (2 * l[k].2 + 1) 2)]))
      have hH5 := hH4.le (Le.push (o := .lst [rD ((l[k].2 + 1 : Int) : Rat), rD ((l[k].1 - 1 : Int) : Rat), rD (Rat.divInt (2 * l[k].2 + 1) 2)]))
      refine cl (of_ok t5.src (.lst hN) (show B ≤ s4.n.nat from t24.src.bn) (by simp) (by simp)) fun v s6 ⟨hv, t6⟩ => ?_
      obtain ⟨x, hx, rfl⟩ := List.mem_map.mp hv
      have zx : SzR 7 x := by
        simp only [List.mem_cons, List.not_mem_nil, or_false] at hx
        rcases hx with rfl | rfl | rfl
        · exact SzR.int (show (l[k].2 + 1).natAbs < 2 ^ 7 by omega) (by decide)
        · exact SzR.int (show (l[k].1 - 1).natAbs < 2 ^ 7 by omega) (by decide)
        · exact SzR.divInt (by decide) (show (2 * l[k].2 + 1).natAbs < 2 ^ 7 by omega) (szI_lit (by decide))
      have hH6 := hH5.lx hp0B t6.lx
      refine ⟨_, sto_ok hH6 (by simp; omega), ?_⟩
      have hH7 : Has (s6.set p0 (.lst ((xs.map rD).set k (rD x)))) p0 (.lst ((xs.set k x).map rD)) := by
        rw [List.map_set]; exact hH6.set
      simp [tuple_ok hH7]
      refine ⟨⟨xs.set k x, by simp [stD], by simp [hxl], fun y hy => ?_⟩, (t5.trans t6).set hp0s hb⟩
      rcases List.mem_or_eq_of_mem_set hy with hy | rfl
      · exact hxs y hy
      · exact zx
    · simp [hr, tuple_ok hH3]
      exact ⟨⟨xs, rfl, hxl, hxs⟩, t2.trans t3⟩
end
end Ev
set_option maxHeartbeats 1000000
set_option exponentiation.threshold 20000
namespace Ev
open PySem PySem.Spec PyProof.Rows L2
/-- what is drawn, as far as ways need it -/
structure Sc (n : Nat) (l : List (Int × Int)) (cts : List (List CK)) : Prop where
  lo : LimOk l
  ln : l.length = n
  n1 : 1 ≤ n
  n3 : n ≤ 3
  cto : ∀ ct ∈ cts, CtOk n 5 ct ∧ ct.length ≤ 63
  ctl : cts.length ≤ 1000
theorem lim5 {l : List (Int × Int)} (hl : LimOk l) : LSz 5 l := fun z hz => by have := hl z hz; exact ⟨szI5 (by omega) (by omega), szI5 (by omega) (by omega)⟩
def PtOk (n : Nat) (w : List (List Rat)) : Prop := ∀ p ∈ w, p.length = n ∧ PSz 7 p
theorem Sc.ws {s : S} {n : Nat} {l : List (Int × Int)} {cts : List (List CK)} {w : List (List Rat)} {dc : D} (h : Sc n l cts) (hd : Its s dc (cts.map ctD)) (hp : PtOk n w) (hw : w.length ≤ 1000) : Ws s n 5 7 l cts w dc :=
  ⟨bd_7 h.n3, h.ln, lim5 h.lo, h.cto, h.ctl, hd, hp, hw⟩
theorem adj_snoc {α : Type} {R : α → α → Prop} {w : List α} {a x : α} (hw : Adj R (w ++ [a])) (h : R a x) : Adj R (w ++ [a] ++ [x]) := adj_append h hw
section
variable {B : Nat} {o c : Ps} {s s' : S} {n : Nat} {l : List (Int × Int)} {cts : List (List CK)} {w wh : List (List Rat)} {dc d : D} {p q : List Rat}
theorem toP_wy {s : S} {w : List (List Rat)} : mapO (toP s 39) (w.map stD) = some (w.map fun p => PyData.tuple (p.map pR)) := mapO_map fun _ _ => toP_st (n := 36)
theorem free_way_ok (hS : Src B o c s) (h : Sc n l cts) (hd : Its s dc (cts.map ctD)) (hf : Fr B dc) : (f__law_free_way [.ref o, lmD l, dc, .int 7] s).wp (fun v s' => (∃ w, v = wyD w ∧ PtOk n w ∧ w.length ≤ 12 ∧ Adj (FreeLeg l cts) w ∧ ∀ p, w.head? = some p → FreeLeg l cts p p) ∧ Tr B o c s s') NoE := by
  have hb := hS.bn
  simp [f__law_free_way, b__law_free_way]
  have hH0 : Has (s.push (.lst [])) s.n (.lst (([] : List (List Rat)).map stD)) := .push
  have hT0 : Tr B o c s (s.push (.lst [])) := .of hS .push
  generalize hp0 : s.n = p0 at hH0 ⊢
  have hp0B : B ≤ p0.nat := by rw [← hp0]; exact hb
  have hp0s : s.n.nat ≤ p0.nat := by rw [← hp0]; exact Nat.le_refl _
  generalize s.push (.lst []) = s0 at hH0 hT0 ⊢
  refine ⟨w62_nat (i := 12) (by decide), ?_⟩
  obtain ⟨Inv, hI⟩ : ∃ Inv : List Nat → En → S → Prop, ∀ r e s2, Inv r e s2 ↔ (Tr B o c s s2 ∧ ∃ (w : List (List Rat)) (o5 o6 : Option D), e = [some (.ref o), some (lmD l), some dc, some (.int 7), some (.ref p0), o5, o6] ∧ Has s2 p0 (.lst (w.map stD)) ∧ w.length + r.length ≤ 12 ∧ PtOk n w ∧ Adj (FreeLeg l cts) w ∧ ∀ p, w.head? = some p → FreeLeg l cts p p) := ⟨_, fun _ _ _ => Iff.rfl⟩
  refine for_rest (ds := rgD 0 12) (List.range 12) (fun (i : Nat) => D.int (i : Int)) Inv rgD_eq (lt_fuelZ (by simp [zLine])) ((hI _ _ _).mpr ⟨hT0, [], _, _, rfl, hH0, by simp, by simp [PtOk], by simp [Adj], by simp⟩) (fun r e s3 _ => wk_rg) ?_ ?_
  · intro dn lap r e s2 _ h2
    obtain ⟨t2, w, o5, o6, rfl, hH2, hwl, hpt, hadj, hhd⟩ := (hI _ _ _).mp h2
    refine ⟨_, rfl, ?_⟩
    simp [-q_if]
    refine cl (any_standing_ok t2.src h.lo (by rw [h.ln]; exact h.n1) (by rw [h.ln]; exact h.n3)) fun v s3 ⟨⟨p, e3, hpl, hpz⟩, t3⟩ => ?_
    subst e3
    rw [h.ln] at hpl
    have t23 := t2.trans t3
    have hH3 := hH2.lx hp0B t3.lx
    have hd3 := hd.lx hf t23.lx
    have hpt' : PtOk n (w ++ [p]) := fun x hx => by
      rcases List.mem_append.mp hx with hx | hx
      · exact hpt x hx
      · simp at hx; subst hx; exact ⟨hpl, hpz⟩
    have W : ∀ s4, Le s3 s4 → Ws s4 n 5 7 l cts (w ++ [p]) dc := fun s4 l4 => h.ws (hd3.le l4) hpt' (by simp at hwl ⊢; omega)
    -- the two ends of the turn
    have keep : ∀ s4, Le s3 s4 → Inv r [some (.ref o), some (lmD l), some dc, some (.int 7), some (.ref p0), some (.int (lap : Int)), some (stD p)] s4 := fun s4 l4 =>
      (hI _ _ _).mpr ⟨t23.le l4, w, _, _, rfl, hH3.le l4, by simp at hwl; omega, hpt, hadj, hhd⟩
    have add : ∀ s4, Le s3 s4 → Adj (FreeLeg l cts) (w ++ [p]) → (∀ x, (w ++ [p]).head? = some x → FreeLeg l cts x x) → (cDrop (cM (mL gApp) (cVar 4) (cCons (cVar 6) cNil)) [some (.ref o), some (lmD l), some dc, some (.int 7), some (.ref p0), some (.int (lap : Int)), some (stD p)] s4).wp ((finQ (fun v s' => (∃ w, v = wyD w ∧ PtOk n w ∧ w.length ≤ 12 ∧ Adj (FreeLeg l cts) w ∧ ∀ p, w.head? = some p → FreeLeg l cts p p) ∧ Tr B o c s s') NoE).sq (cRet (cCall bTuple (cCons (cVar 4) cNil))) |>.turn (Inv r)) := fun s4 l4 ha hh => by
      have hH4 := hH3.le l4
      simp [isL_ok hH4, append_ok hH4 (x := stD p) (by simp at hwl ⊢; unfold zLine; omega)]
      exact (hI _ _ _).mpr ⟨(t23.le l4).set hp0s hb, w ++ [p], _, _, rfl, by rw [List.map_append]; exact hH4.set, by simp at hwl ⊢; omega, hpt', ha, hh⟩
    have hE : Has (s3.push (.lst [])) s3.n (.lst []) := .push
    have hH4 := hH3.le (Le.push (o := .lst []))
    have l4 : Le s3 (s3.push (.lst [])) := .push
    rw [q_if, q_orT, q_andT]
    simp only [q_tst, q_bin, q_var, List.getElem?_cons_zero, List.getElem?_cons_succ, q_rd, q_ok, q_lst, q_nil, q_short0, true_and]
    rw [eq_nil hH4 hE toP_wy]
    generalize s3.push (.lst []) = s4 at *
    refine ⟨_, rfl, ?_⟩
    rw [List.isEmpty_map]
    cases w with
    | nil =>
      simp only [List.isEmpty_nil, if_true]
      simp only [q_tru, q_def, q_cons, q_nil, q_var, List.getElem?_cons_zero, List.getElem?_cons_succ, q_rd, q_ok]
      refine ⟨rfl, cl (law_is_free_ok h.n3 (W s4 l4) (p := p) (q := p) (by simp) (by simp)) fun v s5 ⟨l5, e5⟩ => ?_⟩
      subst e5
      refine ⟨_, rfl, ?_⟩
      by_cases c1 : FreeLeg l cts p p
      · simp only [c1, decide_true, if_true]
        exact add s5 (l4.trans l5) (by simp [Adj]) (fun x hx => by simp at hx; subst hx; exact c1)
      · simp only [c1, decide_false, Bool.false_eq_true, if_false]
        rw [q_andT]
        simp only [q_tst, q_bin, q_var, List.getElem?_cons_zero, List.getElem?_cons_succ, q_rd, q_ok, q_lst, q_nil, q_short0, true_and]
        rw [ne_nil ((hH4.le l5).le .push) (Has.push) toP_wy]
        refine ⟨_, rfl, ?_⟩
        simp only [List.map_nil, List.isEmpty_nil, Bool.not_true, Bool.false_eq_true, if_false, q_pass, tn_nx]
        exact keep _ (l4.trans (l5.trans .push))
    | cons a r' =>
      simp only [List.isEmpty_cons, Bool.false_eq_true, if_false]
      rw [q_andT]
      simp only [q_tst, q_bin, q_var, List.getElem?_cons_zero, List.getElem?_cons_succ, q_rd, q_ok, q_lst, q_nil, q_short0, true_and]
      rw [ne_nil (hH4.le .push) (Has.push) toP_wy]
      have hH5 := hH4.le (Le.push (o := .lst []))
      have l5 : Le s4 (s4.push (.lst [])) := .push
      generalize s4.push (.lst []) = s5 at *
      refine ⟨_, rfl, ?_⟩
      simp only [List.isEmpty_map, List.isEmpty_cons, Bool.not_false, if_true]
      rw [q_andT]
      simp only [q_tst, q_bin, q_var, List.getElem?_cons_zero, List.getElem?_cons_succ, q_rd, q_ok, q_call, q_cons, q_nil, its_len (.lst hH5), v_lt]
      refine ⟨_, rfl, ?_⟩
      by_cases c2 : (((a :: r').map stD).length : Int) < 7
      · simp only [c2, decide_true, if_true]
        obtain ⟨w', z, hwz⟩ : ∃ w' z, a :: r' = w' ++ [z] := ⟨(a :: r').dropLast, (a :: r').getLast (by simp), (List.dropLast_concat_getLast (by simp)).symm⟩
        have hlast : dIdx (.ref p0) (.int (-1)) s5 = .ok (stD z) s5 := its_idx (.lst hH5) (by rw [hwz, List.map_append]; exact atI_last)
        have hza : z ∈ a :: r' := by rw [hwz]; simp
        simp only [q_tru, q_def, q_cons, q_nil, q_var, List.getElem?_cons_zero, List.getElem?_cons_succ, q_rd, q_ok, q_bin, q_un, q_cst, v_neg, hlast]
        refine ⟨rfl, cl (law_is_free_ok h.n3 (W s5 (l4.trans l5)) (p := z) (q := p) (List.mem_append.mpr (.inl hza)) (by simp)) fun v s6 ⟨l6, e6⟩ => ?_⟩
        subst e6
        refine ⟨_, rfl, ?_⟩
        by_cases c1 : FreeLeg l cts z p
        · simp only [c1, decide_true, if_true]
          exact add s6 (l4.trans (l5.trans l6)) (by rw [hwz] at hadj ⊢; exact adj_snoc hadj c1) (fun x hx => hhd x (by simpa using hx))
        · simp only [c1, decide_false, Bool.false_eq_true, if_false, q_pass, tn_nx]
          exact keep _ (l4.trans (l5.trans l6))
      · simp only [c2, decide_false, Bool.false_eq_true, if_false, q_pass, tn_nx]
        exact keep _ (l4.trans l5)
  · intro e s2 h2
    obtain ⟨t2, w, o5, o6, rfl, hH2, hwl, hpt, hadj, hhd⟩ := (hI _ _ _).mp h2
    simp [tuple_ok hH2]
    exact ⟨⟨w, rfl, hpt, by simpa using hwl, hadj, hhd⟩, t2⟩
end
end Ev
set_option maxHeartbeats 1000000
set_option exponentiation.threshold 20000
namespace Ev
open PySem PySem.Spec PyProof.Rows L2
/-! what is shown of data is short -/
structure Shw (m : Nat) (p : PyData) : Prop where
  a : p.showable = true
  b : p.hasDict = false
  c : p.shown.length ≤ m
theorem Shw.mono {m n : Nat} {p : PyData} (h : Shw m p) (l : m ≤ n) : Shw n p := ⟨h.a, h.b, Nat.le_trans h.c l⟩
theorem shw_int {k : Nat} {i : Int} (h : SzI k i) (hk : 0 < k) (hk2 : k ≤ 1900) : Shw (k + 1) (.int i) := by
  have hl : i.natAbs.log2 < k := by
    by_cases z : i.natAbs = 0
    · rw [z]; simpa using hk
    · exact (Nat.log2_lt z).mpr h
  refine ⟨?_, rfl, ?_⟩
  · simp only [PyData.showable, decide_eq_true_eq]; omega
  · simp only [PyData.shown]
    exact Nat.le_trans (Nat.le_of_eq (PySem.ofString_length _)) (int_text_length_le hk hl)
theorem shw_bool {b : Bool} : Shw 5 (.bool b) := by
  refine ⟨rfl, rfl, ?_⟩
  cases b <;> simp only [PyData.shown] <;> decide
theorem shw_all {m : Nat} : ∀ {xs : List PyData}, (∀ x ∈ xs, Shw m x) → PyData.showableAll xs = true ∧ PyData.hasDictAll xs = false ∧ piled (PyData.shownAll xs) ≤ (m + 2) * xs.length
  | [], _ => ⟨rfl, rfl, by simp [PyData.shownAll, piled]⟩
  | x :: xs, h => by
    obtain ⟨h1, h2, h3⟩ := shw_all (xs := xs) fun y hy => h y (by simp [hy])
    have hx := h x (by simp)
    refine ⟨by simp [PyData.showableAll, hx.a, h1], by simp [PyData.hasDictAll, hx.b, h2], ?_⟩
    rw [PyData.shownAll, piled_cons, List.length_cons, Nat.mul_succ]
    have := hx.c
    omega
theorem shownAll_ne {xs : List PyData} (h : xs ≠ []) : PyData.shownAll xs ≠ [] := by
  cases xs with
  | nil => exact absurd rfl h
  | cons x r => simp [PyData.shownAll]
theorem shw_tup {m : Nat} {xs : List PyData} (h : ∀ x ∈ xs, Shw m x) : Shw ((m + 2) * xs.length + 3) (.tuple xs) := by
  obtain ⟨h1, h2, h3⟩ := shw_all h
  refine ⟨by simpa [PyData.showable] using h1, by simpa [PyData.hasDict] using h2, ?_⟩
  simp only [PyData.shown]
  by_cases e : xs = []
  · subst e
    show (tupleText []).length ≤ _
    have : (tupleText []).length = 2 := by decide
    omega
  · have := join_length_add _ (shownAll_ne e)
    unfold tupleText
    rw [strLen_append, strLen_append]
    have e1 : ((("(" : Str)).length) = 1 := rfl
    have e2 : (Str.ofString (if (PyData.shownAll xs).length == 1 then ",)" else ")")).length ≤ 2 := by split <;> decide
    have e2' : ((if (PyData.shownAll xs).length == 1 then ",)" else ")" : String) : Str).length ≤ 2 := e2
    omega
theorem textFrom_le : ∀ (ts : List Str) (k : Nat) (acc : Str), (textFrom k acc ts).length ≤ acc.length + piled ts
  | [], _, acc => by simp [textFrom, piled]
  | t :: r, k, acc => by
    have h := textFrom_le r (k + 1) (acc ++ (if k > 0 then ", " else "" : String) ++ t)
    rw [textFrom, piled_cons]
    have e : (acc ++ (if k > 0 then ", " else "" : String) ++ t).length ≤ acc.length + 2 + t.length := by
      rw [strLen_append, strLen_append]
      have : ((if k > 0 then ", " else "" : String) : Str).length ≤ 2 := by split <;> decide
      omega
    omega
theorem shw_lst {m : Nat} {xs : List PyData} (h : ∀ x ∈ xs, Shw m x) : Shw ((m + 2) * xs.length + 3) (.list xs) := by
  obtain ⟨h1, h2, h3⟩ := shw_all h
  refine ⟨by simpa [PyData.showable] using h1, by simpa [PyData.hasDict] using h2, ?_⟩
  simp only [PyData.shown]
  unfold listText
  rw [strLen_append]
  have := textFrom_le (PyData.shownAll xs) 0 "["
  have e1 : (("[" : String) : Str).length = 1 := rfl
  have e2 : (("]" : String) : Str).length = 1 := rfl
  omega
theorem shB_of {m : Nat} {p : PyData} (h : Shw m p) (hm : m ≤ zLine) : shB p = true := by
  unfold shB
  rw [h.a, h.b]
  simp only [Bool.not_false, Bool.true_and, Nat.ble_eq]
  exact Nat.le_trans h.c hm
theorem repr_ok {s : S} {q : Ps} {xs : List D} {ps : List PyData} {m : Nat} (h : Has s q (.lst xs)) (hp : mapO (toP s 39) xs = some ps) (hs : Shw m (.list ps)) (hm : m ≤ zLine) : bRepr [.ref q] s = .ok (.str (PyData.list ps).shown.cps.toList) s := by
  have e : toQ s (.ref q) = some (.list ps) := toP_lst (n := 39) h hp
  simp only [bRepr, e, shB_of hs hm, if_true]
/-! ways, contacts -/
def pW (w : List (List Rat)) : PyData := .tuple (w.map fun p => .tuple (p.map pR))
def pK (k : CK) : PyData := .tuple [.tuple (k.1.map PyData.int), .int k.2]
def pC (ct : List CK) : PyData := .tuple (ct.map pK)
theorem toP_k {s : S} {n : Nat} {k : CK} : toP s (n + 3) (ckD k) = some (pK k) := by
  refine toP_tup1 ?_
  have h1 : toP s (n + 2) (.tup (k.1.map .int)) = some (.tuple (k.1.map PyData.int)) := toP_tup fun _ _ => toP_int
  simp only [mapO, h1, toP_int]
theorem toP_c {s : S} {n : Nat} {ct : List CK} : toP s (n + 4) (ctD ct) = some (pC ct) := toP_tup fun _ _ => toP_k
theorem toP_w {s : S} {n : Nat} {w : List (List Rat)} : toP s (n + 4) (wyD w) = some (pW w) := toP_tup fun _ _ => toP_st
theorem shw_R {x : Rat} (h : SzR 7 x) : Shw 23 (pR x) := by
  refine (shw_tup (m := 8) (xs := [.int x.num, .int (x.den : Int)]) fun y hy => ?_)
  simp at hy
  rcases hy with rfl | rfl
  · exact shw_int h.num (by decide) (by decide)
  · exact shw_int h.deni (by decide) (by decide)
theorem shw_W {n : Nat} {w : List (List Rat)} (hn : n ≤ 3) (hw : PtOk n w) (hl : w.length ≤ 20) : Shw 1700 (pW w) := by
  refine (shw_tup (m := 78) fun y hy => ?_).mono (by simp; omega)
  obtain ⟨p, hp, rfl⟩ := List.mem_map.mp hy
  obtain ⟨h1, h2⟩ := hw p hp
  refine (shw_tup (m := 23) fun z hz => ?_).mono (by simp; omega)
  obtain ⟨x, hx, rfl⟩ := List.mem_map.mp hz
  exact shw_R (h2 x hx)
theorem shw_C {n : Nat} {ct : List CK} (hn : n ≤ 3) (hc : CtOk n 5 ct) (hl : ct.length ≤ 63) : Shw 5000 (pC ct) := by
  refine (shw_tup (m := 77) fun y hy => ?_).mono (by simp; omega)
  obtain ⟨k, hk, rfl⟩ := List.mem_map.mp hy
  obtain ⟨h1, h2, h3⟩ := hc k hk
  refine (shw_tup (m := 35) (xs := [.tuple (k.1.map PyData.int), .int k.2]) fun z hz => ?_)
  simp at hz
  rcases hz with rfl | rfl
  · refine (shw_tup (m := 6) fun z hz => ?_).mono (by simp; omega)
    obtain ⟨x, hx, rfl⟩ := List.mem_map.mp hz
    exact shw_int (h2 x hx) (by decide) (by decide)
  · exact (shw_int h3 (by decide) (by decide)).mono (by decide)
theorem eqv_strs {x y : List Nat} {s : S} : onP pNe (.str x) (.str y) s = .ok (.bl (!decide ((⟨x.toArray⟩ : Str) = ⟨y.toArray⟩))) s := by
  have e1 : toQ s (.str x) = some (.str ⟨x.toArray⟩) := by show toP s (39 + 1) _ = _; unfold toP; rfl
  have e2 : toQ s (.str y) = some (.str ⟨y.toArray⟩) := by show toP s (39 + 1) _ = _; unfold toP; rfl
  simp only [onP, e1, e2, pNe, PyData.eqv]
  congr 3
theorem ne_str_self {x : List Nat} {s : S} : onP pNe (.str x) (.str x) s = .ok (.bl false) s := by
  rw [eqv_strs]; simp
theorem eqv_pts : ∀ {v w : List (List Rat)}, PyData.eqvAll (v.map fun p => PyData.tuple (p.map pR)) (w.map fun p => PyData.tuple (p.map pR)) = decide (v = w)
  | [], [] => by simp [PyData.eqvAll]
  | [], _ :: _ => by simp [PyData.eqvAll]
  | _ :: _, [] => by simp [PyData.eqvAll]
  | x :: p, y :: q => by
    simp only [List.map_cons, PyData.eqvAll, PyData.eqv, eqv_sts, eqv_pts (v := p) (w := q)]
    by_cases h1 : x = y <;> by_cases h2 : p = q <;> simp [h1, h2]
theorem eq_wy {v w : List (List Rat)} {s : S} : onP pEq (wyD v) (wyD w) s = .ok (.bl (decide (v = w))) s := by
  have e1 : toQ s (wyD v) = some (pW v) := toP_w (n := 36)
  have e2 : toQ s (wyD w) = some (pW w) := toP_w (n := 36)
  simp only [onP, e1, e2, pEq, pW, PyData.eqv, eqv_pts]
theorem ne_wy {v w : List (List Rat)} {s : S} : onP pNe (wyD v) (wyD w) s = .ok (.bl (!decide (v = w))) s := by
  have e1 : toQ s (wyD v) = some (pW v) := toP_w (n := 36)
  have e2 : toQ s (wyD w) = some (pW w) := toP_w (n := 36)
  simp only [onP, e1, e2, pNe, pW, PyData.eqv, eqv_pts]
end Ev
set_option maxHeartbeats 1000000
set_option exponentiation.threshold 20000
namespace Ev
open PySem PySem.Spec PyProof.Rows L2
abbrev lp0 : SS := (cAs (.nm 3) (cDef f__law_any_limits 2 (cCons (cVar 1) (cCons (cBin dAdd (cCst (.int 1)) (cDef f__law_pick 2 (cCons (cVar 1) (cCons (cCst (.int 3)) (cNil))))) (cNil)))))
abbrev lp1 : SS := (cAs (.nm 4) (cLc (cIt (cLc (cRg1 (cBin dAdd (cCst (.int 1)) (cDef f__law_pick 2 (cCons (cVar 1) (cCons (cCst (.int 2)) (cNil)))))) (.nm 12) (cYes) (cDef f__law_any_contact 2 (cCons (cVar 1) (cCons (cVar 3) (cNil)))) [12])) (.nm 10) (cTst (cBin (onP pNe) (cVar 10) (cTup (cNil)))) (cVar 10) [10]))
abbrev lp2 : SS := (cAs (.nm 5) (cDef f__law_free_way 4 (cCons (cVar 1) (cCons (cVar 3) (cCons (cVar 4) (cCons (cCst (.int 7)) (cNil)))))))
abbrev lp3 : SS := (cIf (cTst (cBin (onP pEq) (cVar 5) (cTup (cNil)))) (cCt) (cPass))
abbrev lp4 : SS := (cIf (cAndT (cTst (cBin (onP pGt) (cVar 2) (cCst (.int 2)))) (cTru (cDef f__law_is_free 4 (cCons (cVar 3) (cCons (cVar 4) (cCons (cBin dIdx (cVar 5) (cUn dNeg (cCst (.int 1)))) (cCons (cBin dIdx (cVar 5) (cCst (.int 0))) (cNil)))))))) (cAs (.nm 5) (cBin dAdd (cVar 5) (cSl (cVar 5) none (some (cCst (.int 1)))))) (cPass))
abbrev lp5 : SS := (cAs (.nm 6) (cCall bRepr (cCons (cLst (cCons (cVar 5) (cCons (cVar 4) (cNil)))) (cNil))))
abbrev lp6 : SS := (cAs (.nm 7) (cDef f_made_lean 3 (cCons (cVar 3) (cCons (cIfE (cTst (cBin (onP pEq) (cVar 2) (cCst (.int 1)))) (cCall bTuple (cCons (cVar 4) (cNil))) (cVar 4)) (cCons (cVar 5) (cNil))))))
abbrev lp7 : SS := (cIf (cOrT (cNotT (cTru (cCall (bIsa .tuple_) (cCons (cVar 7) cNil)))) (cOrT (cNotT (cTru (cDef f__law_is_some 2 (cCons (cVar 7) (cCons (cVar 5) (cNil)))))) (cOrT (cNotT (cTru (cDef f__law_is_lean 3 (cCons (cVar 3) (cCons (cVar 4) (cCons (cVar 7) (cNil))))))) (cTst (cBin (onP pLt) (cCall bLen (cCons (cVar 7) (cNil))) (cCall bMin2 (cCons (cCst (.int 2)) (cCons (cCall bLen (cCons (cVar 5) (cNil))) (cNil))))))))) (cRet (cCst (.bl false))) (cPass))
abbrev lp8 : SS := (cAs (.nm 8) (cLc (cRg1 (cBin dSub (cCall bLen (cCons (cVar 7) (cNil))) (cCst (.int 1)))) (.nm 11) (cYes) (cTup (cCons (cBin dIdx (cVar 7) (cVar 11)) (cCons (cBin dIdx (cVar 7) (cBin dAdd (cVar 11) (cCst (.int 1)))) (cNil)))) [11]))
abbrev lp9 : SS := (cIf (cOrT (cTst (cBin (onP pNe) (cLc (cIt (cVar 8)) (.tp (.cons (.nm 13) (.cons (.nm 14) (.nil)))) (cNotT (cTru (cDef f__law_is_free 4 (cCons (cVar 3) (cCons (cVar 4) (cCons (cVar 13) (cCons (cVar 14) (cNil)))))))) (cCst (.int 1)) [13, 14]) (cLst (cNil)))) (cTst (cUn dNotN (cDef f_judge_way 3 (cCons (cVar 3) (cCons (cVar 4) (cCons (cVar 7) (cNil)))))))) (cRet (cCst (.bl false))) (cPass))
abbrev lp10 : SS := (cAs (.nm 9) (cLst (cCons (cDef f__law_is_lean 3 (cCons (cVar 3) (cCons (cVar 4) (cCons (cVar 5) (cNil))))) (cCons (cCst (.bl true)) (cNil)))))
abbrev lp11 : SS := (cIf (cTst (cBin (onP pNe) (cCall bRepr (cCons (cLst (cCons (cDef f_is_lean_way 3 (cCons (cVar 3) (cCons (cVar 4) (cCons (cVar 5) (cNil))))) (cCons (cDef f_is_lean_way 3 (cCons (cVar 3) (cCons (cCall bTuple (cCons (cVar 4) (cNil))) (cCons (cVar 7) (cNil))))) (cNil)))) (cNil))) (cCall bRepr (cCons (cVar 9) (cNil))))) (cRet (cCst (.bl false))) (cPass))
abbrev lp12 : SS := (cIf (cOrT (cTst (cBin (onP pNe) (cDef f_made_lean 3 (cCons (cVar 3) (cCons (cVar 4) (cCons (cVar 5) (cNil))))) (cVar 7))) (cTst (cBin (onP pNe) (cCall bRepr (cCons (cLst (cCons (cVar 5) (cCons (cVar 4) (cNil)))) (cNil))) (cVar 6)))) (cRet (cCst (.bl false))) (cPass))
abbrev tp2 : SS := (cAs (.tp (.cons (.nm 3) (.cons (.nm 15) (.nil)))) (cTup (cCons (cTup (cCons (cTup (cCons (cCst (.int 0)) (cCons (cCst (.int 10)) (cNil)))) (cCons (cTup (cCons (cCst (.int 0)) (cCons (cCst (.int 10)) (cNil)))) (cNil)))) (cCons (cTup (cCons (cTup (cCons (cTup (cCons (cUn dNeg (cCst (.int 7))) (cCons (cCst (.int 0)) (cCons (cCst (.int 1)) (cNil))))) (cCons (cUn dNeg (cCst (.int 1))) (cNil)))) (cCons (cTup (cCons (cTup (cCons (cUn dNeg (cCst (.int 7))) (cCons (cCst (.int 1)) (cCons (cCst (.int 0)) (cNil))))) (cCons (cUn dNeg (cCst (.int 1))) (cNil)))) (cCons (cTup (cCons (cTup (cCons (cUn dNeg (cCst (.int 3))) (cCons (cCst (.int 0)) (cCons (cCst (.int 1)) (cNil))))) (cCons (cCst (.int 1)) (cNil)))) (cCons (cTup (cCons (cTup (cCons (cUn dNeg (cCst (.int 3))) (cCons (cCst (.int 1)) (cCons (cCst (.int 0)) (cNil))))) (cCons (cCst (.int 1)) (cNil)))) (cNil)))))) (cNil)))))
abbrev tp3 : SS := (cAs (.nm 16) (cCall bTuple (cCons (cLc (cIt (cLst (cCons (cTup (cCons (cCst (.int 0)) (cCons (cCst (.int 0)) (cNil)))) (cCons (cTup (cCons (cCst (.int 5)) (cCons (cCst (.int 0)) (cNil)))) (cCons (cTup (cCons (cCst (.int 10)) (cCons (cCst (.int 0)) (cNil)))) (cCons (cTup (cCons (cCst (.int 10)) (cCons (cCst (.int 0)) (cNil)))) (cCons (cTup (cCons (cCst (.int 10)) (cCons (cCst (.int 5)) (cNil)))) (cCons (cTup (cCons (cCst (.int 10)) (cCons (cCst (.int 10)) (cNil)))) (cNil))))))))) (.tp (.cons (.nm 17) (.cons (.nm 18) (.nil)))) (cYes) (cTup (cCons (cTup (cCons (cVar 17) (cCons (cCst (.int 1)) (cNil)))) (cCons (cTup (cCons (cVar 18) (cCons (cCst (.int 1)) (cNil)))) (cNil)))) [17, 18]) (cNil))))
abbrev tp4 : SS := (cAs (.nm 7) (cDef f_made_lean 3 (cCons (cVar 3) (cCons (cLst (cCons (cVar 15) (cNil))) (cCons (cVar 16) (cNil))))))
abbrev tp5 : SS := (cIf (cOrT (cNotT (cTru (cDef f__law_is_some 2 (cCons (cVar 7) (cCons (cVar 16) (cNil)))))) (cOrT (cNotT (cTru (cDef f__law_is_lean 3 (cCons (cVar 3) (cCons (cLst (cCons (cVar 15) (cNil))) (cCons (cVar 7) (cNil))))))) (cTst (cUn dNotN (cDef f_judge_way 3 (cCons (cVar 3) (cCons (cLst (cCons (cVar 15) (cNil))) (cCons (cVar 7) (cNil))))))))) (cRet (cCst (.bl false))) (cPass))
abbrev tp6 : SS := (cRet (cAndV (cUn (dIsB false) (cDef f_is_lean_way 3 (cCons (cVar 3) (cCons (cLst (cCons (cVar 15) (cNil))) (cCons (cVar 16) (cNil)))))) (cBin (onP pEq) (cDef f_made_lean 3 (cCons (cVar 3) (cCons (cLst (cNil)) (cCons (cVar 16) (cNil))))) (cTup (cCons (cBin dIdx (cVar 16) (cCst (.int 0))) (cCons (cBin dIdx (cVar 16) (cUn dNeg (cCst (.int 1)))) (cNil)))))))

theorem set_at {e : En} {i : Nat} {x : Option D} (h : i < e.length) : (e.set i x)[i]? = some x := List.getElem?_set_self h
structure Z0 (B : Nat) (o c : Ps) (s0 : S) (e : En) (s : S) : Prop where
  len : e.length = 19
  e1 : e[1]? = some (some (.ref o))
  e2 : ∃ lap : Int, e[2]? = some (some (.int lap))
  tr : Tr B o c s0 s
structure Z1 (B : Nat) (o c : Ps) (s0 : S) (l : List (Int × Int)) (e : En) (s : S) : Prop extends Z0 B o c s0 e s where
  e3 : e[3]? = some (some (lmD l))
  lo : LimOk l
  n1 : 1 ≤ l.length
  n3 : l.length ≤ 3
structure Z2 (B : Nat) (o c : Ps) (s0 : S) (l : List (Int × Int)) (pc : Ps) (cts : List (List CK)) (e : En) (s : S) : Prop extends Z1 B o c s0 l e s where
  e4 : e[4]? = some (some (.ref pc))
  bc : B ≤ pc.nat
  hc : Has s pc (.lst (cts.map ctD))
  c2 : cts.length ≤ 2
  cto : ∀ ct ∈ cts, CtOk l.length 5 ct ∧ ct.length ≤ 63
section
variable {B : Nat} {o c : Ps} {s0 : S} {l : List (Int × Int)} {pc : Ps} {cts : List (List CK)} {e : En} {s s' : S} {Q : EQ}
theorem Z0.set (h : Z0 B o c s0 e s) {i : Nat} {x : Option D} (hi : 2 < i) : Z0 B o c s0 (e.set i x) s := ⟨by simpa using h.len, by rw [List.getElem?_set_ne (by omega)]; exact h.e1, by
  obtain ⟨lap, hl⟩ := h.e2
  exact ⟨lap, by rw [List.getElem?_set_ne (by omega)]; exact hl⟩, h.tr⟩
theorem Z1.set (h : Z1 B o c s0 l e s) {i : Nat} {x : Option D} (hi : 3 < i) : Z1 B o c s0 l (e.set i x) s := ⟨h.toZ0.set (by omega), by rw [List.getElem?_set_ne (by omega)]; exact h.e3, h.lo, h.n1, h.n3⟩
theorem Z2.set (h : Z2 B o c s0 l pc cts e s) {i : Nat} {x : Option D} (hi : 4 < i) : Z2 B o c s0 l pc cts (e.set i x) s := ⟨h.toZ1.set (by omega), by rw [List.getElem?_set_ne (by omega)]; exact h.e4, h.bc, h.hc, h.c2, h.cto⟩
theorem Z2.tr' (h : Z2 B o c s0 l pc cts e s) (t : Tr B o c s s') : Z2 B o c s0 l pc cts e s' := { h with tr := h.tr.trans t, hc := h.hc.lx h.bc t.lx }
theorem Z2.le (h : Z2 B o c s0 l pc cts e s) (t : Le s s') : Z2 B o c s0 l pc cts e s' := h.tr' (Tr.of h.tr.src t)
theorem Z2.sc (h : Z2 B o c s0 l pc cts e s) : Sc l.length l cts := ⟨h.lo, rfl, h.n1, h.n3, h.cto, by have := h.c2; omega⟩
theorem lp0_ok (h : Z0 B o c s0 e s) : (lp0 e s).wp (Q.to fun e s => ∃ l, Z1 B o c s0 l e s) := by
  simp only [q_as, q_def, q_cons, q_nil, q_bin, q_cst, q_var, h.e1, q_rd, q_ok]
  refine ⟨rfl, cl (pick_lit h.tr.src (by decide)) fun v s1 ⟨r, e1, r0, r1, t1⟩ => ?_⟩
  subst e1
  obtain ⟨m, rfl⟩ : ∃ m : Nat, r = m := ⟨r.toNat, by omega⟩
  simp only [v_add, q_ok]
  have hm : (1 : Int) + (m : Int) = ((m + 1 : Nat) : Int) := by omega
  rw [hm]
  refine ⟨rfl, cl (any_limits_ok t1.src (by omega)) fun v s2 ⟨⟨l, e2, hl, hlo⟩, t2⟩ => ?_⟩
  subst e2
  have h0 := h.set (i := 3) (x := some (lmD l)) (by decide)
  exact ⟨_, to_nm, l, { h0 with tr := h.tr.trans (t1.trans t2), e3 := set_at (by rw [h.len]; decide), lo := hlo, n1 := by omega, n3 := by omega }⟩
theorem lp1_ok (h : Z1 B o c s0 l e s) : (lp1 e s).wp (Q.to fun e s => ∃ pc cts, Z2 B o c s0 l pc cts e s) := by
  simp only [q_as, q_lc, q_it, q_rg1, q_bin, q_def, q_cons, q_nil, q_cst, q_var, h.e1, q_rd, q_ok, wipeE]
  refine ⟨rfl, cl (pick_lit h.tr.src (by decide)) fun v s1 ⟨r, e1, r0, r1, t1⟩ => ?_⟩
  subst e1
  obtain ⟨m, rfl⟩ : ∃ m : Nat, r = m := ⟨r.toNat, by omega⟩
  simp only [v_add, q_ok]
  have hm : (1 : Int) + (m : Int) = ((m + 1 : Nat) : Int) := by omega
  rw [hm]
  refine ⟨_, rfl, w62_nat (by omega), ?_⟩
  rw [Int.toNat_natCast]
  refine lc_draw t1.src (List.range (m + 1)) (fun (i : Nat) => D.int (i : Int)) ctD (fun ct => CtOk l.length 5 ct ∧ ct.length ≤ 63) rgD_eq (by simp [zLine]; omega) (fun s' _ => wk_rg) ?_ ?_
  · intro a _ s2 t2
    refine ⟨_, to_nm, ?_⟩
    have g1 : ((e.set 12 none).set 12 (some (D.int (a : Int))))[1]? = some (some (.ref o)) := by
      rw [List.getElem?_set_ne (by decide), List.getElem?_set_ne (by decide)]; exact h.e1
    have g3 : ((e.set 12 none).set 12 (some (D.int (a : Int))))[3]? = some (some (lmD l)) := by
      rw [List.getElem?_set_ne (by decide), List.getElem?_set_ne (by decide)]; exact h.e3
    simp only [q_def, q_cons, q_nil, q_var, g1, g3, q_rd, q_ok]
    refine ⟨rfl, cl (any_contact_ok t2.src h.lo h.n1 h.n3) fun v s3 ⟨⟨ct, e2, hct, hcl⟩, t3⟩ => ?_⟩
    exact ⟨⟨ct, e2, hct, hcl⟩, t3⟩
  intro q s2 bs t2 hq hH hbl hbs
  refine ⟨its_some (.lst hH), ?_⟩
  refine lc_filter bs ctD (fun ct => !ct.isEmpty) ctD rfl (by simp at hbl; unfold zLine; omega) (fun s' x => wk_sq (.lst (hH.le x))) ?_ ?_
  · intro ct hct s3 x3
    have g6 : ((e.set 10 none).set 10 (some (ctD ct)))[10]? = some (some (ctD ct)) := set_at (by simp [h.len])
    refine ⟨_, to_nm, ?_, fun _ s4 x4 => ?_⟩
    · simp only [q_tst, q_bin, q_var, g6, q_rd, q_ok, q_tup, q_nil, q_short0, true_and]
      obtain ⟨ps, hps⟩ := toP_some (s := s3) (n := 39) (fun k => toP_ck (n := 36) (k := k)) ct
      rw [show ctD ct = .tup (ct.map ckD) from rfl, ne_nilT hps, List.isEmpty_map]
      exact ⟨_, rfl, rfl, .rfl⟩
    · simp only [q_var, g6, q_rd, q_ok]
      exact ⟨trivial, .rfl⟩
  · intro pc s3 x3 hpc hH3
    have t13 := (t1.trans t2).le x3
    have h0 := h.set (i := 4) (x := some (D.ref pc)) (by decide)
    refine ⟨_, to_nm, pc, bs.filter fun ct => !ct.isEmpty, { h0 with tr := h.tr.trans t13, e4 := set_at (by rw [h.len]; decide), bc := Nat.le_trans t2.src.bn hpc, hc := hH3, c2 := ?_, cto := fun ct hct => hbs ct (List.mem_filter.mp hct).1 }⟩
    have := List.length_filter_le (fun ct : List CK => !ct.isEmpty) bs
    simp at hbl; omega
/-- with a way -/
structure Z3 (B : Nat) (o c : Ps) (s0 : S) (l : List (Int × Int)) (pc : Ps) (cts : List (List CK)) (m : Nat) (w : List (List Rat)) (e : En) (s : S) : Prop extends Z2 B o c s0 l pc cts e s where
  e5 : e[5]? = some (some (wyD w))
  pt : PtOk l.length w
  wl : w.length ≤ m
  ad : Adj (FreeLeg l cts) w
  hd : ∀ p, w.head? = some p → FreeLeg l cts p p
variable {m : Nat} {w : List (List Rat)}
theorem Z3.le (h : Z3 B o c s0 l pc cts m w e s) (t : Le s s') : Z3 B o c s0 l pc cts m w e s' := { h with toZ2 := h.toZ2.le t }
theorem Z3.set (h : Z3 B o c s0 l pc cts m w e s) {i : Nat} {x : Option D} (hi : 5 < i) : Z3 B o c s0 l pc cts m w (e.set i x) s := { h with toZ2 := h.toZ2.set (by omega), e5 := by rw [List.getElem?_set_ne (by omega)]; exact h.e5 }
theorem lp2_ok (h : Z2 B o c s0 l pc cts e s) : (lp2 e s).wp (Q.to fun e s => ∃ w, Z3 B o c s0 l pc cts 12 w e s) := by
  simp only [q_as, q_def, q_cons, q_nil, q_cst, q_var, h.e1, h.e3, h.e4, q_rd, q_ok]
  refine ⟨rfl, cl (free_way_ok h.tr.src h.sc (.lst h.hc) h.bc) fun v s1 ⟨⟨w, e1, hp, hl, ha, hh⟩, t1⟩ => ?_⟩
  subst e1
  exact ⟨_, to_nm, w, { toZ2 := (h.tr' t1).set (by decide), e5 := set_at (by rw [h.len]; decide), pt := hp, wl := hl, ad := ha, hd := hh }⟩
theorem lp3_ok (h : Z3 B o c s0 l pc cts 12 w e s) {n : SS} (hct : ∀ e s, Z0 B o c s0 e s → Q.ct e s) (hnx : w ≠ [] → (n e s).wp Q) : (cSeq lp3 n e s).wp Q := by
  rw [q_seq]
  simp only [q_if, q_tst, q_bin, q_var, h.e5, q_rd, q_ok, q_tup, q_nil, q_short0, true_and]
  have e1 : onP pEq (wyD w) (.tup []) s = .ok (.bl w.isEmpty) s := by
    unfold wyD
    rw [eq_nilT (mapO_map fun _ _ => toP_st (n := 36)), List.isEmpty_map]
  rw [e1]
  refine ⟨_, rfl, ?_⟩
  by_cases hemp : w.isEmpty = true
  · rw [if_pos hemp]
    simp only [q_ct, sq_ct]
    exact hct _ _ h.toZ0
  · rw [if_neg hemp]
    simp only [q_pass, sq_nx]
    exact hnx (by simpa using hemp)
theorem Z3.ws (h : Z3 B o c s0 l pc cts m w e s) (hm : m ≤ 1000) : Ws s l.length 5 7 l cts w (.ref pc) := h.sc.ws (.lst h.hc) h.pt (Nat.le_trans h.wl hm)
theorem lp4_ok (h : Z3 B o c s0 l pc cts 12 w e s) (hne : w ≠ []) : (lp4 e s).wp (Q.to fun e s => ∃ w, w ≠ [] ∧ Z3 B o c s0 l pc cts 13 w e s) := by
  obtain ⟨lap, h2⟩ := h.e2
  have keep : ∀ s', Le s s' → ∃ w, w ≠ [] ∧ Z3 B o c s0 l pc cts 13 w e s' := fun s' x => ⟨w, hne, { h.le x with wl := by have := h.wl; omega }⟩
  simp only [q_if, q_andT, q_tst, q_bin, q_var, h2, q_rd, q_ok, q_cst, v_gt]
  refine ⟨_, rfl, ?_⟩
  by_cases c1 : 2 < lap
  · obtain ⟨a, wr, rfl⟩ : ∃ a wr, w = a :: wr := by
      cases w with
      | nil => exact absurd rfl hne
      | cons a b => exact ⟨a, b, rfl⟩
    obtain ⟨w', z, hwz⟩ : ∃ w' z, a :: wr = w' ++ [z] := ⟨(a :: wr).dropLast, (a :: wr).getLast (by simp), (List.dropLast_concat_getLast (by simp)).symm⟩
    have z1 : dIdx (wyD (a :: wr)) (.int 0) s = .ok (stD a) s := its_idx (xs := (a :: wr).map stD) .tup atI_0
    have z2 : dIdx (wyD (a :: wr)) (.int (-1)) s = .ok (stD z) s := its_idx (xs := (a :: wr).map stD) .tup (by rw [hwz, List.map_append]; exact atI_last)
    have hza : z ∈ a :: wr := by rw [hwz]; simp
    simp only [c1, decide_true, if_true, q_tru, q_def, q_cons, q_nil, q_var, h.e3, h.e4, h.e5, q_rd, q_ok, q_bin, q_un, q_cst, v_neg, z1, z2]
    refine ⟨rfl, cl (law_is_free_ok h.n3 (h.ws (by decide)) hza (List.mem_cons_self ..)) fun v s1 ⟨x1, e1⟩ => ?_⟩
    subst e1
    refine ⟨_, rfl, ?_⟩
    by_cases c2 : FreeLeg l cts z a
    · simp only [c2, decide_true, if_true]
      have h1 := h.le x1
      have c0 : cutD ((a :: wr).map stD) none (some 1) = [stD a] := by
        unfold cutD HT.sIx
        simp
      have hsh : short zLine ((a :: wr).map stD ++ [stD a]) = true := short_of (by have := h.wl; simp at this ⊢; unfold zLine; omega)
      simp only [q_as, q_bin, q_var, h.e5, q_rd, q_ok, q_sl, q_part0, q_part1, q_cst]
      refine ⟨1, rfl, ?_⟩
      unfold wyD
      simp only [q_slT, q_ok, c0, v_addT, hsh, true_and]
      refine ⟨_, to_nm, (a :: wr) ++ [a], by simp, { toZ2 := h1.toZ2.set (by decide), e5 := ?_, pt := fun p hp => ?_, wl := by have := h.wl; simp at this ⊢; omega, ad := ?_, hd := fun p hp => h.hd p (by simpa using hp) }⟩
      · rw [set_at (by rw [h.len]; decide)]; simp [wyD]
      · rcases List.mem_append.mp hp with hp | hp
        · exact h.pt p hp
        · simp at hp; subst hp; exact h.pt p (List.mem_cons_self ..)
      · have := h.ad
        rw [hwz] at this ⊢
        exact adj_snoc this c2
    · simp only [c2, decide_false, Bool.false_eq_true, if_false, q_pass]
      exact keep s1 x1
  · simp only [c1, decide_false, Bool.false_eq_true, if_false, q_pass]
    exact keep s .rfl
end
end Ev
set_option maxHeartbeats 1000000
set_option exponentiation.threshold 20000
namespace Ev
open PySem PySem.Spec PyProof.Rows L2
def keptD (w : List (List Rat)) (cts : List (List CK)) : D := .str (PyData.list [pW w, .list (cts.map pC)]).shown.cps.toList
section
variable {B : Nat} {o c : Ps} {s0 : S} {l : List (Int × Int)} {pc : Ps} {cts : List (List CK)} {e : En} {s s' : S} {Q : EQ} {w : List (List Rat)}
noncomputable def mlT (l : List (Int × Int)) (cts : List (List CK)) (w : List (List Rat)) : List (List Rat) := mlF l cts w.length w
theorem Z3.kept (h : Z3 B o c s0 l pc cts 13 w e s) {P : D → S → Prop} {E : Nat → List (Str × D) → S → Prop} (k : ∀ s', Le s s' → P (keptD w cts) s') : (cCall bRepr (cCons (cLst (cCons (cVar 5) (cCons (cVar 4) (cNil)))) (cNil)) e s).wp P E := by
  simp only [q_call, q_cons, q_nil, q_lst, q_var, h.e5, h.e4, q_rd, q_ok, q_shortZ2, true_and]
  have hN : Has (s.push (.lst [wyD w, .ref pc])) s.n (.lst [wyD w, .ref pc]) := .push
  have hc := h.hc.le (Le.push (o := .lst [wyD w, .ref pc]))
  have hL : Le s (s.push (.lst [wyD w, .ref pc])) := .push
  generalize s.push (.lst [wyD w, .ref pc]) = s1 at *
  have e1 : toP s1 39 (wyD w) = some (pW w) := toP_w (n := 35)
  have e2 : toP s1 39 (.ref pc) = some (.list (cts.map pC)) := toP_lst (n := 38) hc (mapO_map fun _ _ => toP_c (n := 34))
  have hm : mapO (toP s1 39) [wyD w, .ref pc] = some [pW w, .list (cts.map pC)] := by simp only [mapO, e1, e2]
  have hcs : Shw 10007 (.list (cts.map pC)) := by
    refine (shw_lst (m := 5000) fun y hy => ?_).mono (by have := h.c2; simp; omega)
    obtain ⟨ct, hct, rfl⟩ := List.mem_map.mp hy
    exact shw_C h.n3 (h.cto ct hct).1 (h.cto ct hct).2
  have hs : Shw 20021 (.list [pW w, .list (cts.map pC)]) := by
    refine (shw_lst (m := 10007) fun y hy => ?_).mono (by simp)
    simp at hy
    rcases hy with rfl | rfl
    · exact (shw_W h.n3 h.pt (by have := h.wl; omega)).mono (by decide)
    · exact hcs
  rw [repr_ok hN hm hs (by decide)]
  exact k _ hL
theorem adj_wn {T : List (List Rat)} (ha : Adj (FreeLeg l cts) T) (hh : ∀ p, T.head? = some p → FreeLeg l cts p p) : (∀ p ∈ T, Wn l p) ∧ ∀ z ∈ legs T, FreeLeg l cts z.1 z.2 := by
  match T, ha, hh with
  | [], _, _ => simp [legs]
  | [p], _, hh =>
    have := hh p rfl
    refine ⟨fun x hx => ?_, fun z hz => ?_⟩
    · simp at hx; subst hx; exact this.1
    · simp [legs] at hz; subst hz; exact this
  | p :: q :: r, ha, hh =>
    refine ⟨?_, fun z hz => ha z hz⟩
    have key : ∀ (r : List (List Rat)) (p q : List Rat), Adj (FreeLeg l cts) (p :: q :: r) → ∀ x ∈ p :: q :: r, Wn l x := by
      intro r
      induction r with
      | nil =>
        intro p q ha x hx
        have := ha (p, q) (by simp)
        simp at hx
        rcases hx with rfl | rfl
        · exact this.1
        · exact this.2.1
      | cons a r ih =>
        intro p q ha x hx
        have h1 := ha (p, q) (by simp)
        rcases List.mem_cons.mp hx with rfl | hx
        · exact h1.1
        · exact ih q a (fun z hz => ha z (by simp only [List.tail_cons, List.zip_cons_cons, List.mem_cons] at hz ⊢; exact .inr hz)) x hx
    exact key r p q ha
/-- what is told of a way -/
structure Told (l : List (Int × Int)) (cts : List (List CK)) (w T : List (List Rat)) : Prop where
  ne : T ≠ []
  sub : T.Sublist w
  hd : T.head? = w.head?
  la : T.getLast? = w.getLast?
  lean : firstN l cts T = none
  two : min 2 w.length ≤ T.length
  ad : Adj (FreeLeg l cts) T
theorem told_of (hne : w ≠ []) (ha : Adj (FreeLeg l cts) w) : Told l cts w (mlT l cts w) := by
  have h2 := mlF_two (l := l) (cts := cts) w.length w
  have hp : 0 < w.length := List.length_pos_iff.mpr hne
  refine ⟨fun e => ?_, mlF_sublist _ _, (mlF_ends _ _).1, (mlF_ends _ _).2, mlF_lean _ _ (Nat.le_refl _), h2, mlF_adj _ _ ha⟩
  unfold mlT at e
  rw [e, List.length_nil] at h2
  omega
theorem isa_wy {w : List (List Rat)} : bIsa .tuple_ [wyD w] s = .ok (.bl true) s := isa_tup (ps := w.map fun p => .tuple (p.map pR)) (mapO_map fun _ _ => toP_st (n := 36))
theorem len_wy {w : List (List Rat)} : bLen [wyD w] s = .ok (.int w.length) s := by simp [wyD]
theorem judge_T {T : List (List Rat)} {dc : D} (hs : Sc l.length l cts) (hd : Its s dc (cts.map ctD)) (hp : PtOk l.length T) (hne : T ≠ []) (hl : T.length ≤ 1000) (ha : Adj (FreeLeg l cts) T) (hh : ∀ p, T.head? = some p → FreeLeg l cts p p) :
    (f_judge_way [lmD l, dc, wyD T] s).wp (fun v s' => v = .non ∧ Le s s') NoE := by
  obtain ⟨h1, h2⟩ := adj_wn ha hh
  exact judge_way_ok (kf := 5) (kp := 7) ⟨bd_7 hs.n3, rfl, lim5 hs.lo, hs.cto, hs.ctl, hd, fun p hp' => ⟨(hp p hp').1, (hp p hp').2, h1 p hp'⟩, hne, hl⟩ fun z hz ct hct => (h2 z hz).2.2 ct hct
/-- behind what is told -/
structure Z4 (B : Nat) (o c : Ps) (s0 : S) (l : List (Int × Int)) (pc : Ps) (cts : List (List CK)) (w : List (List Rat)) (e : En) (s : S) : Prop extends Z3 B o c s0 l pc cts 13 w e s where
  ne : w ≠ []
  e6 : e[6]? = some (some (keptD w cts))
  e7 : e[7]? = some (some (wyD (mlT l cts w)))
theorem Z4.le (h : Z4 B o c s0 l pc cts w e s) (t : Le s s') : Z4 B o c s0 l pc cts w e s' := { h with toZ3 := h.toZ3.le t }
theorem Z4.set (h : Z4 B o c s0 l pc cts w e s) {i : Nat} {x : Option D} (hi : 7 < i) : Z4 B o c s0 l pc cts w (e.set i x) s := { h with toZ3 := h.toZ3.set (by omega), e6 := by rw [List.getElem?_set_ne (by omega)]; exact h.e6, e7 := by rw [List.getElem?_set_ne (by omega)]; exact h.e7 }
theorem Z4.told (h : Z4 B o c s0 l pc cts w e s) : Told l cts w (mlT l cts w) := told_of h.ne h.ad
theorem Z4.tpt (h : Z4 B o c s0 l pc cts w e s) : PtOk l.length (mlT l cts w) := fun p hp => h.pt p (h.told.sub.subset hp)
theorem Z4.tl (h : Z4 B o c s0 l pc cts w e s) : (mlT l cts w).length ≤ 13 := Nat.le_trans h.told.sub.length_le h.wl
theorem Z4.wt (h : Z4 B o c s0 l pc cts w e s) : Ws s l.length 5 7 l cts (mlT l cts w) (.ref pc) := h.sc.ws (.lst h.hc) h.tpt (by have := h.tl; omega)
theorem lp5_ok (h : Z3 B o c s0 l pc cts 13 w e s) : (lp5 e s).wp (Q.to fun e s => Z3 B o c s0 l pc cts 13 w e s ∧ e[6]? = some (some (keptD w cts))) := by
  rw [q_as]
  exact h.kept fun s' x => ⟨_, to_nm, (h.le x).set (by decide), set_at (by rw [h.len]; decide)⟩
theorem lp6_ok (h : Z3 B o c s0 l pc cts 13 w e s) (hne : w ≠ []) (h6 : e[6]? = some (some (keptD w cts))) : (lp6 e s).wp (Q.to (Z4 B o c s0 l pc cts w)) := by
  obtain ⟨lap, h2⟩ := h.e2
  have fin : ∀ dc, Its s dc (cts.map ctD) → (f_made_lean [lmD l, dc, wyD w] s).wp (fun d s1 => ∃ e1, IT.to (.nm 7) d e = some e1 ∧ (Q.to (Z4 B o c s0 l pc cts w)).nx e1 s1) (fun c' fs s => (Q.to (Z4 B o c s0 l pc cts w)).ex c' fs e s) := fun dc hd =>
    cl (made_lean_ok (h.sc.ws hd h.pt (by have := h.wl; omega))) fun v s1 ⟨x1, e1⟩ => by
      subst e1
      refine ⟨_, to_nm, { toZ3 := (h.le x1).set (by decide), ne := hne, e6 := ?_, e7 := set_at (by rw [h.len]; decide) }⟩
      rw [List.getElem?_set_ne (by decide)]; exact h6
  simp only [q_as, q_def, q_cons, q_nil, q_ifE, q_tst, q_bin, q_var, h2, h.e3, h.e4, h.e5, q_rd, q_ok, q_cst, v_eq]
  refine ⟨_, rfl, ?_⟩
  by_cases c1 : lap = 1
  · simp only [c1, decide_true, if_true, q_call, q_cons, q_nil, q_var, h.e4, q_rd, q_ok, tuple_ok h.hc]
    exact ⟨rfl, fin _ .tup⟩
  · simp only [c1, decide_false, Bool.false_eq_true, if_false]
    exact ⟨rfl, fin _ (.lst h.hc)⟩
theorem lp7_ok (h : Z4 B o c s0 l pc cts w e s) : (lp7 e s).wp (Q.to (Z4 B o c s0 l pc cts w)) := by
  have T := h.told
  have htl := h.tl
  simp only [q_if, q_orT, q_notT, q_tru, q_call, q_cons, q_nil, q_var, h.e7, q_rd, q_ok, isa_wy]
  refine ⟨true, rfl, ?_⟩
  simp only [Bool.not_true, Bool.false_eq_true, if_false, q_orT, q_notT, q_tru, q_def, q_cons, q_nil, q_var, h.e7, h.e5, q_rd, q_ok]
  refine ⟨rfl, cl (is_some_ok T.sub T.ne T.hd T.la (by have := h.wl; omega)) fun v s1 ⟨x1, e1⟩ => ?_⟩
  subst e1
  have h1 := h.le x1
  refine ⟨true, rfl, ?_⟩
  simp only [Bool.not_true, Bool.false_eq_true, if_false, q_orT, q_notT, q_tru, q_def, q_cons, q_nil, q_var, h.e7, h.e3, h.e4, q_rd, q_ok]
  refine ⟨rfl, cl (law_is_lean_ok h.n3 h1.wt) fun v s2 ⟨x2, e2⟩ => ?_⟩
  subst e2
  rw [T.lean]
  refine ⟨true, rfl, ?_⟩
  simp only [Bool.not_true, Bool.false_eq_true, if_false, q_tst, q_bin, q_call, q_cons, q_nil, q_cst, q_var, h.e7, h.e5, q_rd, q_ok, len_wy, v_min, v_lt]
  refine ⟨_, rfl, ?_⟩
  have c1 : ¬ ((mlT l cts w).length : Int) < (if (w.length : Int) < 2 then (w.length : Int) else 2) := by
    have := T.two
    split <;> omega
  simp only [c1, decide_false, Bool.false_eq_true, if_false, q_pass]
  exact h1.le x2
theorem lp8_ok (h : Z4 B o c s0 l pc cts w e s) : (lp8 e s).wp (Q.to fun e s => Z4 B o c s0 l pc cts w e s ∧ ∃ q, e[8]? = some (some (.ref q)) ∧ Has s q (.lst ((List.range ((mlT l cts w).length - 1)).map fun i => lgD (pt (mlT l cts w) i, pt (mlT l cts w) (i + 1))))) := by
  have hpos : 0 < (mlT l cts w).length := List.length_pos_iff.mpr h.told.ne
  have htl := h.tl
  simp only [q_as, q_lc, q_rg1, q_bin, q_call, q_cons, q_nil, q_cst, q_var, h.e7, q_rd, q_ok, len_wy, v_sub, wipeE]
  have em : ((mlT l cts w).length : Int) - 1 = (((mlT l cts w).length - 1 : Nat) : Int) := by omega
  rw [em]
  refine ⟨_, rfl, w62_nat (by omega), ?_⟩
  rw [Int.toNat_natCast]
  refine lc_map (List.range ((mlT l cts w).length - 1)) (fun (i : Nat) => D.int (i : Int)) (fun i => lgD (pt (mlT l cts w) i, pt (mlT l cts w) (i + 1))) rgD_eq (by simp [zLine]; omega) (fun s' _ => wk_rg) ?_ ?_
  · intro i hi s1 x1
    have hi : i < (mlT l cts w).length - 1 := by simpa using hi
    refine ⟨_, to_nm, ?_⟩
    have g7 : ((e.set 11 none).set 11 (some (D.int (i : Int))))[7]? = some (some (wyD (mlT l cts w))) := by
      rw [List.getElem?_set_ne (by decide), List.getElem?_set_ne (by decide)]; exact h.e7
    have g11 : ((e.set 11 none).set 11 (some (D.int (i : Int))))[11]? = some (some (D.int (i : Int))) := set_at (by simp [h.len])
    have k2 : (i : Int) + 1 = ((i + 1 : Nat) : Int) := by omega
    have w1 : ∀ s, dIdx (wyD (mlT l cts w)) (.int (i : Int)) s = .ok (stD (pt (mlT l cts w) i)) s := fun s => wy_get (by omega)
    have w2 : ∀ s, dIdx (wyD (mlT l cts w)) (.int (((i + 1 : Nat) : Int))) s = .ok (stD (pt (mlT l cts w) (i + 1))) s := fun s => wy_get (by omega)
    simp only [q_tup, q_cons, q_nil, q_bin, q_var, g7, g11, q_rd, q_ok, q_cst, v_add, k2, w1, w2, q_shortZ2, true_and]
    exact ⟨rfl, .rfl⟩
  · intro q s1 x1 _ hH
    exact ⟨_, to_nm, (h.le x1).set (by decide), q, set_at (by rw [h.len]; decide), hH⟩
theorem lp9_ok {q : Ps} (h : Z4 B o c s0 l pc cts w e s) (h8 : e[8]? = some (some (.ref q))) (hH : Has s q (.lst ((List.range ((mlT l cts w).length - 1)).map fun i => lgD (pt (mlT l cts w) i, pt (mlT l cts w) (i + 1))))) : (lp9 e s).wp (Q.to (Z4 B o c s0 l pc cts w)) := by
  have htl := h.tl
  have T := h.told
  simp only [q_if, q_orT, q_tst, q_bin, q_lc, q_it, q_var, h8, q_rd, q_ok, its_some (.lst hH), true_and, wipeE]
  refine lc_filter (List.range ((mlT l cts w).length - 1)) (fun i => lgD (pt (mlT l cts w) i, pt (mlT l cts w) (i + 1))) (fun _ => false) (fun _ => D.int 1) rfl (by simp [zLine]; omega) (fun s' x => wk_sq (.lst (hH.le x))) ?_ ?_
  · intro i hi s1 x1
    have hi : i < (mlT l cts w).length - 1 := by simpa using hi
    refine ⟨_, rfl, ?_, fun z => by cases z⟩
    have hlen := h.len
    have g3 : ((((e.set 14 none).set 13 none).set 13 (some (stD (pt (mlT l cts w) i)))).set 14 (some (stD (pt (mlT l cts w) (i + 1)))))[3]? = some (some (lmD l)) := by
      rw [List.getElem?_set_ne (by decide), List.getElem?_set_ne (by decide), List.getElem?_set_ne (by decide), List.getElem?_set_ne (by decide)]; exact h.e3
    have g4 : ((((e.set 14 none).set 13 none).set 13 (some (stD (pt (mlT l cts w) i)))).set 14 (some (stD (pt (mlT l cts w) (i + 1)))))[4]? = some (some (.ref pc)) := by
      rw [List.getElem?_set_ne (by decide), List.getElem?_set_ne (by decide), List.getElem?_set_ne (by decide), List.getElem?_set_ne (by decide)]; exact h.e4
    have g13 : ((((e.set 14 none).set 13 none).set 13 (some (stD (pt (mlT l cts w) i)))).set 14 (some (stD (pt (mlT l cts w) (i + 1)))))[13]? = some (some (stD (pt (mlT l cts w) i))) := by
      rw [List.getElem?_set_ne (by decide)]; exact set_at (by simp [hlen])
    have g14 : ((((e.set 14 none).set 13 none).set 13 (some (stD (pt (mlT l cts w) i)))).set 14 (some (stD (pt (mlT l cts w) (i + 1)))))[14]? = some (some (stD (pt (mlT l cts w) (i + 1)))) := set_at (by simp [hlen])
    show ((cNotT (cTru (cDef f__law_is_free 4 (cCons (cVar 3) (cCons (cVar 4) (cCons (cVar 13) (cCons (cVar 14) (cNil)))))))) ((((e.set 14 none).set 13 none).set 13 (some (stD (pt (mlT l cts w) i)))).set 14 (some (stD (pt (mlT l cts w) (i + 1))))) s1).wp _ _
    simp only [q_notT, q_tru, q_def, q_cons, q_nil, q_var, g3, g4, g13, g14, q_rd, q_ok]
    have fr : FreeLeg l cts (pt (mlT l cts w) i) (pt (mlT l cts w) (i + 1)) := by
      refine T.ad (pt (mlT l cts w) i, pt (mlT l cts w) (i + 1)) ?_
      have h1 : i < (mlT l cts w).length := by omega
      have h2 : i < (mlT l cts w).tail.length := by simp; omega
      refine List.mem_iff_getElem.mpr ⟨i, by simp; omega, ?_⟩
      rw [List.getElem_zip]
      unfold pt
      rw [← getD_eq h1, ← getD_eq (show i + 1 < (mlT l cts w).length by omega)]
      simp
    refine ⟨rfl, cl (law_is_free_ok h.n3 (h.le x1).wt (pt_mem (by omega)) (pt_mem (by omega))) fun v s2 ⟨x2, e2⟩ => ?_⟩
    subst e2
    simp only [fr, decide_true]
    exact ⟨true, rfl, rfl, x2⟩
  · intro q2 s1 x1 _ hH2
    have hE : Has (s1.push (.lst [])) s1.n (.lst []) := .push
    have hq2 := hH2.le (Le.push (o := .lst []))
    have x2 := x1.trans (Le.push (o := .lst []))
    simp only [q_lst, q_nil, q_ok, q_short0, true_and]
    rw [ne_nil hq2 hE (mapO_map (g := fun (_ : Nat) => PyData.int 1) fun _ _ => toP_int (n := 38))]
    generalize s1.push (.lst []) = s2 at *
    refine ⟨_, rfl, ?_⟩
    have hfe : ((List.range ((mlT l cts w).length - 1)).filter fun _ => false) = [] := by simp
    rw [hfe]
    simp only [List.map_nil, List.isEmpty_nil, Bool.not_true, Bool.false_eq_true, if_false, q_tst, q_un, q_def, q_cons, q_nil, q_var, h.e3, h.e4, h.e7, q_rd, q_ok]
    have h2 := h.le x2
    refine ⟨rfl, cl (judge_T h.sc (.lst h2.hc) h.tpt T.ne (by omega) T.ad (fun p hp => h.hd p (by rw [← T.hd]; exact hp))) fun v s3 ⟨e3, x3⟩ => ?_⟩
    subst e3
    simp only [v_notN, q_ok]
    refine ⟨_, rfl, ?_⟩
    simp only [Bool.false_eq_true, if_false, q_pass]
    exact h2.le x3
theorem lp10_ok (h : Z4 B o c s0 l pc cts w e s) : (lp10 e s).wp (Q.to fun e s => Z4 B o c s0 l pc cts w e s ∧ ∃ q, e[9]? = some (some (.ref q)) ∧ Has s q (.lst [.bl (firstN l cts w).isNone, .bl true])) := by
  simp only [q_as, q_lst, q_cons, q_nil, q_def, q_cst, q_var, h.e3, h.e4, h.e5, q_rd, q_ok]
  refine ⟨rfl, cl (law_is_lean_ok h.n3 (h.ws (by decide))) fun v s1 ⟨x1, e1⟩ => ?_⟩
  subst e1
  simp only [q_shortZ2, true_and]
  exact ⟨_, to_nm, (h.le (x1.trans .push)).set (by decide), _, set_at (by rw [h.len]; decide), .push⟩
theorem repr_bools {q : Ps} {b b' : Bool} (h : Has s q (.lst [.bl b, .bl b'])) : bRepr [.ref q] s = .ok (.str (PyData.list [.bool b, .bool b']).shown.cps.toList) s := by
  refine repr_ok h (by simp only [mapO, toP_bl]) (shw_lst (m := 5) fun y hy => ?_) (by simp [zLine])
  simp at hy
  rcases hy with rfl | rfl <;> exact shw_bool
theorem lp11_ok {q : Ps} (h : Z4 B o c s0 l pc cts w e s) (h9 : e[9]? = some (some (.ref q))) (hH : Has s q (.lst [.bl (firstN l cts w).isNone, .bl true])) : (lp11 e s).wp (Q.to (Z4 B o c s0 l pc cts w)) := by
  simp only [q_if, q_tst, q_bin, q_call, q_cons, q_nil, q_lst, q_def, q_var, h.e3, h.e4, h.e5, h.e7, h9, q_rd, q_ok]
  refine ⟨rfl, cl (is_lean_way_ok (h.ws (by decide))) fun v s1 ⟨x1, e1⟩ => ?_⟩
  subst e1
  have h1 := h.le x1
  simp only [tuple_ok h1.hc, q_ok]
  refine ⟨rfl, cl (is_lean_way_ok (dc := .tup (cts.map ctD)) (h1.sc.ws .tup h.tpt (by have := h.tl; omega))) fun v s2 ⟨x2, e2⟩ => ?_⟩
  subst e2
  rw [h.told.lean]
  have hN : Has (s2.push (.lst [.bl (firstN l cts w).isNone, .bl true])) s2.n (.lst [.bl (firstN l cts w).isNone, .bl true]) := .push
  have x3 : Le s (s2.push (.lst [.bl (firstN l cts w).isNone, .bl true])) := x1.trans (x2.trans .push)
  have hH3 := hH.le x3
  simp only [Option.isNone_none, q_shortZ2, true_and]
  rw [repr_bools hN]
  simp only [q_ok]
  rw [repr_bools hH3]
  simp only [q_ok, ne_str_self]
  refine ⟨_, rfl, ?_⟩
  simp only [Bool.false_eq_true, if_false, q_pass]
  exact h.le x3
theorem lp12_ok (h : Z4 B o c s0 l pc cts w e s) : (lp12 e s).wp (Q.to (Z4 B o c s0 l pc cts w)) := by
  simp only [q_if, q_orT, q_tst, q_bin, q_def, q_cons, q_nil, q_var, h.e3, h.e4, h.e5, h.e7, q_rd, q_ok]
  refine ⟨rfl, cl (made_lean_ok (h.ws (by decide))) fun v s1 ⟨x1, e1⟩ => ?_⟩
  subst e1
  rw [show mlF l cts w.length w = mlT l cts w from rfl, ne_wy]
  refine ⟨_, rfl, ?_⟩
  simp only [decide_true, Bool.not_true, Bool.false_eq_true, if_false, q_tst, q_bin]
  refine (h.le x1).toZ3.kept fun s2 x2 => ?_
  simp only [q_var, h.e6, q_rd, q_ok]
  unfold keptD
  rw [ne_str_self]
  refine ⟨_, rfl, ?_⟩
  simp only [Bool.false_eq_true, if_false, q_pass]
  exact h.le (x1.trans x2)
abbrev lapB : SS := cSeq lp0 (cSeq lp1 (cSeq lp2 (cSeq lp3 (cSeq lp4 (cSeq lp5 (cSeq lp6 (cSeq lp7 (cSeq lp8 (cSeq lp9 (cSeq lp10 (cSeq lp11 lp12)))))))))))
theorem lap_ok (h : Z0 B o c s0 e s) (hct : ∀ e s, Z0 B o c s0 e s → Q.ct e s) (hnx : ∀ e s, Z0 B o c s0 e s → Q.nx e s) : (lapB e s).wp Q := by
  refine w_sq _ (lp0_ok h) ?_
  rintro e1 s1 ⟨l, h1⟩
  refine w_sq _ (lp1_ok h1) ?_
  rintro e2 s2 ⟨pc, cts, h2⟩
  refine w_sq _ (lp2_ok h2) ?_
  rintro e3 s3 ⟨w0, h3⟩
  refine lp3_ok h3 hct fun hne => ?_
  refine w_sq _ (lp4_ok h3 hne) ?_
  rintro e4 s4 ⟨w, hne, h4⟩
  refine w_sq _ (lp5_ok h4) ?_
  rintro e5 s5 ⟨h5, h56⟩
  refine w_sq _ (lp6_ok h5 hne h56) fun e6 s6 h6 => ?_
  refine w_sq _ (lp7_ok h6) fun e7 s7 h7 => ?_
  refine w_sq _ (lp8_ok h7) ?_
  rintro e8 s8 ⟨h8, q8, h88, hH8⟩
  refine w_sq _ (lp9_ok h8 h88 hH8) fun e9 s9 h9 => ?_
  refine w_sq _ (lp10_ok h9) ?_
  rintro e10 s10 ⟨h10, q10, h109, hH10⟩
  refine w_sq _ (lp11_ok h10 h109 hH10) fun e11 s11 h11 => ?_
  exact (lp12_ok (Q := Q) h11).mono (fun e s h => hnx e s h.toZ0) (fun _ _ q => q) (fun _ _ q => q) (fun _ _ q => q) (fun _ _ _ _ q => q)
end
end Ev
set_option maxHeartbeats 1000000
set_option exponentiation.threshold 20000
namespace Ev
open PySem PySem.Spec PyProof.Rows L2
/-! the way by hand -/
def l0 : List (Int × Int) := [(0, 10), (0, 10)]
def ct0 : List CK := [([-7, 0, 1], -1), ([-7, 1, 0], -1), ([-3, 0, 1], 1), ([-3, 1, 0], 1)]
def rp (z : Int × Int) : List Rat := [(z.1 : Rat), (z.2 : Rat)]
def xs0 : List (Int × Int) := [(0, 0), (5, 0), (10, 0), (10, 0), (10, 5), (10, 10)]
def w0 : List (List Rat) := xs0.map rp
theorem wn0 {z : Int × Int} (h1 : 0 ≤ z.1) (h2 : z.1 ≤ 10) (h3 : 0 ≤ z.2) (h4 : z.2 ≤ 10) : Wn l0 (rp z) := by
  intro y hy
  simp [l0, rp] at hy
  rcases hy with rfl | rfl
  · exact ⟨Rat.intCast_le_intCast.mpr h1, Rat.intCast_le_intCast.mpr h2⟩
  · exact ⟨Rat.intCast_le_intCast.mpr h3, Rat.intCast_le_intCast.mpr h4⟩
theorem sl3 {z : Int × Int} (h : z.2 ≤ 3) : 0 ≤ sl (rp z) ([-3, 0, 1], 1) := by
  have h : (z.2 : Rat) ≤ ((3 : Int) : Rat) := Rat.intCast_le_intCast.mpr h
  simp [sl, fv, dot, rp] at h ⊢
  grind
theorem sl7 {z : Int × Int} (h : 7 ≤ z.1) : 0 ≤ sl (rp z) ([-7, 1, 0], -1) := by
  have h : ((7 : Int) : Rat) ≤ (z.1 : Rat) := Rat.intCast_le_intCast.mpr h
  simp [sl, fv, dot, rp] at h ⊢
  grind
theorem free0 {z y : Int × Int} (hz : 0 ≤ z.1 ∧ z.1 ≤ 10 ∧ 0 ≤ z.2 ∧ z.2 ≤ 10) (hy : 0 ≤ y.1 ∧ y.1 ≤ 10 ∧ 0 ≤ y.2 ∧ y.2 ≤ 10) (h : (z.2 ≤ 3 ∧ y.2 ≤ 3) ∨ (7 ≤ z.1 ∧ 7 ≤ y.1)) : FreeLeg l0 [ct0] (rp z) (rp y) := by
  refine ⟨wn0 hz.1 hz.2.1 hz.2.2.1 hz.2.2.2, wn0 hy.1 hy.2.1 hy.2.2.1 hy.2.2.2, fun ct hct => ?_⟩
  simp at hct; subst hct
  rcases h with ⟨a, b⟩ | ⟨a, b⟩
  · exact not_bar (z := (sl (rp z) ([-3, 0, 1], 1), sl (rp y) ([-3, 0, 1], 1))) (List.mem_map.mpr ⟨([-3, 0, 1], 1), by simp [ct0], rfl⟩) (sl3 a) (sl3 b)
  · exact not_bar (z := (sl (rp z) ([-7, 1, 0], -1), sl (rp y) ([-7, 1, 0], -1))) (List.mem_map.mpr ⟨([-7, 1, 0], -1), by simp [ct0], rfl⟩) (sl7 a) (sl7 b)
theorem adj0 : Adj (FreeLeg l0 [ct0]) w0 := by
  intro z hz
  simp [w0, xs0] at hz
  rcases hz with rfl | rfl | rfl | rfl | rfl
  all_goals exact free0 (by decide) (by decide) (by decide)
theorem hd0 : ∀ p, w0.head? = some p → FreeLeg l0 [ct0] p p := by
  intro p hp
  simp [w0, xs0] at hp
  subst hp
  exact free0 (by decide) (by decide) (by decide)
theorem lim0 : LimOk l0 := by intro z hz; simp [l0] at hz; subst hz; decide
theorem ctk0 : CtOk 2 5 ct0 ∧ ct0.length ≤ 63 := by
  refine ⟨fun k hk => ?_, by decide⟩
  simp [ct0] at hk
  rcases hk with rfl | rfl | rfl | rfl
  all_goals exact ⟨rfl, fun x hx => by simp at hx; rcases hx with rfl | rfl | rfl <;> exact szI5 (by decide) (by decide), szI5 (by decide) (by decide)⟩
theorem sc0 : Sc 2 l0 [ct0] := ⟨lim0, rfl, by decide, by decide, fun ct hct => by simp at hct; subst hct; exact ctk0, by simp⟩
theorem scN : Sc 2 l0 [] := ⟨lim0, rfl, by decide, by decide, fun ct hct => by simp at hct, by simp⟩
theorem pt0 : PtOk 2 w0 := by
  intro p hp
  obtain ⟨z, hz, rfl⟩ := List.mem_map.mp hp
  refine ⟨rfl, fun x hx => ?_⟩
  have : SzI 7 z.1 ∧ SzI 7 z.2 := by
    simp [xs0] at hz
    rcases hz with rfl | rfl | rfl | rfl | rfl <;> exact ⟨(szI5 (by decide) (by decide)).mono (by decide), (szI5 (by decide) (by decide)).mono (by decide)⟩
  simp [rp] at hx
  rcases hx with rfl | rfl
  · exact SzR.int this.1 (by decide)
  · exact SzR.int this.2 (by decide)
theorem ne0 : w0 ≠ [] := by simp [w0, xs0]
theorem len0 : w0.length = 6 := rfl
theorem told0 : Told l0 [ct0] w0 (mlT l0 [ct0] w0) := told_of ne0 adj0
theorem first0 : (firstN l0 [ct0] w0).isNone = false := by
  have h : firstN l0 [ct0] w0 ≠ none := by
    unfold firstN
    rw [Ne, List.find?_eq_none]
    intro h
    have := h 0 (by rw [len0]; decide)
    simp only [decide_eq_true_eq] at this
    exact this (free0 (z := (0, 0)) (y := (10, 0)) (by decide) (by decide) (by decide))
  cases hh : firstN l0 [ct0] w0 with
  | none => exact absurd hh h
  | some _ => rfl
theorem wnA {p : List Rat} (hp : p ∈ w0) : Wn l0 p := by
  obtain ⟨z, hz, rfl⟩ := List.mem_map.mp hp
  simp [xs0] at hz
  rcases hz with rfl | rfl | rfl | rfl | rfl <;> exact wn0 (by decide) (by decide) (by decide) (by decide)
theorem freeN {p q : List Rat} (hp : p ∈ w0) (hq : q ∈ w0) : FreeLeg l0 [] p q := ⟨wnA hp, wnA hq, fun ct hct => by simp at hct⟩
theorem mlN : mlF l0 [] w0.length w0 = [rp (0, 0), rp (10, 10)] := by
  have T : Told l0 [] w0 (mlT l0 [] w0) := told_of ne0 fun z hz => freeN (List.of_mem_zip hz).1 (List.mem_of_mem_tail (List.of_mem_zip hz).2)
  show mlT l0 [] w0 = _
  generalize mlT l0 [] w0 = t at T ⊢
  have h1 := T.hd
  have h2 := T.la
  have h3 := T.two
  have h4 := T.lean
  rw [len0] at h3
  match t, T with
  | [], _ => simp at h3
  | [a], _ => simp at h3
  | [a, b], _ =>
    have e1 : w0.head? = some (rp (0, 0)) := rfl
    have e2 : w0.getLast? = some (rp (10, 10)) := by simp [w0, xs0]
    rw [e1] at h1
    rw [e2] at h2
    simp at h1 h2
    rw [h1, h2]
  | a :: b :: c :: r, T =>
    exfalso
    unfold firstN at h4
    rw [List.find?_eq_none] at h4
    have := h4 0 (by simp)
    simp only [decide_eq_true_eq] at this
    exact this (freeN (T.sub.subset (by simp [pt])) (T.sub.subset (by simp [pt])))
/-- the env behind the way by hand -/
structure Y0 (e : En) : Prop where
  len : e.length = 19
  e3 : e[3]? = some (some (lmD l0))
  e15 : e[15]? = some (some (ctD ct0))
section
variable {e : En} {s : S} {Q : EQ}
theorem tp2_ok (h : e.length = 19) : (tp2 e s).wp (Q.to fun e s => Y0 e) := by
  simp [-List.set_set]
  refine ⟨short_of (by simp [zLine]), by simpa using h, ?_, ?_⟩
  · rw [List.getElem?_set_ne (by decide)]; exact set_at (by rw [h]; decide)
  · exact set_at (by simp [h])
structure Y1 (e : En) : Prop extends Y0 e where
  e16 : e[16]? = some (some (wyD w0))
def duo (z : Int × Int) : D := .tup [.int z.1, .int z.2]
theorem st_rp {z : Int × Int} : D.tup [.tup [.int z.1, .int 1], .tup [.int z.2, .int 1]] = stD (rp z) := by simp [stD, rp, rD]
theorem Y0.set (h : Y0 e) {i : Nat} {x : Option D} (hi : i ≠ 3) (hj : i ≠ 15) : Y0 (e.set i x) := ⟨by simpa using h.len, by rw [List.getElem?_set_ne hi]; exact h.e3, by rw [List.getElem?_set_ne hj]; exact h.e15⟩
theorem tp3_ok (h : Y0 e) : (tp3 e s).wp (Q.to fun e s => Y1 e) := by
  simp only [q_as, q_call, q_cons, q_nil, q_lc, q_it, q_lst, q_tup, q_cst, q_ok, q_shortZ2, true_and]
  refine ⟨short_of (by simp [zLine]), ?_⟩
  show (items (s.push (.lst (xs0.map duo))) (.ref s.n)).isSome = true ∧ (lcLoop (jSq (D.ref s.n)) (IT.tp (ITs.cons (IT.nm 17) (ITs.cons (IT.nm 18) ITs.nil))) cYes (cTup (cCons (cTup (cCons (cVar 17) (cCons (cCst (D.int 1)) cNil))) (cCons (cTup (cCons (cVar 18) (cCons (cCst (D.int 1)) cNil))) cNil))) (wipeE e [17, 18]) (s.push (.lst (xs0.map duo))).n fuelN 0 ((s.push (.lst (xs0.map duo))).push (O.lst []))).wp _ _
  have hH : Has (s.push (.lst (xs0.map duo))) s.n (.lst (xs0.map duo)) := .push
  refine ⟨its_some (.lst hH), ?_⟩
  have hw : wipeE e [17, 18] = (e.set 18 none).set 17 none := rfl
  rw [hw]
  refine lc_map xs0 duo (fun z => stD (rp z)) rfl (by simp [zLine, xs0]) (fun s' x => wk_sq (.lst (hH.le x))) ?_ ?_
  · intro z hz s1 x1
    have hlen := h.len
    have g17 : ((((e.set 18 none).set 17 none).set 17 (some (D.int z.1))).set 18 (some (D.int z.2)))[17]? = some (some (D.int z.1)) := by
      rw [List.getElem?_set_ne (by decide)]; exact set_at (by simp [hlen])
    have g18 : ((((e.set 18 none).set 17 none).set 17 (some (D.int z.1))).set 18 (some (D.int z.2)))[18]? = some (some (D.int z.2)) := set_at (by simp [hlen])
    refine ⟨_, rfl, ?_⟩
    show ((cTup (cCons (cTup (cCons (cVar 17) (cCons (cCst (D.int 1)) cNil))) (cCons (cTup (cCons (cVar 18) (cCons (cCst (D.int 1)) cNil))) cNil))) ((((e.set 18 none).set 17 none).set 17 (some (D.int z.1))).set 18 (some (D.int z.2))) s1).wp _ _
    simp only [q_tup, q_cons, q_nil, q_var, g17, g18, q_rd, q_ok, q_cst, q_shortZ2, true_and]
    exact ⟨st_rp, .rfl⟩
  · intro q s1 x1 _ hH2
    simp only [tuple_ok hH2, q_ok]
    refine ⟨_, to_nm, { toY0 := h.set (by decide) (by decide), e16 := ?_ }⟩
    rw [show wyD w0 = .tup (xs0.map fun z => stD (rp z)) by simp [wyD, w0, Function.comp_def]]
    exact set_at (by rw [h.len]; decide)
theorem Y1.set7 (h : Y1 e) {x : Option D} : Y1 (e.set 7 x) := { toY0 := h.toY0.set (by decide) (by decide), e16 := by rw [List.getElem?_set_ne (by decide)]; exact h.e16 }
theorem tpt0 : PtOk 2 (mlT l0 [ct0] w0) := fun p hp => pt0 p (told0.sub.subset hp)
theorem tl0 : (mlT l0 [ct0] w0).length ≤ 6 := told0.sub.length_le
theorem tp4_ok (h : Y1 e) : (tp4 e s).wp (Q.to fun e s => Y1 e ∧ e[7]? = some (some (wyD (mlT l0 [ct0] w0)))) := by
  have hH : Has (s.push (.lst ([ct0].map ctD))) s.n (.lst ([ct0].map ctD)) := .push
  simp only [q_as, q_def, q_cons, q_nil, q_lst, q_var, h.e3, h.e15, h.e16, q_rd, q_ok, q_shortZ1, true_and]
  refine ⟨rfl, cl (made_lean_ok (s := s.push (.lst ([ct0].map ctD))) (sc0.ws (.lst hH) pt0 (by rw [len0]; decide))) fun v s1 ⟨x1, e1⟩ => ?_⟩
  subst e1
  exact ⟨_, to_nm, h.set7, set_at (by rw [h.len]; decide)⟩
theorem tp5_ok (h : Y1 e) (h7 : e[7]? = some (some (wyD (mlT l0 [ct0] w0)))) : (tp5 e s).wp (Q.to fun e s => Y1 e) := by
  have T := told0
  have htl := tl0
  simp only [q_if, q_orT, q_notT, q_tru, q_def, q_cons, q_nil, q_var, h7, h.e16, q_rd, q_ok]
  refine ⟨rfl, cl (is_some_ok T.sub T.ne T.hd T.la (by rw [len0]; decide)) fun v s1 ⟨x1, e1⟩ => ?_⟩
  subst e1
  refine ⟨true, rfl, ?_⟩
  have hH : Has (s1.push (.lst ([ct0].map ctD))) s1.n (.lst ([ct0].map ctD)) := .push
  simp only [Bool.not_true, Bool.false_eq_true, if_false, q_orT, q_notT, q_tru, q_def, q_cons, q_nil, q_lst, q_var, h7, h.e3, h.e15, q_rd, q_ok, q_shortZ1, true_and]
  refine ⟨rfl, cl (law_is_lean_ok (s := s1.push (.lst ([ct0].map ctD))) (by decide) (sc0.ws (.lst hH) tpt0 (by omega))) fun v s2 ⟨x2, e2⟩ => ?_⟩
  subst e2
  rw [T.lean]
  refine ⟨true, rfl, ?_⟩
  have hH2 : Has (s2.push (.lst ([ct0].map ctD))) s2.n (.lst ([ct0].map ctD)) := .push
  simp only [Bool.not_true, Bool.false_eq_true, if_false, q_tst, q_un, q_def, q_cons, q_nil, q_lst, q_var, h7, h.e3, h.e15, q_rd, q_ok, q_shortZ1, true_and]
  refine ⟨rfl, cl (judge_T (l := l0) (s := s2.push (.lst ([ct0].map ctD))) sc0 (.lst hH2) tpt0 T.ne (by omega) T.ad (fun p hp => hd0 p (by rw [← T.hd]; exact hp))) fun v s3 ⟨e3, x3⟩ => ?_⟩
  subst e3
  simp only [v_notN, q_ok]
  refine ⟨_, rfl, ?_⟩
  simp only [Bool.false_eq_true, if_false, q_pass]
  exact h
theorem tp6_ok (h : Y1 e) : (tp6 e s).wp (finQ (fun v _ => v = .bl true) NoE) := by
  have hH : Has (s.push (.lst ([ct0].map ctD))) s.n (.lst ([ct0].map ctD)) := .push
  simp only [q_ret, q_andV, q_un, q_def, q_cons, q_nil, q_lst, q_var, h.e3, h.e15, h.e16, q_rd, q_ok, q_shortZ1, true_and]
  refine ⟨rfl, cl (is_lean_way_ok (s := s.push (.lst ([ct0].map ctD))) (sc0.ws (.lst hH) pt0 (by rw [len0]; decide))) fun v s1 ⟨x1, e1⟩ => ?_⟩
  subst e1
  rw [first0, show dIsB false (D.bl false) s1 = .ok (.bl true) s1 from (rfl)]
  simp only [q_ok]
  refine ⟨true, rfl, ?_⟩
  have hE : Has (s1.push (.lst (([] : List (List CK)).map ctD))) s1.n (.lst (([] : List (List CK)).map ctD)) := .push
  simp only [if_true, q_bin, q_def, q_cons, q_nil, q_lst, q_var, h.e3, h.e16, q_rd, q_ok, q_short0, true_and]
  refine ⟨rfl, cl (made_lean_ok (s := s1.push (.lst [])) (scN.ws (.lst hE) pt0 (by rw [len0]; decide))) fun v s2 ⟨x2, e2⟩ => ?_⟩
  subst e2
  rw [mlN]
  have z1 : dIdx (wyD w0) (.int 0) s2 = .ok (stD (rp (0, 0))) s2 := its_idx (xs := w0.map stD) .tup atI_0
  have z2 : dIdx (wyD w0) (.int (-1)) s2 = .ok (stD (rp (10, 10))) s2 := its_idx (xs := w0.map stD) .tup (by
    rw [show w0.map stD = ([(0, 0), (5, 0), (10, 0), (10, 0), (10, 5)] : List (Int × Int)).map (fun z => stD (rp z)) ++ [stD (rp (10, 10))] from rfl]
    exact atI_last)
  simp only [q_tup, q_cons, q_nil, q_bin, q_un, q_cst, q_var, h.e16, q_rd, q_ok, v_neg, z1, z2, q_shortZ2, true_and]
  rw [show D.tup [stD (rp (0, 0)), stD (rp (10, 10))] = wyD [rp (0, 0), rp (10, 10)] from rfl, eq_wy]
  simp
theorem law_ok {s : S} {p : Ps} {cells : List Int} (hp : p.nat < s.n.nat) (hg : s.get p = some (.frz (cells.map .int))) (hl : cells.length ≤ 63) : (f_law [.ref p] s).wp (fun v _ => v = .bl true) NoE := by
  refine w_fnE' fun e he => ?_
  have hlen : e.length = 19 := by rw [he]; rfl
  have h0 : e[0]? = some (some (.ref p)) := by rw [he]; rfl
  clear he
  show (cSeq _ (cSeq (cFor (cRg1 (cCst (.int 5))) (.nm 2) lapB) (cSeq tp2 (cSeq tp3 (cSeq tp4 (cSeq tp5 tp6))))) e s).wp _
  refine w_sq (fun e s => ∃ B o c s0, e.length = 19 ∧ e[1]? = some (some (.ref o)) ∧ Tr B o c s0 s) ?_ ?_
  · simp only [q_as, q_def, q_cons, q_nil, q_var, h0, q_rd, q_ok]
    refine ⟨rfl, cl (source_ok hp hg hl) fun v s1 ⟨o, c, e1, hS⟩ => ?_⟩
    subst e1
    exact ⟨_, to_nm, _, o, c, _, by simpa using hlen, set_at (by rw [hlen]; decide), .rfl hS⟩
  rintro e1 s1 ⟨B, o, c, s0, hl1, h11, t1⟩
  refine w_sq (fun e _ => e.length = 19) ?_ ?_
  · simp only [q_for, q_rg1, q_cst, q_ok]
    refine ⟨_, rfl, w62_nat (i := 5) (by decide), ?_⟩
    refine for_rest (ds := rgD 0 5) (List.range 5) (fun (i : Nat) => D.int (i : Int)) (fun r e s2 => e.length = 19 ∧ e[1]? = some (some (.ref o)) ∧ Tr B o c s0 s2) rgD_eq (lt_fuelZ (by simp [zLine])) ⟨hl1, h11, t1⟩ (fun r e s3 _ => wk_rg) ?_ ?_
    · intro dn a r e s2 _ h2
      refine ⟨_, to_nm, lap_ok (B := B) (o := o) (c := c) (s0 := s0) ⟨by simpa using h2.1, by rw [List.getElem?_set_ne (by decide)]; exact h2.2.1, ⟨_, set_at (by rw [h2.1]; decide)⟩, h2.2.2⟩ (fun _ _ h => ⟨h.len, h.e1, h.tr⟩) fun _ _ h => ⟨h.len, h.e1, h.tr⟩⟩
    · intro e s2 h2
      exact h2.1
  · intro e s2 h2
    refine w_sq _ (tp2_ok h2) fun e3 s3 h3 => ?_
    refine w_sq _ (tp3_ok h3) fun e4 s4 h4 => ?_
    refine w_sq _ (tp4_ok h4) ?_
    rintro e5 s5 ⟨h5, h57⟩
    refine w_sq _ (tp5_ok h5 h57) fun e6 s6 h6 => ?_
    exact tp6_ok h6
end
end Ev
set_option maxHeartbeats 0
namespace Ev
open PySem PySem.Spec PyProof.Rows L2
abbrev Rw0 : PySem.W.OpenRow := PySem.W.OpenLaw.row PySem.Challenge.rw_sweptfree_k64_whole_lean_ways
abbrev hkX : PySem.W.Hook := hookX 4 fas dfs gfs
def obX (s : PySem.W.SharedT) : AlX := obsXG 4 fas dfs gfs (HandSHeadRun.getT s)
def loose : List Str := (["gcd", "is_integer", "is_fraction", "made", "whole", "plus", "minus", "times", "over", "less", "sign_of", "greatest", "least", "BEGIN", "END", "value_at", "distances_at", "is_within", "span", "leg_fault", "legs_of", "is_standing", "has_form", "judge_way", "first_needless", "is_lean_way", "made_lean", "_law_source", "_law_pick", "_law_of"] : List Str) ++ (["_law_mixed", "_law_least", "_law_sum", "_law_times", "_law_minus", "_law_is_below", "_law_value", "_law_common", "_law_slack_list", "_law_most", "_law_fewest", "_law_at_moment", "_law_moments", "_law_span", "_law_in_limits", "_law_any_form", "_law_any_contact", "_law_any_limits", "_law_any_standing", "_law_is_free", "_law_is_lean", "_law_is_some", "_law_free_way"] : List Str)
theorem runX (w : World) : HandSHeadRun.RunEqI Rw0 (PySem.W.view Rw0.prog [0, 57]) hkX obX 3600 loose w := by
  unfold HandSHeadRun.RunEqI
  kernel_rfl
theorem lawOk : LawOk 63 f_law := fun ns hl => law_ok (p := .h) (s := sS ns) (show (1 : Nat) < 2 * 1 by decide) rfl hl
end Ev
open PySem PySem.W PySem.Calls PyProof.Rows
theorem PySem.Challenge.cw_sweptfree_k64_whole_lean_ways_holds : PySem.Challenge.rw_sweptfree_k64_whole_lean_ways.Holds := by
  w_on; o_law
  refine HandSHeadRun.head_imp (r := OpenLaw.row PySem.Challenge.rw_sweptfree_k64_whole_lean_ways) (q := view (OpenLaw.row PySem.Challenge.rw_sweptfree_k64_whole_lean_ways).prog [0, 57]) (H := Ev.hkX) (ob := Ev.obX) (M := 3600) (loose := Ev.loose) (d := HandSHeadRun.topDef (OpenLaw.row PySem.Challenge.rw_sweptfree_k64_whole_lean_ways).prog 57) (kwd := []) (fun s => Ev.obsXG_eq (HandSHeadRun.getT_eq s))
    Ev.runX (by kernel_rfl) (by kernel_rfl) (by kernel_rfl) (by rfl) (by first | assumption | decide +kernel) (by decide +kernel) ⟨rfl, rfl, rfl, rfl, rfl, by decide +kernel⟩ ?hw ?hc
  case hw => w_witness2
  case hc =>
    refine Ev.walk_ofC (l := PySem.Challenge.rw_sweptfree_k64_whole_lean_ways) (n := 63) (x := "law") (p := "script") (F := Ev.f_law) rfl (by decide) (by kernel_rfl) (by kernel_rfl) Ev.lawOk ?G
    intro w mg h Y G
    obtain ⟨K, KX, c⟩ := Y
    exact ⟨K, fun _ => 0, KX, fun base => Ev.ok_all c KX G⟩
