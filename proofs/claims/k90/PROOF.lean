import PyProof.Rows.All
import Wide.All
import OpenK.AllK
import Wide.FinOn
import HandS.ForMost
import HandS.TupAny
import HandS.Style
import HandS.Flow
import HandS.TupMul
import HandS.TupLe
import HandS.Wide
import HandS.Deep
import HandS.RaiseMore
import HandS.Star
import KE.KRevSl
import KE.GoesNew
import HandS.Zip
import KE.SortData
import KE.DataMinMax
import KE.DataIsa
import KE.DataFind
import PyProof.P3Eq
import HandS.WordsDict
import HandS.TupLen
import HandS.Conv
import HandS.More
import KE.KDictSum
import PyProof.Transfer
import HandS.Ends
import HandS.Words
import PyProof.TupleOfSeq
import HandS.DictComp
import HandS.SetFor
import HandS.NoneIn
import KE.KDictPairs
import KE.KDictKeyed
import KE.KDictCopyH
import KE.KDictDisplayH
import HandS.Exc
import HandS.ExcIs
import HandS.ExcOwn
import HandS.Small
import KE.RegKIsAll
import PyProof.NeKinds
import PySem.Challenge.RW_allbysteps_k90_full_papers_judged
set_option Elab.async false
set_option linter.all false
set_option maxRecDepth 100000
namespace Pv
open PySem

abbrev D := PyData
/-- what a run may do: answer, be stuck, or draw a number below m -/
inductive Tr (α : Type) where
  | ret (a : α)
  | fail
  | draw (m : Int) (k : Int → Tr α)
namespace Tr
variable {α β γ : Type}
def bind : Tr α → (α → Tr β) → Tr β
  | ret a, f => f a
  | fail, _ => fail
  | draw m k, f => draw m fun r => bind (k r) f
instance : Monad Tr where
  pure := ret
  bind := bind
def wp : Tr α → (α → Prop) → Prop
  | ret a, Q => Q a
  | fail, _ => False
  | draw m k, Q => ∀ r : Int, 0 ≤ r → r < max 1 m → wp (k r) Q
@[simp] theorem pure_eq (a : α) : (Pure.pure a : Tr α) = ret a := rfl
@[simp] theorem bind_eq (x : Tr α) (f : α → Tr β) : (x >>= f) = bind x f := rfl
@[simp] theorem ret_bind (a : α) (f : α → Tr β) : bind (ret a) f = f a := rfl
@[simp] theorem fail_bind (f : α → Tr β) : bind (fail : Tr α) f = fail := rfl
@[simp] theorem draw_bind (m : Int) (k : Int → Tr α) (f : α → Tr β) : bind (draw m k) f = draw m fun r => bind (k r) f := rfl
theorem bind_ret : ∀ x : Tr α, bind x ret = x
  | ret _ => rfl
  | fail => rfl
  | draw m k => by simp only [draw_bind]; congr; funext r; exact bind_ret (k r)
theorem bind_assoc (f : α → Tr β) (g : β → Tr γ) : ∀ x : Tr α, bind (bind x f) g = bind x fun a => bind (f a) g
  | ret _ => rfl
  | fail => rfl
  | draw m k => by simp only [draw_bind]; congr; funext r; exact bind_assoc f g (k r)
@[simp] theorem wp_ret (a : α) (Q : α → Prop) : wp (ret a) Q = Q a := rfl
@[simp] theorem wp_fail (Q : α → Prop) : wp (fail : Tr α) Q = False := rfl
@[simp] theorem wp_draw (m : Int) (k : Int → Tr α) (Q : α → Prop) : wp (draw m k) Q = ∀ r : Int, 0 ≤ r → r < max 1 m → wp (k r) Q := rfl
theorem wp_mono {Q R : α → Prop} (h : ∀ a, Q a → R a) : ∀ {x : Tr α}, wp x Q → wp x R
  | ret _, w => h _ w
  | draw _ _, w => fun r h0 h1 => wp_mono h (w r h0 h1)
theorem wp_bind {f : α → Tr β} {Q : β → Prop} : ∀ {x : Tr α}, wp (bind x f) Q ↔ wp x fun a => wp (f a) Q
  | ret _ => Iff.rfl
  | fail => Iff.rfl
  | draw m k => by
    simp only [draw_bind, wp_draw]
    exact ⟨fun h r h0 h1 => wp_bind.mp (h r h0 h1), fun h r h0 h1 => wp_bind.mpr (h r h0 h1)⟩
end Tr
open Tr

abbrev Ev := List (Option D)
inductive Fl where
  | nx | rt (d : D) | bk | ct
abbrev EF := Ev → Tr D
abbrev TF := Ev → Tr Bool
abbrev SF := Ev → Tr (Fl × Ev)

/-- a guard -/
def need {α : Type} (p : Prop) [Decidable p] (x : Tr α) : Tr α := if p then x else fail
theorem wp_need {α : Type} {p : Prop} [Decidable p] {x : Tr α} {Q : α → Prop} : wp (need p x) Q ↔ p ∧ wp x Q := by
  unfold need
  by_cases h : p
  · rw [if_pos h]; exact ⟨fun w => ⟨h, w⟩, fun w => w.2⟩
  · rw [if_neg h]; exact ⟨fun w => w.elim, fun w => absurd w.1 h⟩
@[simp] theorem need_pos {α : Type} {p : Prop} [Decidable p] {x : Tr α} (h : p) : need p x = x := if_pos h

def vr (i : Nat) : EF := fun ρ => match ρ[i]? with
  | some (some d) => ret d
  | _ => fail
def cn (d : D) : EF := fun _ => ret d
def op1 (f : D → Tr D) (a : EF) : EF := fun ρ => (a ρ).bind f
def op2 (f : D → D → Tr D) (a b : EF) : EF := fun ρ => (a ρ).bind fun x => (b ρ).bind fun y => f x y
def op3 (f : D → D → D → Tr D) (a b c : EF) : EF := fun ρ => (a ρ).bind fun x => (b ρ).bind fun y => (c ρ).bind fun z => f x y z
end Pv

namespace Pv
open PySem PySem.Spec PyProof.Rows L2

def kD : Key → D
  | .inl i => .int i
  | .inr x => .str x
/-- how a slot is held: shared for good, owned (may be changed), owned but locked -/
inductive Kd where
  | sh | ow | lk
  deriving DecidableEq
structure Bx where
  P : Program
  w : World
  K : PySem.W.Frag
  mg : Str → Option Value
  base : Heap
  src : Option (Addr × Addr)
structure Sx where
  B : Bx
  kd : Nat → Kd
  six : Option Nat
/-- not one of the source's two objects -/
def Bx.nS (B : Bx) (a : Addr) : Prop := ∀ A L, B.src = some (A, L) → a ≠ A ∧ a ≠ L
/-- the source as it stands -/
def SrcAt (A L : Addr) (H : Hp) : Prop := ∃ (cs : List Int) (left mixed turn : Int),
  H A = some (.dK [(.inr "cells", .ref L), (.inr "left", .int left), (.inr "mixed", .int mixed), (.inr "turn", .int turn)]) ∧ H L = some (.lst (cs.map V.int)) ∧
  (∀ c ∈ cs, 0 ≤ c) ∧ cs.length ≤ 1000 ∧ 0 ≤ left ∧ 0 ≤ mixed ∧ mixed < 2 ^ 40 ∧ 0 ≤ turn
def Bx.SrcOk (B : Bx) (H : Hp) : Prop := ∀ A L, B.src = some (A, L) → SrcAt A L H

mutual
inductive Has (K : PySem.W.Frag) (F : Addr → Prop) (H : Hp) : V → D → Prop
  | non : Has K F H .non .none
  | bl (b : Bool) : Has K F H (.bl b) (.bool b)
  | int (i : Int) : Has K F H (.int i) (.int i)
  | str (x : Str) : Has K F H (.str x) (.str x)
  | lst {a : Addr} {xs : List V} {ds : List D} : F a → H a = some (.lst xs) → HasAll K F H xs ds → Has K F H (.ref a) (.list ds)
  | tup {a : Addr} {xs : List V} {ds : List D} : H a = some (.tup xs) → HasAll K F H xs ds → Has K F H (.ref a) (.tuple ds)
  | dK {a : Addr} {kvs : List (Key × V)} {ds : List (D × D)} : F a → Rd H a (.dK kvs) → ds.map (·.1) = kvs.map (fun p => kD p.1) → HasAll K F H (kvs.map (·.2)) (ds.map (·.2)) → Has K F H (.ref a) (.dict ds)
  | dT {a : Addr} {kvs : List (List Key × V)} {ds : List (D × D)} : F a → Rd H a (.dT kvs) → kvs ≠ [] → ds.map (·.1) = kvs.map (fun p => .tuple (p.1.map kD)) → HasAll K F H (kvs.map (·.2)) (ds.map (·.2)) → Has K F H (.ref a) (.dict ds)
inductive HasAll (K : PySem.W.Frag) (F : Addr → Prop) (H : Hp) : List V → List D → Prop
  | nil : HasAll K F H [] []
  | cons {v : V} {vs : List V} {d : D} {ds : List D} : Has K F H v d → HasAll K F H vs ds → HasAll K F H (v :: vs) (d :: ds)
end

/-- what is frozen, and the tuples, stay -/
structure Stay (F : Addr → Prop) (H H' : Hp) : Prop where
  f : ∀ a u, F a → Rd H a u → Rd H' a u
  l : ∀ a xs, F a → H a = some (.lst xs) → H' a = some (.lst xs)
  t : ∀ a xs, H a = some (.tup xs) → H' a = some (.tup xs)
theorem Stay.refl {F : Addr → Prop} {H : Hp} : Stay F H H := ⟨fun _ _ _ h => h, fun _ _ _ h => h, fun _ _ h => h⟩
theorem Stay.trans {F F' : Addr → Prop} {H H1 H2 : Hp} (a : Stay F H H1) (hf : ∀ a, F a → F' a) (b : Stay F' H1 H2) : Stay F H H2 :=
  ⟨fun c u h r => b.f c u (hf c h) (a.f c u h r), fun c u h r => b.l c u (hf c h) (a.l c u h r), fun c xs r => b.t c xs (a.t c xs r)⟩
section
variable {K : PySem.W.Frag} {F F' : Addr → Prop} {H H' : Hp}
mutual
theorem Has.mono (hf : ∀ a, F a → F' a) (s : Stay F H H') : ∀ {v : V} {d : D}, Has K F H v d → Has K F' H' v d
  | _, _, .non => .non
  | _, _, .bl b => .bl b
  | _, _, .int i => .int i
  | _, _, .str x => .str x
  | _, _, .lst h r l => .lst (hf _ h) (s.l _ _ h r) (HasAll.mono hf s l)
  | _, _, .tup r l => .tup (s.t _ _ r) (HasAll.mono hf s l)
  | _, _, .dK h r e l => .dK (hf _ h) (s.f _ _ h r) e (HasAll.mono hf s l)
  | _, _, .dT h r z e l => .dT (hf _ h) (s.f _ _ h r) z e (HasAll.mono hf s l)
theorem HasAll.mono (hf : ∀ a, F a → F' a) (s : Stay F H H') : ∀ {vs : List V} {ds : List D}, HasAll K F H vs ds → HasAll K F' H' vs ds
  | _, _, .nil => .nil
  | _, _, .cons a b => .cons (Has.mono hf s a) (HasAll.mono hf s b)
end
theorem HasAll.length : ∀ {vs : List V} {ds : List D}, HasAll K F H vs ds → vs.length = ds.length
  | _, _, .nil => rfl
  | _, _, .cons _ b => by rw [List.length_cons, List.length_cons, HasAll.length b]
theorem HasAll.get : ∀ {vs : List V} {ds : List D} {i : Nat} {d : D}, HasAll K F H vs ds → ds[i]? = some d → ∃ v, vs[i]? = some v ∧ Has K F H v d
  | _, _, _, _, .nil, e => by simp at e
  | _, _, 0, _, .cons a _, e => by simp at e; subst e; exact ⟨_, rfl, a⟩
  | _, _, i + 1, d, .cons _ b, e => by
    obtain ⟨v, h1, h2⟩ := HasAll.get (i := i) (d := d) b (by simpa using e)
    exact ⟨v, by simpa using h1, h2⟩
theorem HasAll.getV : ∀ {vs : List V} {ds : List D} {i : Nat} {v : V}, HasAll K F H vs ds → vs[i]? = some v → ∃ d, ds[i]? = some d ∧ Has K F H v d
  | _, _, _, _, .nil, e => by simp at e
  | _, _, 0, _, .cons a _, e => by simp at e; subst e; exact ⟨_, rfl, a⟩
  | _, _, i + 1, d, .cons _ b, e => by
    obtain ⟨v, h1, h2⟩ := HasAll.getV (i := i) (v := d) b (by simpa using e)
    exact ⟨v, by simpa using h1, h2⟩
theorem HasAll.append : ∀ {vs ws : List V} {ds es : List D}, HasAll K F H vs ds → HasAll K F H ws es → HasAll K F H (vs ++ ws) (ds ++ es)
  | _, _, _, _, .nil, h => h
  | _, _, _, _, .cons a b, h => .cons a (HasAll.append b h)
theorem HasAll.drop : ∀ (n : Nat) {vs : List V} {ds : List D}, HasAll K F H vs ds → HasAll K F H (vs.drop n) (ds.drop n)
  | 0, _, _, h => h
  | _ + 1, _, _, .nil => .nil
  | n + 1, _, _, .cons _ b => HasAll.drop n b
theorem HasAll.take : ∀ (n : Nat) {vs : List V} {ds : List D}, HasAll K F H vs ds → HasAll K F H (vs.take n) (ds.take n)
  | 0, _, _, _ => .nil
  | _ + 1, _, _, .nil => .nil
  | n + 1, _, _, .cons a b => .cons a (HasAll.take n b)
theorem HasAll.set {v : V} {d : D} (h : Has K F H v d) : ∀ {vs : List V} {ds : List D} (n : Nat), HasAll K F H vs ds → HasAll K F H (vs.set n v) (ds.set n d)
  | _, _, _, .nil => .nil
  | _, _, 0, .cons _ b => .cons h b
  | _, _, n + 1, .cons a b => .cons a (HasAll.set h n b)
theorem HasAll.reverse {vs : List V} {ds : List D} (h : HasAll K F H vs ds) : HasAll K F H vs.reverse ds.reverse := by
  induction vs generalizing ds with
  | nil => cases h; exact .nil
  | cons x xs ih => cases h with
    | cons a b => simp only [List.reverse_cons]; exact (ih b).append (.cons a .nil)
theorem HasAll.eraseIdx : ∀ {vs : List V} {ds : List D} (n : Nat), HasAll K F H vs ds → HasAll K F H (vs.eraseIdx n) (ds.eraseIdx n)
  | _, _, _, .nil => .nil
  | _, _, 0, .cons _ b => b
  | _, _, n + 1, .cons a b => .cons a (HasAll.eraseIdx n b)
theorem HasAll.dropLast {vs : List V} {ds : List D} (h : HasAll K F H vs ds) : HasAll K F H vs.dropLast ds.dropLast := by
  rw [List.dropLast_eq_take, List.dropLast_eq_take, h.length]; exact h.take _
theorem HasAll.replicate (k : Nat) {vs : List V} {ds : List D} (h : HasAll K F H vs ds) : HasAll K F H (List.replicate k vs).flatten (List.replicate k ds).flatten := by
  induction k with
  | zero => exact .nil
  | succ n ih => simp only [List.replicate_succ, List.flatten_cons]; exact h.append ih
theorem HasAll.ints : ∀ {vs : List V} {ns : List Int}, HasAll K F H vs (ns.map .int) → vs = ns.map V.int
  | _, [], .nil => rfl
  | _, n :: ns, .cons a b => by cases a; rw [List.map_cons, HasAll.ints b]
theorem HasAll.ofInts : ∀ (ns : List Int), HasAll K F H (ns.map V.int) (ns.map .int)
  | [] => .nil
  | n :: ns => .cons (.int n) (HasAll.ofInts ns)
end

/-- a dict's content, its keys flat -/
def DictV (K : PySem.W.Frag) (F : Addr → Prop) (H : Hp) (ok : HO → Prop) (ds : List (D × D)) : Prop :=
  (∃ kvs : List (Key × V), ok (.dK kvs) ∧ ds.map (·.1) = kvs.map (fun p => kD p.1) ∧ HasAll K F H (kvs.map (·.2)) (ds.map (·.2))) ∨
  ∃ kvs : List (List Key × V), ok (.dT kvs) ∧ kvs ≠ [] ∧ ds.map (·.1) = kvs.map (fun p => .tuple (p.1.map kD)) ∧ HasAll K F H (kvs.map (·.2)) (ds.map (·.2))
/-- owned: nobody else holds it -/
def OwnV (B : Bx) (F : Addr → Prop) (H : Hp) (v : V) : D → Prop
  | .list ds => ∃ a xs, v = .ref a ∧ ¬ F a ∧ B.nS a ∧ H a = some (.lst xs) ∧ HasAll B.K F H xs ds
  | .dict ds => ∃ a, v = .ref a ∧ ¬ F a ∧ B.nS a ∧ DictV B.K F H (fun o => H a = some o) ds
  | d => Has B.K F H v d
/-- to be read -/
def BorV (B : Bx) (F : Addr → Prop) (H : Hp) (v : V) : D → Prop
  | .list ds => ∃ a xs, v = .ref a ∧ B.nS a ∧ H a = some (.lst xs) ∧ HasAll B.K F H xs ds
  | .dict ds => ∃ a, v = .ref a ∧ B.nS a ∧ DictV B.K F H (fun o => Rd H a o) ds
  | d => Has B.K F H v d
/-- a list or a dict -/
def mutD : D → Bool
  | .list _ => true
  | .dict _ => true
  | _ => false

structure Wf (B : Bx) (F : Addr → Prop) (H : Hp) : Prop where
  src : B.SrcOk H
  nS : ∀ a, F a → B.nS a
  is : ∀ a, F a → H a ≠ none
/-- the heap has grown; of what stood only the source may have changed -/
structure Le (B : Bx) (F : Addr → Prop) (H : Hp) (F' : Addr → Prop) (H' : Hp) : Prop where
  f : ∀ a, F a → F' a
  h : ∀ a o, H a = some o → B.nS a → H' a = some o
  n : ∀ a, F' a → F a ∨ H a = none
  wf : Wf B F H
  wf' : Wf B F' H'
section
variable {B : Bx} {F F' F'' : Addr → Prop} {H H' H'' : Hp}
theorem Le.refl (w : Wf B F H) : Le B F H F H := ⟨fun _ h => h, fun _ _ h _ => h, fun _ h => .inl h, w, w⟩
theorem Wf.srcSome (w : Wf B F H) {a : Addr} (h : H a = none) : B.nS a := fun A L e => by
  obtain ⟨cs, l, m, t, h1, h2, _⟩ := w.src A L e
  exact ⟨fun z => (by rw [z, h1] at h; cases h), fun z => (by rw [z, h2] at h; cases h)⟩
theorem Le.none (l : Le B F H F' H') {a : Addr} (h : H' a = none) : H a = none := by
  cases e : H a with
  | none => rfl
  | some o => rw [l.h a o e (l.wf'.srcSome h)] at h; cases h
theorem Le.trans (a : Le B F H F' H') (b : Le B F' H' F'' H'') : Le B F H F'' H'' :=
  ⟨fun c h => b.f c (a.f c h), fun c o h n => b.h c o (a.h c o h n) n, fun c h => (b.n c h).elim (fun h => a.n c h) (fun h => .inr (a.none h)), a.wf, b.wf'⟩
theorem Wf.tupNS (w : Wf B F H) {a : Addr} {xs : List V} (h : H a = some (.tup xs)) : B.nS a := fun A L e => by
  obtain ⟨cs, l, m, t, h1, h2, _⟩ := w.src A L e
  exact ⟨fun z => (by rw [z, h1] at h; cases h), fun z => (by rw [z, h2] at h; cases h)⟩
theorem Le.rd (l : Le B F H F' H') {a : Addr} {u : HO} (n : B.nS a) (h : Rd H a u) : Rd H' a u := by
  rcases h with h | ⟨o, h⟩
  · exact .inl (l.h a _ h n)
  · exact .inr ⟨o, l.h a _ h n⟩
theorem Le.stay (l : Le B F H F' H') : Stay F H H' := ⟨fun a u h r => l.rd (l.wf.nS a h) r, fun a u h r => l.h a _ r (l.wf.nS a h), fun a xs r => l.h a _ r (l.wf.tupNS r)⟩
theorem Le.has (l : Le B F H F' H') {v : V} {d : D} (h : Has B.K F H v d) : Has B.K F' H' v d := h.mono l.f l.stay
theorem Le.all (l : Le B F H F' H') {v : List V} {d : List D} (h : HasAll B.K F H v d) : HasAll B.K F' H' v d := h.mono l.f l.stay
/-- a place that was taken and not frozen is not frozen later -/
theorem Le.notF (l : Le B F H F' H') {a : Addr} {o : HO} (n : ¬ F a) (h : H a = some o) : ¬ F' a := fun z => by
  rcases l.n a z with z | z
  · exact n z
  · rw [h] at z; cases z
theorem DictV.mono {ok ok' : HO → Prop} {ds : List (D × D)} (hf : ∀ a, F a → F' a) (s : Stay F H H') (hk : ∀ u, ok u → ok' u) (h : DictV B.K F H ok ds) : DictV B.K F' H' ok' ds := by
  rcases h with ⟨kvs, h1, h2, h3⟩ | ⟨kvs, h1, z, h2, h3⟩
  · exact .inl ⟨kvs, hk _ h1, h2, h3.mono hf s⟩
  · exact .inr ⟨kvs, hk _ h1, z, h2, h3.mono hf s⟩
theorem DictV.is {ok : HO → Prop} {ds : List (D × D)} (h : DictV B.K F H ok ds) : ∃ u, ok u := by
  rcases h with ⟨kvs, h1, _⟩ | ⟨kvs, h1, _⟩
  · exact ⟨_, h1⟩
  · exact ⟨_, h1⟩
theorem Le.own (l : Le B F H F' H') {v : V} {d : D} (h : OwnV B F H v d) : OwnV B F' H' v d := by
  cases d with
  | list ds => obtain ⟨a, xs, e, n, m, r, q⟩ := h; exact ⟨a, xs, e, l.notF n r, m, l.h a _ r m, l.all q⟩
  | dict ds =>
    obtain ⟨a, e, n, m, q⟩ := h
    obtain ⟨u, hu⟩ := q.is
    exact ⟨a, e, l.notF n hu, m, q.mono l.f l.stay fun u h => l.h a u h m⟩
  | none => exact l.has h
  | bool _ => exact l.has h
  | int _ => exact l.has h
  | str _ => exact l.has h
  | tuple _ => exact l.has h
theorem Le.bor (l : Le B F H F' H') {v : V} {d : D} (h : BorV B F H v d) : BorV B F' H' v d := by
  cases d with
  | list ds => obtain ⟨a, xs, e, m, r, q⟩ := h; exact ⟨a, xs, e, m, l.h a _ r m, l.all q⟩
  | dict ds => obtain ⟨a, e, m, q⟩ := h; exact ⟨a, e, m, q.mono l.f l.stay fun u h => l.rd m h⟩
  | none => exact l.has h
  | bool _ => exact l.has h
  | int _ => exact l.has h
  | str _ => exact l.has h
  | tuple _ => exact l.has h
theorem OwnV.bor {v : V} {d : D} (h : OwnV B F H v d) : BorV B F H v d := by
  cases d with
  | list ds => obtain ⟨a, xs, e, n, m, r, q⟩ := h; exact ⟨a, xs, e, m, r, q⟩
  | dict ds => obtain ⟨a, e, n, m, q⟩ := h; exact ⟨a, e, m, q.mono (fun _ h => h) .refl fun u h => .inl h⟩
  | none => exact h
  | bool _ => exact h
  | int _ => exact h
  | str _ => exact h
  | tuple _ => exact h
theorem Has.bor (w : Wf B F H) {v : V} {d : D} (h : Has B.K F H v d) : BorV B F H v d := by
  cases h with
  | lst f r q => exact ⟨_, _, rfl, w.nS _ f, r, q⟩
  | dK f r e q => exact ⟨_, rfl, w.nS _ f, .inl ⟨_, r, e, q⟩⟩
  | dT f r z e q => exact ⟨_, rfl, w.nS _ f, .inr ⟨_, r, z, e, q⟩⟩
  | non => exact .non
  | bl b => exact .bl b
  | int i => exact .int i
  | str x => exact .str x
  | tup r q => exact .tup r q
/-- frozen from now on -/
def addF (F : Addr → Prop) (a : Addr) : Addr → Prop := fun b => F b ∨ b = a
theorem Stay.addF : Stay F H H := .refl
theorem OwnV.freeze (w : Wf B F H) {v : V} {d : D} (h : OwnV B F H v d) : ∃ F', (∀ a, F a → F' a) ∧ (∀ a, F' a → F a ∨ (mutD d = true ∧ v = .ref a)) ∧ Wf B F' H ∧ Has B.K F' H v d := by
  cases d with
  | list ds =>
    obtain ⟨a, xs, e, n, m, r, q⟩ := h
    refine ⟨Pv.addF F a, fun b h => .inl h, fun b h => h.elim .inl fun z => .inr ⟨rfl, z ▸ e⟩, ⟨w.src, fun b h => h.elim (w.nS b) fun z => z ▸ m, fun b h => h.elim (w.is b) fun z => by rw [z, r]; simp⟩, ?_⟩
    rw [e]; exact .lst (.inr rfl) r (q.mono (fun b h => .inl h) .refl)
  | dict ds =>
    obtain ⟨a, e, n, m, q⟩ := h
    have is : H a ≠ none := by obtain ⟨u, hu⟩ := q.is; rw [hu]; simp
    refine ⟨Pv.addF F a, fun b h => .inl h, fun b h => h.elim .inl fun z => .inr ⟨rfl, z ▸ e⟩, ⟨w.src, fun b h => h.elim (w.nS b) fun z => z ▸ m, fun b h => h.elim (w.is b) fun z => by rw [z]; exact is⟩, ?_⟩
    rw [e]
    rcases q with ⟨kvs, h1, h2, h3⟩ | ⟨kvs, h1, z, h2, h3⟩
    · exact .dK (.inr rfl) (.inl h1) h2 (h3.mono (fun b h => .inl h) .refl)
    · exact .dT (.inr rfl) (.inl h1) z h2 (h3.mono (fun b h => .inl h) .refl)
  | none => exact ⟨F, fun _ h => h, fun _ h => .inl h, w, h⟩
  | bool _ => exact ⟨F, fun _ h => h, fun _ h => .inl h, w, h⟩
  | int _ => exact ⟨F, fun _ h => h, fun _ h => .inl h, w, h⟩
  | str _ => exact ⟨F, fun _ h => h, fun _ h => .inl h, w, h⟩
  | tuple _ => exact ⟨F, fun _ h => h, fun _ h => .inl h, w, h⟩
end

inductive Md where
  | bor | frz | own
/-- how an answer stands, from the heap H to F', H' -/
def Res (B : Bx) : Md → Hp → (Addr → Prop) → Hp → V → D → Prop
  | .bor, _, F', H', v, d => BorV B F' H' v d
  | .frz, _, F', H', v, d => Has B.K F' H' v d
  | .own, H, F', H', v, d => OwnV B F' H' v d ∧ (mutD d = true → ∀ a, v = .ref a → H a = none)
def SlotV (B : Bx) (F : Addr → Prop) (H : Hp) : Kd → V → D → Prop
  | .sh, v, d => Has B.K F H v d
  | .ow, v, d => OwnV B F H v d
  | .lk, v, d => BorV B F H v d ∧ (∀ a, v = .ref a → mutD d = true → ¬ F a)
structure Rel (S : Sx) (F0 : Addr → Prop) (H0 : Hp) (F : Addr → Prop) (ρ : Ev) (σ : L2.St) (H : Hp) : Prop where
  base : Le S.B F0 H0 F H
  len : σ.length = ρ.length
  slot : ∀ i d, ρ[i]? = some (some d) → ∃ v, σ[i]? = some (some v) ∧ SlotV S.B F H (S.kd i) v d
  new : ∀ i d a, S.kd i = .ow → ρ[i]? = some (some d) → mutD d = true → σ[i]? = some (some (.ref a)) → H0 a = none
  apart : ∀ i j d e a, i ≠ j → S.kd i ≠ .sh → S.kd j ≠ .sh → ρ[i]? = some (some d) → ρ[j]? = some (some e) → mutD d = true → mutD e = true → σ[i]? = some (some (.ref a)) → σ[j]? = some (some (.ref a)) → False
  six : ∀ i A L, S.six = some i → S.B.src = some (A, L) → σ[i]? = some (some (.ref A)) ∧ ρ[i]? = some none
section
variable {S : Sx} {F0 F F' F'' : Addr → Prop} {H0 H H' H'' : Hp} {ρ : Ev} {σ : L2.St}
theorem Le.slotV (l : Le S.B F H F' H') {k : Kd} {v : V} {d : D} (h : SlotV S.B F H k v d) : SlotV S.B F' H' k v d := by
  cases k with
  | sh => exact l.has h
  | ow => exact l.own h
  | lk =>
    refine ⟨l.bor h.1, fun a e m z => ?_⟩
    have is : ∃ o, H a = some o := by
      cases d with
      | list ds =>
        obtain ⟨b, xs, e', _, r, _⟩ := h.1
        rw [e] at e'; cases e'
        exact ⟨_, r⟩
      | dict ds =>
        obtain ⟨b, e', _, q⟩ := h.1
        rw [e] at e'; cases e'
        obtain ⟨u, r⟩ := q.is
        rcases r with r | ⟨o, r⟩
        · exact ⟨_, r⟩
        · exact ⟨_, r⟩
      | _ => cases m
    obtain ⟨o, ho⟩ := is
    exact l.notF (h.2 a e m) ho z
theorem Rel.mono (R : Rel S F0 H0 F ρ σ H) (l : Le S.B F H F' H') : Rel S F0 H0 F' ρ σ H' :=
  ⟨R.base.trans l, R.len, fun i d e => let ⟨v, h1, h2⟩ := R.slot i d e; ⟨v, h1, l.slotV h2⟩, R.new, R.apart, R.six⟩
theorem Rel.wf (R : Rel S F0 H0 F ρ σ H) : Wf S.B F H := R.base.wf'
theorem Res.mono {m : Md} (l : Le S.B F' H' F'' H'') {v : V} {d : D} (h : Res S.B m H F' H' v d) : Res S.B m H F'' H'' v d := by
  cases m with
  | bor => exact l.bor h
  | frz => exact l.has h
  | own => exact ⟨l.own h.1, h.2⟩
theorem Res.bor {m : Md} (w : Wf S.B F' H') {v : V} {d : D} (h : Res S.B m H F' H' v d) : BorV S.B F' H' v d := by
  cases m with
  | bor => exact h
  | frz => exact Has.bor w h
  | own => exact OwnV.bor h.1
end
end Pv

namespace Pv
open PySem PySem.Spec PyProof.Rows L2

section
variable {X : Cx}
def rE (X : Cx) (e : Expr) : TE := fun σ H Q => ∃ t, PE X e t ∧ t σ H Q
def rT (X : Cx) (e : Expr) : TT := fun σ H Q => ∃ t, PT X e t ∧ t σ H Q
def rA (X : Cx) (es : List Expr) : TA := fun σ H Q => ∃ t, PA X es t ∧ t σ H Q
def rS (X : Cx) (st : Stmt) : TS := fun D σ H => ∃ t, PS X st t ∧ t D σ H
def rB (X : Cx) (st : List Stmt) : TS := fun D σ H => ∃ t, PSs X st t ∧ t D σ H
def rIt (X : Cx) (tg e : Expr) : TI := fun σ H R => ∃ t, PI X tg e t ∧ t σ H R
def rG (X : Cx) (tg : Expr) : TG := fun v σ H Q => ∃ t, PG X tg t ∧ t v σ H Q
theorem pe_r {e : Expr} : PE X e (rE X e) := ⟨fun pins s σ H Q I ⟨t, p, h⟩ => p.run pins s σ H Q I h⟩
theorem pt_r {e : Expr} : PT X e (rT X e) := ⟨fun pins s σ H Q I ⟨t, p, h⟩ => p.run pins s σ H Q I h⟩
theorem pa_r {e : List Expr} : PA X e (rA X e) := ⟨fun pos pins s σ H Q I ⟨t, p, h⟩ => p.run pos pins s σ H Q I h⟩
theorem ps_r {e : Stmt} : PS X e (rS X e) := ⟨fun pins s σ H D I ⟨t, p, h⟩ => p.run pins s σ H D I h⟩
theorem pb_r {e : List Stmt} : PSs X e (rB X e) := ⟨fun pins s σ H D I ⟨t, p, h⟩ => p.run pins s σ H D I h⟩
theorem pi_r {tg e : Expr} : PI X tg e (rIt X tg e) := ⟨fun pins s σ H R I ⟨t, p, h⟩ => p.run pins s σ H R I h⟩
theorem pg_r {tg : Expr} : PG X tg (rG X tg) := ⟨fun pins s σ H v u Q I r ⟨t, p, h⟩ => p.run pins s σ H v u Q I r h⟩
theorem rE.of {e : Expr} {t : TE} {σ : L2.St} {H : Hp} {Q : VK} (p : PE X e t) (h : t σ H Q) : rE X e σ H Q := ⟨t, p, h⟩
theorem rT.of {e : Expr} {t : TT} {σ : L2.St} {H : Hp} {Q : Bool → Hp → Prop} (p : PT X e t) (h : t σ H Q) : rT X e σ H Q := ⟨t, p, h⟩
theorem rA.of {e : List Expr} {t : TA} {σ : L2.St} {H : Hp} {Q : List V → Hp → Prop} (p : PA X e t) (h : t σ H Q) : rA X e σ H Q := ⟨t, p, h⟩
theorem rS.of {e : Stmt} {t : TS} {σ : L2.St} {H : Hp} {D : Ends} (p : PS X e t) (h : t D σ H) : rS X e D σ H := ⟨t, p, h⟩
theorem rB.of {e : List Stmt} {t : TS} {σ : L2.St} {H : Hp} {D : Ends} (p : PSs X e t) (h : t D σ H) : rB X e D σ H := ⟨t, p, h⟩
theorem rIt.of {tg e : Expr} {t : TI} {σ : L2.St} {H : Hp} {R : It → Hp → Prop} (p : PI X tg e t) (h : t σ H R) : rIt X tg e σ H R := ⟨t, p, h⟩
theorem rG.of {tg : Expr} {t : TG} {v : V} {σ : L2.St} {H : Hp} {Q : L2.St → Hp → Prop} (p : PG X tg t) (h : t v σ H Q) : rG X tg v σ H Q := ⟨t, p, h⟩
end

abbrev Names := List (Str × NameKind)
structure Ctx (S : Sx) (k : Nat) (N : List Str) (sc : Names) (X : Cx) : Prop where
  hN : X.N = N
  nd : X.N.Nodup
  sc : X.env.scope.names = sc
  kind : X.env.scope.kind = .function
  P : X.prog = S.B.P
  w : X.w = S.B.w
  K : X.K = S.B.K
  mg : X.mg = S.B.mg
  base : X.base = S.B.base
  calm : X.calm = true
  room : Room k X.A
  gd : X.A.guards = some []
  po : PassesOwn (model X.prog X.w) X.A X.env X.xe
  fnw : X.env.scope.names.lookup (".0" : Str) = none → ∀ x, X.fn x = true
theorem Ctx.fn {S : Sx} {k : Nat} {N : List Str} {sc : Names} {X : Cx} (c : Ctx S k N sc X) (h : sc.lookup (".0" : Str) = none) : ∀ x, X.fn x = true := c.fnw (by rw [c.sc]; exact h)
theorem Ctx.hu {S : Sx} {k : Nat} {N : List Str} {sc : Names} {X : Cx} (c : Ctx S k N sc X) : X.A.units + 200 < cLine := by have := c.room.un; omega

/-- an expression's answers -/
def EP1 (B : Bx) (m : Md) (F : Addr → Prop) (H : Hp) (Q : VK) (d : D) : Prop := ∀ F' v H', Le B F H F' H' → Res B m H F' H' v d → Q v H'
def EJ (S : Sx) (k : Nat) (N : List Str) (sc : Names) (e : Expr) (m : Md) (f : EF) : Prop :=
  ∀ X, Ctx S k N sc X → ∀ F0 H0 F ρ σ H, Rel S F0 H0 F ρ σ H → ∀ Q : VK, (f ρ).wp (EP1 S.B m F H Q) → rE X e σ H Q
def TP1 (B : Bx) (F : Addr → Prop) (H : Hp) (Q : Bool → Hp → Prop) (b : Bool) : Prop := ∀ F' H', Le B F H F' H' → Q b H'
def TJ (S : Sx) (k : Nat) (N : List Str) (sc : Names) (e : Expr) (f : TF) : Prop :=
  ∀ X, Ctx S k N sc X → ∀ F0 H0 F ρ σ H, Rel S F0 H0 F ρ σ H → ∀ Q : Bool → Hp → Prop, (f ρ).wp (TP1 S.B F H Q) → rT X e σ H Q
/-- argument lists, displays: all shared -/
def AP1 (B : Bx) (F : Addr → Prop) (H : Hp) (Q : List V → Hp → Prop) (ds : List D) : Prop := ∀ F' vs H', Le B F H F' H' → HasAll B.K F' H' vs ds → Q vs H'
def AJ (S : Sx) (k : Nat) (N : List Str) (sc : Names) (es : List Expr) (f : Ev → Tr (List D)) : Prop :=
  ∀ X, Ctx S k N sc X → ∀ F0 H0 F ρ σ H, Rel S F0 H0 F ρ σ H → ∀ Q : List V → Hp → Prop, (f ρ).wp (AP1 S.B F H Q) → rA X es σ H Q
/-- a statement's ends -/
def SP1 (S : Sx) (ret : Md) (F0 : Addr → Prop) (H0 : Hp) (F : Addr → Prop) (H : Hp) (D : Ends) : Fl × Ev → Prop
  | (.nx, ρ') => ∀ F' σ' H', (∀ a, F a → F' a) → Stay F H H' → Rel S F0 H0 F' ρ' σ' H' → D.nx σ' H'
  | (.bk, ρ') => ∀ F' σ' H', (∀ a, F a → F' a) → Stay F H H' → Rel S F0 H0 F' ρ' σ' H' → D.bk σ' H'
  | (.ct, ρ') => ∀ F' σ' H', (∀ a, F a → F' a) → Stay F H H' → Rel S F0 H0 F' ρ' σ' H' → D.ct σ' H'
  | (.rt d, _) => ∀ F' v H', (∀ a, F a → F' a) → Stay F H H' → Le S.B F0 H0 F' H' → Res S.B ret H0 F' H' v d → D.rt v H'
def SJ (S : Sx) (k : Nat) (N : List Str) (sc : Names) (ret : Md) (st : Stmt) (g : SF) : Prop :=
  ∀ X, Ctx S k N sc X → ∀ F0 H0 F ρ σ H, Rel S F0 H0 F ρ σ H → ∀ D : Ends, (g ρ).wp (SP1 S ret F0 H0 F H D) → rS X st D σ H
def BJ (S : Sx) (k : Nat) (N : List Str) (sc : Names) (ret : Md) (st : List Stmt) (g : SF) : Prop :=
  ∀ X, Ctx S k N sc X → ∀ F0 H0 F ρ σ H, Rel S F0 H0 F ρ σ H → ∀ D : Ends, (g ρ).wp (SP1 S ret F0 H0 F H D) → rB X st D σ H

/-- how arguments stand: hs: the source ahead -/
def Args1 (B : Bx) (hs : Bool) (F : Addr → Prop) (H : Hp) (vs : List V) (ds : List D) : Prop :=
  match hs with
  | false => HasAll B.K F H vs ds
  | true => ∃ A L vs', B.src = some (A, L) ∧ vs = .ref A :: vs' ∧ HasAll B.K F H vs' ds
structure FnG (B : Bx) (k : Nat) (f : Addr) (fd : FuncData) (ps : List Str) (ret : Md) (hs : Bool) (Φ : List D → Tr D) : Prop where
  run : ∀ (A : Around) (outer : List Env) (s : Shared) (H : Hp) (args : Args) (us : List Value) (vs : List V) (ds : List D) (F : Addr → Prop) (Q : VK),
    Room k A → A.guards = some [] → Env0 B.P B.w B.K B.mg B.base A outer s H → BindsTo s fd args (ps.zip us) → us.length = ps.length → Vals vs us → Args1 B hs F H vs ds → Wf B F H →
    (Φ ds).wp (EP1 B ret F H Q) → codeAny (model B.P B.w) A (.call (.ref f) args) (CR CX0 outer B.P B.w H s Q E0) s
structure DefIn (B : Bx) (k : Nat) (x : Str) (np : Nat) (ret : Md) (hs : Bool) (Φ : List D → Tr D) : Prop where
  ex : ∃ f fd ps, B.mg x = some (.ref f) ∧ PySem.W.keepIn B.K (.ref f) = true ∧ Binds B.K fd ps [] ∧ ps.length = np ∧ FnG B k f fd ps ret hs Φ
/-- a plain function that is stuck more often will do -/
theorem DefIn.imp {B : Bx} {k : Nat} {x : Str} {np : Nat} {ret : Md} {hs : Bool} {Φ Ψ : List D → Tr D} (h : DefIn B k x np ret hs Φ) (i : ∀ ds (Q : D → Prop), (Ψ ds).wp Q → (Φ ds).wp Q) : DefIn B k x np ret hs Ψ := by
  obtain ⟨f, fd, ps, h1, h2, h3, h4, h5⟩ := h.ex
  exact ⟨f, fd, ps, h1, h2, h3, h4, ⟨fun A outer s H args us vs ds F Q a b c d e g i' j w => h5.run A outer s H args us vs ds F Q a b c d e g i' j (i _ _ w)⟩⟩
theorem DefIn.lift {B : Bx} {j k : Nat} {x : Str} {np : Nat} {ret : Md} {hs : Bool} {Φ : List D → Tr D} (h : DefIn B j x np ret hs Φ) (l : j ≤ k) : DefIn B k x np ret hs Φ := by
  obtain ⟨f, fd, ps, h1, h2, h3, h4, h5⟩ := h.ex
  exact ⟨f, fd, ps, h1, h2, h3, h4, ⟨fun A outer s H args us vs ds F Q a => h5.run A outer s H args us vs ds F Q (a.mono l)⟩⟩

section
variable {S : Sx} {k : Nat} {N : List Str} {sc : Names} {X : Cx}
theorem Args1.length {B : Bx} {hs : Bool} {F : Addr → Prop} {H : Hp} {vs : List V} {ds : List D} (h : Args1 B hs F H vs ds) : vs.length = (if hs then 1 else 0) + ds.length := by
  cases hs with
  | false => have := HasAll.length h; simp; exact this
  | true => obtain ⟨A, L, vs', _, rfl, q⟩ := h; simp [q.length]; omega

/-- the callee runs, its arguments standing -/
theorem call_g {np : Nat} {x : Str} {p pos : Pos} {ret : Md} {hs : Bool} {Φ : List D → Tr D} {e : Expr} {es : List Expr} {t : TA} {f : Addr} {fd : FuncData} {ps : List Str} (c : Ctx S k N sc X)
    (hm : S.B.mg x = some (.ref f)) (hk : PySem.W.keepIn S.B.K (.ref f) = true) (hb : Binds S.B.K fd ps []) (G : FnG S.B k f fd ps ret hs Φ) (hg : X.env.scope.names.lookup x = some .globalImplicit)
    (hdb : (x == ("__debug__" : Str)) = false) (he : starEach (e :: es) X.env = (false, eval e X.env) :: starEach es X.env) (hpl : (backTo pos (starEach es X.env)).any (·.1) = false) (ha : PA X (e :: es) t) :
    PE X (.Call (.Name x p) (e :: es) [] pos) (fun σ H Q => t σ H fun vs H1 => ∃ F1 ds, vs.length = ps.length ∧ Wf S.B F1 H1 ∧ Args1 S.B hs F1 H1 vs ds ∧ (Φ ds).wp (EP1 S.B ret F1 H1 Q)) := by
  refine ⟨fun pins s σ H Q I h => ?_⟩
  refine wpAny_Call_Name_kw (ld_glob I hg (by rw [c.mg]; exact hm) ?_ hdb)
  refine PySem.W.callWith_K (h₀ := X.base) I.ok.mod.kin (by rw [c.K]; exact hk) (thn (ha.run pos pins s σ H _ I h) fun us s1 ⟨vs, H1, I1, r, q⟩ => ⟨I1.kIn, ?_⟩) he hpl
  obtain ⟨F1, ds, hlen, wf, ar, w⟩ := q
  have hl : us.length = ps.length := by rw [← r.length]; exact hlen
  have kin := I1.kIn
  have e0 := I1.env0
  rw [c.P, c.w, c.K, c.mg, c.base] at e0
  rw [c.K] at kin
  refine wpAny_call ?_
  rw [c.P, c.w]
  have bb := hb s1 us kin (by simpa using hl)
  rw [List.append_nil] at bb
  refine codeAny_mono (G.run X.A X.stack s1 H1 ⟨us, []⟩ us vs ds F1 Q c.room c.gd e0 bb hl r ar wf w) fun r s' hq => ?_
  cases r with
  | error e => exact hq.elim
  | ok fl =>
    cases fl with
    | ret u =>
      have hq' : CE X.stack X.prog X.w H1 s1 Q u s' := by rw [c.P, c.w]; exact hq
      exact I1.after hq'
    | next => exact hq.elim
    | brk => exact hq.elim
    | cont => exact hq.elim
end
end Pv

namespace Pv
open PySem PySem.Spec PyProof.Rows L2

/-- the slots at the entry: hs: the source ahead; n slots in all -/
def ev0 (n : Nat) (hs : Bool) (ds : List D) : Ev := (if hs then [none] else []) ++ ds.map some ++ List.replicate (n - ((if hs then 1 else 0) + ds.length)) none
def fin : Fl × Ev → Tr D
  | (.rt d, _) => .ret d
  | (.nx, _) => .ret .none
  | _ => .fail
/-- a def's meaning -/
def runF (n : Nat) (hs : Bool) (g : SF) (ds : List D) : Tr D := (g (ev0 n hs ds)).bind fin

theorem ev0_len {n : Nat} {hs : Bool} {ds : List D} (h : (if hs then 1 else 0) + ds.length ≤ n) : (ev0 n hs ds).length = n := by
  unfold ev0
  cases hs <;> simp at h ⊢ <;> omega
theorem ev0_get {n : Nat} {hs : Bool} {ds : List D} {i : Nat} {d : D} (h : (ev0 n hs ds)[i]? = some (some d)) : (if hs then 1 else 0) ≤ i ∧ ds[i - (if hs then 1 else 0)]? = some d := by
  unfold ev0 at h
  cases hs with
  | false =>
    simp only [Bool.false_eq_true, if_false, List.nil_append] at h ⊢
    refine ⟨Nat.zero_le _, ?_⟩
    by_cases hi : i < (ds.map some).length
    · rw [List.getElem?_append_left hi, List.getElem?_map] at h
      cases e : ds[i]? with
      | none => rw [e] at h; cases h
      | some a => rw [e] at h; simp only [Option.map_some, Option.some.injEq] at h; simpa using h
    · rw [List.getElem?_append_right (by omega), List.getElem?_replicate] at h
      split at h <;> cases h
  | true =>
    simp only [if_true, List.cons_append, List.nil_append] at h ⊢
    cases i with
    | zero => simp at h
    | succ j =>
      refine ⟨Nat.le_add_left _ _, ?_⟩
      rw [List.getElem?_cons_succ] at h
      rw [Nat.add_sub_cancel]
      by_cases hi : j < (ds.map some).length
      · rw [List.getElem?_append_left hi, List.getElem?_map] at h
        cases e : ds[j]? with
        | none => rw [e] at h; cases h
        | some a => rw [e] at h; simp only [Option.map_some, Option.some.injEq] at h; rw [h]
      · rw [List.getElem?_append_right (by omega), List.getElem?_replicate] at h
        split at h <;> cases h

theorem start_get {N : List Str} {vs : List V} {i : Nat} {v : V} (h : vs[i]? = some v) : (L2.start N vs)[i]? = some (some v) := by
  have hi : i < vs.length := (List.getElem?_eq_some_iff.mp h).1
  unfold L2.start
  rw [List.getElem?_append_left (by simpa using hi), List.getElem?_map, h]
  rfl
theorem start_len {N : List Str} {vs : List V} (h : vs.length ≤ N.length) : (L2.start N vs).length = N.length := by
  unfold L2.start
  rw [List.length_append, List.length_map, List.length_replicate]; omega

/-- the state at a def's entry -/
theorem rel_start {B : Bx} {kd : Nat → Kd} {hs : Bool} {N : List Str} {F : Addr → Prop} {H : Hp} {vs : List V} {ds : List D} (w : Wf B F H) (a : Args1 B hs F H vs ds) (hl : vs.length ≤ N.length) (hk : ∀ i, i < vs.length → kd i = .sh) :
    Rel ⟨B, kd, if hs then some 0 else none⟩ F H F (ev0 N.length hs ds) (L2.start N vs) H := by
  have al := a.length
  have at1 : ∀ i d, (ev0 N.length hs ds)[i]? = some (some d) → i < vs.length ∧ ∃ v, vs[i]? = some v ∧ Has B.K F H v d := fun i d e => by
    obtain ⟨h1, h2⟩ := ev0_get e
    have hd : i - (if hs then 1 else 0) < ds.length := (List.getElem?_eq_some_iff.mp h2).1
    refine ⟨by omega, ?_⟩
    cases hs with
    | false => exact HasAll.get a (by simpa using h2)
    | true =>
      obtain ⟨A, L, vs', _, rfl, q⟩ := a
      cases i with
      | zero => simp at h1
      | succ j =>
        obtain ⟨v, g1, g2⟩ := q.get (i := j) (by simpa using h2)
        exact ⟨v, by simpa using g1, g2⟩
  refine ⟨.refl w, ?_, fun i d e => ?_, fun i d a' hk' e _ _ => ?_, fun i j d e a' _ hk' _ e1 _ _ _ _ _ => ?_, fun i A L e1 e2 => ?_⟩
  · rw [start_len hl, ev0_len (by omega)]
  · obtain ⟨hi, v, hv, hh⟩ := at1 i d e
    refine ⟨v, start_get hv, ?_⟩
    show SlotV B F H (kd i) v d
    rw [hk i hi]; exact hh
  · have z := hk i (at1 i d e).1
    rw [show kd i = .ow from hk'] at z; cases z
  · exact absurd (hk i (at1 i d e1).1) hk'
  · cases hs with
    | false => cases e1
    | true =>
      cases e1
      obtain ⟨A', L', vs', e, rfl, q⟩ := a
      rw [show B.src = some (A, L) from e2] at e
      cases e
      exact ⟨start_get rfl, rfl⟩

theorem fnG_of {B : Bx} {k : Nat} {f : Addr} {name qual : Str} {params : Arguments} {body : List Stmt} {scope : Scope} {dV kV doc pm cdv ct oc : Value} {an od : Option Addr} {osl : Array (Option Value)} {N ps : List Str} {ret : Md} {hs : Bool} {kd : Nat → Kd} {g : SF}
    (lk : B.K.lookup f = some ⟨oc, od, .func (PySem.W.fnOf name qual params body scope dV kV doc pm an cdv ct), osl⟩) (hcd : PySem.W.codeIn B.K cdv qual = true) (S : FnScope N ps scope)
    (hk : ∀ i, i < ps.length → kd i = .sh) (hret : ret ≠ .bor) (J : BJ ⟨B, kd, if hs then some 0 else none⟩ k N scope.names ret body g) :
    FnG B (k + 1) f (PySem.W.fnOf name qual params body scope dV kV doc pm an cdv ct) ps ret hs (runF N.length hs g) := by
  refine ⟨fun A outer s H args us vs ds F Q hr hgd e0 hb hul r ar wf hw => ?_⟩
  unfold runF at hw
  have hl : vs.length = ps.length := by rw [r.length]; exact hul
  have hpl : ps.length ≤ N.length := by have := congrArg List.length S.pre; rw [List.length_take] at this; omega
  have KX : B.K.In s.heap := e0.mod.kin.keeps fun b o e => (e0.bs b o e).1
  have lim : s.heap.NoLimit := e0.mod.nolimit.keeps fun b o e => (e0.bs b o e).1
  have hkind : ∀ y ∈ ps.zip us, scope.names.lookup y.1 = some .local ∨ (scope.names.lookup y.1 = some .cell ∧ ((cellsFrom (s.heap.objs.size + 1) scope.names []).lookup y.1).isSome = true) := fun y hy => by
    obtain ⟨n, v⟩ := y
    exact (S.par n (List.of_mem_zip hy).1).imp id fun q => ⟨q, PySem.W.cellsFrom_some _ _ _ (.inl q)⟩
  have run1 := codeAny_call_function (prog := B.P) (w := B.w) (A := A) hr.depth (KX _ _ lk) rfl S.co S.gen rfl (PySem.W.codeRec_of KX hcd) (R := CR CX0 outer B.P B.w H s Q E0) (hb _ _ _ _ (
    wpAny_newFunctionEnv_cells S.kind hkind fun env he s1 x => by
      subst he
      refine ⟨lim.keeps x.toInCall.keep, codeAny_func ?_⟩
      have I := inv_start (CX := CX0) (E := E0) (K := B.K) (mg := B.mg) (base := B.base) S hr.hd e0 hl r x
      have c : Ctx ⟨B, kd, if hs then some 0 else none⟩ k N scope.names (cxOf CX0 B.P B.w B.K B.mg B.base N qual scope f cdv A outer s H E0).nox :=
        ⟨rfl, S.nd, rfl, S.kind, rfl, rfl, rfl, rfl, rfl, rfl, hr.deeper _, hgd, PassesOwn.never, fun _ _ => rfl⟩
      have R0 := rel_start (B := B) (kd := kd) (N := N) wf ar (by omega) (fun i hi => hk i (by omega))
      have rd := J _ c F H F _ _ H R0 { nx := fun _ H' => Q .non H', rt := Q } (Tr.wp_mono (fun fl hfl => ?_) (Tr.wp_bind.mp hw))
      · obtain ⟨t, ht, hq⟩ := rd
        refine wpAny_mono (ht.nox.run [] s1 (L2.start N vs) H _ I hq) (fun fl s' hs' => ?_) fun e s' hs' => hs'
        cases fl with
        | ret u =>
          obtain ⟨v, σ', H', J', rv, q⟩ := hs'
          exact ⟨v, H', J'.os, J'.bare, J'.base, J'.hok, rv, q⟩
        | next =>
          obtain ⟨σ', H', J', q⟩ := hs'
          exact ⟨.non, H', J'.os, J'.bare, J'.base, J'.hok, rfl, q⟩
        | brk => obtain ⟨_, _, _, q⟩ := hs'; exact q.elim
        | cont => obtain ⟨_, _, _, q⟩ := hs'; exact q.elim
      · obtain ⟨fl, ρ'⟩ := fl
        cases fl with
        | nx =>
          intro F' σ' H' _ _ R'
          refine hfl F' .non H' R'.base ?_
          cases ret with
          | bor => exact absurd rfl hret
          | frz => exact .non
          | own => exact ⟨.non, fun z => by cases z⟩
        | rt d => intro F' v H' _ _ l q; exact hfl F' v H' l q
        | bk => exact hfl.elim
        | ct => exact hfl.elim))
  exact run1
end Pv

namespace Pv
open PySem PySem.Spec PyProof.Rows L2

def lim : Nat := 16777216
theorem lim_eq : lim = sizeLine := by rw [sizeLine_eq]; rfl

section
variable {S : Sx} {k : Nat} {N : List Str} {sc : Names} {e : Expr} {f : EF}
theorem EJ.bor {m : Md} (j : EJ S k N sc e m f) : EJ S k N sc e .bor f := fun X c F0 H0 F ρ σ H R Q w =>
  j X c F0 H0 F ρ σ H R Q (Tr.wp_mono (fun d h F' v H' l q => h F' v H' l (Res.bor l.wf' q)) w)
theorem EJ.frz (j : EJ S k N sc e .own f) : EJ S k N sc e .frz f := fun X c F0 H0 F ρ σ H R Q w =>
  j X c F0 H0 F ρ σ H R Q (Tr.wp_mono (fun d h F' v H' l q => by
    obtain ⟨F2, h1, h2, h3, h4⟩ := OwnV.freeze l.wf' q.1
    refine h F2 v H' ⟨fun a h => h1 a (l.f a h), l.h, fun a h => ?_, l.wf, h3⟩ h4
    rcases h2 a h with h | ⟨m, z⟩
    · exact l.n a h
    · exact .inr (q.2 m a z)) w)
/-- names -/
theorem ej_sh {i : Nat} {x : Str} {p : Pos} (hk : S.kd i = .sh) (hN : N[i]? = some x) (hv : sc.lookup x = some .local ∨ sc.lookup x = some .cell ∨ sc.lookup x = some .free) (hd : (x == ("__debug__" : Str)) = false) (hcd : (x == ("__classdict__" : Str)) = false) :
    EJ S k N sc (.Name x p) .frz (vr i) := fun X c F0 H0 F ρ σ H R Q w => by
  refine .of (pe_var (i := i) (by rw [c.hN]; exact hN) (by unfold Vis; rw [c.sc]; exact hv) hd hcd) ?_
  unfold vr at w
  cases e : ρ[i]? with
  | none => rw [e] at w; exact w.elim
  | some o =>
    cases o with
    | none => rw [e] at w; exact w.elim
    | some d =>
      rw [e] at w
      obtain ⟨v, h1, h2⟩ := R.slot i d e
      rw [hk] at h2
      exact ⟨v, h1, w F v H (.refl R.wf) h2⟩
theorem ej_bor {i : Nat} {x : Str} {p : Pos} (hN : N[i]? = some x) (hv : sc.lookup x = some .local ∨ sc.lookup x = some .cell ∨ sc.lookup x = some .free) (hd : (x == ("__debug__" : Str)) = false) (hcd : (x == ("__classdict__" : Str)) = false) :
    EJ S k N sc (.Name x p) .bor (vr i) := fun X c F0 H0 F ρ σ H R Q w => by
  refine .of (pe_var (i := i) (by rw [c.hN]; exact hN) (by unfold Vis; rw [c.sc]; exact hv) hd hcd) ?_
  unfold vr at w
  cases e : ρ[i]? with
  | none => rw [e] at w; exact w.elim
  | some o =>
    cases o with
    | none => rw [e] at w; exact w.elim
    | some d =>
      rw [e] at w
      obtain ⟨v, h1, h2⟩ := R.slot i d e
      refine ⟨v, h1, w F v H (.refl R.wf) ?_⟩
      revert h2
      cases S.kd i with
      | sh => exact fun h => Has.bor R.wf h
      | ow => exact fun h => OwnV.bor h
      | lk => exact fun h => h.1
theorem ej_int {i : Int} {j : Nat} {p : Pos} : EJ S k N sc (.Constant (.int i) j p) .own (cn (.int i)) := fun X c F0 H0 F ρ σ H R Q w => .of pe_int (w F _ H (.refl R.wf) ⟨.int i, fun z => by cases z⟩)
theorem ej_str {i : Str} {j : Nat} {p : Pos} : EJ S k N sc (.Constant (.str i) j p) .own (cn (.str i)) := fun X c F0 H0 F ρ σ H R Q w => .of pe_str (w F _ H (.refl R.wf) ⟨.str i, fun z => by cases z⟩)
theorem ej_bl {i : Bool} {j : Nat} {p : Pos} : EJ S k N sc (.Constant (.bool i) j p) .own (cn (.bool i)) := fun X c F0 H0 F ρ σ H R Q w => .of pe_bl (w F _ H (.refl R.wf) ⟨.bl i, fun z => by cases z⟩)
theorem ej_non {j : Nat} {p : Pos} : EJ S k N sc (.Constant .none j p) .own (cn .none) := fun X c F0 H0 F ρ σ H R Q w => .of pe_non (w F _ H (.refl R.wf) ⟨.non, fun z => by cases z⟩)
end

section
variable {X : Cx}
def rO (X : Cx) (f : Value → Value → Sem Value) : R2 := fun x y H Q => ∃ r, OpR X f r ∧ r x y H Q
theorem opr_r {f : Value → Value → Sem Value} : OpR X f (rO X f) := fun pins s σ H x y v u Q I r1 r2 ⟨r, p, h⟩ => p pins s σ H x y v u Q I r1 r2 h
theorem rO.of {f : Value → Value → Sem Value} {r : R2} {x y : V} {H : Hp} {Q : VK} (p : OpR X f r) (h : r x y H Q) : rO X f x y H Q := ⟨r, p, h⟩
def rUn (X : Cx) (f : Value → Sem Value) : V → Hp → VK → Prop := fun x H Q => ∃ r, UnR X f r ∧ r x H Q
theorem unr_r {f : Value → Sem Value} : UnR X f (rUn X f) := fun pins s σ H x v Q I r1 ⟨r, p, h⟩ => p pins s σ H x v Q I r1 h
end
/-- what an operator's rule must give -/
def O2 (S : Sx) (k : Nat) (N : List Str) (sc : Names) (m : Md) (fo : Cx → R2) (f : D → D → Tr D) : Prop :=
  ∀ X, Ctx S k N sc X → ∀ (F : Addr → Prop) (H : Hp) (x y : V) (d e : D) (Q : VK), Wf S.B F H → BorV S.B F H x d → BorV S.B F H y e → (f d e).wp (EP1 S.B m F H Q) → fo X x y H Q
theorem EP1.le {B : Bx} {m : Md} {F F1 : Addr → Prop} {H H1 : Hp} {Q : VK} {d : D} (l : Le B F H F1 H1) (h : EP1 B m F H Q d) : EP1 B m F1 H1 Q d := fun F' v H' l' q => h F' v H' (l.trans l') (by
  cases m with
  | bor => exact q
  | frz => exact q
  | own => exact ⟨q.1, fun z a e => l.none (q.2 z a e)⟩)
section
variable {S : Sx} {k : Nat} {N : List Str} {sc : Names} {a b : Expr} {fa fb : EF} {m m1 m2 : Md} {f : D → D → Tr D} {pos : Pos}
theorem two {r : R2} {X : Cx} (c : Ctx S k N sc X) (ha : EJ S k N sc a m1 fa) (hb : EJ S k N sc b m2 fb)
    (h : ∀ (F : Addr → Prop) (H : Hp) (x y : V) (d e : D) (Q : VK), Wf S.B F H → BorV S.B F H x d → BorV S.B F H y e → (f d e).wp (EP1 S.B m F H Q) → r x y H Q) {F0 F : Addr → Prop} {H0 H : Hp} {ρ : Ev} {σ : L2.St} {Q : VK}
    (R : Rel S F0 H0 F ρ σ H) (w : (op2 f fa fb ρ).wp (EP1 S.B m F H Q)) : tOp r (rE X a) (rE X b) σ H Q := by
  refine ha X c F0 H0 F ρ σ H R _ (Tr.wp_mono (fun d hd F1 v H1 l1 q1 => ?_) (Tr.wp_bind.mp w))
  have hd : ((fb ρ).bind fun y => f d y).wp (EP1 S.B m F H Q) := hd
  refine hb X c F0 H0 F1 ρ σ H1 (R.mono l1) _ (Tr.wp_mono (fun e he F2 u H2 l2 q2 => ?_) (Tr.wp_bind.mp hd))
  exact h F2 H2 v u d e Q l2.wf' (l2.bor (Res.bor l1.wf' q1)) (Res.bor l2.wf' q2) (Tr.wp_mono (fun r hr => EP1.le (l1.trans l2) hr) he)
theorem ej_bin {op : Operator} (h : O2 S k N sc m (fun X => rO X (binaryOp op)) f) (ha : EJ S k N sc a m1 fa) (hb : EJ S k N sc b m2 fb) : EJ S k N sc (.BinOp a op b pos) m (op2 f fa fb) := fun X c F0 H0 F ρ σ H R Q w =>
  .of (pe_op opr_r pe_r pe_r) (two c ha hb (h X c) R w)
theorem nomark' (op : CmpOp) (b : Expr) : behindInMarks op b = false ∨ ∃ es j p, b = .Set es j p := by
  cases b with
  | Set es j p => exact .inr ⟨es, j, p, rfl⟩
  | _ => exact .inl rfl
theorem ej_cmp {op : CmpOp} (h : O2 S k N sc m (fun X => rO X (compareOp op)) f) (ha : EJ S k N sc a m1 fa) (hb : EJ S k N sc b m2 fb) (hm : behindInMarks op b = false) : EJ S k N sc (.Compare a [op] [b] pos) m (op2 f fa fb) := fun X c F0 H0 F ρ σ H R Q w =>
  .of (pe_cmpR opr_r pe_r pe_r hm) (two c ha hb (h X c) R w)
/-- as a test -/
def bl : D → Tr Bool
  | .bool b => .ret b
  | _ => .fail
def tOf (f : EF) : TF := fun ρ => (f ρ).bind bl
theorem wp_tOf {f : EF} {ρ : Ev} {B : Bx} {F : Addr → Prop} {H : Hp} {Q : Bool → Hp → Prop} (w : (tOf f ρ).wp (TP1 B F H Q)) (m : Md) : (f ρ).wp (EP1 B m F H fun x H1 => ∃ k, x = .bl k ∧ Q k H1) :=
  Tr.wp_mono (fun d h F' v H' l q => by
    cases d with
    | bool b =>
      refine ⟨b, ?_, h F' H' l⟩
      cases m with
      | bor => cases q; rfl
      | frz => cases q; rfl
      | own => cases q.1; rfl
    | _ => exact h.elim) (Tr.wp_bind.mp w)
theorem tj_cmp {op : CmpOp} (h : O2 S k N sc m (fun X => rO X (compareOp op)) f) (ha : EJ S k N sc a m1 fa) (hb : EJ S k N sc b m2 fb) (hm : behindInMarks op b = false) : TJ S k N sc (.Compare a [op] [b] pos) (tOf (op2 f fa fb)) := fun X c F0 H0 F ρ σ H R Q w =>
  .of (pt_cmpR opr_r pe_r pe_r hm) (two c ha hb (h X c) R (wp_tOf w m))
theorem ej_un {op : UnaryOp} {f : D → Tr D} (h : ∀ X, Ctx S k N sc X → ∀ (F : Addr → Prop) (H : Hp) (x : V) (d : D) (Q : VK), Wf S.B F H → BorV S.B F H x d → (f d).wp (EP1 S.B m F H Q) → rUn X (unaryOp op) x H Q) (ha : EJ S k N sc a m1 fa) :
    EJ S k N sc (.UnaryOp op a pos) m (op1 f fa) := fun X c F0 H0 F ρ σ H R Q w =>
  .of (pe_un unr_r pe_r) (ha X c F0 H0 F ρ σ H R _ (Tr.wp_mono (fun d hd F1 v H1 l1 q1 => h X c F1 H1 v d Q l1.wf' (Res.bor l1.wf' q1) (Tr.wp_mono (fun r hr => EP1.le l1 hr) hd)) (Tr.wp_bind.mp w)))
end

/-- a new object is laid: the heap grows -/
theorem Le.lay {B : Bx} {F : Addr → Prop} {H : Hp} {p : Addr} {o : HO} (w : Wf B F H) (hp : H p = Option.none) : Le B F H F (upd H p o) := by
  have ne : ∀ a u, H a = some u → a ≠ p := fun a u h z => by rw [z, hp] at h; cases h
  refine ⟨fun _ h => h, fun a u h _ => by rw [upd_ne (ne a u h)]; exact h, fun _ h => .inl h, w, ⟨fun A L e => ?_, w.nS, fun a h => ?_⟩⟩
  · obtain ⟨cs, l, m, t, h1, h2, r⟩ := w.src A L e
    exact ⟨cs, l, m, t, by rw [upd_ne (ne _ _ h1)]; exact h1, by rw [upd_ne (ne _ _ h2)]; exact h2, r⟩
  · unfold upd
    split
    · simp
    · exact w.is a h
theorem notF_new {B : Bx} {F : Addr → Prop} {H : Hp} {p : Addr} (w : Wf B F H) (hp : H p = Option.none) : ¬ F p := fun z => w.is p z hp

def addD : D → D → Tr D
  | .int i, .int j => .ret (.int (i + j))
  | .str x, .str y => need (x.length + y.length ≤ lim) (.ret (.str (x ++ y)))
  | .tuple xs, .tuple ys => need (xs.length + ys.length ≤ lim) (.ret (.tuple (xs ++ ys)))
  | .list xs, .list ys => need (xs.length + ys.length ≤ lim) (.ret (.list (xs ++ ys)))
  | _, _ => .fail
def subD : D → D → Tr D
  | .int i, .int j => .ret (.int (i - j))
  | _, _ => .fail
def small64 (i : Int) : Prop := -(2 ^ 64) < i ∧ i < 2 ^ 64
instance (i : Int) : Decidable (small64 i) := inferInstanceAs (Decidable (_ ∧ _))
def mulD : D → D → Tr D
  | .int i, .int j => need (small64 i ∨ small64 j) (.ret (.int (i * j)))
  | .list xs, .int k => need (-(2 ^ 63) ≤ k ∧ k < 2 ^ 63 ∧ xs.length * k.toNat ≤ lim) (.ret (.list (List.replicate k.toNat xs).flatten))
  | _, _ => .fail
/-- the divisor above 0, not too great -/
def fdivD : D → D → Tr D
  | .int i, .int j => need (0 < j ∧ j < 2 ^ 1000) (.ret (.int (i / j)))
  | _, _ => .fail
def modD : D → D → Tr D
  | .int i, .int j => need (0 < j) (.ret (.int (i % j)))
  | _, _ => .fail
def powD : D → D → Tr D
  | .int i, .int j => need (0 ≤ j ∧ j ≤ 1000000 ∧ i.natAbs < 2 ^ 64) (.ret (.int (i ^ j.toNat)))
  | _, _ => .fail
def shlD : D → D → Tr D
  | .int i, .int j => need (0 ≤ j ∧ j ≤ 1000000 ∧ i.natAbs < 2 ^ 64) (.ret (.int (i * 2 ^ j.toNat)))
  | _, _ => .fail
section
variable {S : Sx} {k : Nat} {N : List Str} {sc : Names}
theorem Has.int_inv {K : PySem.W.Frag} {F : Addr → Prop} {H : Hp} {v : V} {i : Int} (h : Has K F H v (.int i)) : v = .int i := by cases h; rfl
theorem Has.str_inv {K : PySem.W.Frag} {F : Addr → Prop} {H : Hp} {v : V} {i : Str} (h : Has K F H v (.str i)) : v = .str i := by cases h; rfl
theorem Has.tup_inv {K : PySem.W.Frag} {F : Addr → Prop} {H : Hp} {v : V} {ds : List D} (h : Has K F H v (.tuple ds)) : ∃ a xs, v = .ref a ∧ H a = some (.tup xs) ∧ HasAll K F H xs ds := by cases h with | tup r q => exact ⟨_, _, rfl, r, q⟩
theorem res_int {B : Bx} {H H' : Hp} {F' : Addr → Prop} {i : Int} : Res B .own H F' H' (.int i) (.int i) := ⟨.int i, fun z => by cases z⟩
theorem res_bl {B : Bx} {H H' : Hp} {F' : Addr → Prop} {i : Bool} : Res B .own H F' H' (.bl i) (.bool i) := ⟨.bl i, fun z => by cases z⟩
theorem res_str {B : Bx} {H H' : Hp} {F' : Addr → Prop} {i : Str} : Res B .own H F' H' (.str i) (.str i) := ⟨.str i, fun z => by cases z⟩
theorem res_non {B : Bx} {H H' : Hp} {F' : Addr → Prop} : Res B .own H F' H' .non .none := ⟨.non, fun z => by cases z⟩
/-- a new tuple -/
theorem res_tup {B : Bx} {F : Addr → Prop} {H : Hp} {p : Addr} {xs : List V} {ds : List D} {Q : VK} (w : Wf B F H) (hp : H p = Option.none) (q : HasAll B.K F H xs ds) (h : EP1 B .own F H Q (.tuple ds)) : Q (.ref p) (upd H p (.tup xs)) :=
  h F _ _ (Le.lay w hp) ⟨.tup upd_same ((Le.lay w hp).all q), fun z => by cases z⟩
/-- a new list -/
theorem res_lst {B : Bx} {F : Addr → Prop} {H : Hp} {p : Addr} {xs : List V} {ds : List D} {Q : VK} (w : Wf B F H) (hp : H p = Option.none) (q : HasAll B.K F H xs ds) (h : EP1 B .own F H Q (.list ds)) : Q (.ref p) (upd H p (.lst xs)) :=
  h F _ _ (Le.lay w hp) ⟨⟨p, xs, rfl, notF_new w hp, w.srcSome hp, upd_same, (Le.lay w hp).all q⟩, fun _ a e => by cases e; exact hp⟩
theorem o2_int {f : D → D → Tr D} {fop : Value → Value → Sem Value} {C : Int → Int → Prop} {g : Int → Int → V} {X : Cx} (op : OpR X fop (L2.rI C g)) {H : Hp} {i j : Int} {Q : VK} (hc : C i j) (h : Q (g i j) H) : rO X fop (.int i) (.int j) H Q := .of op ⟨i, j, rfl, rfl, hc, h⟩
theorem o2_add : O2 S k N sc .own (fun X => rO X (binaryOp .Add)) addD := by
  intro X c F H x y d e Q wf bx be w
  cases d <;> cases e <;> first | exact w.elim | skip
  · cases bx; cases be
    exact .of op_add ⟨_, _, rfl, rfl, w F _ H (.refl wf) res_int⟩
  · cases bx; cases be
    obtain ⟨h, w⟩ := wp_need.mp w
    exact .of op_add_str ⟨_, _, rfl, rfl, by rw [← lim_eq]; exact h, w F _ H (.refl wf) res_str⟩
  · obtain ⟨a, xs, rfl, _, ha, qa⟩ := bx
    obtain ⟨b, ys, rfl, _, hb, qb⟩ := be
    obtain ⟨h, w⟩ := wp_need.mp w
    exact .of op_cat ⟨a, b, xs, ys, rfl, rfl, ha, hb, by rw [qa.length, qb.length, ← lim_eq]; exact h, fun p hp => res_lst wf hp (qa.append qb) w⟩
  · obtain ⟨a, xs, rfl, ha, qa⟩ := Has.tup_inv bx
    obtain ⟨b, ys, rfl, hb, qb⟩ := Has.tup_inv be
    obtain ⟨h, w⟩ := wp_need.mp w
    refine .of op_catA ⟨a, b, xs, ys, rfl, rfl, SqT.of ha, SqT.of hb, by rw [qa.length, qb.length, ← lim_eq]; exact h, fun z => ?_, fun _ z => ?_, fun _ _ p hp => res_tup wf hp (qa.append qb) w⟩
    · subst z
      cases qa
      exact w F _ H (.refl wf) ⟨be, fun z => by cases z⟩
    · subst z
      cases qb
      refine w F _ H (.refl wf) ⟨?_, fun z => by cases z⟩
      rw [List.append_nil]; exact bx
theorem o2_sub : O2 S k N sc .own (fun X => rO X (binaryOp .Sub)) subD := by
  intro X c F H x y d e Q wf bx be w
  cases d <;> cases e <;> first | exact w.elim | skip
  cases bx; cases be
  exact .of op_sub ⟨_, _, rfl, rfl, w F _ H (.refl wf) res_int⟩
theorem o2_mul : O2 S k N sc .own (fun X => rO X (binaryOp .Mult)) mulD := by
  intro X c F H x y d e Q wf bx be w
  cases d <;> cases e <;> first | exact w.elim | skip
  · cases bx; cases be
    obtain ⟨h, w⟩ := wp_need.mp w
    exact .of op_mul ⟨_, _, rfl, rfl, h, w F _ H (.refl wf) res_int⟩
  · obtain ⟨a, xs, rfl, _, ha, qa⟩ := bx
    cases be
    obtain ⟨⟨h1, h2, h3⟩, w⟩ := wp_need.mp w
    exact .of op_rep ⟨a, _, xs, rfl, rfl, ha, h1, h2, by rw [qa.length, ← lim_eq]; exact h3, fun p hp => res_lst wf hp (qa.replicate _) w⟩
theorem o2_fdiv : O2 S k N sc .own (fun X => rO X (binaryOp .FloorDiv)) fdivD := by
  intro X c F H x y d e Q wf bx be w
  cases d <;> cases e <;> first | exact w.elim | skip
  cases bx; cases be
  obtain ⟨⟨h1, h2⟩, w⟩ := wp_need.mp w
  refine .of op_fdivW ⟨_, _, rfl, rfl, wide_div (b := 1000) h1 (by omega) (by decide) (by decide), w F _ H (.refl wf) res_int⟩
theorem o2_mod : O2 S k N sc .own (fun X => rO X (binaryOp .Mod)) modD := by
  intro X c F H x y d e Q wf bx be w
  cases d <;> cases e <;> first | exact w.elim | skip
  cases bx; cases be
  obtain ⟨h, w⟩ := wp_need.mp w
  exact .of op_mod ⟨_, _, rfl, rfl, h, w F _ H (.refl wf) res_int⟩
theorem o2_pow : O2 S k N sc .own (fun X => rO X (binaryOp .Pow)) powD := by
  intro X c F H x y d e Q wf bx be w
  cases d <;> cases e <;> first | exact w.elim | skip
  cases bx; cases be
  obtain ⟨h, w⟩ := wp_need.mp w
  exact .of op_pow ⟨_, _, rfl, rfl, h, w F _ H (.refl wf) res_int⟩
theorem o2_shl : O2 S k N sc .own (fun X => rO X (binaryOp .LShift)) shlD := by
  intro X c F H x y d e Q wf bx be w
  cases d <;> cases e <;> first | exact w.elim | skip
  cases bx; cases be
  obtain ⟨h, w⟩ := wp_need.mp w
  exact .of op_shl ⟨_, _, rfl, rfl, h, w F _ H (.refl wf) res_int⟩
def negD : D → Tr D
  | .int i => .ret (.int (-i))
  | _ => .fail
theorem ej_neg {a : Expr} {fa : EF} {m1 : Md} {pos : Pos} (ha : EJ S k N sc a m1 fa) : EJ S k N sc (.UnaryOp .USub a pos) .own (op1 negD fa) := ej_un (fun X c F H x d Q wf bx w => by
  cases d <;> first | exact w.elim | skip
  cases bx
  exact ⟨_, un_neg, _, rfl, w F _ H (.refl wf) res_int⟩) ha
end
end Pv

namespace Pv
open PySem PySem.Spec PyProof.Rows L2

def isFlat : D → Bool
  | .int _ => true
  | .str _ => true
  | _ => false
def isKey : D → Bool
  | .int _ => true
  | .str _ => true
  | .tuple xs => xs.all isFlat
  | _ => false
def sameK (kvs : List (D × D)) (k : D) : Bool := match kvs with
  | [] => true
  | p :: _ => isFlat p.1 == isFlat k
def findD (kvs : List (D × D)) (k : D) : Option D := (kvs.find? fun p => PyData.eqv p.1 k).map (·.2)
def lookD (kvs : List (D × D)) (k : D) : Tr (Option D) := need (isKey k = true ∧ sameK kvs k = true) (.ret (findD kvs k))

theorem eqv_kD : ∀ a b : Key, PyData.eqv (kD a) (kD b) = decide (a = b)
  | .inl i, .inl j => by
    show (i == j) = _
    by_cases h : i = j
    · subst h; simp
    · rw [decide_eq_false (fun z => h (Sum.inl.inj z))]; simp [h]
  | .inr x, .inr y => by
    show (x == y) = _
    by_cases h : x = y
    · subst h; simp
    · rw [decide_eq_false (fun z => h (Sum.inr.inj z))]; exact beq_eq_false_iff_ne.mpr h
  | .inl i, .inr y => by rw [decide_eq_false (fun z => nomatch z)]; rfl
  | .inr x, .inl j => by rw [decide_eq_false (fun z => nomatch z)]; rfl
theorem eqvAll_kD : ∀ a b : List Key, PyData.eqvAll (a.map kD) (b.map kD) = decide (a = b)
  | [], [] => rfl
  | [], b :: bs => rfl
  | a :: as, [] => rfl
  | a :: as, b :: bs => by
    show (PyData.eqv (kD a) (kD b) && PyData.eqvAll (as.map kD) (bs.map kD)) = _
    rw [eqv_kD, eqvAll_kD as bs, Bool.eq_iff_iff]
    simp
theorem eqv_kT (a b : List Key) : PyData.eqv (.tuple (a.map kD)) (.tuple (b.map kD)) = decide (a = b) := eqvAll_kD a b

section
variable {K : PySem.W.Frag} {F : Addr → Prop} {H : Hp}
def OptHas (K : PySem.W.Frag) (F : Addr → Prop) (H : Hp) : Option V → Option D → Prop
  | some v, some d => Has K F H v d
  | none, none => True
  | _, _ => False
theorem find_has {κ : Type} [DecidableEq κ] {g : κ → D} (hg : ∀ a b, PyData.eqv (g a) (g b) = decide (a = b)) (k : κ) : ∀ {kvs : List (κ × V)} {ds : List (D × D)}, ds.map (·.1) = kvs.map (fun p => g p.1) → HasAll K F H (kvs.map (·.2)) (ds.map (·.2)) →
    OptHas K F H (valV kvs k) (findD ds (g k))
  | [], [], _, _ => trivial
  | [], _ :: _, e, _ => by simp at e
  | _ :: _, [], e, _ => by simp at e
  | p :: kvs, q :: ds, e, h => by
    simp only [List.map_cons, List.cons.injEq] at e h
    cases h with
    | cons h1 h2 =>
      unfold findD
      rw [List.find?_cons, e.1, hg]
      by_cases hk : p.1 = k
      · rw [valV_pos hk, decide_eq_true hk]; exact h1
      · rw [valV_neg hk, decide_eq_false hk]; exact find_has hg k e.2 h2
theorem OptHas.isSome {o : Option V} {r : Option D} (h : OptHas K F H o r) : o.isSome = r.isSome := by
  cases o <;> cases r <;> first | rfl | exact h.elim
end

/-- asked, the empty one by a tuple too -/
def DGet2 (H : Hp) (a : Addr) (y : V) (o : Option V) : Prop := DGet H a y o ∨ ∃ (k : List Key) (b : Addr), Rd H a (.dK []) ∧ y = .ref b ∧ H b = some (.tup (k.map kV)) ∧ o = none
theorem flats : ∀ {ds : List D}, ds.all isFlat = true → ∃ ks : List Key, ds = ks.map kD
  | [], _ => ⟨[], rfl⟩
  | d :: ds, h => by
    simp only [List.all_cons, Bool.and_eq_true] at h
    obtain ⟨ks, rfl⟩ := flats h.2
    cases d with
    | int i => exact ⟨.inl i :: ks, rfl⟩
    | str x => exact ⟨.inr x :: ks, rfl⟩
    | _ => cases h.1
theorem HasAll.keys {K : PySem.W.Frag} {F : Addr → Prop} {H : Hp} : ∀ {vs : List V} {ks : List Key}, HasAll K F H vs (ks.map kD) → vs = ks.map kV
  | _, [], .nil => rfl
  | _, k :: ks, .cons h t => by
    rw [List.map_cons, HasAll.keys t]
    cases k with
    | inl i => cases h; rfl
    | inr x => cases h; rfl
theorem kD_flat (k : Key) : isFlat (kD k) = true := by cases k <;> rfl
/-- the plain look-up is the heap's -/
theorem look_ok {B : Bx} {F : Addr → Prop} {H : Hp} {a : Addr} {y : V} {kvs : List (D × D)} {k : D} {Q : Option D → Prop} (dv : DictV B.K F H (fun o => Rd H a o) kvs) (by' : BorV B F H y k) (w : (lookD kvs k).wp Q) :
    ∃ o, DGet2 H a y o ∧ OptHas B.K F H o (findD kvs k) ∧ Q (findD kvs k) := by
  obtain ⟨⟨hk, hs⟩, w⟩ := wp_need.mp w
  have flat : ∀ {key : Key}, y = kV key → k = kD key → ∃ o, DGet2 H a y o ∧ OptHas B.K F H o (findD kvs k) ∧ Q (findD kvs k) := fun {key} e1 e2 => by
    rcases dv with ⟨kv, r, ek, ha⟩ | ⟨kv, r, ne, ek, ha⟩
    · exact ⟨_, .inl (.inl ⟨kv, key, r, e1, rfl⟩), by rw [e2]; exact find_has eqv_kD key ek ha, w⟩
    · exfalso
      cases kv with
      | nil => exact ne rfl
      | cons p kv =>
        cases kvs with
        | nil => simp at ek
        | cons q ds =>
          simp only [List.map_cons, List.cons.injEq] at ek
          unfold sameK at hs
          simp only [ek.1, e2, kD_flat] at hs
          cases hs
  cases k with
  | int i => cases by'; exact flat (key := .inl i) rfl rfl
  | str x => cases by'; exact flat (key := .inr x) rfl rfl
  | tuple ds =>
    obtain ⟨b, xs, rfl, hb, hx⟩ := Has.tup_inv by'
    obtain ⟨ks, rfl⟩ := flats (show ds.all isFlat = true from hk)
    have ex := hx.keys
    subst ex
    rcases dv with ⟨kv, r, ek, ha⟩ | ⟨kv, r, ne, ek, ha⟩
    · cases kv with
      | nil =>
        cases kvs with
        | nil => exact ⟨none, .inr ⟨ks, b, r, rfl, hb, rfl⟩, trivial, w⟩
        | cons q ds => simp at ek
      | cons p kv =>
        exfalso
        cases kvs with
        | nil => simp at ek
        | cons q ds =>
          simp only [List.map_cons, List.cons.injEq] at ek
          unfold sameK at hs
          simp only [ek.1, kD_flat] at hs
          cases hs
    · exact ⟨_, .inl (.inr ⟨kv, ks, b, r, rfl, hb, rfl⟩), find_has eqv_kT ks ek ha, w⟩
  | none => cases hk
  | bool _ => cases hk
  | list _ => cases hk
  | dict _ => cases hk

section
variable {X : Cx} {pins : List (Addr × Obj)} {σ : L2.St} {H : Hp} {s : Shared} {a : Addr} {y v : V} {u r : Value} {o : Option V} {A : Around} {E : Value → Shared → Prop}
/-- an empty dict is one for tuple keys too -/
theorem emptyH (I : Inv X pins σ H s) (e : Rd H a (.dK [])) : (a == sysModules) = false ∧ s.heap.DictOfH (tupleKind (mixKind X.prog X.w)) a [] := by
  obtain ⟨_, hd, vs, rel, ob, es, ep, h1, h2, h3, h4, h5, h6⟩ := dk_rd I.hok e
  cases rel
  refine ⟨hd, ob, es, ep, h1, h2, h3, ?_, ?_, ?_⟩
  · cases q : es.toList with
    | nil => rfl
    | cons x xs => rw [q] at h5; cases h5
  · intro x hx; cases hx
  · exact List.nodup_nil
theorem d_in2 {Q : Value → Shared → Prop} (hu : A.units + 1 < cLine) (I : Inv X pins σ H s) (g : DGet2 H a y o) (ry : RelV y u) (h : ∀ s', Inv X pins σ H s' → Q (.bool o.isSome) s') : wpAny (model X.prog X.w) A (compareOp .In u (.ref a)) Q E s := by
  rcases g with g | ⟨k, b, e, rfl, eb, rfl⟩
  · exact d_in hu I g ry h
  · cases ry
    obtain ⟨hd, dd⟩ := emptyH I e
    exact wpAny_in_heap (tupleKind_room_in1 hu) (key_of I.hok eb) hd dd (h _ (I.tok _))
theorem d_notIn2 {Q : Value → Shared → Prop} (hu : A.units + 1 < cLine) (I : Inv X pins σ H s) (g : DGet2 H a y o) (ry : RelV y u) (h : ∀ s', Inv X pins σ H s' → Q (.bool (!o.isSome)) s') : wpAny (model X.prog X.w) A (compareOp .NotIn u (.ref a)) Q E s := by
  rcases g with g | ⟨k, b, e, rfl, eb, rfl⟩
  · exact d_notIn hu I g ry h
  · cases ry
    obtain ⟨hd, dd⟩ := emptyH I e
    exact wpAny_notIn_heap (tupleKind_room_in1 hu) (key_of I.hok eb) hd dd (h _ (I.tok _))
theorem op_inDict (hu : X.A.units + 1 < cLine) : OpR X (compareOp .In) (fun y x H Q => ∃ a o, x = .ref a ∧ DGet2 H a y o ∧ Q (.bl o.isSome) H) := by
  rintro pins s σ H y x u v Q I ry rx ⟨a, o, rfl, g, q⟩
  cases rx
  exact d_in2 hu I g ry fun s' I' => ⟨.bl _, H, I', rfl, q⟩
theorem op_notInDict (hu : X.A.units + 1 < cLine) : OpR X (compareOp .NotIn) (fun y x H Q => ∃ a o, x = .ref a ∧ DGet2 H a y o ∧ Q (.bl (!o.isSome)) H) := by
  rintro pins s σ H y x u v Q I ry rx ⟨a, o, rfl, g, q⟩
  cases rx
  exact d_notIn2 hu I g ry fun s' I' => ⟨.bl _, H, I', rfl, q⟩
end
end Pv

namespace Pv
open PySem PySem.Spec PyProof.Rows L2

section
variable {K : PySem.W.Frag} {F : Addr → Prop} {H : Hp}
mutual
theorem Has.dp : ∀ {v : V} {d : D}, Has K F H v d → d.canLay0 = true → Dp K H v d
  | _, _, .non, _ => .non
  | _, _, .bl b, _ => .bl b
  | _, _, .int i, _ => .int i
  | _, _, .str x, _ => .str x
  | _, _, .lst _ r l, h => .lst (SqL.of r) (HasAll.dp l (by simpa [PyData.canLay0] using h))
  | _, _, .tup r l, h => .tup (SqT.of r) (HasAll.dp l (by simpa [PyData.canLay0] using h))
  | _, _, .dK _ _ _ _, h => absurd h (by simp [PyData.canLay0])
  | _, _, .dT _ _ _ _ _, h => absurd h (by simp [PyData.canLay0])
theorem HasAll.dp : ∀ {vs : List V} {ds : List D}, HasAll K F H vs ds → PyData.canLayAll0 ds = true → DpAll K H vs ds
  | _, _, .nil, _ => .nil
  | _, _, .cons a b, h => by
    simp only [PyData.canLayAll0, Bool.and_eq_true] at h
    exact .cons (Has.dp a h.1) (HasAll.dp b h.2)
end
theorem BorV.dp {B : Bx} {v : V} {d : D} (h : BorV B F H v d) (l : d.canLay0 = true) : Dp B.K H v d := by
  cases d with
  | list ds => obtain ⟨a, xs, rfl, _, r, q⟩ := h; exact .lst (SqL.of r) (q.dp (by simpa [PyData.canLay0] using l))
  | dict ds => simp [PyData.canLay0] at l
  | none => exact Has.dp h l
  | bool _ => exact Has.dp h l
  | int _ => exact Has.dp h l
  | str _ => exact Has.dp h l
  | tuple _ => exact Has.dp h l
end

def shp (d : D) : Bool := SeqAt.shaped d
def eqD : D → D → Tr D
  | .int i, .int j => .ret (.bool (decide (i = j)))
  | .str i, .str j => .ret (.bool (decide (i = j)))
  | d, e => need (shp d = true ∧ shp e = true) (.ret (.bool (PyData.eqv d e)))
def neD : D → D → Tr D
  | .int i, .int j => .ret (.bool (!decide (i = j)))
  | .str i, .str j => .ret (.bool (!decide (i = j)))
  | d, e => need (shp d = true ∧ shp e = true) (.ret (.bool (!PyData.eqv d e)))
def intsOf : List D → Option (List Int)
  | [] => some []
  | .int i :: ds => (intsOf ds).map (i :: ·)
  | _ => none
def ltD : D → D → Tr D
  | .int i, .int j => .ret (.bool (decide (i < j)))
  | .tuple xs, .tuple ys => match intsOf xs, intsOf ys with
    | some ns, some ms => .ret (.bool (HT.lexLt ns ms))
    | _, _ => .fail
  | _, _ => .fail
def leD : D → D → Tr D
  | .int i, .int j => .ret (.bool (decide (i ≤ j)))
  | _, _ => .fail
def gtD : D → D → Tr D
  | .int i, .int j => .ret (.bool (decide (j < i)))
  | _, _ => .fail
def geD : D → D → Tr D
  | .int i, .int j => .ret (.bool (decide (j ≤ i)))
  | _, _ => .fail
/-- x in c -/
def inB : D → D → Tr Bool
  | d, .list xs => need (shp d = true ∧ shp (.list xs) = true) (.ret (xs.any fun z => PyData.eqv z d))
  | d, .tuple xs => need (shp d = true ∧ shp (.tuple xs) = true) (.ret (xs.any fun z => PyData.eqv z d))
  | d, .dict kvs => (lookD kvs d).bind fun o => .ret o.isSome
  | _, _ => .fail
def inD (d c : D) : Tr D := (inB d c).bind fun b => .ret (.bool b)
def notInD (d c : D) : Tr D := (inB d c).bind fun b => .ret (.bool (!b))
def isNon : D → Bool
  | .none => true
  | _ => false
def isD : D → D → Tr D
  | d, .none => .ret (.bool (isNon d))
  | .bool a, .bool b => .ret (.bool (decide (a = b)))
  | _, _ => .fail
def isNotD : D → D → Tr D
  | d, .none => .ret (.bool (!isNon d))
  | .bool a, .bool b => .ret (.bool (!decide (a = b)))
  | _, _ => .fail

theorem intsOf_ok : ∀ {ds : List D} {ns : List Int}, intsOf ds = some ns → ds = ns.map .int
  | [], ns, h => by cases h; rfl
  | .int i :: ds, ns, h => by
    unfold intsOf at h
    cases e : intsOf ds with
    | none => rw [e] at h; cases h
    | some ms => rw [e] at h; cases h; rw [intsOf_ok e]; rfl
  | .none :: ds, _, h => by cases h
  | .bool _ :: ds, _, h => by cases h
  | .str _ :: ds, _, h => by cases h
  | .list _ :: ds, _, h => by cases h
  | .tuple _ :: ds, _, h => by cases h
  | .dict _ :: ds, _, h => by cases h
theorem intsOf_map : ∀ ns : List Int, intsOf (ns.map .int) = some ns
  | [] => rfl
  | n :: ns => by simp only [List.map_cons, intsOf, intsOf_map ns]; rfl

section
variable {S : Sx} {k : Nat} {N : List Str} {sc : Names}
theorem eq_gen {d e : D} (h : eqD d e = need (shp d = true ∧ shp e = true) (.ret (.bool (PyData.eqv d e)))) {X : Cx} (c : Ctx S k N sc X) {F : Addr → Prop} {H : Hp} {x y : V} {Q : VK} (wf : Wf S.B F H) (bx : BorV S.B F H x d) (be : BorV S.B F H y e)
    (w : (eqD d e).wp (EP1 S.B .own F H Q)) : rO X (compareOp .Eq) x y H Q := by
  rw [h] at w
  obtain ⟨⟨h1, h2⟩, w⟩ := wp_need.mp w
  have hu := c.hu
  exact .of (op_eqD (by omega)) ⟨d, e, by rw [c.K]; exact bx.dp (SeqAt.canLay_of_shaped h1), by rw [c.K]; exact be.dp (SeqAt.canLay_of_shaped h2), h1, h2, w F _ H (.refl wf) res_bl⟩
theorem o2_eq : O2 S k N sc .own (fun X => rO X (compareOp .Eq)) eqD := by
  intro X c F H x y d e Q wf bx be w
  cases d <;> cases e <;> first | exact eq_gen rfl c wf bx be w | skip
  all_goals
    cases bx; cases be
    exact .of op_eq ⟨rfl, by have := w F (.bl _) H (.refl wf) res_bl; simpa using this⟩
theorem ne_gen {d e : D} (h : neD d e = need (shp d = true ∧ shp e = true) (.ret (.bool (!PyData.eqv d e)))) {X : Cx} (c : Ctx S k N sc X) {F : Addr → Prop} {H : Hp} {x y : V} {Q : VK} (wf : Wf S.B F H) (bx : BorV S.B F H x d) (be : BorV S.B F H y e)
    (w : (neD d e).wp (EP1 S.B .own F H Q)) : rO X (compareOp .NotEq) x y H Q := by
  rw [h] at w
  obtain ⟨⟨h1, h2⟩, w⟩ := wp_need.mp w
  have hu := c.hu
  exact .of (op_neD (by omega)) ⟨d, e, by rw [c.K]; exact bx.dp (SeqAt.canLay_of_shaped h1), by rw [c.K]; exact be.dp (SeqAt.canLay_of_shaped h2), h1, h2, w F _ H (.refl wf) res_bl⟩
theorem o2_ne : O2 S k N sc .own (fun X => rO X (compareOp .NotEq)) neD := by
  intro X c F H x y d e Q wf bx be w
  cases d <;> cases e <;> first | exact ne_gen rfl c wf bx be w | skip
  all_goals
    cases bx; cases be
    exact .of op_ne ⟨rfl, by have := w F (.bl _) H (.refl wf) res_bl; simpa using this⟩
theorem o2_lt : O2 S k N sc .own (fun X => rO X (compareOp .Lt)) ltD := by
  intro X c F H x y d e Q wf bx be w
  cases d <;> cases e <;> first | exact w.elim | skip
  · cases bx; cases be
    exact .of op_lt ⟨_, _, rfl, rfl, w F _ H (.refl wf) res_bl⟩
  · rename_i xs ys
    obtain ⟨a, us, rfl, ha, qa⟩ := Has.tup_inv bx
    obtain ⟨b, ws, rfl, hb, qb⟩ := Has.tup_inv be
    cases e1 : intsOf xs with
    | none => simp only [ltD, e1] at w; exact w.elim
    | some ns =>
      cases e2 : intsOf ys with
      | none => simp only [ltD, e1, e2] at w; exact w.elim
      | some ms =>
        simp only [ltD, e1, e2] at w
        have z1 := intsOf_ok e1
        have z2 := intsOf_ok e2
        subst z1 z2
        have u1 := qa.ints
        have u2 := qb.ints
        subst u1 u2
        exact .of (op_ltT c.room.units0) ⟨a, b, ns, ms, rfl, rfl, SqT.of ha, SqT.of hb, w F _ H (.refl wf) res_bl⟩
theorem o2_le : O2 S k N sc .own (fun X => rO X (compareOp .LtE)) leD := by
  intro X c F H x y d e Q wf bx be w
  cases d <;> cases e <;> first | exact w.elim | skip
  cases bx; cases be
  exact .of op_le ⟨_, _, rfl, rfl, w F _ H (.refl wf) res_bl⟩
theorem o2_gt : O2 S k N sc .own (fun X => rO X (compareOp .Gt)) gtD := by
  intro X c F H x y d e Q wf bx be w
  cases d <;> cases e <;> first | exact w.elim | skip
  cases bx; cases be
  exact .of op_gt ⟨_, _, rfl, rfl, w F _ H (.refl wf) res_bl⟩
theorem o2_ge : O2 S k N sc .own (fun X => rO X (compareOp .GtE)) geD := by
  intro X c F H x y d e Q wf bx be w
  cases d <;> cases e <;> first | exact w.elim | skip
  cases bx; cases be
  exact .of op_ge ⟨_, _, rfl, rfl, w F _ H (.refl wf) res_bl⟩

theorem op_inTup {X : Cx} (hu : X.A.units + 65 < cLine) : OpR X (compareOp .In) (fun x y H Q => ∃ d ds, Dp X.K H x d ∧ Dp X.K H y (.tuple ds) ∧ SeqAt.shaped d = true ∧ SeqAt.shaped (.tuple ds) = true ∧ Q (.bl (ds.any fun z => PyData.eqv z d)) H) := by
  rintro pins s σ H x y v u Q I rx ry ⟨d, ds, hd, he, sd, se, q⟩
  obtain ⟨as, r1⟩ := Dp.reads I d x v hd rx
  obtain ⟨bs, r2⟩ := Dp.reads I (.tuple ds) y u he ry
  have h1 := SeqAt.depth_of_shaped sd
  refine SeqAt.in_tuple_reads r2 r1 (SeqAt.canLay_of_shaped se) (SeqAt.canLay_of_shaped sd) ?_ ⟨.bl _, H, I, rfl, q⟩
  have := Nat.min_le_right (PyData.depthAll ds) d.depth
  omega
theorem op_notInTup {X : Cx} (hu : X.A.units + 65 < cLine) : OpR X (compareOp .NotIn) (fun x y H Q => ∃ d ds, Dp X.K H x d ∧ Dp X.K H y (.tuple ds) ∧ SeqAt.shaped d = true ∧ SeqAt.shaped (.tuple ds) = true ∧ Q (.bl (!ds.any fun z => PyData.eqv z d)) H) := by
  rintro pins s σ H x y v u Q I rx ry ⟨d, ds, hd, he, sd, se, q⟩
  obtain ⟨as, r1⟩ := Dp.reads I d x v hd rx
  obtain ⟨bs, r2⟩ := Dp.reads I (.tuple ds) y u he ry
  have h1 := SeqAt.depth_of_shaped sd
  refine SeqAt.notIn_tuple_reads r2 r1 (SeqAt.canLay_of_shaped se) (SeqAt.canLay_of_shaped sd) ?_ ⟨.bl _, H, I, rfl, q⟩
  have := Nat.min_le_right (PyData.depthAll ds) d.depth
  omega
theorem o2_in : O2 S k N sc .own (fun X => rO X (compareOp .In)) inD := by
  intro X c F H x y d e Q wf bx be w
  have hu := c.hu
  have w := Tr.wp_bind.mp w
  cases e with
  | list xs =>
    obtain ⟨⟨h1, h2⟩, w⟩ := wp_need.mp (show (need (shp d = true ∧ shp (.list xs) = true) (.ret (xs.any fun z => PyData.eqv z d))).wp _ by cases d <;> exact w)
    exact .of (op_inD (by omega)) ⟨d, xs, by rw [c.K]; exact bx.dp (SeqAt.canLay_of_shaped h1), by rw [c.K]; exact be.dp (SeqAt.canLay_of_shaped h2), h1, h2, w F _ H (.refl wf) res_bl⟩
  | tuple xs =>
    obtain ⟨⟨h1, h2⟩, w⟩ := wp_need.mp (show (need (shp d = true ∧ shp (.tuple xs) = true) (.ret (xs.any fun z => PyData.eqv z d))).wp _ by cases d <;> exact w)
    exact .of (op_inTup (by omega)) ⟨d, xs, by rw [c.K]; exact bx.dp (SeqAt.canLay_of_shaped h1), by rw [c.K]; exact be.dp (SeqAt.canLay_of_shaped h2), h1, h2, w F _ H (.refl wf) res_bl⟩
  | dict kvs =>
    obtain ⟨a, rfl, _, dv⟩ := be
    obtain ⟨o, g, oh, w⟩ := look_ok dv bx (Tr.wp_bind.mp (show ((lookD kvs d).bind fun o => .ret o.isSome).wp _ by cases d <;> exact w))
    exact .of (op_inDict (by omega)) ⟨a, o, rfl, g, by rw [oh.isSome]; exact w F _ H (.refl wf) res_bl⟩
  | _ => cases d <;> exact w.elim
theorem o2_notIn : O2 S k N sc .own (fun X => rO X (compareOp .NotIn)) notInD := by
  intro X c F H x y d e Q wf bx be w
  have hu := c.hu
  have w := Tr.wp_bind.mp w
  cases e with
  | list xs =>
    obtain ⟨⟨h1, h2⟩, w⟩ := wp_need.mp (show (need (shp d = true ∧ shp (.list xs) = true) (.ret (xs.any fun z => PyData.eqv z d))).wp _ by cases d <;> exact w)
    exact .of (op_notInD (by omega)) ⟨d, xs, by rw [c.K]; exact bx.dp (SeqAt.canLay_of_shaped h1), by rw [c.K]; exact be.dp (SeqAt.canLay_of_shaped h2), h1, h2, w F _ H (.refl wf) res_bl⟩
  | tuple xs =>
    obtain ⟨⟨h1, h2⟩, w⟩ := wp_need.mp (show (need (shp d = true ∧ shp (.tuple xs) = true) (.ret (xs.any fun z => PyData.eqv z d))).wp _ by cases d <;> exact w)
    exact .of (op_notInTup (by omega)) ⟨d, xs, by rw [c.K]; exact bx.dp (SeqAt.canLay_of_shaped h1), by rw [c.K]; exact be.dp (SeqAt.canLay_of_shaped h2), h1, h2, w F _ H (.refl wf) res_bl⟩
  | dict kvs =>
    obtain ⟨a, rfl, _, dv⟩ := be
    obtain ⟨o, g, oh, w⟩ := look_ok dv bx (Tr.wp_bind.mp (show ((lookD kvs d).bind fun o => .ret o.isSome).wp _ by cases d <;> exact w))
    exact .of (op_notInDict (by omega)) ⟨a, o, rfl, g, by rw [oh.isSome]; exact w F _ H (.refl wf) res_bl⟩
  | _ => cases d <;> exact w.elim
theorem BorV.non_iff {B : Bx} {F : Addr → Prop} {H : Hp} {v : V} {d : D} (h : BorV B F H v d) : decide (v = .non) = isNon d := by
  cases d with
  | list ds => obtain ⟨a, xs, rfl, _⟩ := h; rfl
  | dict ds => obtain ⟨a, rfl, _⟩ := h; rfl
  | none => cases h; rfl
  | bool _ => cases h; rfl
  | int _ => cases h; rfl
  | str _ => cases h; rfl
  | tuple _ => cases h; rfl
theorem o2_is : O2 S k N sc .own (fun X => rO X (compareOp .Is)) isD := by
  intro X c F H x y d e Q wf bx be w
  cases e with
  | none =>
    have w' : (Tr.ret (PyData.bool (isNon d))).wp (EP1 S.B .own F H Q) := by cases d <;> exact w
    cases be
    exact .of op_isN ⟨rfl, by rw [bx.non_iff]; exact w' F _ H (.refl wf) res_bl⟩
  | bool b =>
    cases d <;> first | exact w.elim | skip
    cases bx; cases be
    exact .of op_isBl ⟨_, _, rfl, rfl, w F _ H (.refl wf) res_bl⟩
  | _ => cases d <;> exact w.elim
theorem o2_isNot : O2 S k N sc .own (fun X => rO X (compareOp .IsNot)) isNotD := by
  intro X c F H x y d e Q wf bx be w
  cases e with
  | none =>
    have w' : (Tr.ret (PyData.bool (!isNon d))).wp (EP1 S.B .own F H Q) := by cases d <;> exact w
    cases be
    exact .of op_notN ⟨rfl, by rw [bx.non_iff]; exact w' F _ H (.refl wf) res_bl⟩
  | bool b =>
    cases d <;> first | exact w.elim | skip
    cases bx; cases be
    exact .of op_notBl ⟨_, _, rfl, rfl, w F _ H (.refl wf) res_bl⟩
  | _ => cases d <;> exact w.elim
end

def truB : D → Tr Bool
  | .none => .ret false
  | .bool b => .ret b
  | .int i => .ret (i != 0)
  | .list xs => .ret (!xs.isEmpty)
  | .tuple xs => .ret (!xs.isEmpty)
  | _ => .fail
def tTru (f : EF) : TF := fun ρ => (f ρ).bind truB
def tAnd (f g : TF) : TF := fun ρ => (f ρ).bind fun b => if b then g ρ else .ret false
def tOr (f g : TF) : TF := fun ρ => (f ρ).bind fun b => if b then .ret true else g ρ
def tNot (f : TF) : TF := fun ρ => (f ρ).bind fun b => .ret (!b)
def eAnd (f g : EF) : EF := fun ρ => ((f ρ).bind bl).bind fun b => if b then g ρ else .ret (.bool false)
def eOr (f g : EF) : EF := fun ρ => ((f ρ).bind bl).bind fun b => if b then .ret (.bool true) else g ρ
def eNot (f : EF) : EF := fun ρ => ((f ρ).bind bl).bind fun b => .ret (.bool (!b))
def eIf (t : TF) (f g : EF) : EF := fun ρ => (t ρ).bind fun b => if b then f ρ else g ρ
/-- a op b op' c, b asked once -/
def chain (f g : D → D → Tr D) (a b c : EF) : EF := fun ρ => (a ρ).bind fun x => (b ρ).bind fun y => ((f x y).bind bl).bind fun t => if t then (c ρ).bind fun z => g y z else .ret (.bool false)
section
variable {S : Sx} {k : Nat} {N : List Str} {sc : Names} {a b c : Expr} {fa fb fc : EF} {ta tb : TF} {m m1 m2 m3 : Md} {pos : Pos} {rest : List Expr}
theorem res_any {B : Bx} {H H' : Hp} {F' : Addr → Prop} {m : Md} {b : Bool} : Res B m H F' H' (.bl b) (.bool b) := by
  cases m with
  | bor => exact .bl b
  | frz => exact .bl b
  | own => exact res_bl
theorem res_bool {B : Bx} {H H' : Hp} {F' : Addr → Prop} {m : Md} {b : Bool} {v : V} (h : Res B m H F' H' v (.bool b)) : v = .bl b := by
  cases m with
  | bor => cases h; rfl
  | frz => cases h; rfl
  | own => cases h.1; rfl
theorem TP1.le {B : Bx} {F F1 : Addr → Prop} {H H1 : Hp} {Q : Bool → Hp → Prop} {d : Bool} (l : Le B F H F1 H1) (h : TP1 B F H Q d) : TP1 B F1 H1 Q d := fun F' H' l' => h F' H' (l.trans l')
theorem tj_tru (ha : EJ S k N sc a m fa) (he : ∀ (X : Cx) whole, isTrue a X.env whole = (do let v ← whole; standAt a.pos; holding [v] (truthy v))) : TJ S k N sc a (tTru fa) := fun X c F0 H0 F ρ σ H R Q w =>
  .of (pt_truth pe_r (he X)) (ha X c F0 H0 F ρ σ H R _ (Tr.wp_mono (fun d hd F1 v H1 l1 q1 => by
    have bx := Res.bor l1.wf' q1
    cases d with
    | none => cases bx; exact ⟨false, rfl, hd F1 H1 l1⟩
    | bool b => cases bx; exact ⟨b, rfl, hd F1 H1 l1⟩
    | int i => cases bx; exact ⟨_, rfl, hd F1 H1 l1⟩
    | list xs =>
      obtain ⟨p, us, rfl, _, hp, q⟩ := bx
      refine ⟨!us.isEmpty, .inl ⟨us, SqL.of hp, rfl⟩, ?_⟩
      have : us.isEmpty = xs.isEmpty := by cases q <;> rfl
      rw [this]; exact hd F1 H1 l1
    | tuple xs =>
      obtain ⟨p, us, rfl, hp, q⟩ := Has.tup_inv bx
      refine ⟨!us.isEmpty, .inr (.inl ⟨us, SqT.of hp, rfl⟩), ?_⟩
      have : us.isEmpty = xs.isEmpty := by cases q <;> rfl
      rw [this]; exact hd F1 H1 l1
    | _ => exact hd.elim) (Tr.wp_bind.mp w)))
theorem tj_not (ha : TJ S k N sc a ta) : TJ S k N sc (.UnaryOp .Not a pos) (tNot ta) := fun X c F0 H0 F ρ σ H R Q w =>
  .of (pt_not pt_r) (ha X c F0 H0 F ρ σ H R _ (Tr.wp_bind.mp w))
/-- tests joined: whatever their whole is -/
def WJ (S : Sx) (k : Nat) (N : List Str) (sc : Names) (e : Expr) (f : TF) : Prop :=
  ∀ X, Ctx S k N sc X → ∀ F0 H0 F ρ σ H, Rel S F0 H0 F ρ σ H → ∀ Q : Bool → Hp → Prop, (f ρ).wp (TP1 S.B F H Q) → ∃ t, PW X e t ∧ t σ H Q
theorem pw_r {X : Cx} {e : Expr} : PW X e (fun σ H Q => ∃ t, PW X e t ∧ t σ H Q) := ⟨fun wh pins s σ H Q I ⟨t, p, h⟩ => p.run wh pins s σ H Q I h⟩
theorem WJ.tj (h : WJ S k N sc a ta) : TJ S k N sc a ta := fun X c F0 H0 F ρ σ H R Q w => let ⟨t, p, q⟩ := h X c F0 H0 F ρ σ H R Q w; .of p.pt q
theorem wj_and1 (ha : TJ S k N sc a ta) : WJ S k N sc (.BoolOp .And [a] pos) ta := fun X c F0 H0 F ρ σ H R Q w => ⟨_, pw_and1 pt_r, ha X c F0 H0 F ρ σ H R Q w⟩
theorem wj_or1 (ha : TJ S k N sc a ta) : WJ S k N sc (.BoolOp .Or [a] pos) ta := fun X c F0 H0 F ρ σ H R Q w => ⟨_, pw_or1 pt_r, ha X c F0 H0 F ρ σ H R Q w⟩
theorem wj_and (ha : TJ S k N sc a ta) (hb : WJ S k N sc (.BoolOp .And (b :: rest) pos) tb) : WJ S k N sc (.BoolOp .And (a :: b :: rest) pos) (tAnd ta tb) := fun X c F0 H0 F ρ σ H R Q w =>
  ⟨_, pw_and pt_r pw_r, ha X c F0 H0 F ρ σ H R _ (Tr.wp_mono (fun t ht F1 H1 l1 => by
    cases t with
    | true => rw [if_pos rfl]; exact hb X c F0 H0 F1 ρ σ H1 (R.mono l1) Q (Tr.wp_mono (fun b h => h.le l1) ht)
    | false => exact iteF (ht F1 H1 l1)) (Tr.wp_bind.mp w))⟩
theorem wj_or (ha : TJ S k N sc a ta) (hb : WJ S k N sc (.BoolOp .Or (b :: rest) pos) tb) : WJ S k N sc (.BoolOp .Or (a :: b :: rest) pos) (tOr ta tb) := fun X c F0 H0 F ρ σ H R Q w =>
  ⟨_, pw_or pt_r pw_r, ha X c F0 H0 F ρ σ H R _ (Tr.wp_mono (fun t ht F1 H1 l1 => by
    cases t with
    | true => rw [if_pos rfl]; exact ht F1 H1 l1
    | false => rw [if_neg Bool.false_ne_true]; exact hb X c F0 H0 F1 ρ σ H1 (R.mono l1) Q (Tr.wp_mono (fun b h => h.le l1) ht)) (Tr.wp_bind.mp w))⟩
/-- as values -/
theorem ej_one {op} (ha : EJ S k N sc a m fa) : EJ S k N sc (.BoolOp op [a] pos) m fa := fun X c F0 H0 F ρ σ H R Q w => .of (pe_one pe_r) (ha X c F0 H0 F ρ σ H R Q w)
theorem blv {fa : EF} {ρ : Ev} {g : Bool → Tr D} {B : Bx} {F : Addr → Prop} {H : Hp} {P : D → Prop} {Q : VK} (m1 : Md) (w : (((fa ρ).bind bl).bind g).wp P) (h : ∀ t F1 H1, Le B F H F1 H1 → (g t).wp P → Q (.bl t) H1) : (fa ρ).wp (EP1 B m1 F H Q) := by
  rw [Tr.bind_assoc] at w
  refine Tr.wp_mono (fun d hd F1 v H1 l1 q1 => ?_) (Tr.wp_bind.mp w)
  cases d with
  | bool t => rw [res_bool q1]; exact h t F1 H1 l1 hd
  | _ => exact hd.elim
theorem ej_and (ha : EJ S k N sc a m1 fa) (hb : EJ S k N sc (.BoolOp .And (b :: rest) pos) m fb) : EJ S k N sc (.BoolOp .And (a :: b :: rest) pos) m (eAnd fa fb) := fun X c F0 H0 F ρ σ H R Q w =>
  .of (pe_and pe_r pe_r) (ha X c F0 H0 F ρ σ H R _ (blv m1 w fun t F1 H1 l1 ht => ⟨t, rfl, by
    cases t with
    | true => rw [if_pos rfl]; exact hb X c F0 H0 F1 ρ σ H1 (R.mono l1) Q (Tr.wp_mono (fun r hr => EP1.le l1 hr) ht)
    | false => exact iteF (ht F1 _ H1 l1 res_any)⟩))
theorem ej_or (ha : EJ S k N sc a m1 fa) (hb : EJ S k N sc (.BoolOp .Or (b :: rest) pos) m fb) : EJ S k N sc (.BoolOp .Or (a :: b :: rest) pos) m (eOr fa fb) := fun X c F0 H0 F ρ σ H R Q w =>
  .of (pe_or pe_r pe_r) (ha X c F0 H0 F ρ σ H R _ (blv m1 w fun t F1 H1 l1 ht => ⟨t, rfl, by
    cases t with
    | true => rw [if_pos rfl]; exact ht F1 _ H1 l1 res_any
    | false => rw [if_neg Bool.false_ne_true]; exact hb X c F0 H0 F1 ρ σ H1 (R.mono l1) Q (Tr.wp_mono (fun r hr => EP1.le l1 hr) ht)⟩))
theorem ej_not (ha : EJ S k N sc a m1 fa) : EJ S k N sc (.UnaryOp .Not a pos) .own (eNot fa) := fun X c F0 H0 F ρ σ H R Q w =>
  .of (pe_not pe_r) (ha X c F0 H0 F ρ σ H R _ (blv m1 w fun t F1 H1 l1 ht => ⟨t, rfl, ht F1 _ H1 l1 res_bl⟩))
theorem ej_if (hc : TJ S k N sc c ta) (ha : EJ S k N sc a m fa) (hb : EJ S k N sc b m fb) : EJ S k N sc (.IfExp c a b pos) m (eIf ta fa fb) := fun X cx F0 H0 F ρ σ H R Q w =>
  .of (pe_ifExp pt_r pe_r pe_r) (hc X cx F0 H0 F ρ σ H R _ (Tr.wp_mono (fun t ht F1 H1 l1 => by
    cases t with
    | true => rw [if_pos rfl]; exact ha X cx F0 H0 F1 ρ σ H1 (R.mono l1) Q (Tr.wp_mono (fun r hr => EP1.le l1 hr) ht)
    | false => rw [if_neg Bool.false_ne_true]; exact hb X cx F0 H0 F1 ρ σ H1 (R.mono l1) Q (Tr.wp_mono (fun r hr => EP1.le l1 hr) ht)) (Tr.wp_bind.mp w)))
theorem chain_of {r r' : R2} {X : Cx} {f g : D → D → Tr D} (cx : Ctx S k N sc X) (ha : EJ S k N sc a m1 fa) (hb : EJ S k N sc b m2 fb) (hc : EJ S k N sc c m3 fc)
    (h : ∀ (F : Addr → Prop) (H : Hp) (x y : V) (d e : D) (Q : VK), Wf S.B F H → BorV S.B F H x d → BorV S.B F H y e → (f d e).wp (EP1 S.B .own F H Q) → r x y H Q)
    (h' : ∀ (F : Addr → Prop) (H : Hp) (x y : V) (d e : D) (Q : VK), Wf S.B F H → BorV S.B F H x d → BorV S.B F H y e → (g d e).wp (EP1 S.B .own F H Q) → r' x y H Q)
    {F0 F : Addr → Prop} {H0 H : Hp} {ρ : Ev} {σ : L2.St} {Q : VK} (R : Rel S F0 H0 F ρ σ H) (w : (chain f g fa fb fc ρ).wp (EP1 S.B .own F H Q)) : tChain r r' (rE X a) (rE X b) (rE X c) σ H Q := by
  refine ha X cx F0 H0 F ρ σ H R _ (Tr.wp_mono (fun d hd F1 v H1 l1 q1 => ?_) (Tr.wp_bind.mp w))
  refine hb X cx F0 H0 F1 ρ σ H1 (R.mono l1) _ (Tr.wp_mono (fun e he F2 u H2 l2 q2 => ?_) (Tr.wp_bind.mp hd))
  have bu := Res.bor l2.wf' q2
  rw [Tr.bind_assoc] at he
  refine h F2 H2 v u d e _ l2.wf' (l2.bor (Res.bor l1.wf' q1)) bu (Tr.wp_mono (fun t ht F3 z H3 l3 q3 => ?_) (Tr.wp_bind.mp he))
  have l := (l1.trans l2).trans l3
  cases t with
  | bool t =>
    refine ⟨t, res_bool q3, ?_⟩
    cases t with
    | false => exact iteF (ht F3 _ H3 l res_bl)
    | true =>
      rw [if_pos rfl]
      refine hc X cx F0 H0 F3 ρ σ H3 (R.mono l) _ (Tr.wp_mono (fun z hz F4 zv H4 l4 q4 => ?_) (Tr.wp_bind.mp ht))
      exact h' F4 H4 u zv e z Q l4.wf' (l4.bor (l3.bor bu)) (Res.bor l4.wf' q4) (Tr.wp_mono (fun r hr => EP1.le (l.trans l4) hr) hz)
  | _ => exact ht.elim
theorem ej_chain {op op' : CmpOp} {f g : D → D → Tr D} (h : O2 S k N sc .own (fun X => rO X (compareOp op)) f) (h' : O2 S k N sc .own (fun X => rO X (compareOp op')) g) (ha : EJ S k N sc a m1 fa) (hb : EJ S k N sc b m2 fb) (hc : EJ S k N sc c m3 fc)
    (hm : lastMarks [op, op'] [b, c] = false) : EJ S k N sc (.Compare a [op, op'] [b, c] pos) .own (chain f g fa fb fc) := fun X cx F0 H0 F ρ σ H R Q w =>
  .of (pe_chain opr_r opr_r pe_r pe_r pe_r hm) (chain_of cx ha hb hc (h X cx) (h' X cx) R w)
theorem tj_chain {op op' : CmpOp} {f g : D → D → Tr D} (h : O2 S k N sc .own (fun X => rO X (compareOp op)) f) (h' : O2 S k N sc .own (fun X => rO X (compareOp op')) g) (ha : EJ S k N sc a m1 fa) (hb : EJ S k N sc b m2 fb) (hc : EJ S k N sc c m3 fc)
    (hm : lastMarks [op, op'] [b, c] = false) : TJ S k N sc (.Compare a [op, op'] [b, c] pos) (tOf (chain f g fa fb fc)) := fun X cx F0 H0 F ρ σ H R Q w =>
  .of (pt_chain opr_r opr_r pe_r pe_r pe_r hm) (chain_of cx ha hb hc (h X cx) (h' X cx) R (wp_tOf w .own))
end
end Pv

namespace Pv
open PySem PySem.Spec PyProof.Rows L2

def idxD : D → D → Tr D
  | .list xs, .int i => match atI xs i with
    | some d => .ret d
    | none => .fail
  | .tuple xs, .int i => match atI xs i with
    | some d => .ret d
    | none => .fail
  | .dict kvs, k => (lookD kvs k).bind fun o => match o with
    | some d => .ret d
    | none => .fail
  | _, _ => .fail
theorem HasAll.atI {K : PySem.W.Frag} {F : Addr → Prop} {H : Hp} {vs : List V} {ds : List D} {i : Int} {d : D} (h : HasAll K F H vs ds) (e : L2.atI ds i = some d) : ∃ v, L2.atI vs i = some v ∧ Has K F H v d := by
  unfold L2.atI at e ⊢
  rw [h.length]
  cases q : ixN ds.length i with
  | none => rw [q] at e; cases e
  | some j => rw [q] at e; exact h.get (i := j) e
section
variable {X : Cx}
theorem ix_dict (hu : X.A.units + 1 < cLine) : IxR X (fun x y H Q => ∃ a v, x = .ref a ∧ DGet H a y (some v) ∧ Q v H) := by
  rintro value slice pins s σ H x y u w Q I rx ry ⟨a, v, rfl, g, q⟩ hs
  cases rx
  have hT : s.TypeIs (.ref a) "dict" := by
    rcases g with ⟨kvs, k, e, _⟩ | ⟨kvs, k, b, e, _⟩
    · obtain ⟨_, _, vs, _, dd⟩ := dk_rd I.hok e; exact dd.typeIs
    · obtain ⟨_, _, vs, _, dd⟩ := dt_rd I.hok e; exact dd.typeIs
  exact tail_any hT PySem.F.slot_dict_getitem.lookup (d_getItem hu I g ry fun w' s' I' r => ⟨v, H, I', r, q⟩) hs
def rIx' (X : Cx) : R2 := fun x y H Q => ∃ r, IxR X r ∧ r x y H Q
theorem ixr_r : IxR X (rIx' X) := fun value slice pins s σ H x y v u Q I rx ry ⟨r, p, h⟩ hs => p value slice pins s σ H x y v u Q I rx ry h hs
end
section
variable {S : Sx} {k : Nat} {N : List Str} {sc : Names} {a b : Expr} {fa fb : EF} {m m1 m2 : Md} {pos : Pos}
theorem o2_idx : O2 S k N sc .frz rIx' idxD := by
  intro X c F H x y d e Q wf bx be w
  cases d with
  | list xs =>
    cases e <;> first | exact w.elim | skip
    rename_i i
    cases be
    obtain ⟨p, us, rfl, _, hp, q⟩ := bx
    cases ea : L2.atI xs i with
    | none => simp only [idxD, ea] at w; exact w.elim
    | some z =>
      simp only [idxD, ea] at w
      obtain ⟨v, h1, h2⟩ := q.atI ea
      exact ⟨_, ix_list, p, us, i, v, rfl, rfl, SqL.of hp, h1, w F v H (.refl wf) h2⟩
  | tuple xs =>
    cases e <;> first | exact w.elim | skip
    rename_i i
    cases be
    obtain ⟨p, us, rfl, hp, q⟩ := Has.tup_inv bx
    cases ea : L2.atI xs i with
    | none => simp only [idxD, ea] at w; exact w.elim
    | some z =>
      simp only [idxD, ea] at w
      obtain ⟨v, h1, h2⟩ := q.atI ea
      exact ⟨_, ix_tup, p, us, i, v, rfl, rfl, SqT.of hp, h1, w F v H (.refl wf) h2⟩
  | dict kvs =>
    obtain ⟨p, rfl, _, dv⟩ := bx
    obtain ⟨o, g, oh, w⟩ := look_ok dv be (Tr.wp_bind.mp w)
    have hu := c.hu
    cases ef : findD kvs e with
    | none => rw [ef] at w; exact w.elim
    | some z =>
      rw [ef] at w oh
      cases o with
      | none => exact oh.elim
      | some v =>
        rcases g with g | ⟨_, _, _, _, _, z⟩
        · exact ⟨_, ix_dict (by omega), p, v, rfl, g, w F v H (.refl wf) oh⟩
        · cases z
  | _ => exact w.elim
theorem ej_idx (ha : EJ S k N sc a m1 fa) (hb : EJ S k N sc b m2 fb) (hs : PlainIx b) : EJ S k N sc (.Subscript a b pos) .frz (op2 idxD fa fb) := fun X c F0 H0 F ρ σ H R Q w =>
  .of (pe_ix ixr_r pe_r pe_r hs) (two c ha hb (o2_idx X c) R w)
end

def cutD (xs : List D) (lo hi : Option Int) : List D := (xs.drop (HT.sIx xs.length 0 lo)).take (HT.sIx xs.length xs.length hi - HT.sIx xs.length 0 lo)
def sliceD (d : D) (lo hi : Option Int) : Tr D := match d with
  | .list xs => .ret (.list (cutD xs lo hi))
  | .tuple xs => .ret (.tuple (cutD xs lo hi))
  | _ => .fail
abbrev PF := Ev → Tr (Option Int)
def noPart : PF := fun _ => .ret none
def part (f : EF) : PF := fun ρ => (f ρ).bind fun d => match d with
  | .int i => .ret (some i)
  | _ => .fail
def slc (f : EF) (lo hi : PF) : EF := fun ρ => (f ρ).bind fun d => (lo ρ).bind fun l => (hi ρ).bind fun h => sliceD d l h
def rPO (X : Cx) (e : Option Expr) : TO := fun σ H Q => ∃ t, PO X e t ∧ t σ H Q
theorem po_r {X : Cx} {e : Option Expr} : PO X e (rPO X e) := ⟨fun pins s σ H Q I ⟨t, p, h⟩ => p.run pins s σ H Q I h⟩
def OJ (S : Sx) (k : Nat) (N : List Str) (sc : Names) (e : Option Expr) (f : PF) : Prop :=
  ∀ X, Ctx S k N sc X → ∀ F0 H0 F ρ σ H, Rel S F0 H0 F ρ σ H → ∀ Q : Option Int → Hp → Prop, (f ρ).wp (fun o => ∀ F' H', Le S.B F H F' H' → Q o H') → rPO X e σ H Q
def rSl (X : Cx) : V → Option Int → Option Int → Hp → VK → Prop := fun x l h H Q => ∃ r, SlR X r ∧ r x l h H Q
theorem slr_r {X : Cx} : SlR X (rSl X) := fun pins s σ H x v vl vu lo hi sl Q I rx hs pl pu ⟨r, p, h⟩ => p pins s σ H x v vl vu lo hi sl Q I rx hs pl pu h
section
variable {S : Sx} {k : Nat} {N : List Str} {sc : Names} {a b : Expr} {fa fb : EF} {m m1 m2 : Md} {pos : Pos}
theorem oj_none : OJ S k N sc none noPart := fun X c F0 H0 F ρ σ H R Q w => ⟨_, po_none, w F H (.refl R.wf)⟩
theorem oj_some (ha : EJ S k N sc a m fa) : OJ S k N sc (some a) (part fa) := fun X c F0 H0 F ρ σ H R Q w =>
  ⟨_, po_some pe_r, ha X c F0 H0 F ρ σ H R _ (Tr.wp_mono (fun d hd F1 v H1 l1 q1 => by
    cases d <;> first | exact hd.elim | skip
    have := Has.int_inv (Res.bor l1.wf' q1)
    exact ⟨_, this, hd F1 H1 l1⟩) (Tr.wp_bind.mp w))⟩
theorem HasAll.cut {K : PySem.W.Frag} {F : Addr → Prop} {H : Hp} {vs : List V} {ds : List D} (h : HasAll K F H vs ds) (lo hi : Option Int) : HasAll K F H (cutV vs lo hi) (cutD ds lo hi) := by
  unfold cutV cutD
  rw [h.length]
  exact (h.drop _).take _
theorem cut_all {xs : List D} {lo hi : Option Int} (h1 : HT.sIx xs.length 0 lo = 0) (h2 : HT.sIx xs.length xs.length hi = xs.length) : cutD xs lo hi = xs := by
  unfold cutD
  rw [h1, h2]
  simp
theorem sl_ok {X : Cx} (c : Ctx S k N sc X) {F : Addr → Prop} {H : Hp} {x : V} {d : D} {lo hi : Option Int} {Q : VK} (wf : Wf S.B F H) (bx : BorV S.B F H x d) (w : (sliceD d lo hi).wp (EP1 S.B .own F H Q)) : rSl X x lo hi H Q := by
  cases d with
  | list xs =>
    obtain ⟨p, us, rfl, _, hp, q⟩ := bx
    exact ⟨_, sl_list, p, us, rfl, SqL.of hp, fun p' hp' => res_lst wf hp' (q.cut lo hi) w⟩
  | tuple xs =>
    obtain ⟨p, us, rfl, hp, q⟩ := Has.tup_inv bx
    refine ⟨_, sl_tupA, p, us, rfl, SqT.of hp, fun z => ?_, fun _ p' hp' => res_tup wf hp' (q.cut lo hi) w⟩
    rw [q.length] at z
    have e := cut_all z.1 z.2
    refine w F _ H (.refl wf) ⟨?_, fun z => by cases z⟩
    rw [e]; exact bx
  | _ => exact w.elim
theorem ej_slice {p2 : Pos} {lo hi : Option Expr} {fl fh : PF} (ha : EJ S k N sc a m fa) (hl : OJ S k N sc lo fl) (hh : OJ S k N sc hi fh) : EJ S k N sc (.Subscript a (.Slice lo hi none p2) pos) .own (slc fa fl fh) := fun X c F0 H0 F ρ σ H R Q w =>
  .of (pe_slice slr_r pe_r po_r po_r) (ha X c F0 H0 F ρ σ H R _ (Tr.wp_mono (fun d hd F1 v H1 l1 q1 =>
    hl X c F0 H0 F1 ρ σ H1 (R.mono l1) _ (Tr.wp_mono (fun o ho F2 H2 l2 =>
      hh X c F0 H0 F2 ρ σ H2 (R.mono (l1.trans l2)) _ (Tr.wp_mono (fun u hu F3 H3 l3 =>
        sl_ok c l3.wf' (l3.bor (l2.bor (Res.bor l1.wf' q1))) (Tr.wp_mono (fun r hr => EP1.le ((l1.trans l2).trans l3) hr) hu)) (Tr.wp_bind.mp ho))) (Tr.wp_bind.mp hd))) (Tr.wp_bind.mp w)))

/-- [::-1] -/
def revD : D → Tr D
  | .list xs => .ret (.list xs.reverse)
  | .tuple xs => .ret (.tuple xs.reverse)
  | _ => .fail
theorem adj_back (n : Nat) : Builtin.Slice.sliceAdjust none none (-1) (n : Int) = ((n : Int) - 1, -1) := rfl
theorem places_back (n : Nat) : Builtin.Slice.slicePlaces ((n : Int) - 1) (-1) (-1) = n := by
  unfold Builtin.Slice.slicePlaces
  rw [if_neg (show ¬ ((-1 : Int) > 0) by decide)]
  by_cases h : (n : Int) - 1 > -1
  · rw [if_pos h, show (-(-1) : Int) = 1 from rfl, Int.ediv_one]; omega
  · rw [if_neg h]; omega
theorem fm_congr {α β : Type} {f g : α → Option β} : ∀ {l : List α}, (∀ x ∈ l, f x = g x) → l.filterMap f = l.filterMap g
  | [], _ => rfl
  | x :: l, h => by
    rw [List.filterMap_cons, List.filterMap_cons, h x List.mem_cons_self, fm_congr fun y hy => h y (List.mem_cons_of_mem _ hy)]
theorem pick_back (xs : Array Value) : ((List.range xs.size).filterMap fun (k : Nat) => xs[(((xs.size : Int) - 1) + (k : Int) * (-1)).toNat]?) = xs.toList.reverse := by
  obtain ⟨l⟩ := xs
  have key : ∀ (k : Nat), k ∈ List.range l.length → l[(((l.length : Int) - 1) + (k : Int) * (-1)).toNat]? = l.reverse[k]? := fun k hk => by
    rw [List.mem_range] at hk
    rw [List.getElem?_reverse hk]
    congr 1
    omega
  simp only [List.size_toArray, List.getElem?_toArray]
  have e := fm_congr key
  rw [e]
  have t := pick_run l.reverse.toArray 0 l.length
  simp only [List.filterMap_map, Function.comp_def, Nat.zero_add, List.getElem?_toArray, List.drop_zero] at t
  refine Eq.trans t ?_
  exact List.take_of_length_le (by simp)
theorem applied_back {prog : Program} {w : World} {A : Around} {E : Value → Shared → Prop} {s : Shared} {sl : Addr} {vs : Value} {n : Nat} {Q : Int × Int × Nat → Shared → Prop} (hs : s.heap.IsSliceOf sl .none .none vs) (ps : IsPart vs (some (-1))) (h : Q ((n : Int) - 1, -1, n) s) :
    wpAny (model prog w) A (Builtin.Slice.sliceApplied (.ref sl) (pure (n : Int))) Q E s := by
  obtain ⟨os, hos, hcs, hds⟩ := id hs
  unfold Builtin.Slice.sliceApplied Builtin.Slice.sliceFields
  refine wpAny_bind (wpAny_bind (wpAny_field hos hds (x := Value.none) rfl ?_))
  refine wpAny_bind (wpAny_field hos hds (x := Value.none) rfl (wpAny_bind (wpAny_field hos hds (x := vs) rfl (wpAny_pure ?_))))
  refine wpAny_bind (HT.slicePart_ ps ?_)
  show wpAny _ _ (if ((-1 : Int) == 0) = true then _ else _) _ _ s
  rw [if_neg (by decide)]
  refine wpAny_bind (slicePart_none (wpAny_bind (slicePart_none (wpAny_bind (wpAny_pure ?_)))))
  show wpAny _ _ (pure ((n : Int) - 1, (-1 : Int), Builtin.Slice.slicePlaces ((n : Int) - 1) (-1) (-1))) _ _ s
  rw [places_back]
  exact wpAny_pure h
theorem getItem_tuple_back {prog : Program} {w : World} {A : Around} {E : Value → Shared → Prop} {s : Shared} {t sl : Addr} {items : Array Value} {vs : Value} {Q : Value → Shared → Prop} (ht : IsTup s.heap t items) (hs : s.heap.IsSliceOf sl .none .none vs) (ps : IsPart vs (some (-1)))
    (h : Q (.ref s.heap.objs.size) { s with heap := s.heap.push { cls := .type "tuple", data := .seq items.toList.reverse.toArray } }) (hsz : items.size ≤ sizeLine) : wpAny (model prog w) A (getItem (.ref t) (.ref sl)) Q E s := by
  have hk : sizeOk (.seq items.toList.reverse.toArray) := by
    show items.toList.reverse.toArray.size ≤ sizeLine
    simpa using hsz
  obtain ⟨os, hos, hcs, hds⟩ := id hs
  unfold getItem
  refine wpAny_holding (wpAny_bind (wpAny_sequenceKey ht.typeIs (by decide) ?_))
  refine wpAny_bind (wpAny_callSpecial?_slot (name := Str.ofString "__getitem__") ht.typeIs PyProof.Rows.slot_tuple_getitem (wpAny_call_entry PyProof.Rows.slot_tuple_getitem ht.typeIs entry_tuple_getitem ?_ (args_tuple_getitem _ _)))
  show wpAny _ _ (Builtin.Tuple.tupleItemsOf (.ref t) >>= _) _ _ s
  refine wpAny_bind (tupleItemsOf_ ht (wpAny_bind (wpAny_typeOf (T := "slice") ⟨os, hos, hcs⟩ ?_)))
  rw [if_pos (by decide)]
  refine wpAny_bind (applied_back hs ps ?_)
  show wpAny _ _ (if (((items.size : Int) - 1) == 0 && (-1 : Int) == 1 && items.size == items.size) = true then _ else _) _ _ s
  rw [if_neg (by rw [show ((-1 : Int) == 1) = false from rfl, Bool.and_false, Bool.false_and]; exact Bool.false_ne_true), pick_back]
  first
    | exact wpAny_bind (m := Builtin.Tuple.tupleExact _) (wpAny_newObj_type (wpAny_pure ⟨_, rfl, wpAny_pure h⟩) hk)
    | exact wpAny_bind (wpAny_bind (m := Builtin.Tuple.tupleExact _) (wpAny_newObj_type (wpAny_pure ⟨_, rfl, wpAny_pure h⟩) hk))
    | exact wpAny_bind (wpAny_bind (m := Builtin.Tuple.tupleExact _) (wpAny_newObj_type (wpAny_pure (wpAny_pure ⟨_, rfl, wpAny_pure h⟩)) hk))
end
end Pv

namespace Pv
open PySem PySem.Spec PyProof.Rows L2

theorem pe_back {X : Cx} {e : Expr} {te : TE} {j : Nat} {p1 p2 p3 pos : Pos} (he : PE X e te) : PE X (.Subscript e (.Slice none none (some (.UnaryOp .USub (.Constant (.int 1) j p1) p2)) p3) pos)
    (fun σ H Q => te σ H fun x H1 => ∃ a xs, x = .ref a ∧ ((SqL X.K H1 a xs ∧ ∀ p, H1 p = none → Q (.ref p) (upd H1 p (.lst xs.reverse))) ∨ (SqT X.K H1 a xs ∧ ∀ p, H1 p = none → Q (.ref p) (upd H1 p (.tup xs.reverse))))) := by
  refine ⟨fun pins s σ H Q I h => ?_⟩
  refine Subscript_ (thn (he.run pins s σ H _ I h) fun v s1 hv => ?_)
  obtain ⟨x, H1, I1, r1, a, xs, rfl, q1⟩ := hv
  cases r1
  have pn : PO X none tNoPart := po_none
  have pm : PO X (some (.UnaryOp .USub (.Constant (.int 1) j p1) p2)) (tPart (tUn (L2.rU fun i => .int (-i)) (tC (.int 1)))) := po_some (pe_un un_neg pe_int)
  refine wpAny_Slice (thn (pn.run pins s1 σ H1 (fun o H' => o = none ∧ H' = H1) I1 ⟨rfl, rfl⟩) fun vl s2 hl => ?_)
  obtain ⟨l, _, I2, pl, rfl, rfl⟩ := hl
  refine thn (pn.run pins s2 σ _ (fun o H' => o = none ∧ H' = _) I2 ⟨rfl, rfl⟩) fun vu s3 hu => ?_
  obtain ⟨u, _, I3, pu, rfl, rfl⟩ := hu
  refine thn (pm.run pins s3 σ _ (fun o H' => o = some (-1) ∧ H' = _) I3 ⟨1, rfl, -1, rfl, rfl, rfl⟩) fun vs s4 hs => ?_
  obtain ⟨o, _, I4, ps, rfl, rfl⟩ := hs
  cases pl
  cases pu
  have I5 := I4.kept (h' := s4.heap.push { cls := .type "slice", data := .fields #[Value.none, Value.none, vs] }) (t' := s4.toks) fun b ob q => Heap.get?_push_of_some _ q
  rcases q1 with ⟨hx, q⟩ | ⟨hx, q⟩
  · obtain ⟨its, r, ht, hz⟩ := I5.list hx
    have hlen := r.length
    refine PyProof.Rows.tail_any (ops := [.ref a, .ref s4.heap.objs.size]) ht.isList.typeIs PySem.slot_list_getitem.lookup ?_ (by with_unfolding_all rfl)
    refine wpAny_getItem_list_slice ht.isList (Heap.IsSliceOf.new _ _ _ vs) .none .none ps (by decide) ?_ (by rw [List.size_toArray]; omega)
    rw [PySem.W.krv_pick]
    refine ⟨.ref _, _, I5.laid (t' := s4.toks) (o := .lst xs.reverse) (fun b ob q => Heap.get?_push_of_some _ q) (Nat.le_refl _) ⟨?_, _, 0, r.reverse, Heap.get?_push_size _ rfl⟩, rfl, q _ (I5.hok.fresh (Nat.le_refl _))⟩
    rw [List.length_reverse]; exact hz
  · obtain ⟨its, r, ht, hz⟩ := I5.tuple hx
    have hlen := r.length
    refine PyProof.Rows.tail_any (ops := [.ref a, .ref s4.heap.objs.size]) ht.typeIs PySem.F.slot_tuple_getitem.lookup ?_ (by with_unfolding_all rfl)
    refine getItem_tuple_back ht (Heap.IsSliceOf.new _ _ _ vs) ps ?_ (by rw [List.size_toArray]; omega)
    refine ⟨.ref _, _, I5.laid (t' := s4.toks) (o := .tup xs.reverse) (fun b ob q => Heap.get?_push_of_some _ q) (Nat.le_refl _) ⟨?_, its.reverse, r.reverse, ⟨_, Heap.get?_push_size _ rfl, rfl, 0, rfl⟩⟩, rfl, q _ (I5.hok.fresh (Nat.le_refl _))⟩
    rw [List.length_reverse]; exact hz

abbrev AF := Ev → Tr (List D)
def aNil : AF := fun _ => .ret []
def aCons (f : EF) (g : AF) : AF := fun ρ => (f ρ).bind fun d => (g ρ).bind fun ds => .ret (d :: ds)
/-- the items of a list or tuple -/
def seqD : D → Tr (List D)
  | .list xs => .ret xs
  | .tuple xs => .ret xs
  | _ => .fail
def aStar (f : EF) (g : AF) : AF := fun ρ => ((f ρ).bind seqD).bind fun ds => (g ρ).bind fun es => .ret (ds ++ es)
def eTup (g : AF) : EF := fun ρ => (g ρ).bind fun ds => need (ds.length ≤ lim) (.ret (.tuple ds))
def eLst (g : AF) : EF := fun ρ => (g ρ).bind fun ds => need (ds.length ≤ lim) (.ret (.list ds))
def eCall (Φ : List D → Tr D) (g : AF) : EF := fun ρ => (g ρ).bind Φ

theorem pa_star {X : Cx} {e : Expr} {es : List Expr} {te : TE} {t : TA} {p : Pos} (he : PE X e te) (hr : PA X es t) :
    PA X (.Starred e p :: es) (fun σ H Q => te σ H fun x H1 => ∃ a xs, x = .ref a ∧ (SqT X.K H1 a xs ∨ SqL X.K H1 a xs) ∧ t σ H1 fun ys H2 => Q (xs ++ ys) H2) := by
  refine ⟨fun pos pins s σ H Q I h => ?_⟩
  refine PySem.W.items_star (thn (he.run pins s σ H _ I h) fun v s1 hv => ?_)
  obtain ⟨x, H1, I1, r1, a, xs, rfl, hs, q⟩ := hv
  cases r1
  refine StX.star_any I1 hs fun us s2 I2 ru => ?_
  exact thn (hr.run pos pins s2 σ H1 _ I2 q) fun ws s3 hw => by
    obtain ⟨ys, H3, I3, r3, q3⟩ := hw
    exact ⟨xs ++ ys, H3, I3, ru.append r3, q3⟩

section
variable {S : Sx} {k : Nat} {N : List Str} {sc : Names} {a b : Expr} {fa fb : EF} {m m1 m2 : Md} {pos : Pos} {es : List Expr} {g : AF}
theorem ej_back {j : Nat} {p1 p2 p3 : Pos} (ha : EJ S k N sc a m fa) : EJ S k N sc (.Subscript a (.Slice none none (some (.UnaryOp .USub (.Constant (.int 1) j p1) p2)) p3) pos) .own (op1 revD fa) := fun X c F0 H0 F ρ σ H R Q w =>
  .of (pe_back pe_r) (ha X c F0 H0 F ρ σ H R _ (Tr.wp_mono (fun d hd F1 v H1 l1 q1 => by
    have bx := Res.bor l1.wf' q1
    have hd := Tr.wp_mono (fun r hr => EP1.le l1 hr) hd
    cases d with
    | list xs =>
      obtain ⟨p, us, rfl, _, hp, q⟩ := bx
      exact ⟨p, us, rfl, .inl ⟨SqL.of hp, fun p' hp' => res_lst l1.wf' hp' q.reverse hd⟩⟩
    | tuple xs =>
      obtain ⟨p, us, rfl, hp, q⟩ := Has.tup_inv bx
      exact ⟨p, us, rfl, .inr ⟨SqT.of hp, fun p' hp' => res_tup l1.wf' hp' q.reverse hd⟩⟩
    | _ => exact hd.elim) (Tr.wp_bind.mp w)))
theorem aj_nil : AJ S k N sc [] aNil := fun X c F0 H0 F ρ σ H R Q w => .of pa_nil (w F [] H (.refl R.wf) .nil)
theorem notStar (e : Expr) : (∃ e' p, e = .Starred e' p) ∨ ∀ (es : List Expr) (env : Env), starEach (e :: es) env = (false, eval e env) :: starEach es env := by
  cases e with
  | Starred e p => exact .inl ⟨e, p, rfl⟩
  | _ => exact .inr fun _ _ => rfl
theorem aj_cons (ha : EJ S k N sc a .frz fa) (hr : AJ S k N sc es g) (hs : ∀ (env : Env), starEach (a :: es) env = (false, eval a env) :: starEach es env) : AJ S k N sc (a :: es) (aCons fa g) := fun X c F0 H0 F ρ σ H R Q w =>
  .of (pa_cons pe_r pa_r (hs _)) (ha X c F0 H0 F ρ σ H R _ (Tr.wp_mono (fun d hd F1 v H1 l1 q1 =>
    hr X c F0 H0 F1 ρ σ H1 (R.mono l1) _ (Tr.wp_mono (fun ds hds F2 vs H2 l2 q2 => hds F2 (v :: vs) H2 (l1.trans l2) (.cons (l2.has q1) q2)) (Tr.wp_bind.mp hd))) (Tr.wp_bind.mp w)))
theorem aj_star {p : Pos} (ha : EJ S k N sc a m fa) (hr : AJ S k N sc es g) : AJ S k N sc (.Starred a p :: es) (aStar fa g) := fun X c F0 H0 F ρ σ H R Q w =>
  .of (pa_star pe_r pa_r) (ha X c F0 H0 F ρ σ H R _ (by
    have w := Tr.wp_bind.mp w
    refine Tr.wp_mono (fun d hd F1 v H1 l1 q1 => ?_) (Tr.wp_bind.mp w)
    have bx := Res.bor l1.wf' q1
    have go : ∀ {us : List V} {xs : List D}, HasAll S.B.K F1 H1 us xs → ((g ρ).bind fun es => Tr.ret (xs ++ es)).wp (AP1 S.B F H Q) → rA X es σ H1 fun ys H2 => Q (us ++ ys) H2 := fun q hd =>
      hr X c F0 H0 F1 ρ σ H1 (R.mono l1) _ (Tr.wp_mono (fun ds hds => by
        intro F2 vs H2 l2 q2
        exact hds F2 _ H2 (l1.trans l2) ((l2.all q).append q2)) (Tr.wp_bind.mp hd))
    cases d with
    | list xs =>
      obtain ⟨p, us, rfl, _, hp, q⟩ := bx
      exact ⟨p, us, rfl, .inr (SqL.of hp), go q hd⟩
    | tuple xs =>
      obtain ⟨p, us, rfl, hp, q⟩ := Has.tup_inv bx
      exact ⟨p, us, rfl, .inl (SqT.of hp), go q hd⟩
    | _ => exact hd.elim))
theorem ej_tup {j : Nat} (h : AJ S k N sc es g) : EJ S k N sc (.Tuple es j pos) .own (eTup g) := fun X c F0 H0 F ρ σ H R Q w =>
  .of (pe_tup pa_r) (h X c F0 H0 F ρ σ H R _ (Tr.wp_mono (fun ds hds F1 vs H1 l1 q1 => by
    obtain ⟨hz, hds⟩ := wp_need.mp hds
    exact ⟨by rw [q1.length, ← lim_eq]; exact hz, fun p hp => res_tup l1.wf' hp q1 (EP1.le l1 hds)⟩) (Tr.wp_bind.mp w)))
theorem ej_lst (h : AJ S k N sc es g) : EJ S k N sc (.List es pos) .own (eLst g) := fun X c F0 H0 F ρ σ H R Q w =>
  .of (pe_lst pa_r) (h X c F0 H0 F ρ σ H R _ (Tr.wp_mono (fun ds hds F1 vs H1 l1 q1 => by
    obtain ⟨hz, hds⟩ := wp_need.mp hds
    exact ⟨by rw [q1.length, ← lim_eq]; exact hz, fun p hp => res_lst l1.wf' hp q1 (EP1.le l1 hds)⟩) (Tr.wp_bind.mp w)))

/-- f(a, ..), f a def of the text -/
theorem ej_call {x : Str} {p : Pos} {np : Nat} {ret : Md} {Φ : List D → Tr D} {e : Expr} (D1 : DefIn S.B k x np ret false Φ) (h : AJ S k N sc (e :: es) g) (hg : sc.lookup x = some .globalImplicit) (hdb : (x == ("__debug__" : Str)) = false)
    (he : ∀ env : Env, starEach (e :: es) env = (false, eval e env) :: starEach es env) (hpl : ∀ env : Env, (backTo pos (starEach es env)).any (·.1) = false)
    (hn : ∀ ρ (Q : List D → Prop), (g ρ).wp Q → (g ρ).wp fun ds => ds.length = np ∧ Q ds) : EJ S k N sc (.Call (.Name x p) (e :: es) [] pos) ret (eCall Φ g) := fun X c F0 H0 F ρ σ H R Q w => by
  obtain ⟨f, fd, ps, h1, h2, h3, h4, G⟩ := D1.ex
  refine .of (call_g (np := np) (pos := pos) c h1 h2 h3 G (by rw [c.sc]; exact hg) hdb (he _) (hpl _) pa_r) ?_
  refine h X c F0 H0 F ρ σ H R _ (Tr.wp_mono (fun ds hds F1 vs H1 l1 q1 => ?_) (hn ρ _ (Tr.wp_bind.mp w)))
  exact ⟨F1, ds, by rw [q1.length, h4]; exact hds.1, l1.wf', q1, Tr.wp_mono (fun r hr => EP1.le l1 hr) hds.2⟩
/-- f(source, a, ..) -/
theorem ej_callS {x sN : Str} {i np : Nat} {p ps' : Pos} {ret : Md} {Φ : List D → Tr D} (D1 : DefIn S.B k x (np + 1) ret true Φ) (h : AJ S k N sc es g) (hg : sc.lookup x = some .globalImplicit) (hdb : (x == ("__debug__" : Str)) = false)
    (hsix : S.six = some i) (hsrc : ∃ A L, S.B.src = some (A, L)) (hN : N[i]? = some sN) (hv : sc.lookup sN = some .local ∨ sc.lookup sN = some .cell ∨ sc.lookup sN = some .free) (hd : (sN == ("__debug__" : Str)) = false) (hcd : (sN == ("__classdict__" : Str)) = false)
    (hpl : ∀ env : Env, (backTo pos (starEach es env)).any (·.1) = false)
    (hn : ∀ ρ (Q : List D → Prop), (g ρ).wp Q → (g ρ).wp fun ds => ds.length = np ∧ Q ds) : EJ S k N sc (.Call (.Name x p) (.Name sN ps' :: es) [] pos) ret (eCall Φ g) := fun X c F0 H0 F ρ σ H R Q w => by
  obtain ⟨f, fd, ps, h1, h2, h3, h4, G⟩ := D1.ex
  obtain ⟨A, L, hs⟩ := hsrc
  refine .of (call_g (np := np) (pos := pos) c h1 h2 h3 G (by rw [c.sc]; exact hg) hdb rfl (hpl _) (pa_cons (pe_var (i := i) (by rw [c.hN]; exact hN) (by unfold Vis; rw [c.sc]; exact hv) hd hcd) pa_r rfl)) ?_
  refine ⟨.ref A, (R.six i A L hsix hs).1, ?_⟩
  refine h X c F0 H0 F ρ σ H R _ (Tr.wp_mono (fun ds hds F1 vs H1 l1 q1 => ?_) (hn ρ _ (Tr.wp_bind.mp w)))
  exact ⟨F1, ds, by rw [List.length_cons, q1.length, h4, hds.1], l1.wf', ⟨A, L, vs, hs, rfl, q1⟩, Tr.wp_mono (fun r hr => EP1.le l1 hr) hds.2⟩
/-- how many arguments an argument list has -/
def ALen (g : AF) (n : Nat) : Prop := ∀ ρ (Q : List D → Prop), (g ρ).wp Q → (g ρ).wp fun ds => ds.length = n ∧ Q ds
theorem alen_nil : ALen aNil 0 := fun ρ Q w => ⟨rfl, w⟩
theorem alen_cons {n : Nat} (h : ALen g n) : ALen (aCons fa g) (n + 1) := fun ρ Q w => by
  refine Tr.wp_bind.mpr (Tr.wp_mono (fun d hd => ?_) (Tr.wp_bind.mp w))
  exact Tr.wp_bind.mpr (Tr.wp_mono (fun ds hds => ⟨by rw [List.length_cons, hds.1], hds.2⟩) (h ρ _ (Tr.wp_bind.mp hd)))
end
end Pv

namespace Pv
open PySem PySem.Spec PyProof.Rows L2

theorem Tr.wp_const {α : Type} {p : Prop} : ∀ {x : Tr α}, x.wp (fun _ => p) → p
  | .ret _, h => h
  | .draw m k, h => Tr.wp_const (h 0 (Int.le_refl 0) (by omega))

section
variable {S : Sx} {F0 F : Addr → Prop} {H0 H : Hp} {ρ : Ev} {σ : L2.St}
theorem get_set {α : Type} {l : List α} {i j : Nat} {x y : α} (h : (l.set i x)[j]? = some y) : (j = i ∧ x = y ∧ i < l.length) ∨ (j ≠ i ∧ l[j]? = some y) := by
  by_cases e : j = i
  · subst e
    rw [List.getElem?_set] at h
    simp at h
    exact .inl ⟨rfl, h.2, h.1⟩
  · rw [List.getElem?_set_ne (Ne.symm e)] at h
    exact .inr ⟨e, h⟩
/-- a shared value stored -/
theorem Rel.set (R : Rel S F0 H0 F ρ σ H) {i : Nat} {v : V} {d : D} (hk : S.kd i = .sh) (h6 : S.six ≠ some i) (h : Has S.B.K F H v d) : Rel S F0 H0 F (ρ.set i (some d)) (σ.set i (some v)) H := by
  have old : ∀ {j e}, S.kd j ≠ .sh → (ρ.set i (some d))[j]? = some (some e) → j ≠ i ∧ ρ[j]? = some (some e) := fun {j e} hj q => by
    rcases get_set q with ⟨z, _⟩ | q
    · exact absurd (by rw [z]; exact hk) hj
    · exact q
  have oldS : ∀ {j : Nat} {a : V}, j ≠ i → (σ.set i (some v))[j]? = some (some a) → σ[j]? = some (some a) := fun hj q => by rwa [List.getElem?_set_ne (Ne.symm hj)] at q
  refine ⟨R.base, by rw [List.length_set, List.length_set]; exact R.len, fun j e q => ?_, fun j e a hj q m z => ?_, fun j l e g a ne hj hl q1 q2 m1 m2 z1 z2 => ?_, fun j A L e1 e2 => ?_⟩
  · rcases get_set q with ⟨rfl, e2, hl⟩ | ⟨ne, q⟩
    · cases e2
      refine ⟨v, ?_, by rw [hk]; exact h⟩
      rw [List.getElem?_set_self (by rw [R.len]; exact hl)]
    · obtain ⟨u, h1, h2⟩ := R.slot j e q
      exact ⟨u, by rw [List.getElem?_set_ne (Ne.symm ne)]; exact h1, h2⟩
  · obtain ⟨ne, q⟩ := old (by rw [hj]; exact fun z => nomatch z) q
    exact R.new j e a hj q m (oldS ne z)
  · obtain ⟨n1, q1⟩ := old hj q1
    obtain ⟨n2, q2⟩ := old hl q2
    exact R.apart j l e g a ne hj hl q1 q2 m1 m2 (oldS n1 z1) (oldS n2 z2)
  · have ne : j ≠ i := fun z => h6 (by rw [e1, z])
    rw [List.getElem?_set_ne (Ne.symm ne), List.getElem?_set_ne (Ne.symm ne)]
    exact R.six j A L e1 e2
/-- an owned value stored -/
theorem Rel.setOw (R : Rel S F0 H0 F ρ σ H) {i : Nat} {v : V} {d : D} (hk : S.kd i = .ow) (h6 : S.six ≠ some i) (h : OwnV S.B F H v d) (hn : mutD d = true → ∀ a, v = .ref a → H0 a = none ∧ ∀ j e, j ≠ i → S.kd j ≠ .sh → ρ[j]? = some (some e) → mutD e = true → σ[j]? ≠ some (some (.ref a))) :
    Rel S F0 H0 F (ρ.set i (some d)) (σ.set i (some v)) H := by
  have oldS : ∀ {j : Nat} {a : V}, j ≠ i → (σ.set i (some v))[j]? = some (some a) → σ[j]? = some (some a) := fun hj q => by rwa [List.getElem?_set_ne (Ne.symm hj)] at q
  have self : ∀ {a : V}, i < ρ.length → (σ.set i (some v))[i]? = some (some a) → v = a := fun hl q => by
    rw [List.getElem?_set_self (by rw [R.len]; exact hl)] at q
    exact Option.some.inj (Option.some.inj q)
  refine ⟨R.base, by rw [List.length_set, List.length_set]; exact R.len, fun j e q => ?_, fun j e a hj q m z => ?_, fun j l e g a ne hj hl q1 q2 m1 m2 z1 z2 => ?_, fun j A L e1 e2 => ?_⟩
  · rcases get_set q with ⟨rfl, e2, hl⟩ | ⟨ne, q⟩
    · cases e2
      refine ⟨v, ?_, by rw [hk]; exact h⟩
      rw [List.getElem?_set_self (by rw [R.len]; exact hl)]
    · obtain ⟨u, h1, h2⟩ := R.slot j e q
      exact ⟨u, by rw [List.getElem?_set_ne (Ne.symm ne)]; exact h1, h2⟩
  · rcases get_set q with ⟨rfl, e2, hl⟩ | ⟨ne, q⟩
    · cases e2
      exact (hn m a (self hl z)).1
    · exact R.new j e a hj q m (oldS ne z)
  · rcases get_set q1 with ⟨rfl, e1, h1⟩ | ⟨n1, p1⟩
    · cases e1
      rcases get_set q2 with ⟨rfl, _, _⟩ | ⟨n2, p2⟩
      · exact ne rfl
      · exact (hn m1 a (self h1 z1)).2 l g n2 hl p2 m2 (oldS n2 z2)
    · rcases get_set q2 with ⟨rfl, e2, h2⟩ | ⟨n2, p2⟩
      · cases e2
        exact (hn m2 a (self h2 z2)).2 j e n1 hj p1 m1 (oldS n1 z1)
      · exact R.apart j l e g a ne hj hl p1 p2 m1 m2 (oldS n1 z1) (oldS n2 z2)
  · have ne : j ≠ i := fun z => h6 (by rw [e1, z])
    rw [List.getElem?_set_ne (Ne.symm ne), List.getElem?_set_ne (Ne.symm ne)]
    exact R.six j A L e1 e2
end

abbrev GF := D → Ev → Tr Ev
def gN (i : Nat) : GF := fun d ρ => .ret (ρ.set i (some d))
abbrev GsF := List D → Ev → Tr Ev
def gsNil : GsF := fun ds ρ => match ds with
  | [] => .ret ρ
  | _ => .fail
def gsCons (f : GF) (g : GsF) : GsF := fun ds ρ => match ds with
  | d :: r => (f d ρ).bind fun ρ' => g r ρ'
  | [] => .fail
/-- a tuple taken apart -/
def gT (g : GsF) : GF := fun d ρ => match d with
  | .tuple ds => g ds ρ
  | _ => .fail
/-- only the slots told are touched -/
structure Same (is : List Nat) (σ σ' : L2.St) : Prop where
  len : σ'.length = σ.length
  at' : ∀ j, j ∉ is → σ'[j]? = σ[j]?
theorem Same.refl {is : List Nat} {σ : L2.St} : Same is σ σ := ⟨rfl, fun _ _ => rfl⟩
theorem Same.trans {is js : List Nat} {σ σ' σ'' : L2.St} (a : Same is σ σ') (b : Same js σ' σ'') : Same (is ++ js) σ σ'' :=
  ⟨b.len.trans a.len, fun j h => (b.at' j fun z => h (List.mem_append_right _ z)).trans (a.at' j fun z => h (List.mem_append_left _ z))⟩
def GJ (S : Sx) (k : Nat) (N : List Str) (sc : Names) (tg : Expr) (is : List Nat) (g : GF) : Prop :=
  ∀ X, Ctx S k N sc X → ∀ F0 H0 F ρ σ H, Rel S F0 H0 F ρ σ H → ∀ v d, Has S.B.K F H v d → ∀ Q : L2.St → Hp → Prop, (g d ρ).wp (fun ρ' => ∀ σ', Rel S F0 H0 F ρ' σ' H → Same is σ σ' → Q σ' H) → rG X tg v σ H Q
def rGs (X : Cx) (ts : List Expr) : TGs := fun vs σ H Q => ∃ t, PGs X ts t ∧ t vs σ H Q
theorem pgs_r {X : Cx} {ts : List Expr} : PGs X ts (rGs X ts) := ⟨fun pins s σ H vs us Q I r ⟨t, p, h⟩ => p.run pins s σ H vs us Q I r h⟩
def GsJ (S : Sx) (k : Nat) (N : List Str) (sc : Names) (tg : List Expr) (is : List Nat) (g : GsF) : Prop :=
  ∀ X, Ctx S k N sc X → ∀ F0 H0 F ρ σ H, Rel S F0 H0 F ρ σ H → ∀ vs ds, HasAll S.B.K F H vs ds → ∀ Q : L2.St → Hp → Prop, (g ds ρ).wp (fun ρ' => ∀ σ', Rel S F0 H0 F ρ' σ' H → Same is σ σ' → Q σ' H) → rGs X tg vs σ H Q
section
variable {S : Sx} {k : Nat} {N : List Str} {sc : Names} {e : Expr} {es : List Expr} {pos : Pos} {is js : List Nat}
/-- a name that is stored: a local, or a cell of the def -/
theorem gj_name {i : Nat} {x : Str} (hk : S.kd i = .sh) (h6 : S.six ≠ some i) (hN : N[i]? = some x) (hx : sc.lookup x = some .local ∨ sc.lookup x = some .cell) (hfn : sc.lookup (".0" : Str) = none ∨ sc.lookup x = some .local) : GJ S k N sc (.Name x pos) [i] (gN i) := fun X c F0 H0 F ρ σ H R v d h Q w =>
  .of (pg_name (i := i) c.nd (by rw [c.hN]; exact hN) (by unfold L2.Loc; rw [c.sc]; exact hx) (hfn.imp (fun z => c.fn z x) fun z => by rw [c.sc]; exact z)) (w _ (R.set hk h6 h) ⟨List.length_set .., fun j hj => List.getElem?_set_ne (fun z => hj (by simp [z]))⟩)
theorem gsj_nil : GsJ S k N sc [] [] gsNil := fun X c F0 H0 F ρ σ H R vs ds h Q w => by
  cases h with
  | nil => exact ⟨_, pgs_nil, rfl, w σ R .refl⟩
  | cons _ _ => exact w.elim
theorem gsj_cons {g : GF} {gs : GsF} (h1 : GJ S k N sc e is g) (h2 : GsJ S k N sc es js gs) (hs : ∀ env : Env, (assignEach (e :: es) env).map (·.2) = assign e env :: (assignEach es env).map (·.2)) : GsJ S k N sc (e :: es) (is ++ js) (gsCons g gs) := fun X c F0 H0 F ρ σ H R vs ds h Q w => by
  cases h with
  | nil => exact w.elim
  | cons a b =>
    refine ⟨_, pgs_cons pg_r pgs_r (hs _), _, _, rfl, h1 X c F0 H0 F ρ σ H R _ _ a _ (Tr.wp_mono (fun ρ' hρ σ' R' z => ?_) (Tr.wp_bind.mp w))⟩
    exact h2 X c F0 H0 F ρ' σ' H R' _ _ b Q (Tr.wp_mono (fun ρ'' hρ σ'' R'' z' => hρ σ'' R'' (z.trans z')) hρ)
theorem gj_tup {j n : Nat} {gs : GsF} (h : GsJ S k N sc es is gs) (hn : ∀ env : Env, (assignEach es env).length = n) (hst : ∀ env : Env, (assignEach es env).findIdx? (·.1) = none) (hl : ∀ ds ρ (Q : Ev → Prop), (gs ds ρ).wp Q → ds.length = n) :
    GJ S k N sc (.Tuple es j pos) is (gT gs) := fun X c F0 H0 F ρ σ H R v d hd Q w => by
  cases d with
  | tuple ds =>
    obtain ⟨a, xs, rfl, ha, q⟩ := Has.tup_inv hd
    refine .of (pg_tup c.calm pgs_r (hn _) (hst _)) ⟨a, xs, rfl, SqT.of ha, by rw [q.length]; exact hl ds ρ _ w, h X c F0 H0 F ρ σ H R xs ds q Q w⟩
  | _ => exact w.elim
def GLen (g : GsF) (n : Nat) : Prop := ∀ ds ρ (Q : Ev → Prop), (g ds ρ).wp Q → ds.length = n
theorem glen_nil : GLen gsNil 0 := fun ds ρ Q w => by
  cases ds with
  | nil => rfl
  | cons _ _ => exact w.elim
theorem glen_cons {g : GF} {gs : GsF} {n : Nat} (h : GLen gs n) : GLen (gsCons g gs) (n + 1) := fun ds ρ Q w => by
  cases ds with
  | nil => exact w.elim
  | cons d r =>
    have w := Tr.wp_bind.mp w
    have : r.length = n := Tr.wp_const (Tr.wp_mono (fun ρ' hρ => h r ρ' Q hρ) w)
    rw [List.length_cons, this]
end

/-- a list's or dict's place is taken -/
theorem BorV.taken {B : Bx} {F : Addr → Prop} {H : Hp} {v : V} {d : D} {a : Addr} (h : BorV B F H v d) (m : mutD d = true) (e : v = .ref a) : H a ≠ none := by
  intro hn
  cases d with
  | list ds => obtain ⟨b, xs, eb, _, r, _⟩ := h; rw [eb] at e; cases e; rw [hn] at r; cases r
  | dict ds =>
    obtain ⟨b, eb, _, q'⟩ := h
    rw [eb] at e
    cases e
    obtain ⟨u, r⟩ := q'.is
    rcases r with r | ⟨o, r⟩
    · rw [hn] at r; cases r
    · rw [hn] at r; cases r
  | _ => cases m
theorem SlotV.taken {B : Bx} {F : Addr → Prop} {H : Hp} {k : Kd} {v : V} {d : D} {a : Addr} (w : Wf B F H) (h : SlotV B F H k v d) (m : mutD d = true) (e : v = .ref a) : H a ≠ none := by
  cases k with
  | sh => exact (Has.bor w h).taken m e
  | ow => exact (OwnV.bor h).taken m e
  | lk => exact h.1.taken m e
def sPass : SF := fun ρ => .ret (.nx, ρ)
def sBreak : SF := fun ρ => .ret (.bk, ρ)
def sCont : SF := fun ρ => .ret (.ct, ρ)
def sSeq (f g : SF) : SF := fun ρ => (f ρ).bind fun r => match r with
  | (.nx, ρ') => g ρ'
  | r => .ret r
def sIf (t : TF) (f g : SF) : SF := fun ρ => (t ρ).bind fun b => if b then f ρ else g ρ
def sRet (f : EF) : SF := fun ρ => (f ρ).bind fun d => .ret (.rt d, ρ)
def sRetN : SF := fun ρ => .ret (.rt .none, ρ)
def sSet (i : Nat) (f : EF) : SF := fun ρ => (f ρ).bind fun d => .ret (.nx, ρ.set i (some d))
def sDrop (f : EF) : SF := fun ρ => (f ρ).bind fun _ => .ret (.nx, ρ)
/-- a target of any form -/
def sAsg (g : GF) (f : EF) : SF := fun ρ => (f ρ).bind fun d => (g d ρ).bind fun ρ' => .ret (.nx, ρ')
section
variable {S : Sx} {k : Nat} {N : List Str} {sc : Names} {ret : Md} {st : Stmt} {rest body orelse : List Stmt} {f g : SF} {e c : Expr} {fe : EF} {tc : TF} {pos pos' : Pos}
theorem SP1.le {F0 F F1 : Addr → Prop} {H0 H H1 : Hp} {D : Ends} (hf : ∀ a, F a → F1 a) (s : Stay F H H1) : ∀ {r : Fl × Ev}, SP1 S ret F0 H0 F H D r → SP1 S ret F0 H0 F1 H1 D r
  | (.nx, ρ'), h => fun F' σ' H' f1 s1 R => h F' σ' H' (fun a x => f1 a (hf a x)) (s.trans hf s1) R
  | (.bk, ρ'), h => fun F' σ' H' f1 s1 R => h F' σ' H' (fun a x => f1 a (hf a x)) (s.trans hf s1) R
  | (.ct, ρ'), h => fun F' σ' H' f1 s1 R => h F' σ' H' (fun a x => f1 a (hf a x)) (s.trans hf s1) R
  | (.rt d, ρ'), h => fun F' v H' f1 s1 l q => h F' v H' (fun a x => f1 a (hf a x)) (s.trans hf s1) l q
theorem bj_nil : BJ S k N sc ret [] sPass := fun X c F0 H0 F ρ σ H R D w => .of pss_nil (w F σ H (fun _ h => h) .refl R)
theorem bj_cons (h1 : SJ S k N sc ret st f) (h2 : BJ S k N sc ret rest g) : BJ S k N sc ret (st :: rest) (sSeq f g) := fun X c F0 H0 F ρ σ H R D w =>
  .of (pss_cons ps_r pb_r) (h1 X c F0 H0 F ρ σ H R _ (Tr.wp_mono (fun r hr => by
    obtain ⟨fl, ρ'⟩ := r
    cases fl with
    | nx => exact fun F' σ' H' f1 s1 R' => h2 X c F0 H0 F' ρ' σ' H' R' D (Tr.wp_mono (fun r hr => hr.le f1 s1) hr)
    | rt d => exact hr
    | bk => exact hr
    | ct => exact hr) (Tr.wp_bind.mp w)))
theorem bj_one (h1 : SJ S k N sc ret st f) : BJ S k N sc ret [st] f := fun X c F0 H0 F ρ σ H R D w => .of (pss_one ps_r) (h1 X c F0 H0 F ρ σ H R D w)
theorem sj_pass : SJ S k N sc ret (.Pass pos) sPass := fun X c F0 H0 F ρ σ H R D w => .of ps_pass (w F σ H (fun _ h => h) .refl R)
theorem sj_break : SJ S k N sc ret (.Break pos) sBreak := fun X c F0 H0 F ρ σ H R D w => .of ps_break (w F σ H (fun _ h => h) .refl R)
theorem sj_cont : SJ S k N sc ret (.Continue pos) sCont := fun X c F0 H0 F ρ σ H R D w => .of ps_continue (w F σ H (fun _ h => h) .refl R)
theorem sj_if (hc : TJ S k N sc c tc) (ha : BJ S k N sc ret body f) (hb : BJ S k N sc ret orelse g) : SJ S k N sc ret (.If c body orelse pos) (sIf tc f g) := fun X cx F0 H0 F ρ σ H R D w =>
  .of (ps_if pt_r pb_r pb_r) (hc X cx F0 H0 F ρ σ H R _ (Tr.wp_mono (fun b hb' F1 H1 l1 => by
    cases b with
    | true => rw [if_pos rfl]; exact ha X cx F0 H0 F1 ρ σ H1 (R.mono l1) D (Tr.wp_mono (fun r hr => hr.le l1.f l1.stay) hb')
    | false => rw [if_neg Bool.false_ne_true]; exact hb X cx F0 H0 F1 ρ σ H1 (R.mono l1) D (Tr.wp_mono (fun r hr => hr.le l1.f l1.stay) hb')) (Tr.wp_bind.mp w)))
theorem sj_ret (he : EJ S k N sc e ret fe) : SJ S k N sc ret (.Return (some e) pos) (sRet fe) := fun X c F0 H0 F ρ σ H R D w =>
  .of (ps_ret pe_r) (he X c F0 H0 F ρ σ H R _ (Tr.wp_mono (fun d hd F1 v H1 l1 q1 => hd F1 v H1 l1.f l1.stay (R.base.trans l1) (by
    cases ret with
    | bor => exact q1
    | frz => exact q1
    | own => exact ⟨q1.1, fun z a e => R.base.none (q1.2 z a e)⟩)) (Tr.wp_bind.mp w)))
theorem sj_retN (h : ret ≠ .bor) : SJ S k N sc ret (.Return none pos) sRetN := fun X c F0 H0 F ρ σ H R D w => .of ps_retN (w F .non H (fun _ h => h) .refl R.base (by
  cases ret with
  | bor => exact absurd rfl h
  | frz => exact .non
  | own => exact res_non))
/-- x = e, the value shared -/
theorem sj_set {i : Nat} {x : Str} (hk : S.kd i = .sh) (h6 : S.six ≠ some i) (hN : N[i]? = some x) (hx : sc.lookup x = some .local ∨ sc.lookup x = some .cell) (hfn : sc.lookup (".0" : Str) = none ∨ sc.lookup x = some .local)
    (hs : ∀ env : Env, swapsWith e (some (.Name x pos')) pos.line env = pure false) (he : EJ S k N sc e .frz fe) : SJ S k N sc ret (.Assign [.Name x pos'] e pos) (sSet i fe) := fun X c F0 H0 F ρ σ H R D w =>
  .of (ps_set (i := i) c.nd (by rw [c.hN]; exact hN) (by unfold L2.Loc; rw [c.sc]; exact hx) pe_r (hs _) (by rw [c.sc]; exact hfn.imp (fun z => c.fn z x) id)) (he X c F0 H0 F ρ σ H R _ (Tr.wp_mono (fun d hd F1 v H1 l1 q1 => by
    exact hd F1 _ H1 l1.f l1.stay ((R.mono l1).set hk h6 q1)) (Tr.wp_bind.mp w)))
/-- x = e, a new value that x owns -/
theorem sj_setOw {i : Nat} {x : Str} (hk : S.kd i = .ow) (h6 : S.six ≠ some i) (hN : N[i]? = some x) (hx : sc.lookup x = some .local ∨ sc.lookup x = some .cell) (hfn : sc.lookup (".0" : Str) = none ∨ sc.lookup x = some .local)
    (hs : ∀ env : Env, swapsWith e (some (.Name x pos')) pos.line env = pure false) (he : EJ S k N sc e .own fe) : SJ S k N sc ret (.Assign [.Name x pos'] e pos) (sSet i fe) := fun X c F0 H0 F ρ σ H R D w =>
  .of (ps_set (i := i) c.nd (by rw [c.hN]; exact hN) (by unfold L2.Loc; rw [c.sc]; exact hx) pe_r (hs _) (by rw [c.sc]; exact hfn.imp (fun z => c.fn z x) id)) (he X c F0 H0 F ρ σ H R _ (Tr.wp_mono (fun d hd F1 v H1 l1 q1 => by
    refine hd F1 _ H1 l1.f l1.stay ((R.mono l1).setOw hk h6 q1.1 fun m a e => ⟨R.base.none (q1.2 m a e), fun j e' ne hj q m' z => ?_⟩)
    obtain ⟨u, h1, h2⟩ := R.slot j e' q
    rw [z] at h1
    cases h1
    exact h2.taken R.wf m' rfl (q1.2 m a e)) (Tr.wp_bind.mp w)))
/-- an expression, its value dropped -/
theorem sj_drop {m : Md} (hs : ∀ env : Env, swapsWith e none pos.line env = pure false) (he : EJ S k N sc e m fe) : SJ S k N sc ret (.Expr e pos) (sDrop fe) := fun X c F0 H0 F ρ σ H R D w =>
  .of (ps_expr pe_r (hs _)) (he X c F0 H0 F ρ σ H R _ (Tr.wp_mono (fun d hd F1 v H1 l1 q1 => hd F1 σ H1 l1.f l1.stay (R.mono l1)) (Tr.wp_bind.mp w)))
/-- a, b = e -/
theorem sj_asg {tg : Expr} {gf : GF} {is : List Nat} (hg : GJ S k N sc tg is gf) (he : EJ S k N sc e .frz fe) (hs : ∀ env : Env, swapsWithSole [tg] e pos.line env = pure false) (hw : ∀ env : Env, swappedStores [tg] e env = pure none) (h1 : ∀ env : Env, (assignEach [tg] env).map (·.2) = [assign tg env]) :
    SJ S k N sc ret (.Assign [tg] e pos) (sAsg gf fe) := fun X c F0 H0 F ρ σ H R D w =>
  .of (ps_asg pe_r pg_r (hs _) (hw _) (h1 _)) (he X c F0 H0 F ρ σ H R _ (Tr.wp_mono (fun d hd F1 v H1 l1 q1 =>
    hg X c F0 H0 F1 ρ σ H1 (R.mono l1) v d q1 _ (Tr.wp_mono (fun ρ' hρ σ' R' _ => hρ F1 σ' H1 l1.f l1.stay R') (Tr.wp_bind.mp hd))) (Tr.wp_bind.mp w)))
end
end Pv

namespace Pv
open PySem PySem.Spec PyProof.Rows L2

section
variable {S : Sx} {F0 F : Addr → Prop} {H0 H : Hp} {ρ : Ev} {σ : L2.St}
theorem Stay.updL {B : Bx} {a : Addr} {o : HO} (hF : ¬ F a) (hm : Mut (H a)) : Stay F H (upd H a o) := by
  have ne : ∀ b xs, H b = some (.tup xs) → b ≠ a := fun b xs h z => by rw [z] at h; rw [h] at hm; exact hm
  refine ⟨fun b u f r => ?_, fun b xs f r => ?_, fun b xs r => ?_⟩
  · have nb : b ≠ a := fun z => hF (z ▸ f)
    rcases r with r | ⟨q, r⟩
    · exact .inl (by rw [upd_ne nb]; exact r)
    · exact .inr ⟨q, by rw [upd_ne nb]; exact r⟩
  · rw [upd_ne (show b ≠ a from fun z => hF (z ▸ f))]; exact r
  · rw [upd_ne (ne b xs r)]; exact r
theorem Wf.updO {B : Bx} {a : Addr} {o : HO} (w : Wf B F H) (hn : B.nS a) : Wf B F (upd H a o) := by
  refine ⟨fun A L e => ?_, w.nS, fun b h => ?_⟩
  · obtain ⟨cs, l, m, t, h1, h2, r⟩ := w.src A L e
    obtain ⟨n1, n2⟩ := hn A L e
    exact ⟨cs, l, m, t, by rw [upd_ne (Ne.symm n1)]; exact h1, by rw [upd_ne (Ne.symm n2)]; exact h2, r⟩
  · unfold upd; split
    · simp
    · exact w.is b h
/-- the object that the slot i owns is changed -/
theorem Rel.change (R : Rel S F0 H0 F ρ σ H) {i : Nat} {a : Addr} {o : HO} {d d' : D} (hk : S.kd i = .ow) (hd : ρ[i]? = some (some d)) (md : mutD d = true) (hs : σ[i]? = some (some (.ref a))) (hF : ¬ F a) (hn : S.B.nS a) (hm : Mut (H a))
    (new : OwnV S.B F (upd H a o) (.ref a) d') : Rel S F0 H0 F (ρ.set i (some d')) σ (upd H a o) ∧ Stay F H (upd H a o) := by
  have hi : i < ρ.length := (List.getElem?_eq_some_iff.mp hd).1
  have st : Stay F H (upd H a o) := Stay.updL (B := S.B) hF hm
  have hk' : S.kd i ≠ .sh := by rw [hk]; exact fun z => nomatch z
  have h0 : H0 a = none := R.new i d a hk hd md hs
  have wf' : Wf S.B F (upd H a o) := R.wf.updO hn
  refine ⟨⟨⟨R.base.f, fun b u h n => ?_, R.base.n, R.base.wf, wf'⟩, by rw [List.length_set]; exact R.len, fun j e q => ?_, fun j e b hj q m z => ?_, fun j l e g b ne hj hl q1 q2 m1 m2 z1 z2 => ?_, fun j A L e1 e2 => ?_⟩, st⟩
  · have nb : b ≠ a := fun z => by rw [z, h0] at h; cases h
    rw [upd_ne nb]; exact R.base.h b u h n
  · rcases get_set q with ⟨rfl, e2, _⟩ | ⟨ne, q⟩
    · cases e2
      exact ⟨.ref a, hs, by rw [hk]; exact new⟩
    · obtain ⟨v, h1, h2⟩ := R.slot j e q
      refine ⟨v, h1, ?_⟩
      cases kj : S.kd j with
      | sh => rw [kj] at h2; exact Has.mono (fun _ h => h) st h2
      | ow =>
        rw [kj] at h2
        have diff : mutD e = true → v ≠ .ref a := fun m z => R.apart j i e d a ne (by rw [kj]; exact fun z => nomatch z) hk' q hd m md (by rw [h1, z]) hs
        cases e with
        | list ds =>
          obtain ⟨b, xs, rfl, n1, n2, r, al⟩ := h2
          exact ⟨b, xs, rfl, n1, n2, by rw [upd_ne (fun z => diff rfl (by rw [z]))]; exact r, al.mono (fun _ h => h) st⟩
        | dict ds =>
          obtain ⟨b, rfl, n1, n2, dv⟩ := h2
          exact ⟨b, rfl, n1, n2, dv.mono (fun _ h => h) st fun u r => by rw [upd_ne (fun z => diff rfl (by rw [z]))]; exact r⟩
        | none => exact Has.mono (fun _ h => h) st h2
        | bool _ => exact Has.mono (fun _ h => h) st h2
        | int _ => exact Has.mono (fun _ h => h) st h2
        | str _ => exact Has.mono (fun _ h => h) st h2
        | tuple _ => exact Has.mono (fun _ h => h) st h2
      | lk =>
        rw [kj] at h2
        have diff : mutD e = true → v ≠ .ref a := fun m z => R.apart j i e d a ne (by rw [kj]; exact fun z => nomatch z) hk' q hd m md (by rw [h1, z]) hs
        refine ⟨?_, h2.2⟩
        have h2 := h2.1
        cases e with
        | list ds =>
          obtain ⟨b, xs, rfl, n2, r, al⟩ := h2
          exact ⟨b, xs, rfl, n2, by rw [upd_ne (fun z => diff rfl (by rw [z]))]; exact r, al.mono (fun _ h => h) st⟩
        | dict ds =>
          obtain ⟨b, rfl, n2, dv⟩ := h2
          refine ⟨b, rfl, n2, dv.mono (fun _ h => h) st fun u r => ?_⟩
          have nb : b ≠ a := fun z => diff rfl (by rw [z])
          rcases r with r | ⟨o, r⟩
          · exact .inl (by rw [upd_ne nb]; exact r)
          · exact .inr ⟨o, by rw [upd_ne nb]; exact r⟩
        | none => exact Has.mono (fun _ h => h) st h2
        | bool _ => exact Has.mono (fun _ h => h) st h2
        | int _ => exact Has.mono (fun _ h => h) st h2
        | str _ => exact Has.mono (fun _ h => h) st h2
        | tuple _ => exact Has.mono (fun _ h => h) st h2
  · rcases get_set q with ⟨rfl, e2, _⟩ | ⟨ne, q⟩
    · rw [hs] at z
      cases z
      exact h0
    · exact R.new j e b hj q m z
  · rcases get_set q1 with ⟨rfl, _, _⟩ | ⟨n1, p1⟩
    · rcases get_set q2 with ⟨rfl, _, _⟩ | ⟨n2, p2⟩
      · exact ne rfl
      · exact R.apart j l d g b ne hj hl hd p2 md m2 z1 z2
    · rcases get_set q2 with ⟨rfl, _, _⟩ | ⟨n2, p2⟩
      · exact R.apart j l e d b ne hj hl p1 hd m1 md z1 z2
      · exact R.apart j l e g b ne hj hl p1 p2 m1 m2 z1 z2
  · obtain ⟨h1, h2⟩ := R.six j A L e1 e2
    refine ⟨h1, ?_⟩
    have ne : j ≠ i := fun z => by rw [z, hd] at h2; cases h2
    rw [List.getElem?_set_ne (Ne.symm ne)]; exact h2
end
end Pv

namespace Pv
open PySem PySem.Spec PyProof.Rows L2

def ownL (i : Nat) (ρ : Ev) : Tr (List D) := match ρ[i]? with
  | some (some (.list xs)) => .ret xs
  | _ => .fail
/-- x.append(e) -/
def sApp (i : Nat) (f : EF) : SF := fun ρ => (ownL i ρ).bind fun xs => (f ρ).bind fun d => need (xs.length < lim) (.ret (.nx, ρ.set i (some (.list (xs ++ [d])))))
/-- x.extend(e), e a list -/
def sExt (i : Nat) (f : EF) : SF := fun ρ => (ownL i ρ).bind fun xs => (f ρ).bind fun d => match d with
  | .list ys => need (xs.length + ys.length ≤ lim) (.ret (.nx, ρ.set i (some (.list (xs ++ ys)))))
  | _ => .fail
/-- what x.pop() gives, and what is left -/
def popD (xs : List D) : Tr (D × List D) := match xs[xs.length - 1]? with
  | some d => .ret (d, xs.dropLast)
  | none => .fail
/-- target = x.pop() -/
def sPop (g : GF) (i : Nat) : SF := fun ρ => (ownL i ρ).bind fun xs => (popD xs).bind fun r => (g r.1 (ρ.set i (some (.list r.2)))).bind fun ρ' => .ret (.nx, ρ')
/-- x.pop() -/
def sPop0 (i : Nat) : SF := fun ρ => (ownL i ρ).bind fun xs => (popD xs).bind fun r => .ret (.nx, ρ.set i (some (.list r.2)))

section
variable {S : Sx} {k : Nat} {N : List Str} {sc : Names} {ret : Md} {e : Expr} {fe : EF} {pos pos' apos cpos : Pos} {i : Nat} {x : Str}
/-- the owned list at a slot -/
theorem own_list {F0 F : Addr → Prop} {H0 H : Hp} {ρ : Ev} {σ : L2.St} (R : Rel S F0 H0 F ρ σ H) (hk : S.kd i = .ow) {P : List D → Tr (Fl × Ev)} {Q : Fl × Ev → Prop} (w : ((ownL i ρ).bind P).wp Q) :
    ∃ a vs xs, ρ[i]? = some (some (.list xs)) ∧ σ[i]? = some (some (.ref a)) ∧ ¬ F a ∧ S.B.nS a ∧ H a = some (.lst vs) ∧ HasAll S.B.K F H vs xs ∧ (P xs).wp Q := by
  unfold ownL at w
  cases q : ρ[i]? with
  | none => rw [q] at w; exact w.elim
  | some o =>
    cases o with
    | none => rw [q] at w; exact w.elim
    | some d =>
      cases d with
      | list xs =>
        rw [q] at w
        obtain ⟨v, h1, h2⟩ := R.slot i _ q
        rw [hk] at h2
        obtain ⟨a, vs, rfl, n1, n2, r, al⟩ := h2
        exact ⟨a, vs, xs, rfl, h1, n1, n2, r, al, w⟩
      | _ => rw [q] at w; exact w.elim
/-- the list has become another one -/
theorem Rel.newList {F0 F : Addr → Prop} {H0 H : Hp} {ρ : Ev} {σ : L2.St} (R : Rel S F0 H0 F ρ σ H) (hk : S.kd i = .ow) {a : Addr} {vs vs' : List V} {xs xs' : List D} (h1 : ρ[i]? = some (some (.list xs))) (h2 : σ[i]? = some (some (.ref a))) (n1 : ¬ F a) (n2 : S.B.nS a) (h3 : H a = some (.lst vs)) (al : HasAll S.B.K F H vs' xs') :
    Rel S F0 H0 F (ρ.set i (some (.list xs'))) σ (upd H a (.lst vs')) ∧ Stay F H (upd H a (.lst vs')) := by
  have hm : Mut (H a) := by rw [h3]; trivial
  exact R.change hk h1 rfl h2 n1 n2 hm ⟨a, vs', rfl, n1, n2, upd_same, al.mono (fun _ h => h) (Stay.updL (B := S.B) n1 hm)⟩
theorem attr_name {y : Str} {p : Pos} {m : Str} {env : Env} : attributeBase (.Name y p) m env (eval (.Name y p) env) = eval (.Name y p) env := rfl
theorem sj_app (hk : S.kd i = .ow) (hN : N[i]? = some x) (hv : sc.lookup x = some .local ∨ sc.lookup x = some .cell ∨ sc.lookup x = some .free) (hd : (x == ("__debug__" : Str)) = false) (hcd : (x == ("__classdict__" : Str)) = false)
    (he : EJ S k N sc e .frz fe) (hs : ∀ env : Env, starEach [e] env = [(false, eval e env)]) (hline : (apos.endLine == cpos.line) = true) : SJ S k N sc ret (.Expr (.Call (.Attribute (.Name x pos) "append" apos) [e] [] cpos) pos') (sApp i fe) := fun X c F0 H0 F ρ σ H R D w => by
  obtain ⟨a, vs, xs, g1, g2, n1, n2, g3, al, w⟩ := own_list R hk w
  refine .of (ps_expr (pe_bm PySem.F.plainAttrs_list PySem.F.slot_list_append PySem.F.type_list_append mt_append (pe_var (i := i) (by rw [c.hN]; exact hN) (by unfold Vis; rw [c.sc]; exact hv) hd hcd) (pa_cons pe_r pa_nil (by rw [hs]; rfl)) attr_name (by rw [hs]; rfl) hline (by rw [hs]; rfl) rfl) rfl) ?_
  refine ⟨.ref a, g2, .inl ⟨rfl, vs, SqL.of g3⟩, ?_⟩
  refine he X c F0 H0 F ρ σ H R _ (Tr.wp_mono (fun d hd' => ?_) (Tr.wp_bind.mp w))
  intro F1 v H1 l1 q1
  obtain ⟨hz, hd'⟩ := wp_need.mp hd'
  have g3' := l1.h a _ g3 n2
  obtain ⟨R', st⟩ := (R.mono l1).newList hk g1 g2 (l1.notF n1 g3) n2 g3' ((l1.all al).append (.cons q1 .nil))
  exact ⟨a, vs, v, rfl, rfl, g3', by rw [al.length, ← lim_eq]; exact hz, hd' F1 σ _ l1.f (l1.stay.trans l1.f st) R'⟩
theorem sj_ext {m : Md} (hk : S.kd i = .ow) (hN : N[i]? = some x) (hv : sc.lookup x = some .local ∨ sc.lookup x = some .cell ∨ sc.lookup x = some .free) (hd : (x == ("__debug__" : Str)) = false) (hcd : (x == ("__classdict__" : Str)) = false)
    (he : EJ S k N sc e m fe) (hs : ∀ env : Env, starEach [e] env = [(false, eval e env)]) (hline : (apos.endLine == cpos.line) = true) : SJ S k N sc ret (.Expr (.Call (.Attribute (.Name x pos) "extend" apos) [e] [] cpos) pos') (sExt i fe) := fun X c F0 H0 F ρ σ H R D w => by
  obtain ⟨a, vs, xs, g1, g2, n1, n2, g3, al, w⟩ := own_list R hk w
  refine .of (ps_expr (pe_bm PySem.F.plainAttrs_list PySem.F.slot_list_extend PySem.F.type_list_extend mt_extend (pe_var (i := i) (by rw [c.hN]; exact hN) (by unfold Vis; rw [c.sc]; exact hv) hd hcd) (pa_cons pe_r pa_nil (by rw [hs]; rfl)) attr_name (by rw [hs]; rfl) hline (by rw [hs]; rfl) rfl) rfl) ?_
  refine ⟨.ref a, g2, .inl ⟨rfl, vs, SqL.of g3⟩, ?_⟩
  refine he X c F0 H0 F ρ σ H R _ (Tr.wp_mono (fun d hd' => ?_) (Tr.wp_bind.mp w))
  intro F1 v H1 l1 q1
  have bx := Res.bor l1.wf' q1
  cases d with
  | list ys =>
    obtain ⟨b, us, rfl, _, hb, q⟩ := bx
    obtain ⟨hz, hd'⟩ := wp_need.mp hd'
    have g3' := l1.h a _ g3 n2
    obtain ⟨R', st⟩ := (R.mono l1).newList hk g1 g2 (l1.notF n1 g3) n2 g3' ((l1.all al).append q)
    exact ⟨a, b, vs, us, rfl, rfl, g3', hb, by rw [al.length, q.length, ← lim_eq]; exact hz, hd' F1 σ _ l1.f (l1.stay.trans l1.f st) R'⟩
  | _ => exact hd'.elim
theorem popD_ok {K : PySem.W.Frag} {F : Addr → Prop} {H : Hp} {vs : List V} {xs : List D} {P : D × List D → Tr (Fl × Ev)} {Q : Fl × Ev → Prop} (al : HasAll K F H vs xs) (w : ((popD xs).bind P).wp Q) :
    ∃ v d, vs[vs.length - 1]? = some v ∧ Has K F H v d ∧ (P (d, xs.dropLast)).wp Q := by
  unfold popD at w
  cases q : xs[xs.length - 1]? with
  | none => rw [q] at w; exact w.elim
  | some d =>
    rw [q] at w
    obtain ⟨v, h1, h2⟩ := al.get q
    exact ⟨v, d, by rw [al.length]; exact h1, h2, w⟩
theorem sj_pop0 (hk : S.kd i = .ow) (hN : N[i]? = some x) (hv : sc.lookup x = some .local ∨ sc.lookup x = some .cell ∨ sc.lookup x = some .free) (hd : (x == ("__debug__" : Str)) = false) (hcd : (x == ("__classdict__" : Str)) = false)
    (hline : (apos.endLine == cpos.line) = true) : SJ S k N sc ret (.Expr (.Call (.Attribute (.Name x pos) "pop" apos) [] [] cpos) pos') (sPop0 i) := fun X c F0 H0 F ρ σ H R D w => by
  obtain ⟨a, vs, xs, g1, g2, n1, n2, g3, al, w⟩ := own_list R hk w
  obtain ⟨v, d, e1, hd', w⟩ := popD_ok al w
  refine .of (ps_expr (pe_bm0 PySem.F.plainAttrs_list PySem.F.slot_list_pop PySem.F.type_list_pop mt_pop (pe_var (i := i) (by rw [c.hN]; exact hN) (by unfold Vis; rw [c.sc]; exact hv) hd hcd) attr_name hline) rfl) ?_
  obtain ⟨R', st⟩ := R.newList hk g1 g2 n1 n2 g3 al.dropLast
  exact ⟨.ref a, g2, .inl ⟨rfl, vs, SqL.of g3⟩, a, vs, v, rfl, rfl, g3, e1, w F σ _ (fun _ h => h) st R'⟩
theorem sj_pop {tg : Expr} {gf : GF} {is : List Nat} (hk : S.kd i = .ow) (hN : N[i]? = some x) (hv : sc.lookup x = some .local ∨ sc.lookup x = some .cell ∨ sc.lookup x = some .free) (hd : (x == ("__debug__" : Str)) = false) (hcd : (x == ("__classdict__" : Str)) = false)
    (hline : (apos.endLine == cpos.line) = true) (hg : GJ S k N sc tg is gf) (hw : ∀ env : Env, swappedStores [tg] (.Call (.Attribute (.Name x pos) "pop" apos) [] [] cpos) env = pure none) (h1 : ∀ env : Env, (assignEach [tg] env).map (·.2) = [assign tg env]) :
    SJ S k N sc ret (.Assign [tg] (.Call (.Attribute (.Name x pos) "pop" apos) [] [] cpos) pos') (sPop gf i) := fun X c F0 H0 F ρ σ H R D w => by
  obtain ⟨a, vs, xs, g1, g2, n1, n2, g3, al, w⟩ := own_list R hk w
  obtain ⟨v, d, e1, hd', w⟩ := popD_ok al w
  refine .of (ps_asg (pe_bm0 PySem.F.plainAttrs_list PySem.F.slot_list_pop PySem.F.type_list_pop mt_pop (pe_var (i := i) (by rw [c.hN]; exact hN) (by unfold Vis; rw [c.sc]; exact hv) hd hcd) attr_name hline) pg_r rfl (hw _) (h1 _)) ?_
  obtain ⟨R', st⟩ := R.newList hk g1 g2 n1 n2 g3 al.dropLast
  refine ⟨.ref a, g2, .inl ⟨rfl, vs, SqL.of g3⟩, a, vs, v, rfl, rfl, g3, e1, ?_⟩
  refine hg X c F0 H0 F _ σ _ R' v d (hd'.mono (fun _ h => h) st) _ (Tr.wp_mono (fun ρ' hρ σ' R'' _ => ?_) (Tr.wp_bind.mp w))
  exact hρ F σ' _ (fun _ h => h) st R''
end
end Pv

namespace Pv
open PySem PySem.Spec PyProof.Rows L2

def putD (kvs : List (D × D)) (k v : D) : List (D × D) :=
  if (kvs.any fun p => PyData.eqv p.1 k) = true then kvs.map (fun p => if PyData.eqv p.1 k = true then (p.1, v) else p) else kvs ++ [(k, v)]
def setD (c i v : D) : Tr D := match c with
  | .list xs => match i with
    | .int j => match ixN xs.length j with
      | some n => .ret (.list (xs.set n v))
      | none => .fail
    | _ => .fail
  | .dict kvs => need (isKey i = true ∧ sameK kvs i = true ∧ kvs.length < lim) (.ret (.dict (putD kvs i v)))
  | _ => .fail

section
variable {K : PySem.W.Frag} {F : Addr → Prop} {H : Hp}
theorem put_any {κ : Type} [DecidableEq κ] {g : κ → D} (hg : ∀ a b, PyData.eqv (g a) (g b) = decide (a = b)) (k : κ) : ∀ {kvs : List (κ × V)} {ds : List (D × D)}, ds.map (·.1) = kvs.map (fun p => g p.1) → (ds.any fun p => PyData.eqv p.1 (g k)) = (kvs.any fun p => decide (p.1 = k))
  | [], [], _ => rfl
  | [], _ :: _, e => by simp at e
  | _ :: _, [], e => by simp at e
  | p :: kvs, q :: ds, e => by
    simp only [List.map_cons, List.cons.injEq] at e
    rw [List.any_cons, List.any_cons, e.1, hg, put_any hg k e.2]
theorem put_map {κ : Type} [DecidableEq κ] {g : κ → D} (hg : ∀ a b, PyData.eqv (g a) (g b) = decide (a = b)) (k : κ) {v : V} {d : D} (h : Has K F H v d) : ∀ {kvs : List (κ × V)} {ds : List (D × D)}, ds.map (·.1) = kvs.map (fun p => g p.1) → HasAll K F H (kvs.map (·.2)) (ds.map (·.2)) →
    HasAll K F H ((kvs.map fun p => if p.1 = k then (p.1, v) else p).map (·.2)) ((ds.map fun p => if PyData.eqv p.1 (g k) = true then (p.1, d) else p).map (·.2))
  | [], [], _, _ => .nil
  | [], _ :: _, e, _ => by simp at e
  | _ :: _, [], e, _ => by simp at e
  | p :: kvs, q :: ds, e, a => by
    simp only [List.map_cons, List.cons.injEq] at e a ⊢
    cases a with
    | cons a1 a2 =>
      refine .cons ?_ (put_map hg k h e.2 a2)
      rw [e.1, hg]
      by_cases hk : p.1 = k
      · rw [if_pos hk, if_pos (decide_eq_true hk)]; exact h
      · rw [if_neg hk, if_neg (by rw [decide_eq_false hk]; exact Bool.false_ne_true)]; exact a1
theorem keys_map {α : Type} (l : List (α × V)) (c : α × V → Prop) [DecidablePred c] (v : V) : (l.map fun p => if c p then (p.1, v) else p).map (·.1) = l.map (·.1) := by
  induction l with
  | nil => rfl
  | cons p l ih => simp only [List.map_cons, ih]; congr 1; split <;> rfl
theorem keys_mapD (l : List (D × D)) (k d : D) : (l.map fun p => if PyData.eqv p.1 k = true then (p.1, d) else p).map (·.1) = l.map (·.1) := by
  induction l with
  | nil => rfl
  | cons p l ih => simp only [List.map_cons, ih]; congr 1; split <;> rfl
theorem put_ok {κ : Type} [DecidableEq κ] {g : κ → D} (hg : ∀ a b, PyData.eqv (g a) (g b) = decide (a = b)) (k : κ) {v : V} {d : D} (h : Has K F H v d) {kvs : List (κ × V)} {ds : List (D × D)} (e : ds.map (·.1) = kvs.map (fun p => g p.1)) (a : HasAll K F H (kvs.map (·.2)) (ds.map (·.2))) :
    (putD ds (g k) d).map (·.1) = (putK kvs k v).map (fun p => g p.1) ∧ HasAll K F H ((putK kvs k v).map (·.2)) ((putD ds (g k) d).map (·.2)) := by
  unfold putD putK
  rw [put_any hg k e]
  by_cases c : (kvs.any fun p => decide (p.1 = k)) = true
  · rw [if_pos c, if_pos c]
    refine ⟨?_, put_map hg k h e a⟩
    rw [keys_mapD, e]
    have z := keys_map kvs (fun p => p.1 = k) v
    have z2 := congrArg (List.map g) z
    rw [List.map_map, List.map_map, List.map_map] at z2
    simp only [List.map_map]
    exact z2.symm
  · rw [if_neg c, if_neg c]
    refine ⟨?_, ?_⟩
    · rw [List.map_append, List.map_append, e]; rfl
    · rw [List.map_append, List.map_append]; exact a.append (.cons h .nil)
theorem putK_ne {κ : Type} [DecidableEq κ] {kvs : List (κ × V)} {k : κ} {v : V} : putK kvs k v ≠ [] := by
  unfold putK
  split
  · rename_i h
    intro z
    have : kvs = [] := by simpa using z
    subst this
    simp at h
  · simp
end

/-- stored; the empty one by a tuple too -/
def DPut2 (H : Hp) (a : Addr) (y v : V) (H' : Hp) : Prop := DPut H a y v H' ∨ ∃ (k : List Key) (b : Addr), H a = some (.dK []) ∧ y = .ref b ∧ H b = some (.tup (k.map kV)) ∧ H' = upd H a (.dT [(k, v)])
theorem d_put2 {X : Cx} {pins : List (Addr × Obj)} {σ : L2.St} {H H' : Hp} {s : Shared} {a : Addr} {y v : V} {u r : Value} {A : Around} {E : Value → Shared → Prop} {Q : Unit → Shared → Prop} (hu : A.units + 1 < cLine) (I : Inv X pins σ H s) (g : DPut2 H a y v H') (ry : RelV y u) (rv : RelV v r) (h : ∀ s', Inv X pins σ H' s' → Q () s') :
    wpAny (model X.prog X.w) A (setItem (.ref a) u r) Q E s := by
  rcases g with g | ⟨k, b, e, rfl, eb, rfl⟩
  · exact d_setItem hu I g ry rv h
  · have hd : (a == sysModules) = false := (dk_of I.hok e).2.1
    obtain ⟨_, ob, es, ep, g1, g2, g3, g4, _⟩ := emptyH I (.inl e)
    have mu : Mut (H a) := by rw [e]; trivial
    have I2 : Inv X pins σ (upd H a (.dT [])) s := I.write (x := a) (e := a) (t' := s.toks) (h' := s.heap) mu (.inl rfl) (fun _ _ _ q => q) ⟨ob, g1⟩ ⟨Nat.zero_le _, hd, [], .nil, ob, es, ep, g1, g2, g3, g4, List.nodup_nil⟩
    have nb : b ≠ a := fun z => by rw [z, e] at eb; cases eb
    refine d_setItem hu I2 (.inr ⟨[], k, b, upd_same, rfl, by rw [upd_ne nb]; exact eb, by rw [sizeLine_eq]; decide, rfl⟩) ry rv fun s' I' => h s' ?_
    rw [upd_upd] at I'
    exact I'
theorem pset_dict {X : Cx} (hu : X.A.units + 1 < cLine) : PSet X (fun o i v H Q => ∃ a H', o = .ref a ∧ DPut2 H a i v H' ∧ Q H') := by
  rintro pins s σ H o i v ov iv u Q I ro ri ru ⟨a, H', rfl, g, q⟩
  cases ro
  exact d_put2 hu I g ri ru fun s' I' => ⟨H', I', q⟩
def rSet (X : Cx) : TSet := fun o i v H Q => ∃ t, PSet X t ∧ t o i v H Q
theorem pset_r {X : Cx} : PSet X (rSet X) := fun pins s σ H o i v ov iv u Q I ro ri ru ⟨t, p, h⟩ => p pins s σ H o i v ov iv u Q I ro ri ru h

/-- the owned list or dict at a slot -/
def ownC (i : Nat) (ρ : Ev) : Tr D := match ρ[i]? with
  | some (some d) => if mutD d then .ret d else .fail
  | _ => .fail
/-- x[j] = e, the value first -/
def sSetI (i : Nat) (fj fv : EF) : SF := fun ρ => (fv ρ).bind fun v => (ownC i ρ).bind fun c => (fj ρ).bind fun j => (setD c j v).bind fun c' => .ret (.nx, ρ.set i (some c'))
section
variable {S : Sx} {k : Nat} {N : List Str} {sc : Names} {ret : Md} {e j : Expr} {fe fj : EF} {pos pos' tpos : Pos} {i : Nat} {x : Str} {m : Md}
/-- what storing into an owned container makes -/
theorem set_ok {B : Bx} {F : Addr → Prop} {H : Hp} {a : Addr} {c i v : D} {vi vv : V} {X : Cx} (hu : X.A.units + 1 < cLine) (wf : Wf B F H) (oc : OwnV B F H (.ref a) c) (bi : BorV B F H vi i) (hv : Has B.K F H vv v) {P : D → Prop} (w : (setD c i v).wp P) :
    ∃ o c', P c' ∧ (∀ Q : Hp → Prop, Q (upd H a o) → rSet X (.ref a) vi vv H Q) ∧ Mut (H a) ∧ OwnV B F (upd H a o) (.ref a) c' := by
  cases c with
  | list xs =>
    obtain ⟨b, us, e1, n1, n2, h3, al⟩ := oc
    cases e1
    cases i with
    | int j =>
      cases q : ixN xs.length j with
      | none => simp only [setD, q] at w; exact w.elim
      | some n =>
        simp only [setD, q] at w
        cases (show vi = .int j from Has.int_inv bi)
        have hm : Mut (H a) := by rw [h3]; trivial
        refine ⟨.lst (us.set n vv), _, w, fun Q hQ => ⟨_, set_list, a, us, j, n, rfl, rfl, h3, by rw [al.length]; exact q, hQ⟩, hm, a, _, rfl, n1, n2, upd_same, (HasAll.set hv n al).mono (fun _ h => h) (Stay.updL (B := B) n1 hm)⟩
    | _ => exact w.elim
  | dict kvs =>
    obtain ⟨b, e1, n1, n2, dv⟩ := oc
    cases e1
    obtain ⟨⟨hk, hs, hl⟩, w⟩ := wp_need.mp w
    have hl' : ∀ {n : Nat}, n = kvs.length → n < sizeLine := fun e => by rw [e, ← lim_eq]; exact hl
    have flat : ∀ {key : Key}, vi = kV key → i = kD key → ∃ o c', P c' ∧ (∀ Q : Hp → Prop, Q (upd H a o) → rSet X (.ref a) vi vv H Q) ∧ Mut (H a) ∧ OwnV B F (upd H a o) (.ref a) c' := fun {key} e1 e2 => by
      rcases dv with ⟨kv, r, ek, ha⟩ | ⟨kv, r, ne, ek, ha⟩
      · have hm : Mut (H a) := by rw [r]; trivial
        obtain ⟨p1, p2⟩ := put_ok eqv_kD key hv ek ha
        have ll : kv.length = kvs.length := by have := congrArg List.length ek; simpa using this.symm
        refine ⟨.dK (putK kv key vv), _, w, fun Q hQ => ⟨_, pset_dict hu, a, _, rfl, .inl (.inl ⟨kv, key, r, e1, hl' ll, rfl⟩), hQ⟩, hm, a, rfl, n1, n2, .inl ⟨_, upd_same, ?_, ?_⟩⟩
        · rw [e2]; exact p1
        · rw [e2]; exact p2.mono (fun _ h => h) (Stay.updL (B := B) n1 hm)
      · exfalso
        cases kv with
        | nil => exact ne rfl
        | cons p kv =>
          cases kvs with
          | nil => simp at ek
          | cons q ds =>
            simp only [List.map_cons, List.cons.injEq] at ek
            unfold sameK at hs
            simp only [ek.1, e2, kD_flat] at hs
            cases hs
    cases i with
    | int i => cases bi; exact flat (key := .inl i) rfl rfl
    | str x => cases bi; exact flat (key := .inr x) rfl rfl
    | tuple ds =>
      obtain ⟨b, xs, rfl, hb, hx⟩ := Has.tup_inv bi
      obtain ⟨ks, rfl⟩ := flats (show ds.all isFlat = true from hk)
      have ex := hx.keys
      subst ex
      rcases dv with ⟨kv, r, ek, ha⟩ | ⟨kv, r, ne, ek, ha⟩
      · have hm : Mut (H a) := by rw [r]; trivial
        cases kv with
        | nil =>
          cases kvs with
          | nil =>
            refine ⟨.dT [(ks, vv)], _, w, fun Q hQ => ⟨_, pset_dict hu, a, _, rfl, .inr ⟨ks, b, r, rfl, hb, rfl⟩, hQ⟩, hm, a, rfl, n1, n2, .inr ⟨[(ks, vv)], upd_same, by simp, rfl, ?_⟩⟩
            exact .cons (hv.mono (fun _ h => h) (Stay.updL (B := B) n1 hm)) .nil
          | cons q ds => simp at ek
        | cons p kv =>
          exfalso
          cases kvs with
          | nil => simp at ek
          | cons q ds =>
            simp only [List.map_cons, List.cons.injEq] at ek
            unfold sameK at hs
            simp only [ek.1, kD_flat] at hs
            cases hs
      · have hm : Mut (H a) := by rw [r]; trivial
        obtain ⟨p1, p2⟩ := put_ok eqv_kT ks hv ek ha
        have ll : kv.length = kvs.length := by have := congrArg List.length ek; simpa using this.symm
        exact ⟨.dT (putK kv ks vv), _, w, fun Q hQ => ⟨_, pset_dict hu, a, _, rfl, .inl (.inr ⟨kv, ks, b, r, rfl, hb, hl' ll, rfl⟩), hQ⟩, hm, a, rfl, n1, n2, .inr ⟨_, upd_same, putK_ne, p1, p2.mono (fun _ h => h) (Stay.updL (B := B) n1 hm)⟩⟩
    | _ => cases hk
  | _ => exact w.elim
theorem own_c {F0 F : Addr → Prop} {H0 H : Hp} {ρ : Ev} {σ : L2.St} (R : Rel S F0 H0 F ρ σ H) (hk : S.kd i = .ow) {α : Type} {P : D → Tr α} {Q : α → Prop} (w : ((ownC i ρ).bind P).wp Q) :
    ∃ a c, ρ[i]? = some (some c) ∧ σ[i]? = some (some (.ref a)) ∧ mutD c = true ∧ ¬ F a ∧ S.B.nS a ∧ OwnV S.B F H (.ref a) c ∧ (P c).wp Q := by
  unfold ownC at w
  cases q : ρ[i]? with
  | none => rw [q] at w; exact w.elim
  | some o =>
    cases o with
    | none => rw [q] at w; exact w.elim
    | some d =>
      rw [q] at w
      obtain ⟨v, h1, h2⟩ := R.slot i _ q
      rw [hk] at h2
      cases d with
      | list xs => obtain ⟨a, vs, rfl, n1, n2, r⟩ := id h2; exact ⟨a, _, rfl, h1, rfl, n1, n2, h2, w⟩
      | dict xs => obtain ⟨a, rfl, n1, n2, r⟩ := id h2; exact ⟨a, _, rfl, h1, rfl, n1, n2, h2, w⟩
      | _ => exact w.elim
theorem sj_setI (hk : S.kd i = .ow) (hN : N[i]? = some x) (hv : sc.lookup x = some .local ∨ sc.lookup x = some .cell ∨ sc.lookup x = some .free) (hd : (x == ("__debug__" : Str)) = false) (hcd : (x == ("__classdict__" : Str)) = false)
    (he : EJ S k N sc e .frz fe) (hj : EJ S k N sc j m fj) (ha : ∀ (env : Env) v, assign (.Subscript (.Name x pos) j tpos) env v = (do let ov ← holding [v] (eval (.Name x pos) env); let iv ← holding [v, ov] (eval j env); standAt tpos; holding [v, ov, iv] (setItem ov iv v); release [v, ov, iv] []))
    (hs : ∀ env : Env, swapsWithSole [.Subscript (.Name x pos) j tpos] e pos'.line env = pure false) (hw : ∀ env : Env, swappedStores [.Subscript (.Name x pos) j tpos] e env = pure none) (h1 : ∀ env : Env, (assignEach [.Subscript (.Name x pos) j tpos] env).map (·.2) = [assign (.Subscript (.Name x pos) j tpos) env]) :
    SJ S k N sc ret (.Assign [.Subscript (.Name x pos) j tpos] e pos') (sSetI i fj fe) := fun X c F0 H0 F ρ σ H R D w => by
  refine .of (ps_asg pe_r (pg_sub (pe_var (i := i) (by rw [c.hN]; exact hN) (by unfold Vis; rw [c.sc]; exact hv) hd hcd) pe_r pset_r (ha _)) (hs _) (hw _) (h1 _)) ?_
  refine he X c F0 H0 F ρ σ H R _ (Tr.wp_mono (fun d hd' => ?_) (Tr.wp_bind.mp w))
  intro F1 v H1 l1 q1
  have R1 := R.mono l1
  obtain ⟨a, cc, g1, g2, g3, n1, n2, oc, w1⟩ := own_c R1 hk hd'
  refine ⟨.ref a, g2, ?_⟩
  refine hj X c F0 H0 F1 ρ σ H1 R1 _ (Tr.wp_mono (fun jd hjd => ?_) (Tr.wp_bind.mp w1))
  intro F2 vj H2 l2 q2
  have hu := c.hu
  have oc2 := l2.own oc
  obtain ⟨o, c', w2, put, hm, oc3⟩ := set_ok (X := X) (by omega) l2.wf' oc2 (Res.bor l2.wf' q2) (l2.has q1) (Tr.wp_bind.mp hjd)
  have nF2 : ¬ F2 a := by
    cases cc with
    | list _ => obtain ⟨b, _, e, n, _⟩ := oc2; cases e; exact n
    | dict _ => obtain ⟨b, e, n, _⟩ := oc2; cases e; exact n
    | _ => cases g3
  obtain ⟨R3, st⟩ := (R1.mono l2).change hk g1 g3 g2 nF2 n2 hm oc3
  have l := l1.trans l2
  exact put _ (w2 F2 σ _ l.f (l.stay.trans l.f st) R3)
end

def sMove (i j : Nat) : SF := fun ρ => (vr j ρ).bind fun d => .ret (.nx, (ρ.set j none).set i (some d))
def sRetO (i : Nat) : SF := fun ρ => (vr i ρ).bind fun d => .ret (.rt d, ρ)
section
variable {S : Sx} {k : Nat} {N : List Str} {sc : Names} {ret : Md} {pos pos' npos : Pos} {i j : Nat} {x y : Str}
theorem Rel.forget {F0 F : Addr → Prop} {H0 H : Hp} {ρ : Ev} {σ : L2.St} (R : Rel S F0 H0 F ρ σ H) (j : Nat) : Rel S F0 H0 F (ρ.set j none) σ H := by
  have old : ∀ {l : Nat} {e : D}, (ρ.set j none)[l]? = some (some e) → ρ[l]? = some (some e) := fun {l e} q => by
    rcases get_set q with ⟨_, z, _⟩ | ⟨_, q⟩
    · cases z
    · exact q
  refine ⟨R.base, by rw [List.length_set]; exact R.len, fun l e q => R.slot l e (old q), fun l e a hl q => R.new l e a hl (old q), fun l l' e g a ne h1 h2 q1 q2 => R.apart l l' e g a ne h1 h2 (old q1) (old q2), fun l A L e1 e2 => ?_⟩
  obtain ⟨h1, h2⟩ := R.six l A L e1 e2
  refine ⟨h1, ?_⟩
  by_cases z : l = j
  · subst z
    have hl : l < ρ.length := (List.getElem?_eq_some_iff.mp h2).1
    rw [List.getElem?_set_self hl]
  · rw [List.getElem?_set_ne (Ne.symm z)]; exact h2
theorem Rel.own_frz {F0 F F' : Addr → Prop} {H0 H : Hp} {ρ : Ev} {σ : L2.St} (R : Rel S F0 H0 F ρ σ H) {v : V} {d : D} (f1 : ∀ a, F a → F' a) (f2 : ∀ a, F' a → F a ∨ (mutD d = true ∧ v = .ref a)) (wf : Wf S.B F' H) (h0 : mutD d = true → ∀ a, v = .ref a → H0 a = none)
    (hn : mutD d = true → ∀ a, v = .ref a → ∀ l e, S.kd l ≠ .sh → ρ[l]? = some (some e) → mutD e = true → σ[l]? ≠ some (some (.ref a))) : Rel S F0 H0 F' ρ σ H := by
  refine ⟨⟨fun a h => f1 a (R.base.f a h), R.base.h, fun a h => ?_, R.base.wf, wf⟩, R.len, fun l e q => ?_, R.new, R.apart, R.six⟩
  · rcases f2 a h with h | ⟨m, z⟩
    · exact R.base.n a h
    · exact .inr (h0 m a z)
  · obtain ⟨u, h1, h2⟩ := R.slot l e q
    refine ⟨u, h1, ?_⟩
    have nF : S.kd l ≠ .sh → mutD e = true → ∀ b, u = .ref b → ¬ F b → ¬ F' b := fun hl me b eb nb z => by
      rcases f2 b z with z | ⟨m, z⟩
      · exact nb z
      · exact hn m b z l e hl q me (by rw [h1, eb])
    cases kl : S.kd l with
    | sh => rw [kl] at h2; exact Has.mono f1 .refl h2
    | ow =>
      rw [kl] at h2
      have nF := nF (by rw [kl]; exact fun z => nomatch z)
      cases e with
      | list ds => obtain ⟨b, xs, rfl, n1, n2, r, al⟩ := h2; exact ⟨b, xs, rfl, nF rfl b rfl n1, n2, r, al.mono f1 .refl⟩
      | dict ds => obtain ⟨b, rfl, n1, n2, dv⟩ := h2; exact ⟨b, rfl, nF rfl b rfl n1, n2, dv.mono f1 .refl fun _ h => h⟩
      | none => exact Has.mono f1 .refl h2
      | bool _ => exact Has.mono f1 .refl h2
      | int _ => exact Has.mono f1 .refl h2
      | str _ => exact Has.mono f1 .refl h2
      | tuple _ => exact Has.mono f1 .refl h2
    | lk =>
      rw [kl] at h2
      have nF := nF (by rw [kl]; exact fun z => nomatch z)
      refine ⟨?_, fun a ea me => nF me a ea (h2.2 a ea me)⟩
      have h2 := h2.1
      cases e with
      | list ds => obtain ⟨b, xs, rfl, n2, r, al⟩ := h2; exact ⟨b, xs, rfl, n2, r, al.mono f1 .refl⟩
      | dict ds => obtain ⟨b, rfl, n2, dv⟩ := h2; exact ⟨b, rfl, n2, dv.mono f1 .refl fun _ h => h⟩
      | none => exact Has.mono f1 .refl h2
      | bool _ => exact Has.mono f1 .refl h2
      | int _ => exact Has.mono f1 .refl h2
      | str _ => exact Has.mono f1 .refl h2
      | tuple _ => exact Has.mono f1 .refl h2
theorem wp_vr {i : Nat} {ρ : Ev} {α : Type} {P : D → Tr α} {Q : α → Prop} (w : ((vr i ρ).bind P).wp Q) : ∃ d, ρ[i]? = some (some d) ∧ (P d).wp Q := by
  unfold vr at w
  cases q : ρ[i]? with
  | none => rw [q] at w; exact w.elim
  | some o =>
    cases o with
    | none => rw [q] at w; exact w.elim
    | some d => rw [q] at w; exact ⟨d, rfl, w⟩
/-- x = y, y owned, x shared: frozen -/
theorem sj_moveF (hj : S.kd j = .ow) (hk : S.kd i = .sh) (h6 : S.six ≠ some i) (hN : N[i]? = some x) (hx : sc.lookup x = some .local ∨ sc.lookup x = some .cell) (hfn : sc.lookup (".0" : Str) = none ∨ sc.lookup x = some .local)
    (hNj : N[j]? = some y) (hv : sc.lookup y = some .local ∨ sc.lookup y = some .cell ∨ sc.lookup y = some .free) (hd : (y == ("__debug__" : Str)) = false) (hcd : (y == ("__classdict__" : Str)) = false) :
    SJ S k N sc ret (.Assign [.Name x pos'] (.Name y npos) pos) (sMove i j) := fun X c F0 H0 F ρ σ H R D w => by
  obtain ⟨d, q, w⟩ := wp_vr w
  obtain ⟨v, h1, h2⟩ := R.slot j d q
  rw [hj] at h2
  refine .of (ps_set (i := i) c.nd (by rw [c.hN]; exact hN) (by unfold L2.Loc; rw [c.sc]; exact hx) (pe_var (i := j) (by rw [c.hN]; exact hNj) (by unfold Vis; rw [c.sc]; exact hv) hd hcd) rfl (by rw [c.sc]; exact hfn.imp (fun z => c.fn z x) id)) ⟨v, h1, ?_⟩
  obtain ⟨F', f1, f2, wf, hh⟩ := OwnV.freeze R.wf h2
  have R1 := R.forget j
  have R2 := R1.own_frz f1 f2 wf (fun m a e => R.new j d a hj q m (by rw [h1, e])) (fun m a e l g hl ql mg z => by
    rcases get_set ql with ⟨_, z', _⟩ | ⟨ne, ql⟩
    · cases z'
    · exact R.apart l j g d a ne hl (by rw [hj]; exact fun z => nomatch z) ql q mg m z (by rw [h1, e]))
  exact w F' _ H f1 .refl (R2.set hk h6 hh)
/-- x = y, both owned -/
theorem sj_moveO (hj : S.kd j = .ow) (hk : S.kd i = .ow) (hij : i ≠ j) (h6 : S.six ≠ some i) (hN : N[i]? = some x) (hx : sc.lookup x = some .local ∨ sc.lookup x = some .cell) (hfn : sc.lookup (".0" : Str) = none ∨ sc.lookup x = some .local)
    (hNj : N[j]? = some y) (hv : sc.lookup y = some .local ∨ sc.lookup y = some .cell ∨ sc.lookup y = some .free) (hd : (y == ("__debug__" : Str)) = false) (hcd : (y == ("__classdict__" : Str)) = false) :
    SJ S k N sc ret (.Assign [.Name x pos'] (.Name y npos) pos) (sMove i j) := fun X c F0 H0 F ρ σ H R D w => by
  obtain ⟨d, q, w⟩ := wp_vr w
  obtain ⟨v, h1, h2⟩ := R.slot j d q
  rw [hj] at h2
  refine .of (ps_set (i := i) c.nd (by rw [c.hN]; exact hN) (by unfold L2.Loc; rw [c.sc]; exact hx) (pe_var (i := j) (by rw [c.hN]; exact hNj) (by unfold Vis; rw [c.sc]; exact hv) hd hcd) rfl (by rw [c.sc]; exact hfn.imp (fun z => c.fn z x) id)) ⟨v, h1, ?_⟩
  have R1 := R.forget j
  refine w F _ H (fun _ h => h) .refl (R1.setOw hk h6 h2 fun m a e => ⟨R.new j d a hj q m (by rw [h1, e]), fun l g ne hl ql mg z => ?_⟩)
  rcases get_set ql with ⟨_, z', _⟩ | ⟨ne', ql⟩
  · cases z'
  · exact R.apart l j g d a ne' hl (by rw [hj]; exact fun z => nomatch z) ql q mg m z (by rw [h1, e])
/-- return y, y owned -/
theorem sj_retO (hj : S.kd j = .ow) (hret : ret ≠ .bor) (hNj : N[j]? = some y) (hv : sc.lookup y = some .local ∨ sc.lookup y = some .cell ∨ sc.lookup y = some .free) (hd : (y == ("__debug__" : Str)) = false) (hcd : (y == ("__classdict__" : Str)) = false) :
    SJ S k N sc ret (.Return (some (.Name y npos)) pos) (sRetO j) := fun X c F0 H0 F ρ σ H R D w => by
  obtain ⟨d, q, w⟩ := wp_vr w
  obtain ⟨v, h1, h2⟩ := R.slot j d q
  rw [hj] at h2
  refine .of (ps_ret (pe_var (i := j) (by rw [c.hN]; exact hNj) (by unfold Vis; rw [c.sc]; exact hv) hd hcd)) ⟨v, h1, ?_⟩
  cases ret with
  | bor => exact absurd rfl hret
  | own => exact w F v H (fun _ h => h) .refl R.base ⟨h2, fun m a e => R.new j d a hj q m (by rw [h1, e])⟩
  | frz =>
    obtain ⟨F', f1, f2, wf, hh⟩ := OwnV.freeze R.wf h2
    refine w F' v H f1 .refl ⟨fun a h => f1 a (R.base.f a h), R.base.h, fun a h => ?_, R.base.wf, wf⟩ hh
    rcases f2 a h with h | ⟨m, z⟩
    · exact R.base.n a h
    · exact .inr (R.new j d a hj q m (by rw [h1, z]))
end
end Pv

namespace Pv
open PySem PySem.Spec PyProof.Rows L2

theorem sw2 {env : Env} {x y : Str} {px py pt : Pos} {kt k2 : Nat} {a b : Expr} {pt2 : Pos} (h : (foldedForSure 8 a && foldedForSure 8 b) = true ∨ (constantsAlone 8 a && constantsAlone 8 b) = false) :
    swappedStores [.Tuple [.Name x px, .Name y py] kt pt] (.Tuple [a, b] k2 pt2) env = pure none ∨ (swappedStores [.Tuple [.Name x px, .Name y py] kt pt] (.Tuple [a, b] k2 pt2) env = pure (some [x, y]) ∧ env.kindOf x = some .local ∧ env.kindOf y = some .local) := by
  have e1 : (foldedForSure 8 a && foldedForSure 8 b) = [a, b].all (foldedForSure 8) := by simp
  have e2 : (constantsAlone 8 a && constantsAlone 8 b) = [a, b].all (constantsAlone 8) := by simp
  rw [e1, e2] at h
  unfold swappedStores
  simp only [List.filterMap_cons, List.filterMap_nil, List.head?_cons, Option.map_some, Option.getD_some]
  split
  · exact .inl rfl
  split
  · exact .inl rfl
  by_cases hx : (env.kindOf x == some NameKind.local && px.line == (Expr.Name x px).pos.line) = true
  · by_cases hy : (env.kindOf y == some NameKind.local && py.line == (Expr.Name x px).pos.line) = true
    · simp only [hx, hy, if_true]
      split
      · exact .inl rfl
      split
      · exact .inl rfl
      split
      · rename_i h1 h2
        rcases h with h | h
        · exact absurd h h1
        · rw [h] at h2; cases h2
      · simp only [Bool.and_eq_true, beq_iff_eq] at hx hy
        exact .inr ⟨rfl, hx.1, hy.1⟩
    · simp only [hx, hy, if_true, if_false]
      exact .inl rfl
  · by_cases hy : (env.kindOf y == some NameKind.local && py.line == (Expr.Name x px).pos.line) = true
    · simp only [hx, hy, if_true, if_false]
      exact .inl rfl
    · simp only [hx, hy, if_false]
      exact .inl rfl
theorem sw3 {env : Env} {x y z : Str} {px py pz pt : Pos} {kt k2 : Nat} {a b c : Expr} {pt2 : Pos} (h : (foldedForSure 8 a && foldedForSure 8 b && foldedForSure 8 c) = true ∨ (constantsAlone 8 a && constantsAlone 8 b && constantsAlone 8 c) = false) :
    swappedStores [.Tuple [.Name x px, .Name y py, .Name z pz] kt pt] (.Tuple [a, b, c] k2 pt2) env = pure none ∨ (swappedStores [.Tuple [.Name x px, .Name y py, .Name z pz] kt pt] (.Tuple [a, b, c] k2 pt2) env = pure (some [x, y, z]) ∧ env.kindOf x = some .local ∧ env.kindOf y = some .local ∧ env.kindOf z = some .local) := by
  have e1 : (foldedForSure 8 a && foldedForSure 8 b && foldedForSure 8 c) = [a, b, c].all (foldedForSure 8) := by simp [Bool.and_assoc]
  have e2 : (constantsAlone 8 a && constantsAlone 8 b && constantsAlone 8 c) = [a, b, c].all (constantsAlone 8) := by simp [Bool.and_assoc]
  rw [e1, e2] at h
  unfold swappedStores
  simp only [List.filterMap_cons, List.filterMap_nil, List.head?_cons, Option.map_some, Option.getD_some]
  split
  · exact .inl rfl
  split
  · exact .inl rfl
  by_cases hx : (env.kindOf x == some NameKind.local && px.line == (Expr.Name x px).pos.line) = true
  all_goals by_cases hy : (env.kindOf y == some NameKind.local && py.line == (Expr.Name x px).pos.line) = true
  all_goals by_cases hz : (env.kindOf z == some NameKind.local && pz.line == (Expr.Name x px).pos.line) = true
  all_goals simp only [hx, hy, hz, if_true, if_false]
  all_goals try exact .inl rfl
  split
  · exact .inl rfl
  split
  · exact .inl rfl
  split
  · rename_i h1 h2
    rcases h with h | h
    · exact absurd h h1
    · rw [h] at h2; cases h2
  · simp only [Bool.and_eq_true, beq_iff_eq] at hx hy hz
    exact .inr ⟨rfl, hx.1, hy.1, hz.1⟩
theorem sw4 {env : Env} {ts vs : List Expr} {kt k2 : Nat} {pt pt2 : Pos} (h : 4 ≤ ts.length) : swappedStores [.Tuple ts kt pt] (.Tuple vs k2 pt2) env = pure none := by
  unfold swappedStores
  have : (!(ts.length == 2 || ts.length == 3)) = true := by
    have h2 : (ts.length == 2) = false := by simp; omega
    have h3 : (ts.length == 3) = false := by simp; omega
    rw [h2, h3]; rfl
  simp only [this, Bool.true_or, if_true]

/-- one of the owned lists or dicts among values -/
def OwnIn : List Md → List V → List D → Addr → Prop
  | .own :: ms, v :: vs, d :: ds, a => (mutD d = true ∧ v = .ref a) ∨ OwnIn ms vs ds a
  | _ :: ms, _ :: vs, _ :: ds, a => OwnIn ms vs ds a
  | _, _, _, _ => False
/-- values of several modes; the owned ones apart -/
def ResL (B : Bx) (H : Hp) (F' : Addr → Prop) (H' : Hp) : List Md → List V → List D → Prop
  | [], [], [] => True
  | m :: ms, v :: vs, d :: ds => Res B m H F' H' v d ∧ (m = .own → mutD d = true → ∀ a, v = .ref a → ¬ OwnIn ms vs ds a) ∧ ResL B H F' H' ms vs ds
  | _, _, _ => False
def PP1 (B : Bx) (ms : List Md) (F : Addr → Prop) (H : Hp) (Q : List V → Hp → Prop) (ds : List D) : Prop := ∀ F' vs H', Le B F H F' H' → ResL B H F' H' ms vs ds → Q vs H'
def PJ (S : Sx) (k : Nat) (N : List Str) (sc : Names) (es : List Expr) (ms : List Md) (f : AF) : Prop :=
  ∀ X, Ctx S k N sc X → ∀ F0 H0 F ρ σ H, Rel S F0 H0 F ρ σ H → ∀ Q : List V → Hp → Prop, (f ρ).wp (PP1 S.B ms F H Q) → rA X es σ H Q
def setAll {α : Type} : List Nat → List α → List (Option α) → List (Option α)
  | i :: is, d :: ds, ρ => setAll is ds (ρ.set i (some d))
  | _, _, ρ => ρ
/-- a, b, .. = e1, e2, .. -/
def sPar (is : List Nat) (f : AF) : SF := fun ρ => (f ρ).bind fun ds => .ret (.nx, setAll is ds ρ)

section
variable {S : Sx} {k : Nat} {N : List Str} {sc : Names} {ret : Md} {e : Expr} {es : List Expr} {fe : EF} {g : AF} {m : Md} {ms : List Md} {pos : Pos}
theorem OwnIn.fresh {B : Bx} {H F' H'} : ∀ {ms : List Md} {vs : List V} {ds : List D} {a : Addr}, ResL B H F' H' ms vs ds → OwnIn ms vs ds a → H a = none
  | .own :: ms, v :: vs, d :: ds, a, r, o => by
    rcases o with ⟨m, e⟩ | o
    · exact r.1.2 m a e
    · exact OwnIn.fresh r.2.2 o
  | .frz :: ms, v :: vs, d :: ds, a, r, o => OwnIn.fresh r.2.2 o
  | .bor :: ms, v :: vs, d :: ds, a, r, o => OwnIn.fresh r.2.2 o
  | [], _, _, _, _, o => by simp [OwnIn] at o
  | .own :: _, [], _, _, _, o => by simp [OwnIn] at o
  | .frz :: _, [], _, _, _, o => by simp [OwnIn] at o
  | .bor :: _, [], _, _, _, o => by simp [OwnIn] at o
  | .own :: _, _ :: _, [], _, _, o => by simp [OwnIn] at o
  | .frz :: _, _ :: _, [], _, _, o => by simp [OwnIn] at o
  | .bor :: _, _ :: _, [], _, _, o => by simp [OwnIn] at o
theorem ResL.len {B : Bx} {H F' H'} : ∀ {ms : List Md} {vs : List V} {ds : List D}, ResL B H F' H' ms vs ds → vs.length = ms.length ∧ ds.length = ms.length
  | [], [], [], _ => ⟨rfl, rfl⟩
  | m :: ms, v :: vs, d :: ds, r => by
    obtain ⟨h1, h2⟩ := ResL.len r.2.2
    simp only [List.length_cons, h1, h2, and_self]
  | [], _ :: _, _, r => r.elim
  | [], [], _ :: _, r => r.elim
  | _ :: _, [], _, r => r.elim
  | _ :: _, _ :: _, [], r => r.elim
theorem Res.start {B : Bx} {H H1 F' H'} {v : V} {d : D} (h : ∀ a, H1 a = none → H a = none) (r : Res B m H1 F' H' v d) : Res B m H F' H' v d := by
  cases m with
  | bor => exact r
  | frz => exact r
  | own => exact ⟨r.1, fun m a e => h a (r.2 m a e)⟩
theorem ResL.start {B : Bx} {H H1 F' H'} (h : ∀ a, H1 a = none → H a = none) : ∀ {ms : List Md} {vs : List V} {ds : List D}, ResL B H1 F' H' ms vs ds → ResL B H F' H' ms vs ds
  | [], [], [], _ => trivial
  | m :: ms, v :: vs, d :: ds, r => ⟨Res.start h r.1, r.2.1, ResL.start h r.2.2⟩
  | [], _ :: _, _, r => r.elim
  | [], [], _ :: _, r => r.elim
  | _ :: _, [], _, r => r.elim
  | _ :: _, _ :: _, [], r => r.elim
theorem pj_nil : PJ S k N sc [] [] aNil := fun X c F0 H0 F ρ σ H R Q w => .of pa_nil (w F [] H (.refl R.wf) trivial)
theorem pj_cons (ha : EJ S k N sc e m fe) (hr : PJ S k N sc es ms g) (hs : ∀ (env : Env), starEach (e :: es) env = (false, eval e env) :: starEach es env) : PJ S k N sc (e :: es) (m :: ms) (aCons fe g) := fun X c F0 H0 F ρ σ H R Q w =>
  .of (pa_cons pe_r pa_r (hs _)) (ha X c F0 H0 F ρ σ H R _ (Tr.wp_mono (fun d hd F1 v H1 l1 q1 =>
    hr X c F0 H0 F1 ρ σ H1 (R.mono l1) _ (Tr.wp_mono (fun ds hds F2 vs H2 l2 q2 => hds F2 (v :: vs) H2 (l1.trans l2) ⟨Res.mono l2 q1, fun em md a ea o => by
      subst em
      exact (OwnV.bor q1.1).taken md ea (OwnIn.fresh q2 o), q2.start fun a => l1.none⟩) (Tr.wp_bind.mp hd))) (Tr.wp_bind.mp w)))
/-- the slots fit the modes -/
def KdOk (S : Sx) : List Nat → List Md → Prop
  | [], [] => True
  | i :: is, .frz :: ms => S.kd i = .sh ∧ S.six ≠ some i ∧ KdOk S is ms
  | i :: is, .own :: ms => S.kd i = .ow ∧ S.six ≠ some i ∧ KdOk S is ms
  | _, _ => False
theorem Rel.setAll {F0 F : Addr → Prop} {H0 H Hs : Hp} : ∀ {is : List Nat} {ms : List Md} {vs : List V} {ds : List D} {ρ : Ev} {σ : L2.St}, Rel S F0 H0 F ρ σ H → KdOk S is ms → ResL S.B Hs F H ms vs ds →
    (∀ a, OwnIn ms vs ds a → H0 a = none ∧ ∀ j e, S.kd j ≠ .sh → ρ[j]? = some (some e) → mutD e = true → σ[j]? ≠ some (some (.ref a))) → Rel S F0 H0 F (setAll is ds ρ) (setAll is vs σ) H
  | [], [], [], [], ρ, σ, R, _, _, _ => R
  | i :: is, .frz :: ms, v :: vs, d :: ds, ρ, σ, R, hk, r, av => by
    show Rel S F0 H0 F (Pv.setAll is ds (ρ.set i (some d))) (Pv.setAll is vs (σ.set i (some v))) H
    refine Rel.setAll (R.set hk.1 hk.2.1 r.1) hk.2.2 r.2.2 fun a o => ⟨(av a o).1, fun j e hj q me z => ?_⟩
    rcases get_set q with ⟨rfl, _, _⟩ | ⟨ne, q⟩
    · exact hj hk.1
    · rw [List.getElem?_set_ne (Ne.symm ne)] at z
      exact (av a o).2 j e hj q me z
  | i :: is, .own :: ms, v :: vs, d :: ds, ρ, σ, R, hk, r, av => by
    show Rel S F0 H0 F (Pv.setAll is ds (ρ.set i (some d))) (Pv.setAll is vs (σ.set i (some v))) H
    refine Rel.setAll (R.setOw hk.1 hk.2.1 r.1.1 fun m a e => ⟨(av a (.inl ⟨m, e⟩)).1, fun j e' ne hj q me => (av a (.inl ⟨m, e⟩)).2 j e' hj q me⟩) hk.2.2 r.2.2 fun a o => ⟨(av a (.inr o)).1, fun j e hj q me z => ?_⟩
    rcases get_set q with ⟨rfl, ee, hl⟩ | ⟨ne, q⟩
    · cases ee
      rw [List.getElem?_set_self (by rw [R.len]; exact hl)] at z
      exact r.2.1 rfl me a (Option.some.inj (Option.some.inj z)) o
    · rw [List.getElem?_set_ne (Ne.symm ne)] at z
      exact (av a (.inr o)).2 j e hj q me z
  | [], [], _ :: _, _, _, _, _, _, r, _ => r.elim
  | [], [], [], _ :: _, _, _, _, _, r, _ => r.elim
  | _ :: _, _ :: _, [], _, _, _, _, _, r, _ => r.elim
  | _ :: _, _ :: _, _ :: _, [], _, _, _, _, r, _ => r.elim
  | [], _ :: _, _, _, _, _, _, hk, _, _ => hk.elim
  | _ :: _, [], _, _, _, _, _, hk, _, _ => hk.elim
  | _ :: _, .bor :: _, _, _, _, _, _, hk, _, _ => hk.elim
theorem par_av {F0 F F1 : Addr → Prop} {H0 H H1 : Hp} {ρ : Ev} {σ : L2.St} (R : Rel S F0 H0 F ρ σ H) {vs : List V} {ds : List D} (r : ResL S.B H F1 H1 ms vs ds) : ∀ a, OwnIn ms vs ds a → H0 a = none ∧ ∀ j e, S.kd j ≠ .sh → ρ[j]? = some (some e) → mutD e = true → σ[j]? ≠ some (some (.ref a)) := fun a o => by
  have hn := OwnIn.fresh r o
  refine ⟨R.base.none hn, fun j e hj q me z => ?_⟩
  obtain ⟨u, h1, h2⟩ := R.slot j e q
  rw [z] at h1
  cases h1
  exact h2.taken R.wf me rfl hn
/-- the names as targets, one after another -/
def nameTs : List Str → List Pos → List Expr
  | x :: xs, p :: ps => .Name x p :: nameTs xs ps
  | _, _ => []
def StoreOk (S : Sx) (N : List Str) (sc : Names) (fnOk : Prop) : List Nat → List Str → Prop
  | [], [] => True
  | i :: is, x :: xs => N[i]? = some x ∧ (sc.lookup x = some .local ∨ (sc.lookup x = some .cell ∧ fnOk)) ∧ StoreOk S N sc fnOk is xs
  | _, _ => False
def gsAll : List Nat → TGs
  | [] => gNil
  | i :: is => gCons (gName i) (gsAll is)
theorem pgs_names {X : Cx} (c : Ctx S k N sc X) {fnOk : Prop} (hf : fnOk → ∀ x, X.fn x = true) : ∀ {is : List Nat} {xs : List Str} {ps : List Pos}, StoreOk S N sc fnOk is xs → xs.length = ps.length → PGs X (nameTs xs ps) (gsAll is)
  | [], [], ps, _, _ => by
    have : nameTs [] ps = [] := by cases ps <;> rfl
    rw [this]; exact pgs_nil
  | i :: is, x :: xs, p :: ps, h, hl => by
    refine pgs_cons (pg_name (i := i) c.nd (by rw [c.hN]; exact h.1) ?_ ?_) (pgs_names c hf h.2.2 (by simpa using hl)) rfl
    · unfold L2.Loc; rw [c.sc]; exact h.2.1.imp id (·.1)
    · rw [c.sc]; exact h.2.1.elim .inr fun z => .inl (hf z.2 x)
  | _ :: _, _ :: _, [], _, hl => by simp at hl
  | [], _ :: _, _, h, _ => h.elim
  | _ :: _, [], _, h, _ => h.elim
theorem gsAll_ok {H : Hp} {Q : L2.St → Hp → Prop} : ∀ {is : List Nat} {vs : List V} {σ : L2.St}, is.length = vs.length → Q (setAll is vs σ) H → gsAll is vs σ H Q
  | [], [], σ, _, q => ⟨rfl, q⟩
  | i :: is, v :: vs, σ, hl, q => ⟨v, vs, rfl, gsAll_ok (is := is) (vs := vs) (by simpa using hl) q⟩
  | [], _ :: _, _, hl, _ => by simp at hl
  | _ :: _, [], _, hl, _ => by simp at hl
theorem KdOk.len : ∀ {is : List Nat} {ms : List Md}, KdOk S is ms → is.length = ms.length
  | [], [], _ => rfl
  | i :: is, .frz :: ms, h => by rw [List.length_cons, List.length_cons, KdOk.len h.2.2]
  | i :: is, .own :: ms, h => by rw [List.length_cons, List.length_cons, KdOk.len h.2.2]
  | [], _ :: _, h => h.elim
  | _ :: _, [], h => h.elim
  | _ :: _, .bor :: _, h => h.elim
/-- the general road: the tuple is made and taken apart -/
theorem par_none {X : Cx} (c : Ctx S k N sc X) {fnOk : Prop} (hf : fnOk → ∀ x, X.fn x = true) {is : List Nat} {xs : List Str} {ps : List Pos} {kt k2 : Nat} {pt pt2 : Pos} (hkd : KdOk S is ms) (hst : StoreOk S N sc fnOk is xs) (hxl : xs.length = ps.length) (hil : is.length = xs.length)
    (hp : PJ S k N sc es ms g) (hz : ms.length ≤ lim) (hw : swappedStores [.Tuple (nameTs xs ps) kt pt] (.Tuple es k2 pt2) X.env = pure none) {F0 F : Addr → Prop} {H0 H : Hp} {ρ : Ev} {σ : L2.St} (R : Rel S F0 H0 F ρ σ H) {D : Ends} (w : (sPar is g ρ).wp (SP1 S ret F0 H0 F H D)) :
    rS X (.Assign [.Tuple (nameTs xs ps) kt pt] (.Tuple es k2 pt2) pos) D σ H := by
  have hn : ∀ (xs : List Str) (ps : List Pos), xs.length = ps.length → (assignEach (nameTs xs ps) X.env).length = xs.length ∧ (assignEach (nameTs xs ps) X.env).findIdx? (·.1) = none := by
    intro xs
    induction xs with
    | nil => intro ps h; cases ps with
      | nil => exact ⟨rfl, rfl⟩
      | cons _ _ => simp at h
    | cons x xs ih => intro ps h; cases ps with
      | nil => simp at h
      | cons p ps =>
        obtain ⟨h1, h2⟩ := ih ps (by simpa using h)
        refine ⟨?_, ?_⟩
        · show (assignEach (nameTs xs ps) X.env).length + 1 = xs.length + 1
          rw [h1]
        · show ((false, assign (.Name x p) X.env) :: assignEach (nameTs xs ps) X.env).findIdx? (·.1) = none
          rw [List.findIdx?_cons, h2]; rfl
  obtain ⟨h1, h2⟩ := hn xs ps hxl
  refine .of (ps_asg (pe_tup pa_r) (pg_tup c.calm (pgs_names c hf hst hxl) h1 h2) rfl hw rfl) ?_
  refine hp X c F0 H0 F ρ σ H R _ (Tr.wp_mono (fun ds hds F1 vs H1 l1 q1 => ?_) (Tr.wp_bind.mp w))
  obtain ⟨e1, e2⟩ := q1.len
  refine ⟨by rw [e1, ← lim_eq]; exact hz, fun p hp' => ⟨p, vs, rfl, SqT.of upd_same, by rw [e1, ← hil, hkd.len], gsAll_ok (by rw [e1, hkd.len]) ?_⟩⟩
  have l2 := Le.lay (o := .tup vs) l1.wf' hp'
  have l := l1.trans l2
  have q2 : ResL S.B H F1 (upd H1 p (.tup vs)) ms vs ds := by
    have : ∀ {ms : List Md} {us : List V} {ds : List PyData}, ResL S.B H F1 H1 ms us ds → ResL S.B H F1 (upd H1 p (.tup vs)) ms us ds := by
      intro ms
      induction ms with
      | nil => intro us ds r; cases us <;> cases ds <;> first | trivial | exact r.elim
      | cons m ms ih => intro us ds r; cases us with
        | nil => exact r.elim
        | cons u us => cases ds with
          | nil => exact r.elim
          | cons d ds => exact ⟨Res.mono l2 r.1, r.2.1, ih r.2.2⟩
    exact this q1
  exact hds F1 _ _ l.f l.stay ((R.mono l).setAll hkd q2 (par_av R q1))
theorem sj_par4 {is : List Nat} {xs : List Str} {ps : List Pos} {kt k2 : Nat} {pt pt2 : Pos} {fnOk : Prop} (hfn : ∀ X, Ctx S k N sc X → fnOk → ∀ x, X.fn x = true) (hkd : KdOk S is ms) (hst : StoreOk S N sc fnOk is xs) (hxl : xs.length = ps.length) (hil : is.length = xs.length) (h4 : 4 ≤ (nameTs xs ps).length) (hz : ms.length ≤ lim)
    (hp : PJ S k N sc es ms g) : SJ S k N sc ret (.Assign [.Tuple (nameTs xs ps) kt pt] (.Tuple es k2 pt2) pos) (sPar is g) := fun X c F0 H0 F ρ σ H R D w =>
  par_none c (hfn X c) hkd hst hxl hil hp hz (sw4 h4) R w
theorem sj_par2 {i j : Nat} {x y : Str} {px py : Pos} {a b : Expr} {m1 m2 : Md} {kt k2 : Nat} {pt pt2 : Pos} {fnOk : Prop} (hfn : ∀ X, Ctx S k N sc X → fnOk → ∀ x, X.fn x = true) (hkd : KdOk S [i, j] [m1, m2]) (hst : StoreOk S N sc fnOk [i, j] [x, y]) (hij : i ≠ j)
    (hc : (foldedForSure 8 a && foldedForSure 8 b) = true ∨ (constantsAlone 8 a && constantsAlone 8 b) = false) (hp : PJ S k N sc [a, b] [m1, m2] g) : SJ S k N sc ret (.Assign [.Tuple [.Name x px, .Name y py] kt pt] (.Tuple [a, b] k2 pt2) pos) (sPar [i, j] g) := fun X c F0 H0 F ρ σ H R D w => by
  rcases sw2 (env := X.env) (x := x) (y := y) (px := px) (py := py) (pt := pt) (kt := kt) (k2 := k2) (pt2 := pt2) hc with hw | ⟨hw, kx, ky⟩
  · exact par_none (xs := [x, y]) (ps := [px, py]) c (hfn X c) hkd hst rfl rfl hp (show 2 ≤ lim by decide) hw R w
  · refine .of (ps_par (i := i) (j := j) c.calm c.nd (by rw [c.hN]; exact hst.1) (by rw [c.hN]; exact hst.2.2.1) hij kx ky pa_r hw rfl) ?_
    refine hp X c F0 H0 F ρ σ H R _ (Tr.wp_mono (fun ds hds F1 vs H1 l1 q1 => ?_) (Tr.wp_bind.mp w))
    have R2 := (R.mono l1).setAll hkd q1 (par_av R q1)
    obtain ⟨e1, _⟩ := q1.len
    match vs, e1, R2 with
    | [u, v], _, R2 => exact ⟨u, v, rfl, hds F1 _ _ l1.f l1.stay R2⟩
theorem sj_par3 {i j l : Nat} {x y z : Str} {px py pz : Pos} {a b d : Expr} {m1 m2 m3 : Md} {kt k2 : Nat} {pt pt2 : Pos} {fnOk : Prop} (hfn : ∀ X, Ctx S k N sc X → fnOk → ∀ x, X.fn x = true) (hkd : KdOk S [i, j, l] [m1, m2, m3]) (hst : StoreOk S N sc fnOk [i, j, l] [x, y, z]) (hij : i ≠ j) (hil : i ≠ l) (hjl : j ≠ l)
    (hc : (foldedForSure 8 a && foldedForSure 8 b && foldedForSure 8 d) = true ∨ (constantsAlone 8 a && constantsAlone 8 b && constantsAlone 8 d) = false) (hp : PJ S k N sc [a, b, d] [m1, m2, m3] g) : SJ S k N sc ret (.Assign [.Tuple [.Name x px, .Name y py, .Name z pz] kt pt] (.Tuple [a, b, d] k2 pt2) pos) (sPar [i, j, l] g) := fun X c F0 H0 F ρ σ H R D w => by
  rcases sw3 (env := X.env) (x := x) (y := y) (z := z) (px := px) (py := py) (pz := pz) (pt := pt) (kt := kt) (k2 := k2) (pt2 := pt2) hc with hw | ⟨hw, kx, ky, kz⟩
  · exact par_none (xs := [x, y, z]) (ps := [px, py, pz]) c (hfn X c) hkd hst rfl rfl hp (show 3 ≤ lim by decide) hw R w
  · refine .of (ps_par3 (i := i) (j := j) (l := l) c.calm c.nd (by rw [c.hN]; exact hst.1) (by rw [c.hN]; exact hst.2.2.1) (by rw [c.hN]; exact hst.2.2.2.2.1) hij hil hjl kx ky kz pa_r hw rfl) ?_
    refine hp X c F0 H0 F ρ σ H R _ (Tr.wp_mono (fun ds hds F1 vs H1 l1 q1 => ?_) (Tr.wp_bind.mp w))
    have R2 := (R.mono l1).setAll hkd q1 (par_av R q1)
    obtain ⟨e1, _⟩ := q1.len
    match vs, e1, R2 with
    | [u, v, u'], _, R2 => exact ⟨u, v, u', rfl, hds F1 _ _ l1.f l1.stay R2⟩
end
end Pv

namespace Pv
open PySem PySem.Spec PyProof.Rows L2

/-- b: a list; else a tuple -/
def hoS (b : Bool) (xs : List V) : HO := if b then .lst xs else .tup xs
def SeqIter (b : Bool) (h : Heap) (it a : Addr) (i : Nat) : Prop := if b then h.IsListIter it a i else h.IsTupleIter it a i
def IsSeq (b : Bool) (h : Heap) (a : Addr) (items : Array Value) : Prop := if b then h.IsList a items else h.IsTuple a items
def itO (b : Bool) (a : Addr) : Obj := if b then { cls := .type "list_iterator", data := .fields #[.ref a, .int 0 0] } else { cls := .type "tuple_iterator", data := .fields #[.ref a, .int 0 0] }
theorem drawsS {prog : Program} {w : World} {A : Around} (hh : A.handled = none) (b : Bool) (it a : Addr) (hne : a ≠ it) (items : Array Value) :
    Draws prog w A it [it, a] items.size (fun i v => items[i]? = some v) (fun i h => SeqIter b h it a i ∧ IsSeq b h a items) := by
  cases b
  · exact Draws.tuple hh it a hne items
  · exact Draws.list hh it a hne items
theorem beginsS (b : Bool) (a : Addr) (items : Array Value) : Begins (.ref a) (itO b a) (fun h => IsSeq b h a items) := by
  cases b
  · exact begins_tuple a items
  · exact begins_list a items
theorem SeqIter.obj {b : Bool} {h : Heap} {it a : Addr} {i : Nat} (x : SeqIter b h it a i) : ∃ o, h.get? it = some o ∧ ∀ v, o.data ≠ .cell v := by
  cases b with
  | false => obtain ⟨o, e, _, d⟩ := (x : h.IsTupleIter it a i); exact ⟨o, e, fun v z => by rw [d] at z; cases z⟩
  | true => obtain ⟨o, e, _, d⟩ := (x : h.IsListIter it a i); exact ⟨o, e, fun v z => by rw [d] at z; cases z⟩
theorem SeqIter.at {b : Bool} {h h' : Heap} {it a : Addr} {i : Nat} (x : SeqIter b h it a i) (k : ∀ o, h.get? it = some o → h'.get? it = some o) : SeqIter b h' it a i := by
  cases b with
  | false => exact Heap.IsTupleIter.at (x : h.IsTupleIter it a i) k
  | true => exact Heap.IsListIter.at (x : h.IsListIter it a i) k
theorem SeqIter.new {b : Bool} {h : Heap} {it a : Addr} (e : h.get? it = some (itO b a)) : SeqIter b h it a 0 := by
  cases b with
  | false => exact ⟨_, e, rfl, rfl⟩
  | true => exact ⟨_, e, rfl, rfl⟩
theorem seq_of {X : Cx} {pins : List (Addr × Obj)} {σ : L2.St} {H : Hp} {s : Shared} {b : Bool} {a : Addr} {xs : List V} (I : Inv X pins σ H s) (h : H a = some (hoS b xs)) : ∃ its : List Value, Vals xs its ∧ IsSeq b s.heap a its.toArray ∧ a < s.heap.objs.size := by
  cases b with
  | false =>
    obtain ⟨its, rv, p, _⟩ := I.tuple (.inl (.inl h))
    obtain ⟨o, ho, _⟩ := id p
    exact ⟨its, rv, p, Heap.lt_size ho⟩
  | true =>
    obtain ⟨its, rv, p, _⟩ := I.list (.inl (.inl h))
    exact ⟨its, rv, p.isList, p.lt⟩
theorem hoS_inj {b : Bool} {xs ys : List V} (h : hoS b xs = hoS b ys) : xs = ys := by
  cases b <;> exact HO.noConfusion h fun z => z

/-- a turn from the kit's walking facts: tuples newly made -/
theorem turn_news {P : Program} {w : World} {K : PySem.W.Frag} {tg : Expr} {J : It} {it : Addr} {ch : List Addr} {tn : Nat → Heap → Prop} (mem : it ∈ ch) (obj : ∀ i h, tn i h → ∀ b ∈ ch, ∃ o, h.get? b = some o ∧ ∀ v, o.data ≠ .cell v)
    (keep : ∀ i h h', tn i h → (∀ b ∈ ch, ∀ o, h.get? b = some o → h'.get? b = some o) → tn i h')
    (go : ∀ (X : Cx), X.prog = P → X.w = w → X.K = K → X.A.handled = none → ∀ (i : Nat) (pins : List (Addr × Obj)) (s : Shared) (σ : L2.St) (H : Hp), Inv X pins σ H s → tn i s.heap → J.go i H ∨ J.stop i H →
      ∃ fp wr n Y St, GoesN P w X.A tg it fp wr n Y St ∧ (∀ b ∈ wr, b ∈ ch) ∧ St i s.heap ∧ (J.go i H → i < n) ∧ (J.stop i H → i = n) ∧
        ∀ v h', Y i s.heap v h' → St (i + 1) h' → ∃ T vals xs, v = .ref T ∧ s.heap.objs.size ≤ T ∧ h'.IsTuple T vals.toArray ∧ Vals xs vals ∧ xs.length ≤ 3 ∧ J.yld i H (.ref T) (upd H T (.tup xs)) ∧ tn (i + 1) h')
    (self : ∀ (A : Around) (i : Nat) (s : Shared) (Q : Value → Shared → Prop) (E : Value → Shared → Prop), tn i s.heap → Q (.ref it) s → wpAny (model P w) A (pyIter (.ref it)) Q E s) : Turn P w K tg J ch it tn where
  mem := mem
  obj := obj
  keep := keep
  item := by
    intro X hP hw hK hc i pins s σ H E I hf st hg
    obtain ⟨fp, wr, n, Y, St, G, hwr, hst, hgo, _, hy⟩ := go X hP hw hK (I.ok.hd hc) i pins s σ H I st (.inl hg)
    have gg := G.goes i s (fun v s2 => ∃ x H', Inv X pins σ H' s2 ∧ RelV x v ∧ J.yld i H x H' ∧ tn (i + 1) s2.heap ∧ ∀ b ∈ ch, H' b = none) E (hgo hg) hst fun v h' tk hY st' hk _ => by
      obtain ⟨T, vals, xs, ev, hT, isT, rv, hl, yl, tn'⟩ := hy v h' hY st'
      subst ev
      have new : ObjOk X.prog X.w (upd H T (.tup xs)) h' T (.tup xs) := ⟨by show xs.length ≤ sizeLine; rw [← lim_eq]; exact Nat.le_trans hl (by decide), vals, rv, isT⟩
      have I1 := I.turnedNew (t' := tk) (ch := ch) (ob := .tup xs) (fun b o hb e => hk b o (fun z => hb (hwr b z)) e) hf hT new
      refine ⟨.ref T, _, I1, rfl, yl, tn', fun b hb => ?_⟩
      obtain ⟨o, e, _⟩ := obj i s.heap st b hb
      have hlt := Heap.lt_size e
      rw [upd_ne (Nat.ne_of_lt (Nat.lt_of_lt_of_le hlt hT))]
      exact (hf b hb).1
    refine wpAny_mono gg (fun r s1 ⟨v, er, hq⟩ => ⟨v, er, hq⟩) fun _ _ z => z
  done := by
    intro X hP hw hK hc i pins s σ H E I hf st hg
    obtain ⟨fp, wr, n, Y, St, G, hwr, hst, _, hstop, _⟩ := go X hP hw hK (I.ok.hd hc) i pins s σ H I st (.inr hg)
    have e := hstop hg
    subst e
    exact G.stops s (fun s1 => Inv X pins σ H s1) E hst fun h' tk hk _ => I.turnedL (t' := tk) (ch := ch) (fun b o hb e => hk b o (fun z => hb (hwr b z)) e) hf
  self := self
end Pv

namespace Pv
open PySem PySem.Spec PyProof.Rows L2

set_option maxHeartbeats 1000000 in
theorem meets_enum1 {v : Value} {o : Obj} {H : Heap → Prop} (B : Begins v o H) :
    Meets (Builtin.«enumerate.__new__» ⟨[.type "enumerate", v], []⟩) (fun _ R s => H s.heap ∧
      R (.ok (.ret (.ref (s.heap.push o).objs.size))) { s with heap := (s.heap.push o).push { cls := .type "enumerate", data := .fields #[.none, .bool false, .ref s.heap.objs.size, rawInt 0, .none, .none] } }) :=
  .of_wp fun prog w A R s h => by
    obtain ⟨hp, g, d, tk, os⟩ := s
    obtain ⟨ha, hb⟩ := h
    have hs := sub_enumerate
    have it1 : ∀ {A' : Around} {E : Value → Shared → Prop} {Q : Value → Shared → Prop}, Q (.ref hp.objs.size) ⟨hp.push o, g, d, tk, os⟩ → wpAny (model prog w) A' (pyIter v) Q E ⟨hp, g, d, tk, os⟩ :=
      fun z => B.iter prog w _ _ ⟨hp, g, d, tk, os⟩ _ ha z
    wp_walk using it1
    all_goals first
      | exact ⟨_, rfl, hb⟩
      | (refine wpAny_stack_any fun st => wpAny_pure ?_
         split <;> first
           | (rename_i c _ _ _ _ _
              cases (c == Value.type "enumerate") <;> (wp_walk using it1; exact ⟨_, rfl, hb⟩))
           | (wp_walk using it1; exact ⟨_, rfl, hb⟩))

theorem call_enum1 {prog : Program} {w : World} {A : Around} {E : Value → Shared → Prop} {s : Shared} {v : Value} {o : Obj} {H : Heap → Prop} {Q : Value → Shared → Prop} (B : Begins v o H) (h1 : H s.heap)
    (h : ∀ h', IsEnum h' (s.heap.objs.size + 1) s.heap.objs.size 0 .none → h'.get? s.heap.objs.size = some o → (∀ b o, s.heap.get? b = some o → h'.get? b = some o) → Q (.ref (s.heap.objs.size + 1)) { s with heap := h' }) :
    wpAny (model prog w) A (call (.type "enumerate") [v]) Q E s := by
  have two : (s.heap.push o).objs.size = s.heap.objs.size + 1 := by rw [Heap.size_push]
  have isE : IsEnum ((s.heap.push o).push { cls := .type "enumerate", data := .fields #[.none, .bool false, .ref s.heap.objs.size, rawInt 0, .none, .none] }) (s.heap.objs.size + 1) s.heap.objs.size 0 .none := by
    rw [← two]; exact Heap.get?_push_size (s.heap.push o) rfl
  refine callType_new F.called_enumerate (by decide) (F.typeCall_enumerate_1 _) (F.newCall_enumerate_1 _) (fun ob => F.args_object_init_2 ob _) F.entry_enumerate_new (meets_enum1 B) ?_
  refine ⟨h1, ?_⟩
  simp only [two]
  exact ⟨⟨_, isE, rfl⟩, h _ isE (Heap.get?_push_of_some _ (Heap.get?_push_size _ B.free)) fun b o x => Heap.get?_push_of_some _ (Heap.get?_push_of_some _ x)⟩

theorem vals_back : ∀ {xs : List V} {us : List Value} {i : Nat} {u : Value}, Vals xs us → us[i]? = some u → ∃ x, xs[i]? = some x ∧ RelV x u
  | _, _, _, _, .nil, e => by simp at e
  | _, _, 0, _, .cons r _, e => by
    simp at e
    exact ⟨_, rfl, e ▸ r⟩
  | _, _, i + 1, _, .cons _ t, e => by
    obtain ⟨x, h1, h2⟩ := vals_back (i := i) t (by simpa using e)
    exact ⟨x, by simpa using h1, h2⟩
/-- enumerate over the list or tuple at a -/
def ItE (b : Bool) (a : Addr) : It :=
  ⟨fun i H => ∃ xs, H a = some (hoS b xs) ∧ i < xs.length, fun i H v H' => ∃ T x, v = .ref T ∧ H T = none ∧ H' = upd H T (.tup [.int (i : Nat), x]) ∧ ∀ xs, H a = some (hoS b xs) → xs[i]? = some x, fun i H => ∃ xs, H a = some (hoS b xs) ∧ xs.length = i⟩
theorem turn_enumS {P : Program} {w : World} {K : PySem.W.Frag} {elts : List Expr} {kk : Nat} {tpos : Pos} (b : Bool) (a e it : Addr) (hea : e ≠ a) (hia : a ≠ it) (hei : e ≠ it) :
    Turn P w K (.Tuple elts kk tpos) (ItE b a) [e, it] e (fun i h => (∃ old, IsEnum h e it ((i : Nat) : Int) old) ∧ SeqIter b h it a i) := by
  refine turn_news (by simp) (fun i h st c hc => ?_) (fun i h h' st k => ?_) (fun X hP hw hK hh i pins s σ H I st jg => ?_) fun A i s Q E st h => ?_
  · obtain ⟨⟨old, he⟩, hi⟩ := st
    rcases (by simpa using hc : c = e ∨ c = it) with z | z
    · rw [z]; exact ⟨_, he, fun v q => nomatch q⟩
    · rw [z]; exact hi.obj
  · obtain ⟨⟨old, he⟩, hi⟩ := st
    exact ⟨⟨old, k e (by simp) _ he⟩, hi.at fun o q => k it (by simp) o q⟩
  · obtain ⟨⟨old, he⟩, hi⟩ := st
    have isx : ∃ xs, H a = some (hoS b xs) := by
      rcases jg with ⟨xs, h, _⟩ | ⟨xs, h, _⟩
      · exact ⟨xs, h⟩
      · exact ⟨xs, h⟩
    obtain ⟨xs, hx⟩ := isx
    have only : ∀ ys, H a = some (hoS b ys) → ys = xs := fun ys hy => hoS_inj (Option.some.inj (hy.symm.trans hx))
    obtain ⟨its, rv, isq, hlt⟩ := seq_of I hx
    have ll := rv.length
    subst hP hw hK
    refine ⟨_, _, _, _, _, GoesN.enumFrom 0 (drawsS (A := X.A.in1) hh b it a hia its.toArray) e hei (by simp [hei, hea]) (by simp), fun c hc => hc, ⟨⟨old, by simpa using he⟩, hi, isq⟩, fun z => ?_, fun z => ?_, fun v h' y st' => ?_⟩
    · obtain ⟨ys, hy, hl⟩ := z
      rw [only ys hy] at hl
      simp; omega
    · obtain ⟨ys, hy, hl⟩ := z
      rw [only ys hy] at hl
      simp; omega
    · obtain ⟨T, t, x, ev, hT, hx', isT⟩ := y
      have hx' : its[i]? = some x := by simpa using hx'
      obtain ⟨u, hu, ru⟩ := vals_back rv hx'
      refine ⟨T, [.int (i : Nat) t, x], [.int (i : Nat), u], ev, hT, by simpa using isT, .cons ⟨_, rfl⟩ (.cons ru .nil), by simp, ⟨T, u, rfl, I.hok.fresh hT, rfl, fun ys hy => by rw [only ys hy]; exact hu⟩, ?_⟩
      obtain ⟨⟨old', he'⟩, hi', _⟩ := st'
      exact ⟨⟨old', by simpa using he'⟩, hi'⟩
  · obtain ⟨⟨old, he⟩, _⟩ := st
    exact wpAny_pyIter_enum he h
/-- zip over two -/
def ItZ2 (b1 b2 : Bool) (a1 a2 : Addr) : It :=
  ⟨fun i H => ∃ xs ys, H a1 = some (hoS b1 xs) ∧ H a2 = some (hoS b2 ys) ∧ i < min xs.length ys.length,
    fun i H v H' => ∃ T x y, v = .ref T ∧ H T = none ∧ H' = upd H T (.tup [x, y]) ∧ (∀ xs, H a1 = some (hoS b1 xs) → xs[i]? = some x) ∧ ∀ ys, H a2 = some (hoS b2 ys) → ys[i]? = some y,
    fun i H => ∃ xs ys, H a1 = some (hoS b1 xs) ∧ H a2 = some (hoS b2 ys) ∧ min xs.length ys.length = i⟩
theorem turn_zipS2 {P : Program} {w : World} {K : PySem.W.Frag} {elts : List Expr} {kk : Nat} {tpos : Pos} (b1 b2 : Bool) (a1 a2 z TI TO i1 i2 : Addr) (S : ZipSep2 z TI TO i1 i2 [i1, a1] [i2, a2]) (h1 : a1 ≠ i1) (h2 : a2 ≠ i2) :
    Turn P w K (.Tuple elts kk tpos) (ItZ2 b1 b2 a1 a2) [z, TI, TO, i1, i2] z (fun i h => IsZip h z TI TO .none ∧ IsTupOf2 h TI (.ref i1) (.ref i2) ∧ (∃ c d, IsTupOf2 h TO c d) ∧ SeqIter b1 h i1 a1 i ∧ SeqIter b2 h i2 a2 i) := by
  refine turn_news (by simp) (fun i h st c hc => ?_) (fun i h h' st k => ?_) (fun X hP hw hK hh i pins s σ H I st jg => ?_) fun A i s Q E st h => ?_
  · obtain ⟨q1, q2, ⟨x, y, q3⟩, q4, q5⟩ := st
    rcases (by simpa using hc : c = z ∨ c = TI ∨ c = TO ∨ c = i1 ∨ c = i2) with e | e | e | e | e <;> rw [e]
    · exact ⟨_, q1, fun v q => nomatch q⟩
    · exact ⟨_, q2, fun v q => nomatch q⟩
    · exact ⟨_, q3, fun v q => nomatch q⟩
    · exact q4.obj
    · exact q5.obj
  · obtain ⟨q1, q2, ⟨x, y, q3⟩, q4, q5⟩ := st
    exact ⟨k z (by simp) _ q1, k TI (by simp) _ q2, ⟨x, y, k TO (by simp) _ q3⟩, q4.at fun o q => k i1 (by simp) o q, q5.at fun o q => k i2 (by simp) o q⟩
  · obtain ⟨q1, q2, q3, q4, q5⟩ := st
    have isx : ∃ xs ys, H a1 = some (hoS b1 xs) ∧ H a2 = some (hoS b2 ys) := by
      rcases jg with ⟨xs, ys, g1, g2, _⟩ | ⟨xs, ys, g1, g2, _⟩
      · exact ⟨xs, ys, g1, g2⟩
      · exact ⟨xs, ys, g1, g2⟩
    obtain ⟨xs, ys, hx, hy⟩ := isx
    have o1 : ∀ l, H a1 = some (hoS b1 l) → l = xs := fun l hl => hoS_inj (Option.some.inj (hl.symm.trans hx))
    have o2 : ∀ l, H a2 = some (hoS b2 l) → l = ys := fun l hl => hoS_inj (Option.some.inj (hl.symm.trans hy))
    obtain ⟨its, rv, isq, hlt⟩ := seq_of I hx
    obtain ⟨its2, rv2, isq2, hlt2⟩ := seq_of I hy
    have ll := rv.length
    have ll2 := rv2.length
    subst hP hw hK
    refine ⟨_, _, _, _, _, GoesN.zip2 S (drawsS (A := X.A.in1) hh b1 i1 a1 h1 its.toArray) (drawsS (A := X.A.in1) hh b2 i2 a2 h2 its2.toArray), fun c hc => ?_, ⟨q1, q2, q3, ⟨q4, isq⟩, q5, isq2⟩, fun g => ?_, fun g => ?_, fun v h' y st' => ?_⟩
    · rcases (by simpa using hc : c = z ∨ c = TO ∨ c = i1 ∨ c = i2) with e | e | e | e <;> rw [e] <;> simp
    · obtain ⟨l1, l2, e1, e2, hl⟩ := g
      rw [o1 l1 e1, o2 l2 e2] at hl
      simp; omega
    · obtain ⟨l1, l2, e1, e2, hl⟩ := g
      rw [o1 l1 e1, o2 l2 e2] at hl
      simp; omega
    · obtain ⟨T, x, y, ev, hT, hx', hy', isT⟩ := y
      obtain ⟨u, hu, ru⟩ := vals_back rv (show its[i]? = some x by simpa using hx')
      obtain ⟨u2, hu2, ru2⟩ := vals_back rv2 (show its2[i]? = some y by simpa using hy')
      refine ⟨T, [x, y], [u, u2], ev, hT, by simpa using isT, .cons ru (.cons ru2 .nil), by simp, ⟨T, u, u2, rfl, I.hok.fresh hT, rfl, fun l e => by rw [o1 l e]; exact hu, fun l e => by rw [o2 l e]; exact hu2⟩, ?_⟩
      exact ⟨st'.1, st'.2.1, st'.2.2.1, st'.2.2.2.1.1, st'.2.2.2.2.1⟩
  · exact wpAny_pyIter_zip st.1 h
def ItZ3 (b1 b2 b3 : Bool) (a1 a2 a3 : Addr) : It :=
  ⟨fun i H => ∃ xs ys zs, H a1 = some (hoS b1 xs) ∧ H a2 = some (hoS b2 ys) ∧ H a3 = some (hoS b3 zs) ∧ i < min (min xs.length ys.length) zs.length,
    fun i H v H' => ∃ T x y z, v = .ref T ∧ H T = none ∧ H' = upd H T (.tup [x, y, z]) ∧ (∀ xs, H a1 = some (hoS b1 xs) → xs[i]? = some x) ∧ (∀ ys, H a2 = some (hoS b2 ys) → ys[i]? = some y) ∧ ∀ zs, H a3 = some (hoS b3 zs) → zs[i]? = some z,
    fun i H => ∃ xs ys zs, H a1 = some (hoS b1 xs) ∧ H a2 = some (hoS b2 ys) ∧ H a3 = some (hoS b3 zs) ∧ min (min xs.length ys.length) zs.length = i⟩
theorem turn_zipS3 {P : Program} {w : World} {K : PySem.W.Frag} {elts : List Expr} {kk : Nat} {tpos : Pos} (b1 b2 b3 : Bool) (a1 a2 a3 z TI TO i1 i2 i3 : Addr) (S : ZipSep3 z TI TO i1 i2 i3 [i1, a1] [i2, a2] [i3, a3]) (h1 : a1 ≠ i1) (h2 : a2 ≠ i2) (h3 : a3 ≠ i3) :
    Turn P w K (.Tuple elts kk tpos) (ItZ3 b1 b2 b3 a1 a2 a3) [z, TI, TO, i1, i2, i3] z (fun i h => IsZip h z TI TO .none ∧ IsTupOf3 h TI (.ref i1) (.ref i2) (.ref i3) ∧ (∃ c d e, IsTupOf3 h TO c d e) ∧ SeqIter b1 h i1 a1 i ∧ SeqIter b2 h i2 a2 i ∧ SeqIter b3 h i3 a3 i) := by
  refine turn_news (by simp) (fun i h st c hc => ?_) (fun i h h' st k => ?_) (fun X hP hw hK hh i pins s σ H I st jg => ?_) fun A i s Q E st h => ?_
  · obtain ⟨q1, q2, ⟨x, y, y', q3⟩, q4, q5, q6⟩ := st
    rcases (by simpa using hc : c = z ∨ c = TI ∨ c = TO ∨ c = i1 ∨ c = i2 ∨ c = i3) with e | e | e | e | e | e <;> rw [e]
    · exact ⟨_, q1, fun v q => nomatch q⟩
    · exact ⟨_, q2, fun v q => nomatch q⟩
    · exact ⟨_, q3, fun v q => nomatch q⟩
    · exact q4.obj
    · exact q5.obj
    · exact q6.obj
  · obtain ⟨q1, q2, ⟨x, y, y', q3⟩, q4, q5, q6⟩ := st
    exact ⟨k z (by simp) _ q1, k TI (by simp) _ q2, ⟨x, y, y', k TO (by simp) _ q3⟩, q4.at fun o q => k i1 (by simp) o q, q5.at fun o q => k i2 (by simp) o q, q6.at fun o q => k i3 (by simp) o q⟩
  · obtain ⟨q1, q2, q3, q4, q5, q6⟩ := st
    have isx : ∃ xs ys zs, H a1 = some (hoS b1 xs) ∧ H a2 = some (hoS b2 ys) ∧ H a3 = some (hoS b3 zs) := by
      rcases jg with ⟨xs, ys, zs, g1, g2, g3, _⟩ | ⟨xs, ys, zs, g1, g2, g3, _⟩
      · exact ⟨xs, ys, zs, g1, g2, g3⟩
      · exact ⟨xs, ys, zs, g1, g2, g3⟩
    obtain ⟨xs, ys, zs, hx, hy, hz⟩ := isx
    have o1 : ∀ l, H a1 = some (hoS b1 l) → l = xs := fun l hl => hoS_inj (Option.some.inj (hl.symm.trans hx))
    have o2 : ∀ l, H a2 = some (hoS b2 l) → l = ys := fun l hl => hoS_inj (Option.some.inj (hl.symm.trans hy))
    have o3 : ∀ l, H a3 = some (hoS b3 l) → l = zs := fun l hl => hoS_inj (Option.some.inj (hl.symm.trans hz))
    obtain ⟨its, rv, isq, hlt⟩ := seq_of I hx
    obtain ⟨its2, rv2, isq2, hlt2⟩ := seq_of I hy
    obtain ⟨its3, rv3, isq3, hlt3⟩ := seq_of I hz
    have ll := rv.length
    have ll2 := rv2.length
    have ll3 := rv3.length
    subst hP hw hK
    refine ⟨_, _, _, _, _, GoesN.zip3 S (drawsS (A := X.A.in1) hh b1 i1 a1 h1 its.toArray) (drawsS (A := X.A.in1) hh b2 i2 a2 h2 its2.toArray) (drawsS (A := X.A.in1) hh b3 i3 a3 h3 its3.toArray), fun c hc => ?_, ⟨q1, q2, q3, ⟨q4, isq⟩, ⟨q5, isq2⟩, q6, isq3⟩, fun g => ?_, fun g => ?_, fun v h' y st' => ?_⟩
    · rcases (by simpa using hc : c = z ∨ c = TO ∨ c = i1 ∨ c = i2 ∨ c = i3) with e | e | e | e | e <;> rw [e] <;> simp
    · obtain ⟨l1, l2, l3, e1, e2, e3, hl⟩ := g
      rw [o1 l1 e1, o2 l2 e2, o3 l3 e3] at hl
      simp; omega
    · obtain ⟨l1, l2, l3, e1, e2, e3, hl⟩ := g
      rw [o1 l1 e1, o2 l2 e2, o3 l3 e3] at hl
      simp; omega
    · obtain ⟨T, x, y, y', ev, hT, hx', hy', hz', isT⟩ := y
      obtain ⟨u, hu, ru⟩ := vals_back rv (show its[i]? = some x by simpa using hx')
      obtain ⟨u2, hu2, ru2⟩ := vals_back rv2 (show its2[i]? = some y by simpa using hy')
      obtain ⟨u3, hu3, ru3⟩ := vals_back rv3 (show its3[i]? = some y' by simpa using hz')
      refine ⟨T, [x, y, y'], [u, u2, u3], ev, hT, by simpa using isT, .cons ru (.cons ru2 (.cons ru3 .nil)), by simp, ⟨T, u, u2, u3, rfl, I.hok.fresh hT, rfl, fun l e => by rw [o1 l e]; exact hu, fun l e => by rw [o2 l e]; exact hu2, fun l e => by rw [o3 l e]; exact hu3⟩, ?_⟩
      exact ⟨st'.1, st'.2.1, st'.2.2.1, st'.2.2.2.1.1, st'.2.2.2.2.1.1, st'.2.2.2.2.2.1⟩
  · exact wpAny_pyIter_zip st.1 h
end Pv

namespace Pv
open PySem PySem.Spec PyProof.Rows L2

/-- a later state: fr: only what is frozen is sure to stay; else all that stood -/
structure later (B : Bx) (fr : Bool) (F1 : Addr → Prop) (H1 : Hp) (F : Addr → Prop) (H : Hp) : Prop where
  f : ∀ a, F1 a → F a
  s : Stay F1 H1 H
  a : fr = false → ∀ a o, H1 a = some o → B.nS a → H a = some o
theorem later.of {B : Bx} {fr : Bool} {F1 F : Addr → Prop} {H1 H : Hp} (l : Le B F1 H1 F H) : later B fr F1 H1 F H := ⟨l.f, l.stay, fun _ => l.h⟩
structure Wk (L : (Addr → Prop) → Hp → Prop) (B : Bx) (J : It) (ds : List D) : Prop where
  stop : ∀ F H, L F H → Wf B F H → J.stop ds.length H
  go : ∀ i F H, L F H → Wf B F H → i < ds.length → J.go i H
  yld : ∀ i F H x H', L F H → Wf B F H → i < ds.length → J.yld i H x H' → ∃ d, ds[i]? = some d ∧ Has B.K F H' x d ∧ Le B F H F H'
def IJ (S : Sx) (k : Nat) (N : List Str) (sc : Names) (tg it : Expr) (fr : Bool) (src : Ev → Tr (List D)) : Prop :=
  ∀ X, Ctx S k N sc X → ∀ F0 H0 F ρ σ H, Rel S F0 H0 F ρ σ H → ∀ R : It → Hp → Prop, (src ρ).wp (fun ds => ∀ F1 H1 J, Le S.B F H F1 H1 → Wk (later S.B fr F1 H1) S.B J ds → R J H1) → rIt X tg it σ H R

def seqOf : D → Tr (List D)
  | .list ds => .ret ds
  | .tuple ds => .ret ds
  | _ => .fail
def itV (f : EF) : Ev → Tr (List D) := fun ρ => (f ρ).bind seqOf
def mdOf (fr : Bool) : Md := if fr then .frz else .bor
/-- a list's or tuple's place and items, now and later -/
theorem seq_now {B : Bx} {fr : Bool} {H : Hp} {F1 : Addr → Prop} {H1 : Hp} {v : V} {d : D} {ds : List D} {P : List D → Prop} (w : Wf B F1 H1) (h : Res B (mdOf fr) H F1 H1 v d) (q : (seqOf d).wp P) :
    ∃ a b xs ds, v = .ref a ∧ P ds ∧ H1 a = some (hoS b xs) ∧ ∀ F' H', later B fr F1 H1 F' H' → H' a = some (hoS b xs) ∧ HasAll B.K F' H' xs ds := by
  cases d with
  | list ds =>
    cases fr with
    | true =>
      cases h with
      | lst f r al => exact ⟨_, true, _, ds, rfl, q, r, fun F' H' l => ⟨l.s.l _ _ f r, al.mono l.f l.s⟩⟩
    | false =>
      obtain ⟨a, xs, rfl, n, r, al⟩ := h
      exact ⟨a, true, xs, ds, rfl, q, r, fun F' H' l => ⟨l.a rfl a _ r n, al.mono l.f l.s⟩⟩
  | tuple ds =>
    have h' : Has B.K F1 H1 v (.tuple ds) := by cases fr <;> exact h
    obtain ⟨a, xs, rfl, r, al⟩ := h'.tup_inv
    exact ⟨a, false, xs, ds, rfl, q, r, fun F' H' l => ⟨l.s.t _ _ r, al.mono l.f l.s⟩⟩
  | _ => exact q.elim

theorem ne_add {a n : Nat} (j : Nat) (h : a < n) : a ≠ n + j := by omega
theorem ge_add {c n j : Nat} (z : c = n + j) : n ≤ c := by omega
theorem ge_same {c n : Nat} (z : c = n) : n ≤ c := by omega
section
variable {X : Cx} {tg e e2 e3 : Expr}
def iSeq (te : TE) (K : PySem.W.Frag) : TI := fun σ H R => te σ H fun x H1 => ∃ a b xs, x = .ref a ∧ H1 a = some (hoS b xs) ∧ R (if b then Itl K a else Itt K a) H1
theorem pi_seq {te : TE} (he : PE X e te) : PI X tg e (iSeq te X.K) := ⟨fun pins s σ H R I h => thn (he.run pins s σ H _ I h) fun v s1 ⟨x, H1, I1, r1, a, b, xs, ex, hx, q⟩ => by
  subst ex
  cases r1
  cases b with
  | true =>
    obtain ⟨its, rv, p, _⟩ := I1.list (.inl (.inl hx))
    exact wpAny_pyIter_list p.isList (pi_one (tk := s1.toks) I1 _ (turn_list a _) ⟨_, Heap.get?_push_size _ rfl, rfl, rfl⟩ q)
  | false =>
    obtain ⟨its, rv, p, _⟩ := I1.tuple (.inl (.inl hx))
    exact wpAny_pyIter_tuple (show s1.heap.IsTuple a its.toArray from p) (pi_one (tk := s1.toks) I1 _ (turn_tuple a _) ⟨_, Heap.get?_push_size _ rfl, rfl, rfl⟩ q)⟩
theorem fp_new {pins : List (Addr × Obj)} {σ : L2.St} {H : Hp} {s : Shared} (I : Inv X pins σ H s) {fp : List Addr} (h : ∀ b ∈ fp, s.heap.objs.size ≤ b) : ∀ b ∈ fp, FpOk X pins H b := fun b hb => I.fpOk (h b hb) (I.hok.fresh (h b hb))
def iEnumS (ta : TA) : TI := fun σ H R => ta σ H fun vs H1 => ∃ a b xs, vs = [.ref a] ∧ H1 a = some (hoS b xs) ∧ R (ItE b a) H1
theorem pi_enumS {ta : TA} {p pos tpos : Pos} {elts : List Expr} {kk : Nat} (hg : Gl X "enumerate") (hm : X.mg "enumerate" = none) (ha : PA X [e] ta) (hs : starEach [e] X.env = [(false, eval e X.env)]) : PI X (.Tuple elts kk tpos) (.Call (.Name "enumerate" p) [e] [] pos) (iEnumS ta) :=
  ⟨fun pins s σ H R I h => Call_ (ld_blt I hg hm boot_enumerate (PyProof.Rows.callWith_type1 (thn (ha.run pos pins s σ H _ I h) fun us s1 ⟨vs, H1, I1, r1, a, b, xs, ex, hx, q⟩ => by
    subst ex
    obtain ⟨u, rfl, ru⟩ := vals1 r1
    cases ru
    obtain ⟨its, rv, isq, hlt⟩ := seq_of I1 hx
    refine call_enum1 (beginsS b a its.toArray) isq fun h' he hi hk => wpAny_pyIter_enum he ?_
    refine ⟨s1.heap.objs.size + 1, [s1.heap.objs.size + 1, s1.heap.objs.size], _, _, H1, rfl, I1.kept (t' := s1.toks) hk, turn_enumS b a _ s1.heap.objs.size (Ne.symm (ne_add 1 hlt)) (ne_add 0 hlt) (Nat.succ_ne_self _), ⟨⟨.none, he⟩, .new hi⟩, fp_new I1 fun c hc => ?_, q⟩
    rcases (by simpa using hc : c = s1.heap.objs.size + 1 ∨ c = s1.heap.objs.size) with z | z <;> first | exact ge_add z | exact ge_same z) hs rfl))⟩
def iZipS2 (ta : TA) : TI := fun σ H R => ta σ H fun vs H1 => ∃ a1 b1 xs a2 b2 ys, vs = [.ref a1, .ref a2] ∧ H1 a1 = some (hoS b1 xs) ∧ H1 a2 = some (hoS b2 ys) ∧ R (ItZ2 b1 b2 a1 a2) H1
theorem pi_zipS2 {ta : TA} {p pos tpos : Pos} {elts : List Expr} {kk : Nat} (hg : Gl X "zip") (hm : X.mg "zip" = none) (ha : PA X [e, e2] ta) (hs : starEach [e, e2] X.env = (false, eval e X.env) :: starEach [e2] X.env) (hpl : (backTo pos (starEach [e2] X.env)).any (·.1) = false) :
    PI X (.Tuple elts kk tpos) (.Call (.Name "zip" p) [e, e2] [] pos) (iZipS2 ta) :=
  ⟨fun pins s σ H R I h => Call_ (ld_blt I hg hm PyProof.Rows.boot_zip (PyProof.Rows.callWith_type1 (thn (ha.run pos pins s σ H _ I h) fun us s1 ⟨vs, H1, I1, r1, a1, b1, xs, a2, b2, ys, ex, hx, hy, q⟩ => by
    subst ex
    cases r1 with
    | cons r rr =>
    obtain ⟨u2, rfl, ru2⟩ := vals1 rr
    cases r
    cases ru2
    obtain ⟨its, rv, isq, hlt⟩ := seq_of I1 hx
    obtain ⟨its2, rv2, isq2, hlt2⟩ := seq_of I1 hy
    refine zip_begins2 (beginsS b1 a1 its.toArray) (beginsS b2 a2 its2.toArray) isq isq2 fun h' hz hTI hTO h1 h2 _ hk => wpAny_pyIter_zip hz ?_
    refine ⟨s1.heap.objs.size + 4, [s1.heap.objs.size + 4, s1.heap.objs.size + 2, s1.heap.objs.size + 3, s1.heap.objs.size, s1.heap.objs.size + 1], _, _, H1, rfl, I1.kept (t' := s1.toks) hk,
      turn_zipS2 b1 b2 a1 a2 _ (s1.heap.objs.size + 2) (s1.heap.objs.size + 3) s1.heap.objs.size (s1.heap.objs.size + 1) (zip_sep2 (fp1 := [a1]) (fp2 := [a2]) (by simpa using hlt) (by simpa using hlt2)) (ne_add 0 hlt) (ne_add 1 hlt2), ⟨hz, hTI, ⟨_, _, hTO⟩, .new h1, .new h2⟩, fp_new I1 fun c hc => ?_, q⟩
    rcases (by simpa using hc : c = s1.heap.objs.size + 4 ∨ c = s1.heap.objs.size + 2 ∨ c = s1.heap.objs.size + 3 ∨ c = s1.heap.objs.size ∨ c = s1.heap.objs.size + 1) with z | z | z | z | z <;> first | exact ge_add z | exact ge_same z) hs hpl))⟩
def iZipS3 (ta : TA) : TI := fun σ H R => ta σ H fun vs H1 => ∃ a1 b1 xs a2 b2 ys a3 b3 zs, vs = [.ref a1, .ref a2, .ref a3] ∧ H1 a1 = some (hoS b1 xs) ∧ H1 a2 = some (hoS b2 ys) ∧ H1 a3 = some (hoS b3 zs) ∧ R (ItZ3 b1 b2 b3 a1 a2 a3) H1
theorem pi_zipS3 {ta : TA} {p pos tpos : Pos} {elts : List Expr} {kk : Nat} (hg : Gl X "zip") (hm : X.mg "zip" = none) (ha : PA X [e, e2, e3] ta) (hs : starEach [e, e2, e3] X.env = (false, eval e X.env) :: starEach [e2, e3] X.env) (hpl : (backTo pos (starEach [e2, e3] X.env)).any (·.1) = false) :
    PI X (.Tuple elts kk tpos) (.Call (.Name "zip" p) [e, e2, e3] [] pos) (iZipS3 ta) :=
  ⟨fun pins s σ H R I h => Call_ (ld_blt I hg hm PyProof.Rows.boot_zip (PyProof.Rows.callWith_type1 (thn (ha.run pos pins s σ H _ I h) fun us s1 ⟨vs, H1, I1, r1, a1, b1, xs, a2, b2, ys, a3, b3, zs, ex, hx, hy, hw, q⟩ => by
    subst ex
    cases r1 with
    | cons r rr =>
    cases rr with
    | cons r' rr =>
    obtain ⟨u3, rfl, ru3⟩ := vals1 rr
    cases r
    cases r'
    cases ru3
    obtain ⟨its, rv, isq, hlt⟩ := seq_of I1 hx
    obtain ⟨its2, rv2, isq2, hlt2⟩ := seq_of I1 hy
    obtain ⟨its3, rv3, isq3, hlt3⟩ := seq_of I1 hw
    refine zip_begins3 (beginsS b1 a1 its.toArray) (beginsS b2 a2 its2.toArray) (beginsS b3 a3 its3.toArray) isq isq2 isq3 fun h' hz hTI hTO h1 h2 h3 _ hk => wpAny_pyIter_zip hz ?_
    refine ⟨s1.heap.objs.size + 5, [s1.heap.objs.size + 5, s1.heap.objs.size + 3, s1.heap.objs.size + 4, s1.heap.objs.size, s1.heap.objs.size + 1, s1.heap.objs.size + 2], _, _, H1, rfl, I1.kept (t' := s1.toks) hk,
      turn_zipS3 b1 b2 b3 a1 a2 a3 _ (s1.heap.objs.size + 3) (s1.heap.objs.size + 4) s1.heap.objs.size (s1.heap.objs.size + 1) (s1.heap.objs.size + 2) (zip_sep3 (fp1 := [a1]) (fp2 := [a2]) (fp3 := [a3]) (by simpa using hlt) (by simpa using hlt2) (by simpa using hlt3)) (ne_add 0 hlt) (ne_add 1 hlt2) (ne_add 2 hlt3), ⟨hz, hTI, ⟨_, _, _, hTO⟩, .new h1, .new h2, .new h3⟩, fp_new I1 fun c hc => ?_, q⟩
    rcases (by simpa using hc : c = s1.heap.objs.size + 5 ∨ c = s1.heap.objs.size + 3 ∨ c = s1.heap.objs.size + 4 ∨ c = s1.heap.objs.size ∨ c = s1.heap.objs.size + 1 ∨ c = s1.heap.objs.size + 2) with z | z | z | z | z | z <;> first | exact ge_add z | exact ge_same z) hs hpl))⟩
end

def rangeL (lo : Int) (n : Nat) : List D := (List.range n).map fun i => .int (lo + (i : Nat))
def itR1 (g : Ev → Tr (List D)) : Ev → Tr (List D) := fun ρ => (g ρ).bind fun ds => match ds with
  | [.int j] => need (-(2 ^ 62) ≤ j ∧ j < 2 ^ 62) (.ret (rangeL 0 j.toNat))
  | _ => .fail
def itR2 (g : Ev → Tr (List D)) : Ev → Tr (List D) := fun ρ => (g ρ).bind fun ds => match ds with
  | [.int i, .int j] => need (-(2 ^ 62) ≤ i ∧ i < 2 ^ 62 ∧ -(2 ^ 62) ≤ j ∧ j < 2 ^ 62) (.ret (rangeL i (j - i).toNat))
  | _ => .fail
/-- a step of -1 -/
def rangeM (lo : Int) (n : Nat) : List D := (List.range n).map fun i => .int (lo + (i : Nat) * (-1))
def itR3 (g : Ev → Tr (List D)) : Ev → Tr (List D) := fun ρ => (g ρ).bind fun ds => match ds with
  | [.int i, .int j, .int c] => need ((-(2 ^ 62) ≤ i ∧ i < 2 ^ 62 ∧ -(2 ^ 62) ≤ j ∧ j < 2 ^ 62) ∧ c = -1) (.ret (rangeM i (i - j).toNat))
  | _ => .fail
def pairsE (i : Nat) : List D → List D
  | [] => []
  | d :: ds => .tuple [.int (i : Nat), d] :: pairsE (i + 1) ds
def itE (f : EF) : Ev → Tr (List D) := fun ρ => ((f ρ).bind seqOf).bind fun ds => .ret (pairsE 0 ds)
def zip2D : List D → List D → List D
  | x :: xs, y :: ys => .tuple [x, y] :: zip2D xs ys
  | _, _ => []
def zip3D : List D → List D → List D → List D
  | x :: xs, y :: ys, z :: zs => .tuple [x, y, z] :: zip3D xs ys zs
  | _, _, _ => []
def itZ2 (f g : EF) : Ev → Tr (List D) := fun ρ => (f ρ).bind fun x => (g ρ).bind fun y => (seqOf x).bind fun xs => (seqOf y).bind fun ys => .ret (zip2D xs ys)
def itZ3 (f g h : EF) : Ev → Tr (List D) := fun ρ => (f ρ).bind fun x => (g ρ).bind fun y => (h ρ).bind fun z => (seqOf x).bind fun xs => (seqOf y).bind fun ys => (seqOf z).bind fun zs => .ret (zip3D xs ys zs)
theorem pairsE_len : ∀ (ds : List D) (i : Nat), (pairsE i ds).length = ds.length
  | [], _ => rfl
  | d :: ds, i => by simp only [pairsE, List.length_cons, pairsE_len ds]
theorem pairsE_get : ∀ (ds : List D) (i j : Nat) (d : D), ds[j]? = some d → (pairsE i ds)[j]? = some (.tuple [.int ((i + j : Nat) : Int), d])
  | [], _, _, _, h => by simp at h
  | d :: ds, i, 0, e, h => by simp at h; subst h; rfl
  | d :: ds, i, j + 1, e, h => by
    have := pairsE_get ds (i + 1) j e (by simpa using h)
    simp only [pairsE, List.getElem?_cons_succ, this]
    congr 4
    omega
theorem zip2D_len : ∀ (xs ys : List D), (zip2D xs ys).length = min xs.length ys.length
  | [], ys => by simp [zip2D]
  | x :: xs, [] => by simp [zip2D]
  | x :: xs, y :: ys => by simp only [zip2D, List.length_cons, zip2D_len xs ys]; omega
theorem zip2D_get : ∀ (xs ys : List D) (i : Nat) (x y : D), xs[i]? = some x → ys[i]? = some y → (zip2D xs ys)[i]? = some (.tuple [x, y])
  | [], _, _, _, _, h, _ => by simp at h
  | _ :: _, [], _, _, _, _, h => by simp at h
  | x :: xs, y :: ys, 0, a, b, h1, h2 => by simp at h1 h2; subst h1 h2; rfl
  | x :: xs, y :: ys, i + 1, a, b, h1, h2 => by simp only [zip2D, List.getElem?_cons_succ]; exact zip2D_get xs ys i a b (by simpa using h1) (by simpa using h2)
theorem zip3D_len : ∀ (xs ys zs : List D), (zip3D xs ys zs).length = min (min xs.length ys.length) zs.length
  | [], ys, zs => by simp [zip3D]
  | x :: xs, [], zs => by simp [zip3D]
  | x :: xs, y :: ys, [] => by simp [zip3D]
  | x :: xs, y :: ys, z :: zs => by simp only [zip3D, List.length_cons, zip3D_len xs ys zs]; omega
theorem zip3D_get : ∀ (xs ys zs : List D) (i : Nat) (x y z : D), xs[i]? = some x → ys[i]? = some y → zs[i]? = some z → (zip3D xs ys zs)[i]? = some (.tuple [x, y, z])
  | [], _, _, _, _, _, _, h, _, _ => by simp at h
  | _ :: _, [], _, _, _, _, _, _, h, _ => by simp at h
  | _ :: _, _ :: _, [], _, _, _, _, _, _, h => by simp at h
  | x :: xs, y :: ys, z :: zs, 0, a, b, c, h1, h2, h3 => by simp at h1 h2 h3; subst h1 h2 h3; rfl
  | x :: xs, y :: ys, z :: zs, i + 1, a, b, c, h1, h2, h3 => by simp only [zip3D, List.getElem?_cons_succ]; exact zip3D_get xs ys zs i a b c (by simpa using h1) (by simpa using h2) (by simpa using h3)
theorem rangeL_get (lo : Int) {n i : Nat} (h : i < n) : (rangeL lo n)[i]? = some (.int (lo + (i : Nat))) := by simp [rangeL, h]

section
variable {S : Sx} {k : Nat} {N : List Str} {sc : Names} {tg e e2 e3 : Expr} {fr : Bool} {f f2 f3 : EF} {g : Ev → Tr (List D)}
theorem wk_range {L : (Addr → Prop) → Hp → Prop} {B : Bx} (lo : Int) (n : Nat) : Wk L B (Itr lo n) (rangeL lo n) := by
  have hl : (rangeL lo n).length = n := by simp [rangeL]
  refine ⟨fun F H _ _ => Nat.le_of_eq hl.symm, fun i F H _ _ h => by rw [hl] at h; exact h, fun i F H x H' _ w h y => ?_⟩
  rw [hl] at h
  obtain ⟨e1, e2⟩ := y
  subst e1 e2
  exact ⟨_, rangeL_get lo h, .int _, .refl w⟩
theorem wk_rangeM {L : (Addr → Prop) → Hp → Prop} {B : Bx} (lo : Int) (n : Nat) : Wk L B (Itc lo (-1) n) (rangeM lo n) := by
  have hl : (rangeM lo n).length = n := by simp [rangeM]
  refine ⟨fun F H _ _ => Nat.le_of_eq hl.symm, fun i F H _ _ h => by rw [hl] at h; exact h, fun i F H x H' _ w h y => ?_⟩
  rw [hl] at h
  obtain ⟨e1, e2⟩ := y
  subst e1 e2
  exact ⟨_, by simp [rangeM, h], .int _, .refl w⟩
theorem ij_val (he : EJ S k N sc e (mdOf fr) f) : IJ S k N sc tg e fr (itV f) := fun X c F0 H0 F ρ σ H R Rk w =>
  .of (pi_seq pe_r) (he X c F0 H0 F ρ σ H R _ (Tr.wp_mono (fun d hd F1 v H1 l1 q1 => by
    obtain ⟨a, b, xs, ds, rfl, hp, hx, lt⟩ := seq_now (ds := []) l1.wf' q1 hd
    refine ⟨a, b, xs, rfl, hx, hp F1 H1 _ l1 ?_⟩
    cases b with
    | true =>
      refine ⟨fun F' H' l _ => ?_, fun i F' H' l _ hi => ?_, fun i F' H' x H'' l w' hi y => ?_⟩ <;> obtain ⟨q, al⟩ := lt F' H' l <;> have hl := al.length
      · exact ⟨xs, SqL.of q, by omega⟩
      · exact ⟨xs, xs[i], SqL.of q, List.getElem?_eq_getElem (by omega)⟩
      · obtain ⟨e1, y⟩ := y
        subst e1
        obtain ⟨d, h1, h2⟩ := al.getV (y xs (SqL.of q))
        exact ⟨d, h1, h2, .refl w'⟩
    | false =>
      refine ⟨fun F' H' l _ => ?_, fun i F' H' l _ hi => ?_, fun i F' H' x H'' l w' hi y => ?_⟩ <;> obtain ⟨q, al⟩ := lt F' H' l <;> have hl := al.length
      · exact ⟨xs, SqT.of q, by omega⟩
      · exact ⟨xs, xs[i], SqT.of q, List.getElem?_eq_getElem (by omega)⟩
      · obtain ⟨e1, y⟩ := y
        subst e1
        obtain ⟨d, h1, h2⟩ := al.getV (y xs (SqT.of q))
        exact ⟨d, h1, h2, .refl w'⟩) (Tr.wp_bind.mp w)))
theorem gl_of {X : Cx} (c : Ctx S k N sc X) {x : Str} (h : sc.lookup x = some .globalImplicit) : Gl X x := by
  unfold Gl Env.kindOf; rw [c.sc]; exact h
theorem mg_of {X : Cx} (c : Ctx S k N sc X) {x : Str} (h : S.B.mg x = none) : X.mg x = none := by rw [c.mg]; exact h
theorem ij_range1 {p pos : Pos} (hg : sc.lookup ("range" : Str) = some .globalImplicit) (hm : S.B.mg "range" = none) (ha : AJ S k N sc [e] g) (hs : ∀ env : Env, starEach [e] env = [(false, eval e env)]) : IJ S k N sc tg (.Call (.Name "range" p) [e] [] pos) fr (itR1 g) := fun X c F0 H0 F ρ σ H R Rk w =>
  .of (pi_range1 (gl_of c hg) (mg_of c hm) pa_r (hs _)) (ha X c F0 H0 F ρ σ H R _ (Tr.wp_mono (fun ds hd F1 vs H1 l1 q1 => by
    split at hd
    · obtain ⟨h1, hd⟩ := wp_need.mp hd
      cases q1 with
      | cons a b =>
        cases a; cases b
        exact ⟨_, rfl, h1.1, h1.2, hd F1 H1 _ l1 (wk_range _ _)⟩
    · exact hd.elim) (Tr.wp_bind.mp w)))
theorem ij_range2 {p pos : Pos} (hg : sc.lookup ("range" : Str) = some .globalImplicit) (hm : S.B.mg "range" = none) (ha : AJ S k N sc [e, e2] g) (hs : ∀ env : Env, starEach [e, e2] env = [(false, eval e env), (false, eval e2 env)]) (hs2 : ∀ env : Env, starEach [e2] env = [(false, eval e2 env)]) :
    IJ S k N sc tg (.Call (.Name "range" p) [e, e2] [] pos) fr (itR2 g) := fun X c F0 H0 F ρ σ H R Rk w =>
  .of (pi_range2 (gl_of c hg) (mg_of c hm) pa_r (hs _) (hs2 _)) (ha X c F0 H0 F ρ σ H R _ (Tr.wp_mono (fun ds hd F1 vs H1 l1 q1 => by
    split at hd
    · obtain ⟨h1, hd⟩ := wp_need.mp hd
      cases q1 with
      | cons a b =>
        cases b with
        | cons b z =>
          cases a; cases b; cases z
          exact ⟨_, _, rfl, h1, hd F1 H1 _ l1 (wk_range _ _)⟩
    · exact hd.elim) (Tr.wp_bind.mp w)))
theorem ij_range3 {p pos : Pos} (hg : sc.lookup ("range" : Str) = some .globalImplicit) (hm : S.B.mg "range" = none) (ha : AJ S k N sc [e, e2, e3] g) (hs : ∀ env : Env, starEach [e, e2, e3] env = (false, eval e env) :: starEach [e2, e3] env) (hpl : ∀ env : Env, (backTo pos (starEach [e2, e3] env)).any (·.1) = false) :
    IJ S k N sc tg (.Call (.Name "range" p) [e, e2, e3] [] pos) fr (itR3 g) := fun X c F0 H0 F ρ σ H R Rk w =>
  .of (pi_range3 (gl_of c hg) (mg_of c hm) pa_r (hs _) (hpl _)) (ha X c F0 H0 F ρ σ H R _ (Tr.wp_mono (fun ds hd F1 vs H1 l1 q1 => by
    split at hd
    · obtain ⟨⟨h1, h2⟩, hd2⟩ := wp_need.mp hd
      subst h2
      cases q1 with
      | cons a b =>
        cases b with
        | cons b z =>
          cases z with
          | cons z t =>
            cases a; cases b; cases z; cases t
            exact ⟨_, _, _, _, rfl, RgC.neg h1.1 h1.2.1 h1.2.2.1 h1.2.2.2, hd2 F1 H1 _ l1 (wk_rangeM _ _)⟩
    · exact hd.elim) (Tr.wp_bind.mp w)))
theorem ij_enum {p pos tpos : Pos} {elts : List Expr} {kk : Nat} (hg : sc.lookup ("enumerate" : Str) = some .globalImplicit) (hm : S.B.mg "enumerate" = none) (he : EJ S k N sc e (mdOf fr) f) (hs : ∀ env : Env, starEach [e] env = [(false, eval e env)]) :
    IJ S k N sc (.Tuple elts kk tpos) (.Call (.Name "enumerate" p) [e] [] pos) fr (itE f) := fun X c F0 H0 F ρ σ H R Rk w =>
  .of (pi_enumS (gl_of c hg) (mg_of c hm) (pa_cons pe_r pa_nil (by rw [hs]; rfl)) (hs _)) (he X c F0 H0 F ρ σ H R _ (Tr.wp_mono (fun d hd F1 v H1 l1 q1 => by
    obtain ⟨a, b, xs, ds, rfl, hp, hx, lt⟩ := seq_now (ds := []) l1.wf' q1 (Tr.wp_bind.mp hd)
    refine ⟨a, b, xs, rfl, hx, hp F1 H1 _ l1 ⟨fun F' H' l _ => ?_, fun i F' H' l _ hi => ?_, fun i F' H' x H'' l w' hi y => ?_⟩⟩ <;> obtain ⟨q, al⟩ := lt F' H' l <;> have hl := al.length
    · rw [pairsE_len]; exact ⟨xs, q, hl⟩
    · rw [pairsE_len] at hi; exact ⟨xs, q, by omega⟩
    · rw [pairsE_len] at hi
      obtain ⟨T, u, rfl, hT, rfl, hu⟩ := y
      obtain ⟨d', h1, h2⟩ := al.getV (hu xs q)
      have l2 := Le.lay (o := .tup [.int (i : Nat), u]) w' hT
      refine ⟨_, pairsE_get ds 0 i d' h1, .tup upd_same (.cons ?_ (.cons (l2.has h2) .nil)), l2⟩
      rw [Nat.zero_add]; exact .int _) (Tr.wp_bind.mp (Tr.wp_bind.mp w) |> fun z => Tr.wp_mono (fun d hd => Tr.wp_bind.mpr hd) z)))
theorem ij_zip2 {p pos tpos : Pos} {elts : List Expr} {kk : Nat} (hg : sc.lookup ("zip" : Str) = some .globalImplicit) (hm : S.B.mg "zip" = none) (he : EJ S k N sc e (mdOf fr) f) (he2 : EJ S k N sc e2 (mdOf fr) f2) (hs : ∀ env : Env, starEach [e, e2] env = (false, eval e env) :: starEach [e2] env) (hs2 : ∀ env : Env, starEach [e2] env = [(false, eval e2 env)])
    (hpl : ∀ env : Env, (backTo pos (starEach [e2] env)).any (·.1) = false) :
    IJ S k N sc (.Tuple elts kk tpos) (.Call (.Name "zip" p) [e, e2] [] pos) fr (itZ2 f f2) := fun X c F0 H0 F ρ σ H R Rk w =>
  .of (pi_zipS2 (gl_of c hg) (mg_of c hm) (pa_cons pe_r (pa_cons pe_r pa_nil (by rw [hs2]; rfl)) (hs _)) (hs _) (hpl _)) (he X c F0 H0 F ρ σ H R _ (Tr.wp_mono (fun d hd F1 v H1 l1 q1 => by
    refine he2 X c F0 H0 F1 ρ σ H1 (R.mono l1) _ (Tr.wp_mono (fun d2 hd2 F2 v2 H2 l2 q2 => ?_) (Tr.wp_bind.mp hd))
    obtain ⟨a, b, xs, ds, rfl, hp, hx, lt⟩ := seq_now (ds := []) l2.wf' (Res.mono (S := S) l2 q1) (Tr.wp_bind.mp hd2)
    obtain ⟨a2, b2, ys, es, rfl, hp, hy, lt2⟩ := seq_now (ds := []) l2.wf' q2 (Tr.wp_bind.mp hp)
    refine ⟨a, b, xs, a2, b2, ys, rfl, hx, hy, hp F2 H2 _ (l1.trans l2) ⟨fun F' H' l _ => ?_, fun i F' H' l _ hi => ?_, fun i F' H' x H'' l w' hi y => ?_⟩⟩ <;> obtain ⟨q, al⟩ := lt F' H' l <;> obtain ⟨q2', al2⟩ := lt2 F' H' l <;> have hl := al.length <;> have hl2 := al2.length
    · rw [zip2D_len]; exact ⟨xs, ys, q, q2', by omega⟩
    · rw [zip2D_len] at hi; exact ⟨xs, ys, q, q2', by omega⟩
    · obtain ⟨T, u, u2, rfl, hT, rfl, hu, hu2⟩ := y
      obtain ⟨d', h1, h2⟩ := al.getV (hu xs q)
      obtain ⟨e', h3, h4⟩ := al2.getV (hu2 ys q2')
      have l3 := Le.lay (o := .tup [u, u2]) w' hT
      exact ⟨_, zip2D_get ds es i d' e' h1 h3, .tup upd_same (.cons (l3.has h2) (.cons (l3.has h4) .nil)), l3⟩) (Tr.wp_bind.mp w)))
theorem ij_zip3 {p pos tpos : Pos} {elts : List Expr} {kk : Nat} (hg : sc.lookup ("zip" : Str) = some .globalImplicit) (hm : S.B.mg "zip" = none) (he : EJ S k N sc e (mdOf fr) f) (he2 : EJ S k N sc e2 (mdOf fr) f2) (he3 : EJ S k N sc e3 (mdOf fr) f3)
    (hs : ∀ env : Env, starEach [e, e2, e3] env = (false, eval e env) :: starEach [e2, e3] env) (hs2 : ∀ env : Env, starEach [e2, e3] env = (false, eval e2 env) :: starEach [e3] env) (hs3 : ∀ env : Env, starEach [e3] env = [(false, eval e3 env)])
    (hpl : ∀ env : Env, (backTo pos (starEach [e2, e3] env)).any (·.1) = false) :
    IJ S k N sc (.Tuple elts kk tpos) (.Call (.Name "zip" p) [e, e2, e3] [] pos) fr (itZ3 f f2 f3) := fun X c F0 H0 F ρ σ H R Rk w =>
  .of (pi_zipS3 (gl_of c hg) (mg_of c hm) (pa_cons pe_r (pa_cons pe_r (pa_cons pe_r pa_nil (by rw [hs3]; rfl)) (hs2 _)) (hs _)) (hs _) (hpl _)) (he X c F0 H0 F ρ σ H R _ (Tr.wp_mono (fun d hd F1 v H1 l1 q1 => by
    refine he2 X c F0 H0 F1 ρ σ H1 (R.mono l1) _ (Tr.wp_mono (fun d2 hd2 F2 v2 H2 l2 q2 => ?_) (Tr.wp_bind.mp hd))
    refine he3 X c F0 H0 F2 ρ σ H2 ((R.mono l1).mono l2) _ (Tr.wp_mono (fun d3 hd3 F3 v3 H3 l3 q3 => ?_) (Tr.wp_bind.mp hd2))
    obtain ⟨a, b, xs, ds, rfl, hp, hx, lt⟩ := seq_now (ds := []) l3.wf' (Res.mono (S := S) l3 (Res.mono (S := S) l2 q1)) (Tr.wp_bind.mp hd3)
    obtain ⟨a2, b2, ys, es, rfl, hp, hy, lt2⟩ := seq_now (ds := []) l3.wf' (Res.mono (S := S) l3 q2) (Tr.wp_bind.mp hp)
    obtain ⟨a3, b3, zs, gs, rfl, hp, hz, lt3⟩ := seq_now (ds := []) l3.wf' q3 (Tr.wp_bind.mp hp)
    refine ⟨a, b, xs, a2, b2, ys, a3, b3, zs, rfl, hx, hy, hz, hp F3 H3 _ ((l1.trans l2).trans l3) ⟨fun F' H' l _ => ?_, fun i F' H' l _ hi => ?_, fun i F' H' x H'' l w' hi y => ?_⟩⟩ <;> obtain ⟨q, al⟩ := lt F' H' l <;> obtain ⟨q2', al2⟩ := lt2 F' H' l <;> obtain ⟨q3', al3⟩ := lt3 F' H' l <;> have hl := al.length <;> have hl2 := al2.length <;> have hl3 := al3.length
    · rw [zip3D_len]; exact ⟨xs, ys, zs, q, q2', q3', by omega⟩
    · rw [zip3D_len] at hi; exact ⟨xs, ys, zs, q, q2', q3', by omega⟩
    · obtain ⟨T, u, u2, u3, rfl, hT, rfl, hu, hu2, hu3⟩ := y
      obtain ⟨d', h1, h2⟩ := al.getV (hu xs q)
      obtain ⟨e', h3, h4⟩ := al2.getV (hu2 ys q2')
      obtain ⟨g', h5, h6⟩ := al3.getV (hu3 zs q3')
      have l4 := Le.lay (o := .tup [u, u2, u3]) w' hT
      exact ⟨_, zip3D_get ds es gs i d' e' g' h1 h3 h5, .tup upd_same (.cons (l4.has h2) (.cons (l4.has h4) (.cons (l4.has h6) .nil))), l4⟩) (Tr.wp_bind.mp w)))
end
end Pv

namespace Pv
open PySem PySem.Spec PyProof.Rows L2

/-- what a loop does behind its body -/
def forGo (g : GF) (b : SF) : List D → SF
  | [], ρ => .ret (.nx, ρ)
  | d :: ds, ρ => (g d ρ).bind fun ρ1 => (b ρ1).bind fun r => match r with
    | (.nx, ρ2) => forGo g b ds ρ2
    | (.ct, ρ2) => forGo g b ds ρ2
    | (.bk, ρ2) => .ret (.nx, ρ2)
    | (.rt v, ρ2) => .ret (.rt v, ρ2)
def sFor (src : Ev → Tr (List D)) (g : GF) (b : SF) : SF := fun ρ => (src ρ).bind fun ds => forGo g b ds ρ
def sWhile : Nat → TF → SF → SF
  | 0, _, _ => fun _ => .fail
  | n + 1, t, b => fun ρ => (t ρ).bind fun c => if c then (b ρ).bind fun r => match r with
      | (.nx, ρ2) => sWhile n t b ρ2
      | (.ct, ρ2) => sWhile n t b ρ2
      | (.bk, ρ2) => .ret (.nx, ρ2)
      | (.rt v, ρ2) => .ret (.rt v, ρ2)
    else .ret (.nx, ρ)
section
variable {S : Sx} {k : Nat} {N : List Str} {sc : Names} {ret : Md} {tg it e : Expr} {fr : Bool} {src : Ev → Tr (List D)} {g : GF} {b : SF} {t : TF} {is : List Nat} {body : List Stmt} {pos : Pos}
theorem later.trans {B : Bx} {F1 F F' : Addr → Prop} {H1 H H' : Hp} (a : later B true F1 H1 F H) (f : ∀ c, F c → F' c) (s : Stay F H H') : later B true F1 H1 F' H' := ⟨fun c h => f c (a.f c h), a.s.trans a.f s, fun z => nomatch z⟩
theorem sj_for (hi : IJ S k N sc tg it true src) (hg : GJ S k N sc tg is g) (hb : BJ S k N sc ret body b) (hs : ∀ (env : Env) x, foldedSetIterable it env x = pure x) : SJ S k N sc ret (.For tg it body [] pos) (sFor src g b) := fun X c F0 H0 F ρ σ H R D w =>
  .of (ps_for c.po c.calm pi_r pg_r pb_r (hs _)) (hi X c F0 H0 F ρ σ H R _ (Tr.wp_mono (fun ds hds F1 H1 J l1 wk => by
    refine ⟨fun i m σ' H' => m = ds.length - i ∧ i ≤ ds.length ∧ ∃ F' ρ', later S.B true F1 H1 F' H' ∧ Rel S F0 H0 F' ρ' σ' H' ∧ (forGo g b (ds.drop i) ρ').wp (SP1 S ret F0 H0 F' H' D), ⟨ds.length, rfl, Nat.zero_le _, F1, ρ, ⟨fun _ h => h, .refl, fun z => nomatch z⟩, R.mono l1, ?_⟩, ?_⟩
    · rw [List.drop_zero]
      exact Tr.wp_mono (fun r hr => hr.le l1.f l1.stay) hds
    · rintro i m σ' H' ⟨rfl, hi, F', ρ', lt, R', w'⟩
      by_cases hlt : i < ds.length
      · refine .inr ⟨wk.go i F' H' lt R'.wf hlt, fun σ2 H2 => ∃ F2 ρ2, later S.B true F1 H1 F2 H2 ∧ Rel S F0 H0 F2 ρ2 σ2 H2 ∧ (forGo g b (ds.drop (i + 1)) ρ2).wp (SP1 S ret F0 H0 F2 H2 D), fun σ2 H2 h2 => ⟨ds.length - (i + 1), by omega, rfl, hlt, h2⟩, fun x H2 y => ?_⟩
        obtain ⟨d, hd, hx, l2⟩ := wk.yld i F' H' x H2 lt R'.wf hlt y
        have ed : ds.drop i = d :: ds.drop (i + 1) := by
          rw [List.drop_eq_getElem_cons hlt]
          congr 1
          exact Option.some.inj ((List.getElem?_eq_getElem hlt).symm.trans hd)
        rw [ed] at w'
        refine hg X c F0 H0 F' ρ' σ' H2 (R'.mono l2) x d hx _ (Tr.wp_mono (fun ρ1 h1 σ1 R1 _ => ?_) (Tr.wp_bind.mp w'))
        refine hb X c F0 H0 F' ρ1 σ1 H2 R1 _ (Tr.wp_mono (fun r hr => ?_) (Tr.wp_bind.mp h1))
        obtain ⟨fl, ρ2⟩ := r
        cases fl with
        | nx => exact fun F3 σ3 H3 f3 s3 R3 => ⟨F3, ρ2, (lt.trans l2.f l2.stay).trans f3 s3, R3, Tr.wp_mono (fun r hr => hr.le (fun a h => f3 a (l2.f a h)) (l2.stay.trans l2.f s3)) hr⟩
        | ct => exact fun F3 σ3 H3 f3 s3 R3 => ⟨F3, ρ2, (lt.trans l2.f l2.stay).trans f3 s3, R3, Tr.wp_mono (fun r hr => hr.le (fun a h => f3 a (l2.f a h)) (l2.stay.trans l2.f s3)) hr⟩
        | bk => exact fun F3 σ3 H3 f3 s3 R3 => hr F3 σ3 H3 (fun a h => f3 a (l2.f a h)) (l2.stay.trans l2.f s3) R3
        | rt v => exact fun F3 v3 H3 f3 s3 l3 q3 => hr F3 v3 H3 (fun a h => f3 a (l2.f a h)) (l2.stay.trans l2.f s3) l3 q3
      · have e : i = ds.length := by omega
        subst e
        rw [List.drop_length] at w'
        exact .inl ⟨wk.stop F' H' lt R'.wf, w' F' σ' H' (fun _ h => h) .refl R'⟩) (Tr.wp_bind.mp w)))
theorem sj_while (n : Nat) (ht : TJ S k N sc e t) (hb : BJ S k N sc ret body b) : SJ S k N sc ret (.While e body [] pos) (sWhile n t b) := fun X c F0 H0 F ρ σ H R D w =>
  .of (ps_while c.po pt_r pb_r) (by
    refine ⟨fun m σ' H' => ∃ F' ρ', Rel S F0 H0 F' ρ' σ' H' ∧ (sWhile m t b ρ').wp (SP1 S ret F0 H0 F' H' D), ⟨n, F, ρ, R, w⟩, ?_⟩
    rintro m σ' H' ⟨F', ρ', R', w'⟩
    cases m with
    | zero => exact w'.elim
    | succ m =>
      refine ht X c F0 H0 F' ρ' σ' H' R' _ (Tr.wp_mono (fun q hq F2 H2 l2 => ?_) (Tr.wp_bind.mp w'))
      cases q with
      | false =>
        rw [if_neg Bool.false_ne_true]
        exact hq F2 σ' H2 l2.f l2.stay (R'.mono l2)
      | true =>
        rw [if_pos rfl]
        refine ⟨fun σ3 H3 => ∃ F3 ρ3, Rel S F0 H0 F3 ρ3 σ3 H3 ∧ (sWhile m t b ρ3).wp (SP1 S ret F0 H0 F3 H3 D), fun σ3 H3 h3 => ⟨m, Nat.lt_succ_self m, h3⟩, ?_⟩
        refine hb X c F0 H0 F2 ρ' σ' H2 (R'.mono l2) _ (Tr.wp_mono (fun r hr => ?_) (Tr.wp_bind.mp hq))
        obtain ⟨fl, ρ2⟩ := r
        cases fl with
        | nx => exact fun F3 σ3 H3 f3 s3 R3 => ⟨F3, ρ2, R3, Tr.wp_mono (fun r hr => hr.le (fun a h => f3 a (l2.f a h)) (l2.stay.trans l2.f s3)) hr⟩
        | ct => exact fun F3 σ3 H3 f3 s3 R3 => ⟨F3, ρ2, R3, Tr.wp_mono (fun r hr => hr.le (fun a h => f3 a (l2.f a h)) (l2.stay.trans l2.f s3)) hr⟩
        | bk => exact fun F3 σ3 H3 f3 s3 R3 => hr F3 σ3 H3 (fun a h => f3 a (l2.f a h)) (l2.stay.trans l2.f s3) R3
        | rt v => exact fun F3 v3 H3 f3 s3 l3 q3 => hr F3 v3 H3 (fun a h => f3 a (l2.f a h)) (l2.stay.trans l2.f s3) l3 q3)
end
end Pv

namespace Pv
open PySem PySem.Spec PyProof.Rows L2

/-- the block's names as they run -/
def relN (scope : Scope) (sc : Names) : Names := (relS scope { scope with kind := .function, names := sc }).names
def wipeA {α : Type} (l : List (Option α)) : List Nat → List (Option α)
  | [] => l
  | v :: vs => (wipeA l vs).set v none
theorem wipeA_len {α : Type} (l : List (Option α)) : ∀ vs, (wipeA l vs).length = l.length
  | [] => rfl
  | v :: vs => by unfold wipeA; rw [List.length_set, wipeA_len l vs]
theorem wipeA_some {α : Type} {l : List (Option α)} {i : Nat} {x : α} : ∀ {vs : List Nat}, (wipeA l vs)[i]? = some (some x) → l[i]? = some (some x) ∧ i ∉ vs
  | [], h => ⟨h, List.not_mem_nil⟩
  | v :: vs, h => by
    unfold wipeA at h
    rcases get_set h with ⟨_, e, _⟩ | ⟨ne, h⟩
    · cases e
    · obtain ⟨h1, h2⟩ := wipeA_some h
      exact ⟨h1, fun z => (List.mem_cons.mp z).elim ne h2⟩
theorem wipeA_out {α : Type} {l : List (Option α)} {i : Nat} : ∀ {vs : List Nat}, i ∉ vs → (wipeA l vs)[i]? = l[i]?
  | [], _ => rfl
  | v :: vs, h => by
    unfold wipeA
    rw [List.getElem?_set_ne (show v ≠ i from fun z => h (by rw [z]; exact List.mem_cons_self ..))]
    exact wipeA_out fun z => h (List.mem_cons_of_mem _ z)
theorem wipeA_in {α : Type} {l : List (Option α)} {i : Nat} : ∀ {vs : List Nat}, i ∈ vs → (wipeA l vs)[i]? = if i < l.length then some none else none
  | [], h => by simp at h
  | v :: vs, h => by
    unfold wipeA
    by_cases e : v = i
    · subst e
      rw [List.getElem?_set]
      simp [wipeA_len]
    · rw [List.getElem?_set_ne e]
      exact wipeA_in ((List.mem_cons.mp h).resolve_left (Ne.symm e))
theorem wipe_eq (σ : L2.St) : ∀ vs, L2.wipe σ vs = wipeA σ vs
  | [] => rfl
  | v :: vs => by unfold L2.wipe wipeA; rw [wipe_eq σ vs]
theorem wipe_same {is vs : List Nat} {σ σ' : L2.St} (h : Same is (wipeA σ vs) σ') (hi : ∀ i ∈ is, i ∈ vs) : wipeA σ' vs = wipeA σ vs := by
  have hl : σ'.length = σ.length := by rw [h.len, wipeA_len]
  refine List.ext_getElem? fun j => ?_
  by_cases hj : j ∈ vs
  · rw [wipeA_in hj, wipeA_in hj, hl]
  · rw [wipeA_out hj, h.at' j fun z => hj (hi j z)]
section
variable {S : Sx} {k : Nat} {N : List Str} {sc : Names} {X : Cx}
theorem Rel.wipe {F0 F : Addr → Prop} {H0 H : Hp} {ρ : Ev} {σ : L2.St} (R : Rel S F0 H0 F ρ σ H) {vs : List Nat} (h6 : ∀ i, S.six = some i → i ∉ vs) : Rel S F0 H0 F (wipeA ρ vs) (wipeA σ vs) H := by
  refine ⟨R.base, by rw [wipeA_len, wipeA_len]; exact R.len, fun i d e => ?_, fun i d a hk e m z => ?_, fun i j d e a ne h1 h2 q1 q2 m1 m2 z1 z2 => ?_, fun i A L e1 e2 => ?_⟩
  · obtain ⟨h1, h2⟩ := wipeA_some e
    obtain ⟨v, g1, g2⟩ := R.slot i d h1
    exact ⟨v, by rw [wipeA_out h2]; exact g1, g2⟩
  · exact R.new i d a hk (wipeA_some e).1 m (wipeA_some z).1
  · exact R.apart i j d e a ne h1 h2 (wipeA_some q1).1 (wipeA_some q2).1 m1 m2 (wipeA_some z1).1 (wipeA_some z2).1
  · rw [wipeA_out (h6 i e1), wipeA_out (h6 i e1)]
    exact R.six i A L e1 e2
/-- a block's scope as it must be -/
def blkG (N : List Str) (sc : Names) (scope : Scope) (own : List (Str × Nat)) : Bool := blkC N { scope with kind := .function, names := sc } scope own && ((relN scope sc).lookup (".0" : Str)).isSome
def BlkK (sc : Names) (scope : Scope) : Prop := scope.kind = .function ∧ ((relN scope sc).lookup (".0" : Str)).isSome = true
theorem blkG_k {own : List (Str × Nat)} {scope : Scope} (h : blkG N sc scope own = true) : BlkK sc scope := by
  unfold blkG at h
  rw [Bool.and_eq_true] at h
  exact ⟨(blkOk_by h.1).kind, h.2⟩
theorem blk_ctx (c : Ctx S k N sc X) {scope : Scope} (hk : BlkK sc scope) (s : Shared) (H : Hp) (C : Addr) (cl : List (Str × Addr)) (fp : List Addr) : Ctx S k N (relN scope sc) (X.blk s H scope (compEnvC scope cl C X.env) fp) where
  hN := c.hN
  nd := c.nd
  sc := by
    show (relS scope X.env.scope).names = _
    unfold relN relS
    simp only [c.kind, c.sc]
  kind := hk.1
  P := c.P
  w := c.w
  K := c.K
  mg := c.mg
  base := c.base
  calm := c.calm
  room := c.room
  gd := c.gd
  po := PassesOwn.never
  fnw := fun z => by
    have h : (relS scope X.env.scope).names.lookup (".0" : Str) = none := z
    have e : (relS scope X.env.scope).names = relN scope sc := by unfold relN relS; simp only [c.kind, c.sc]
    rw [e] at h
    have := hk.2
    rw [h] at this
    cases this
theorem blk_ok (c : Ctx S k N sc X) {scope : Scope} {own : List (Str × Nat)} (h : blkG N sc scope own = true) : BlkOk X.N X.env.scope scope own := by
  unfold blkG at h
  rw [Bool.and_eq_true] at h
  have b := blkOk_by h.1
  refine ⟨b.kind, b.uniq, by rw [c.hN]; exact b.ix, fun y hy e => ?_, by rw [c.hN]; exact b.own⟩
  have := b.free y hy e
  rw [c.sc]; exact this
/-- readings for every block -/
def allE (X : Cx) (scope : Scope) (e : Expr) : TE := fun σ H Q => ∀ s H1 C cl fp, rE (X.blk s H1 scope (compEnvC scope cl C X.env) fp) e σ H Q
def allG (X : Cx) (scope : Scope) (e : Expr) : TG := fun v σ H Q => ∀ s H1 C cl fp, rG (X.blk s H1 scope (compEnvC scope cl C X.env) fp) e v σ H Q
def rTs (X : Cx) (ifs : List Expr) : TT := fun σ H Q => ∃ t, PTs X ifs t ∧ t σ H Q
theorem pts_r {ifs : List Expr} : PTs X ifs (rTs X ifs) := ⟨fun pins s σ H Q I ⟨t, p, h⟩ => p.run pins s σ H Q I h⟩
def allT (X : Cx) (scope : Scope) (e : List Expr) : TT := fun σ H Q => ∀ s H1 C cl fp, rTs (X.blk s H1 scope (compEnvC scope cl C X.env) fp) e σ H Q
theorem pe_all {scope : Scope} {e : Expr} (s : Shared) (H1 : Hp) (C : Addr) (cl : List (Str × Addr)) (fp : List Addr) : PE (X.blk s H1 scope (compEnvC scope cl C X.env) fp) e (allE X scope e) := ⟨fun pins s' σ H Q I h => pe_r.run pins s' σ H Q I (h s H1 C cl fp)⟩
theorem pg_all {scope : Scope} {e : Expr} (s : Shared) (H1 : Hp) (C : Addr) (cl : List (Str × Addr)) (fp : List Addr) : PG (X.blk s H1 scope (compEnvC scope cl C X.env) fp) e (allG X scope e) := ⟨fun pins s' σ H v u Q I r h => pg_r.run pins s' σ H v u Q I r (h s H1 C cl fp)⟩
theorem pts_all {scope : Scope} {e : List Expr} (s : Shared) (H1 : Hp) (C : Addr) (cl : List (Str × Addr)) (fp : List Addr) : PTs (X.blk s H1 scope (compEnvC scope cl C X.env) fp) e (allT X scope e) := ⟨fun pins s' σ H Q I h => pts_r.run pins s' σ H Q I (h s H1 C cl fp)⟩
def TsJ (S : Sx) (k : Nat) (N : List Str) (sc : Names) (ifs : List Expr) (f : TF) : Prop :=
  ∀ X, Ctx S k N sc X → ∀ F0 H0 F ρ σ H, Rel S F0 H0 F ρ σ H → ∀ Q : Bool → Hp → Prop, (f ρ).wp (TP1 S.B F H Q) → rTs X ifs σ H Q
def tYesF : TF := fun _ => .ret true
theorem tsj_nil : TsJ S k N sc [] tYesF := fun X c F0 H0 F ρ σ H R Q w => ⟨_, pts_nil, w F H (.refl R.wf)⟩
theorem tsj_one {e : Expr} {t : TF} (h : TJ S k N sc e t) : TsJ S k N sc [e] t := fun X c F0 H0 F ρ σ H R Q w => ⟨_, pts_one pt_r, h X c F0 H0 F ρ σ H R Q w⟩

def lcGo (g : GF) (t : TF) (f : EF) (ρ : Ev) : List D → Tr (List D)
  | [] => .ret []
  | d :: ds => (g d ρ).bind fun ρ1 => (t ρ1).bind fun b => if b then (f ρ1).bind fun y => (lcGo g t f ρ ds).bind fun r => .ret (y :: r) else lcGo g t f ρ ds
def eLc (src : Ev → Tr (List D)) (vs : List Nat) (g : GF) (t : TF) (f : EF) : EF := fun ρ => (src ρ).bind fun ds => (lcGo g t f (wipeA ρ vs) ds).bind fun out => need (out.length ≤ lim) (.ret (.list out))

variable {tg it elt : Expr} {ifs : List Expr} {scope : Scope} {own : List (Str × Nat)} {src : Ev → Tr (List D)} {g : GF} {t : TF} {f : EF} {is : List Nat} {pos : Pos}
theorem lc_sound (c : Ctx S k N sc X) (hk : BlkK sc scope) (h6 : ∀ i, S.six = some i → i ∉ own.map (·.2)) (hg : GJ S k N (relN scope sc) tg is g) (his : ∀ i ∈ is, i ∈ own.map (·.2)) (ht : TsJ S k N (relN scope sc) ifs t) (he : EJ S k N (relN scope sc) elt .frz f)
    {F0 F : Addr → Prop} {H0 H : Hp} {ρ : Ev} {σ : L2.St} {Q : VK} (hi : ∀ Rk : It → Hp → Prop, (src ρ).wp (fun ds => ∀ F1 H1 J, Le S.B F H F1 H1 → Wk (later S.B false F1 H1) S.B J ds → Rk J H1) → rIt X tg it σ H Rk) (R : Rel S F0 H0 F ρ σ H) (w : (eLc src (own.map (·.2)) g t f ρ).wp (EP1 S.B .own F H Q)) :
    tLc (rIt X tg it) (allG X scope tg) (allT X scope ifs) (allE X scope elt) (own.map (·.2)) σ H Q :=
  hi _ (Tr.wp_mono (fun ds hds F1 H1 J l1 wk => by
    intro dd hdd
    have nS := l1.wf'.srcSome hdd
    have hw := Tr.wp_bind.mp hds
    refine ⟨fun i m H' => m = ds.length - i ∧ i ≤ ds.length ∧ ∃ F' acc out, Le S.B F1 H1 F' H' ∧ H' dd = some (.lst acc) ∧ ¬ F' dd ∧ HasAll S.B.K F' H' acc out ∧ (lcGo g t f (wipeA ρ (own.map (·.2))) (ds.drop i)).wp fun r => (out ++ r).length ≤ lim ∧ EP1 S.B .own F H Q (.list (out ++ r)), ⟨ds.length, rfl, Nat.zero_le _, F1, [], [], Le.lay l1.wf' hdd, upd_same, notF_new l1.wf' hdd, .nil, ?_⟩, ?_⟩
    · rw [List.drop_zero]
      exact Tr.wp_mono (fun r hr => wp_need.mp hr) hw
    · rintro i m H' ⟨rfl, hil, F', acc, out, lW, hD, nD, al, w'⟩
      by_cases hlt : i < ds.length
      · have lt := later.of (fr := false) lW
        refine .inr ⟨wk.go i F' H' lt lW.wf' hlt, fun H2 => ∃ F' acc out, Le S.B F1 H1 F' H2 ∧ H2 dd = some (.lst acc) ∧ ¬ F' dd ∧ HasAll S.B.K F' H2 acc out ∧ (lcGo g t f (wipeA ρ (own.map (·.2))) (ds.drop (i + 1))).wp fun r => (out ++ r).length ≤ lim ∧ EP1 S.B .own F H Q (.list (out ++ r)),
          fun H2 h2 => ⟨ds.length - (i + 1), by omega, rfl, hlt, h2⟩, fun x H2 y => ?_⟩
        obtain ⟨d, hd, hx, l2⟩ := wk.yld i F' H' x H2 lt lW.wf' hlt y
        have ed : ds.drop i = d :: ds.drop (i + 1) := by
          rw [List.drop_eq_getElem_cons hlt]
          congr 1
          exact Option.some.inj ((List.getElem?_eq_getElem hlt).symm.trans hd)
        rw [ed] at w'
        intro s Hb C cl fp
        have Rw : Rel S F0 H0 F' (wipeA ρ (own.map (·.2))) (wipeA σ (own.map (·.2))) H2 := (((R.mono l1).mono lW).mono l2).wipe h6
        rw [wipe_eq]
        refine hg _ (blk_ctx c hk s Hb C cl fp) F0 H0 F' _ _ H2 Rw x d hx _ (Tr.wp_mono (fun ρ1 h1 σ2 R2 sm => ⟨by rw [wipe_eq]; exact wipe_same sm his, fun s Hb C cl fp => ?_⟩) (Tr.wp_bind.mp w'))
        refine ht _ (blk_ctx c hk s Hb C cl fp) F0 H0 F' ρ1 σ2 H2 R2 _ (Tr.wp_mono (fun b hb F3 H3 l3 => ?_) (Tr.wp_bind.mp h1))
        cases b with
        | false =>
          rw [if_neg Bool.false_ne_true]
          exact ⟨F3, acc, out, (lW.trans l2).trans l3, l3.h _ _ (l2.h _ _ hD nS) nS, l3.notF (l2.notF nD hD) (l2.h _ _ hD nS), l3.all (l2.all al), hb⟩
        | true =>
          rw [if_pos rfl]
          intro s Hb C cl fp
          refine he _ (blk_ctx c hk s Hb C cl fp) F0 H0 F3 ρ1 σ2 H3 (R2.mono l3) _ (Tr.wp_mono (fun y hy F4 v H4 l4 q4 => ?_) (Tr.wp_bind.mp hb))
          have hy := Tr.wp_bind.mp hy
          have l24 := (l2.trans l3).trans l4
          have hD4 := l24.h _ _ hD nS
          have nD4 := l24.notF nD hD
          have small : acc.length < lim := by
            have := Tr.wp_const (Tr.wp_mono (fun r hr => (show out.length < lim by have := hr.1; simp at this; omega)) hy)
            rw [al.length]; exact this
          have hm : Mut (H4 dd) := by rw [hD4]; trivial
          have st : Stay F4 H4 (upd H4 dd (.lst (acc ++ [v]))) := Stay.updL (B := S.B) nD4 hm
          have l5 := lW.trans l24
          refine ⟨acc, hD4, by rw [← lim_eq]; exact small, F4, acc ++ [v], out ++ [y], ⟨l5.f, fun a o h n => ?_, l5.n, l5.wf, l5.wf'.updO nS⟩, upd_same, nD4, ((l24.all al).append (.cons q4 .nil)).mono (fun _ h => h) st, Tr.wp_mono (fun r hr => ?_) hy⟩
          · have ne : a ≠ dd := fun z => by rw [z, hdd] at h; cases h
            rw [upd_ne ne]; exact l5.h a o h n
          · have e : out ++ [y] ++ r = out ++ y :: r := by simp
            rw [e]; exact hr
      · have e : i = ds.length := by omega
        subst e
        rw [List.drop_length] at w'
        obtain ⟨_, ep⟩ := w'
        rw [List.append_nil] at ep
        exact .inl ⟨wk.stop F' H' (later.of lW) lW.wf', ep F' _ H' (l1.trans lW) ⟨⟨dd, acc, rfl, nD, nS, hD, al⟩, fun _ a e => by cases e; exact l1.none hdd⟩⟩) (Tr.wp_bind.mp w))
theorem ej_lc (hok : blkG N sc scope own = true) (h6 : ∀ i, S.six = some i → i ∉ own.map (·.2)) (hi : IJ S k N sc tg it false src) (hg : GJ S k N (relN scope sc) tg is g) (his : ∀ i ∈ is, i ∈ own.map (·.2)) (ht : TsJ S k N (relN scope sc) ifs t) (he : EJ S k N (relN scope sc) elt .frz f)
    (hs : ∀ (env : Env) x, foldedSetIterable it env x = pure x) : EJ S k N sc (.ListComp elt [⟨tg, it, ifs, 0⟩] scope pos) .own (eLc src (own.map (·.2)) g t f) := fun X c F0 H0 F ρ σ H R Q w =>
  .of (pe_lc c.calm c.nd pi_r (blk_ok c hok) pg_all pts_all pe_all (hs _)) (lc_sound c (blkG_k hok) h6 hg his ht he (hi X c F0 H0 F ρ σ H R) R w)
end
end Pv

namespace Pv
open PySem PySem.Spec PyProof.Rows L2
section
variable {S : Sx} {k : Nat} {N : List Str} {sc : Names} {X : Cx} {ret : Md}
theorem set_sh {F0 F : Addr → Prop} {H0 H : Hp} {ρ : Ev} {σ : L2.St} {D : Ends} {i : Nat} {fe : EF} (hk : S.kd i = .sh) (h6 : S.six ≠ some i) (R : Rel S F0 H0 F ρ σ H) (w : (sSet i fe ρ).wp (SP1 S ret F0 H0 F H D)) :
    (fe ρ).wp (EP1 S.B .own F H fun v H1 => D.nx (σ.set i (some v)) H1) := Tr.wp_mono (fun d hd F1 v H1 l1 q1 => by
  obtain ⟨F2, h1, h2, h3, h4⟩ := OwnV.freeze l1.wf' q1.1
  have l2 : Le S.B F H F2 H1 := ⟨fun a h => h1 a (l1.f a h), l1.h, fun a h => (h2 a h).elim (fun z => l1.n a z) fun z => .inr (q1.2 z.1 a z.2), l1.wf, h3⟩
  exact hd F2 _ H1 l2.f l2.stay ((R.mono l2).set hk h6 h4)) (Tr.wp_bind.mp w)
theorem set_ow {F0 F : Addr → Prop} {H0 H : Hp} {ρ : Ev} {σ : L2.St} {D : Ends} {i : Nat} {fe : EF} (hk : S.kd i = .ow) (h6 : S.six ≠ some i) (R : Rel S F0 H0 F ρ σ H) (w : (sSet i fe ρ).wp (SP1 S ret F0 H0 F H D)) :
    (fe ρ).wp (EP1 S.B .own F H fun v H1 => D.nx (σ.set i (some v)) H1) := Tr.wp_mono (fun d hd F1 v H1 l1 q1 => by
  refine hd F1 _ H1 l1.f l1.stay ((R.mono l1).setOw hk h6 q1.1 fun m a e => ⟨R.base.none (q1.2 m a e), fun j e' ne hj q m' z => ?_⟩)
  obtain ⟨u, g1, g2⟩ := R.slot j e' q
  rw [z] at g1
  cases g1
  exact g2.taken R.wf m' rfl (q1.2 m a e)) (Tr.wp_bind.mp w)
variable {tg it elt : Expr} {ifs : List Expr} {scope : Scope} {own : List (Str × Nat)} {src : Ev → Tr (List D)} {g : GF} {t : TF} {f : EF} {is : List Nat} {pos spos : Pos} {i : Nat} {y : Str} {py : Pos}
theorem sj_setLc (hkd : S.kd i = .sh ∨ S.kd i = .ow) (hi6 : S.six ≠ some i) (hy : N[i]? = some y) (hyl : sc.lookup y = some .local) (hsw : ∀ env : Env, env.scope.kind = .function → env.scope.names.lookup y = some .local → swapsWith (.ListComp elt [⟨tg, it, ifs, 0⟩] scope pos) (some (.Name y py)) spos.line env = pure true)
    (hok : blkG N sc scope own = true) (h6 : ∀ i, S.six = some i → i ∉ own.map (·.2)) (hi : IJ S k N sc tg it false src) (hg : GJ S k N (relN scope sc) tg is g) (his : ∀ i ∈ is, i ∈ own.map (·.2)) (ht : TsJ S k N (relN scope sc) ifs t) (he : EJ S k N (relN scope sc) elt .frz f)
    (hs : ∀ (env : Env) x, foldedSetIterable it env x = pure x) : SJ S k N sc ret (.Assign [.Name y py] (.ListComp elt [⟨tg, it, ifs, 0⟩] scope pos) spos) (sSet i (eLc src (own.map (·.2)) g t f)) := fun X c F0 H0 F ρ σ H R D w => by
  have e1 : X.env.scope.names.lookup y = some .local := by rw [c.sc]; exact hyl
  refine .of (ps_setLc (i := i) c.calm c.nd (by rw [c.hN]; exact hy) e1 (hsw _ c.kind e1) pi_r (blk_ok c hok) pg_all pts_all pe_all (hs _)) ?_
  exact lc_sound c (blkG_k hok) h6 hg his ht he (hi X c F0 H0 F ρ σ H R) R (hkd.elim (fun z => set_sh z hi6 R w) fun z => set_ow z hi6 R w)
end
end Pv

namespace Pv
open PySem PySem.Spec PyProof.Rows L2

def leO (a b : D) : Bool := !PySem.W.dataLt b a
theorem leO_eq : leO = PySem.W.dataLe false id := rfl
def insD (a : D) : List D → List D
  | [] => [a]
  | b :: r => if leO a b then a :: b :: r else b :: insD a r
def isortD : List D → List D
  | [] => []
  | a :: r => insD a (isortD r)
theorem insD_mid {a : D} : ∀ {l1 l2 : List D}, (∀ b ∈ l1, (!leO a b) = true) → (∀ b ∈ l2, leO a b = true) → insD a (l1 ++ l2) = l1 ++ a :: l2
  | [], [], _, _ => rfl
  | [], b :: l2, _, h => by
    show (if leO a b then _ else _) = _
    rw [if_pos (h b (List.mem_cons_self ..))]; rfl
  | b :: l1, l2, h, h2 => by
    have hb := h b (List.mem_cons_self ..)
    show (if leO a b then _ else _) = _
    rw [if_neg (by simpa using hb)]
    show b :: insD a (l1 ++ l2) = _
    rw [insD_mid (fun c hc => h c (List.mem_cons_of_mem _ hc)) h2]; rfl
theorem leO_trans (a b c : D) (h1 : leO a b = true) (h2 : leO b c = true) : leO a c = true := (PySem.W.sortLe_total (listOrd itemOrd) false fun d : D => PySem.W.keyToks d).trans a b c h1 h2
theorem leO_total (a b : D) : (leO a b || leO b a) = true := by
  rcases (PySem.W.sortLe_total (listOrd itemOrd) false fun d : D => PySem.W.keyToks d).total a b with h | h
  · rw [show leO a b = true from h]; rfl
  · rw [show leO b a = true from h]; simp
theorem isort_merge : ∀ l : List D, l.mergeSort leO = isortD l
  | [] => by simp [isortD]
  | a :: l => by
    obtain ⟨l1, l2, e1, e2, hb⟩ := List.mergeSort_cons leO_trans leO_total a l
    rw [e1]
    show l1 ++ a :: l2 = insD a (isortD l)
    rw [← isort_merge l, e2]
    have srt : (l1 ++ a :: l2).Pairwise (fun x y => leO x y = true) := by rw [← e1]; exact List.pairwise_mergeSort leO_trans leO_total (a :: l)
    refine (insD_mid hb fun b h => ?_).symm
    exact (List.pairwise_cons.mp (List.pairwise_append.mp srt).2.1).1 b h
def isIntD : D → Bool
  | .int _ => true
  | _ => false
def isRowD : D → Bool
  | .tuple xs => xs.all isIntD
  | _ => false
def isRow1 : D → Bool
  | .tuple (x :: xs) => (x :: xs).all isIntD
  | _ => false
def isTup1 : D → Bool
  | .tuple (_ :: _) => true
  | _ => false
def isOther : D → Bool
  | .none => false
  | .tuple _ => false
  | _ => true
def notNon : D → Bool
  | .none => false
  | _ => true
def alike2 (ds : List D) : Bool := ds.all fun d => ds.all fun e => PySem.W.alike d e
def okAlike (ds : List D) : Bool := ds.all isIntD || ds.all isRowD || (alike2 ds && ds.all notNon)
def okSort (ds : List D) : Bool := ds.all isIntD || ds.all isRow1 || (alike2 ds && (ds.all isTup1 || ds.all isOther))
theorem alike_int {d e : D} (h : isIntD d = true) (h2 : isIntD e = true) : PySem.W.alike d e = true := by
  cases d <;> cases e <;> first | (cases h; done) | (cases h2; done) | simp [PySem.W.alike]
theorem alikeAll_int : ∀ {xs ys : List D}, xs.all isIntD = true → ys.all isIntD = true → PySem.W.alikeAll xs ys = true
  | [], _, _, _ => by simp [PySem.W.alikeAll]
  | _ :: _, [], _, _ => by simp [PySem.W.alikeAll]
  | x :: xs, y :: ys, h, h2 => by
    simp only [List.all_cons, Bool.and_eq_true] at h h2
    rw [PySem.W.alikeAll, alike_int h.1 h2.1, alikeAll_int h.2 h2.2]; rfl
theorem alike_row {d e : D} (h : isRowD d = true) (h2 : isRowD e = true) : PySem.W.alike d e = true := by
  cases d <;> cases e <;> first | (cases h; done) | (cases h2; done) | skip
  simp only [isRowD] at h h2
  rw [PySem.W.alike]; exact alikeAll_int h h2
theorem row1_row {d : D} (h : isRow1 d = true) : isRowD d = true := by
  cases d <;> first | (cases h; done) | skip
  rename_i xs
  cases xs <;> first | (cases h; done) | exact h
theorem okAlike_ok {ds : List D} (h : okAlike ds = true) : PySem.W.AlikeAll ds := by
  simp only [okAlike, Bool.or_eq_true, Bool.and_eq_true, List.all_eq_true, alike2] at h
  rcases h with (h | h) | ⟨h, h2⟩
  · exact ⟨fun x hx y hy => alike_int (h x hx) (h y hy), fun x hx e => by have := h x hx; rw [e] at this; cases this⟩
  · exact ⟨fun x hx y hy => alike_row (h x hx) (h y hy), fun x hx e => by have := h x hx; rw [e] at this; cases this⟩
  · exact ⟨fun x hx y hy => h x hx y hy, fun x hx e => by have := h2 x hx; rw [e] at this; cases this⟩
theorem okSort_ok {ds : List D} (h : okSort ds = true) : PySem.W.AllAlike ds ∧ PySem.W.Sortable ds := by
  simp only [okSort, Bool.or_eq_true, Bool.and_eq_true, List.all_eq_true, alike2] at h
  have t1 : ∀ d : D, isTup1 d = true → ∃ x r, d = .tuple (x :: r) := fun d h => by
    cases d <;> first | (cases h; done) | skip
    rename_i xs
    cases xs <;> first | (cases h; done) | exact ⟨_, _, rfl⟩
  rcases h with (h | h) | ⟨h, h2 | h2⟩
  · exact ⟨fun x hx y hy => alike_int (h x hx) (h y hy), .inr fun x hx => ⟨fun e => by (have := h x hx; rw [e] at this; cases this), fun xs e => by (have := h x hx; rw [e] at this; cases this)⟩⟩
  · exact ⟨fun x hx y hy => alike_row (row1_row (h x hx)) (row1_row (h y hy)), .inl fun x hx => t1 x (by
      have := h x hx
      cases x <;> first | (cases this; done) | skip
      rename_i xs
      cases xs <;> first | (cases this; done) | rfl)⟩
  · exact ⟨fun x hx y hy => h x hx y hy, .inl fun x hx => t1 x (h2 x hx)⟩
  · exact ⟨fun x hx y hy => h x hx y hy, .inr fun x hx => ⟨fun e => by (have := h2 x hx; rw [e] at this; cases this), fun xs e => by (have := h2 x hx; rw [e] at this; cases this)⟩⟩

def BorL (B : Bx) (F : Addr → Prop) (H : Hp) : List V → List D → Prop
  | [], [] => True
  | v :: vs, d :: ds => BorV B F H v d ∧ BorL B F H vs ds
  | _, _ => False
theorem BorL.of {B : Bx} {S : Sx} {H0 : Hp} {F : Addr → Prop} {H : Hp} (w : Wf S.B F H) : ∀ {ms : List Md} {vs : List V} {ds : List D}, ResL S.B H0 F H ms vs ds → BorL S.B F H vs ds
  | [], [], [], _ => trivial
  | m :: ms, v :: vs, d :: ds, r => ⟨Res.bor w r.1, BorL.of (B := B) w r.2.2⟩
  | [], _ :: _, _, r => r.elim
  | [], [], _ :: _, r => r.elim
  | _ :: _, [], _, r => r.elim
  | _ :: _, _ :: _, [], r => r.elim
def rC (X : Cx) (f : Value) : List V → Hp → VK → Prop := fun vs H Q => ∃ r, CallR X f r ∧ r vs H Q
theorem callr_r {X : Cx} {f : Value} : CallR X f (rC X f) := fun pins s σ H xs us Q I rv ⟨r, c, h⟩ => c pins s σ H xs us Q I rv h
def BR (S : Sx) (k : Nat) (N : List Str) (sc : Names) (u : Value) (m : Md) (φ : List D → Tr D) : Prop :=
  ∀ X, Ctx S k N sc X → ∀ (F : Addr → Prop) (H : Hp) (vs : List V) (ds : List D) (Q : VK), Wf S.B F H → BorL S.B F H vs ds → (φ ds).wp (EP1 S.B m F H Q) → rC X u vs H Q
section
variable {S : Sx} {k : Nat} {N : List Str} {sc : Names} {m : Md} {φ : List D → Tr D} {x : Str} {idn : String} {p pos : Pos} {e : Expr} {es : List Expr} {ms : List Md} {g : AF}
theorem ej_blt (r : BR S k N sc (.builtin idn) m φ) (hv : bootBuiltins x = some (.builtin idn)) (hx : x ≠ "__name__") (hdb : (x == ("__debug__" : Str)) = false) (hg : sc.lookup x = some .globalImplicit) (hm : S.B.mg x = none) (h : PJ S k N sc (e :: es) ms g)
    (he : ∀ env : Env, starEach (e :: es) env = (false, eval e env) :: starEach es env) (hpl : ∀ env : Env, (backTo pos (starEach es env)).any (·.1) = false) : EJ S k N sc (.Call (.Name x p) (e :: es) [] pos) m (eCall φ g) := fun X c F0 H0 F ρ σ H R Q w =>
  .of (pe_callB callr_r (gl_of c hg) (mg_of c hm) hv pa_r hx hdb (he _) (hpl _)) (h X c F0 H0 F ρ σ H R _ (Tr.wp_mono (fun ds hds F1 vs H1 l1 q1 =>
    r X c F1 H1 vs ds Q l1.wf' (BorL.of (B := S.B) l1.wf' q1) (Tr.wp_mono (fun d hd => EP1.le l1 hd) hds)) (Tr.wp_bind.mp w)))
theorem ej_typ (r : BR S k N sc (.type idn) m φ) (hv : bootBuiltins x = some (.type idn)) (hx : x ≠ "__name__") (hdb : (x == ("__debug__" : Str)) = false) (hg : sc.lookup x = some .globalImplicit) (hm : S.B.mg x = none) (h : PJ S k N sc (e :: es) ms g)
    (he : ∀ env : Env, starEach (e :: es) env = (false, eval e env) :: starEach es env) (hpl : ∀ env : Env, (backTo pos (starEach es env)).any (·.1) = false) : EJ S k N sc (.Call (.Name x p) (e :: es) [] pos) m (eCall φ g) := fun X c F0 H0 F ρ σ H R Q w =>
  .of (pe_callTy callr_r (gl_of c hg) (mg_of c hm) hv pa_r hx hdb (he _) (hpl _)) (h X c F0 H0 F ρ σ H R _ (Tr.wp_mono (fun ds hds F1 vs H1 l1 q1 =>
    r X c F1 H1 vs ds Q l1.wf' (BorL.of (B := S.B) l1.wf' q1) (Tr.wp_mono (fun d hd => EP1.le l1 hd) hds)) (Tr.wp_bind.mp w)))

def fn1 (f : D → Tr D) : List D → Tr D
  | [d] => f d
  | _ => .fail
def fn2 (f : D → D → Tr D) : List D → Tr D
  | [d, e] => f d e
  | _ => .fail
def lenD : D → Tr D
  | .list xs => .ret (.int (xs.length : Nat))
  | .tuple xs => .ret (.int (xs.length : Nat))
  | .dict kvs => .ret (.int (kvs.length : Nat))
  | .str z => need (z.length ≤ lim) (.ret (.int (z.length : Nat)))
  | _ => .fail
def tupleD (d : D) : Tr D := (seqOf d).bind fun xs => .ret (.tuple xs)
def listD : D → Tr D
  | .list xs => .ret (.list xs)
  | .tuple xs => .ret (.list xs)
  | _ => .fail
def absD : D → Tr D
  | .int i => .ret (.int (if i < 0 then -i else i))
  | _ => .fail
def intD : D → Tr D
  | .int i => .ret (.int i)
  | .bool b => .ret (.int (if b then 1 else 0))
  | _ => .fail
def max2D : D → D → Tr D
  | .int i, .int j => .ret (.int (if j > i then j else i))
  | _, _ => .fail
def min2D : D → D → Tr D
  | .int i, .int j => .ret (.int (if j < i then j else i))
  | _, _ => .fail
def maxD1 (d : D) : Tr D := (seqOf d).bind fun xs => match xs with
  | [] => .fail
  | x :: r => need (shp (.list (x :: r)) = true ∧ okAlike (x :: r) = true) (.ret (PySem.W.maxD x r))
def minD1 (d : D) : Tr D := (seqOf d).bind fun xs => match xs with
  | [] => .fail
  | x :: r => need (shp (.list (x :: r)) = true ∧ okAlike (x :: r) = true) (.ret (PySem.W.minD x r))
def boolsOf : List D → Option (List Bool)
  | [] => some []
  | .bool b :: ds => (boolsOf ds).map (b :: ·)
  | _ => none
def anyD : D → Tr D
  | .list xs => match boolsOf xs with
    | some bs => .ret (.bool (bs.any id))
    | none => .fail
  | _ => .fail
def allD : D → Tr D
  | .list xs => match boolsOf xs with
    | some bs => .ret (.bool (bs.all id))
    | none => .fail
  | _ => .fail
def sumD : D → Tr D
  | .list xs => match intsOf xs with
    | some ns => .ret (.int ns.sum)
    | none => .fail
  | _ => .fail
theorem boolsOf_ok : ∀ {ds : List D} {ns : List Bool}, boolsOf ds = some ns → ds = ns.map .bool
  | [], ns, h => by cases h; rfl
  | .bool i :: ds, ns, h => by
    unfold boolsOf at h
    cases e : boolsOf ds with
    | none => rw [e] at h; cases h
    | some ms => rw [e] at h; cases h; rw [boolsOf_ok e]; rfl
  | .none :: ds, _, h => by cases h
  | .int _ :: ds, _, h => by cases h
  | .str _ :: ds, _, h => by cases h
  | .list _ :: ds, _, h => by cases h
  | .tuple _ :: ds, _, h => by cases h
  | .dict _ :: ds, _, h => by cases h
theorem HasAll.bools {K : PySem.W.Frag} {F : Addr → Prop} {H : Hp} : ∀ {vs : List V} {ns : List Bool}, HasAll K F H vs (ns.map .bool) → vs = ns.map V.bl
  | _, [], .nil => rfl
  | _, n :: ns, .cons a b => by cases a; rw [List.map_cons, HasAll.bools b]
theorem bor1 {B : Bx} {F : Addr → Prop} {H : Hp} {vs : List V} {d : D} (h : BorL B F H vs [d]) : ∃ v, vs = [v] ∧ BorV B F H v d := by
  match vs, h with
  | [v], h => exact ⟨v, rfl, h.1⟩
theorem bor2 {B : Bx} {F : Addr → Prop} {H : Hp} {vs : List V} {d e : D} (h : BorL B F H vs [d, e]) : ∃ v u, vs = [v, u] ∧ BorV B F H v d ∧ BorV B F H u e := by
  match vs, h with
  | [v, u], h => exact ⟨v, u, rfl, h.1, h.2.1⟩
/-- one argument -/
theorem br1 {u : Value} {f : D → Tr D} (h : ∀ X, Ctx S k N sc X → ∀ (F : Addr → Prop) (H : Hp) (v : V) (d : D) (Q : VK), Wf S.B F H → BorV S.B F H v d → (f d).wp (EP1 S.B m F H Q) → ∃ r, CallR X u r ∧ r [v] H Q) : BR S k N sc u m (fn1 f) := fun X c F H vs ds Q wf b w => by
  match ds, b, w with
  | [d], b, w =>
    obtain ⟨v, rfl, bv⟩ := bor1 b
    exact h X c F H v d Q wf bv w
  | [], _, w => exact w.elim
  | _ :: _ :: _, _, w => exact w.elim
theorem br2 {u : Value} {f : D → D → Tr D} (h : ∀ X, Ctx S k N sc X → ∀ (F : Addr → Prop) (H : Hp) (v v2 : V) (d d2 : D) (Q : VK), Wf S.B F H → BorV S.B F H v d → BorV S.B F H v2 d2 → (f d d2).wp (EP1 S.B m F H Q) → ∃ r, CallR X u r ∧ r [v, v2] H Q) : BR S k N sc u m (fn2 f) := fun X c F H vs ds Q wf b w => by
  match ds, b, w with
  | [d, d2], b, w =>
    obtain ⟨v, v2, rfl, bv, bv2⟩ := bor2 b
    exact h X c F H v v2 d d2 Q wf bv bv2 w
  | [], _, w => exact w.elim
  | [_], _, w => exact w.elim
  | _ :: _ :: _ :: _, _, w => exact w.elim
theorem callr_lenD {X : Cx} : CallR X (.builtin "len") (fun vs H Q => ∃ a kvs, vs = [V.ref a] ∧ Rd H a (.dK kvs) ∧ Q (.int kvs.length) H) := fun pins s σ H vs us Q I rv ⟨a, kvs, ev, hr, q⟩ => by
  subst ev
  obtain ⟨u, rfl, ru⟩ := vals1 rv
  cases ru
  exact d_len I hr fun t s' I' => ⟨.int kvs.length, H, I', ⟨t, rfl⟩, q⟩
theorem callr_lenT {X : Cx} : CallR X (.builtin "len") (fun vs H Q => ∃ a kvs, vs = [V.ref a] ∧ Rd H a (.dT kvs) ∧ Q (.int ((kvs.length : Nat) : Int)) H) := fun pins s σ H vs us Q I rv ⟨a, kvs, ev, hr, q⟩ => by
  subst ev
  obtain ⟨u, rfl, ru⟩ := vals1 rv
  cases ru
  obtain ⟨z, hd, ys, rel, dd⟩ := dt_rd I.hok hr
  have hl : kvs.length = ys.length := Paired.length rel
  have e : (Value.int ((ys.length : Nat) : Int) (s.toks + 1)) = Value.int ((kvs.length : Nat) : Int) (s.toks + 1) := by rw [hl]
  refine call_len_dictH hd dd (by rw [← hl]; rw [sizeLine_eq] at z; omega) ?_
  rw [e]
  exact ⟨.int ((kvs.length : Nat) : Int), H, I.tok _, ⟨_, rfl⟩, q⟩
theorem map_len {α β γ : Type} {f : α → γ} {g : β → γ} {xs : List α} {ys : List β} (h : xs.map f = ys.map g) : xs.length = ys.length := by
  have := congrArg List.length h; simpa using this
theorem br_len : BR S k N sc (.builtin "len") .own (fn1 lenD) := br1 fun X c F H v d Q wf b w => by
  cases d <;> first | exact w.elim | skip
  · cases b
    obtain ⟨h, w⟩ := wp_need.mp w
    exact ⟨_, call_len_str, _, rfl, by rw [← lim_eq]; exact h, w F _ H (.refl wf) res_int⟩
  · obtain ⟨a, xs, rfl, _, r, al⟩ := b
    refine ⟨_, call_len_seq, a, xs, rfl, .inl (SqL.of r), ?_⟩
    rw [al.length]
    exact w F _ H (.refl wf) res_int
  · obtain ⟨a, xs, rfl, r, al⟩ := Has.tup_inv b
    refine ⟨_, call_len_seq, a, xs, rfl, .inr (SqT.of r), ?_⟩
    rw [al.length]
    exact w F _ H (.refl wf) res_int
  · obtain ⟨a, rfl, _, dv⟩ := b
    rcases dv with ⟨kvs, r, ek, ha⟩ | ⟨kvs, r, _, ek, ha⟩
    · refine ⟨_, callr_lenD, a, kvs, rfl, r, ?_⟩
      rw [← map_len ek]
      exact w F _ H (.refl wf) res_int
    · refine ⟨_, callr_lenT, a, kvs, rfl, r, ?_⟩
      rw [← map_len ek]
      exact w F _ H (.refl wf) res_int
theorem br_tuple : BR S k N sc (.type "tuple") .own (fn1 tupleD) := br1 fun X c F H v d Q wf b w => by
  cases d <;> first | exact w.elim | skip
  · obtain ⟨a, xs, rfl, _, r, al⟩ := b
    exact ⟨_, call_tuple_of, a, xs, rfl, .inl ⟨SqL.of r, fun l hl => res_tup wf hl al w⟩⟩
  · obtain ⟨a, xs, rfl, r, al⟩ := Has.tup_inv b
    exact ⟨_, call_tuple_of, a, xs, rfl, .inr ⟨SqT.of r, w F _ H (.refl wf) ⟨b, fun z => by cases z⟩⟩⟩
theorem br_list : BR S k N sc (.type "list") .own (fn1 listD) := br1 fun X c F H v d Q wf b w => by
  cases d <;> first | exact w.elim | skip
  · obtain ⟨a, xs, rfl, _, r, al⟩ := b
    exact ⟨_, call_list_of, a, xs, rfl, .inl (SqL.of r), fun l hl => res_lst wf hl al w⟩
  · obtain ⟨a, xs, rfl, r, al⟩ := Has.tup_inv b
    exact ⟨_, call_list_of, a, xs, rfl, .inr (SqT.of r), fun l hl => res_lst wf hl al w⟩
theorem br_abs : BR S k N sc (.builtin "abs") .own (fn1 absD) := br1 fun X c F H v d Q wf b w => by
  cases d <;> first | exact w.elim | skip
  cases b
  exact ⟨_, call_abs, _, rfl, w F _ H (.refl wf) res_int⟩
theorem br_int : BR S k N sc (.type "int") .own (fn1 intD) := br1 fun X c F H v d Q wf b w => by
  cases d <;> first | exact w.elim | skip
  · cases b
    exact ⟨_, call_int1, .inr ⟨_, rfl, w F _ H (.refl wf) res_int⟩⟩
  · cases b
    exact ⟨_, call_int1, .inl ⟨_, rfl, w F _ H (.refl wf) res_int⟩⟩
theorem br_max2 : BR S k N sc (.builtin "max") .own (fn2 max2D) := br2 fun X c F H v v2 d d2 Q wf b b2 w => by
  cases d <;> cases d2 <;> first | exact w.elim | skip
  cases b; cases b2
  exact ⟨_, call_max2 c.calm, _, _, rfl, w F _ H (.refl wf) res_int⟩
theorem br_min2 : BR S k N sc (.builtin "min") .own (fn2 min2D) := br2 fun X c F H v v2 d d2 Q wf b b2 w => by
  cases d <;> cases d2 <;> first | exact w.elim | skip
  cases b; cases b2
  exact ⟨_, call_min2 c.calm, _, _, rfl, w F _ H (.refl wf) res_int⟩
theorem br_any : BR S k N sc (.builtin "any") .own (fn1 anyD) := br1 fun X c F H v d Q wf b w => by
  cases d <;> first | exact w.elim | skip
  rename_i ds
  obtain ⟨a, xs, rfl, _, r, al⟩ := b
  cases e : boolsOf ds with
  | none => simp only [anyD, e] at w; exact w.elim
  | some bs =>
    simp only [anyD, e] at w
    rw [boolsOf_ok e] at al
    rw [al.bools] at r
    exact ⟨_, cr_any c.calm, a, bs, rfl, SqL.of r, w F _ H (.refl wf) res_bl⟩
theorem br_all : BR S k N sc (.builtin "all") .own (fn1 allD) := br1 fun X c F H v d Q wf b w => by
  cases d <;> first | exact w.elim | skip
  rename_i ds
  obtain ⟨a, xs, rfl, _, r, al⟩ := b
  cases e : boolsOf ds with
  | none => simp only [allD, e] at w; exact w.elim
  | some bs =>
    simp only [allD, e] at w
    rw [boolsOf_ok e] at al
    rw [al.bools] at r
    exact ⟨_, cr_all c.calm, a, bs, rfl, SqL.of r, w F _ H (.refl wf) res_bl⟩
theorem br_sum : BR S k N sc (.builtin "sum") .own (fn1 sumD) := br1 fun X c F H v d Q wf b w => by
  cases d <;> first | exact w.elim | skip
  rename_i ds
  obtain ⟨a, xs, rfl, _, r, al⟩ := b
  cases e : intsOf ds with
  | none => simp only [sumD, e] at w; exact w.elim
  | some bs =>
    simp only [sumD, e] at w
    rw [intsOf_ok e] at al
    rw [al.ints] at r
    exact ⟨_, cr_sum c.calm, a, bs, rfl, SqL.of r, w F _ H (.refl wf) res_int⟩
end
end Pv

namespace Pv
open PySem PySem.Spec PyProof.Rows L2

section
variable {X : Cx} {F : Addr → Prop}
/-- a value's side of one item -/
def ItemR (X : Cx) (F : Addr → Prop) (H : Hp) (v : Value) (d : D) : Prop := ∃ x, RelV x v ∧ Has X.K F H x d
theorem each_item {H : Hp} : ∀ {xs : List V} {us : List Value} {ds : List D}, Vals xs us → HasAll X.K F H xs ds → PySem.W.EachIs (ItemR X F H) us ds
  | _, _, _, .nil, .nil => .nil
  | _, _, _, .cons r t, .cons a b => .cons ⟨_, r, a⟩ (each_item t b)
theorem item_each {H : Hp} : ∀ {us : List Value} {ds : List D}, PySem.W.EachIs (ItemR X F H) us ds → ∃ xs, Vals xs us ∧ HasAll X.K F H xs ds
  | _, _, .nil => ⟨[], .nil, .nil⟩
  | _, _, .cons ⟨x, r, a⟩ t => by
    obtain ⟨xs, h1, h2⟩ := item_each t
    exact ⟨x :: xs, .cons r h1, .cons a h2⟩
theorem canLay_mem : ∀ {ds : List D} {d : D}, PyData.canLayAll0 ds = true → d ∈ ds → d.canLay0 = true
  | e :: ds, d, h, m => by
    simp only [PyData.canLayAll0, Bool.and_eq_true] at h
    rcases List.mem_cons.mp m with z | z
    · rw [z]; exact h.1
    · exact canLay_mem h.2 z
theorem depth_mem : ∀ {ds : List D} {d : D}, d ∈ ds → d.depth ≤ PyData.depthAll ds
  | e :: ds, d, m => by
    simp only [PyData.depthAll]
    rcases List.mem_cons.mp m with z | z
    · rw [z]; exact Nat.le_max_left _ _
    · exact Nat.le_trans (depth_mem z) (Nat.le_max_right _ _)
theorem shp_list {ds : List D} (h : shp (.list ds) = true) : PyData.canLayAll0 ds = true ∧ PyData.depthAll ds < 64 := by
  have h1 := SeqAt.canLay_of_shaped h
  have h2 := SeqAt.depth_of_shaped h
  simp only [PyData.canLay0] at h1
  simp only [PyData.depth] at h2
  exact ⟨h1, by omega⟩
theorem item_reads {pins : List (Addr × Obj)} {σ : L2.St} {H : Hp} {s : Shared} (I : Inv X pins σ H s) {v : Value} {d : D} (h : ItemR X F H v d) (l : d.canLay0 = true) : ∃ as, Reads s.heap v d as := by
  obtain ⟨x, r, a⟩ := h
  exact Dp.reads I d x v (a.dp l) r
/-- what is asked of the items -/
structure CanSort (X : Cx) (ds : List D) : Prop where
  sh : shp (.list ds) = true
  ok : okSort ds = true
  len : ds.length ≤ lim
  hu : X.A.units + 200 < cLine
theorem sort_post {pins : List (Addr × Obj)} {σ : L2.St} {H : Hp} {s : Shared} {Q : VK} {us out : List Value} {ds : List D} {p : Addr} {h' : Heap} {c tk : Nat} (I : Inv X pins σ H s) (C : CanSort X ds) (e : PySem.W.EachIs (ItemR X F H) out (isortD ds)) (hl : out.length = ds.length)
    (keep : ∀ b u, s.heap.get? b = some u → h'.get? b = some u) (hp : s.heap.objs.size ≤ p) (hat : h'.get? p = some (seqObj "list" out.toArray c))
    (q : ∀ ys, HasAll X.K F H ys (isortD ds) → H p = none → Q (.ref p) (upd H p (.lst ys))) : EP X pins σ Q (.ref p) { s with heap := h', toks := tk } := by
  obtain ⟨ys, h1, h2⟩ := item_each e
  refine ⟨.ref p, _, I.laid (t' := tk) (o := .lst ys) keep hp ⟨?_, out, c, h1, hat⟩, rfl, q ys h2 (I.hok.fresh hp)⟩
  have := h1.length
  have := C.len
  rw [← lim_eq]; omega
def rSortL (X : Cx) (F : Addr → Prop) : List V → Hp → VK → Prop := fun vs H Q => ∃ a xs ds, vs = [V.ref a] ∧ H a = some (.lst xs) ∧ HasAll X.K F H xs ds ∧ CanSort X ds ∧ ∀ ys p, HasAll X.K F H ys (isortD ds) → H p = none → Q (.ref p) (upd H p (.lst ys))
theorem callr_sortL : CallR X (.builtin "sorted") (rSortL X F) := fun pins s σ H vs us Q I rv ⟨a, xs, ds, ev, hx, al, C, q⟩ => by
  subst ev
  obtain ⟨u, rfl, ru⟩ := vals1 rv
  cases ru
  obtain ⟨its, r, p, _⟩ := I.list (.inl (.inl hx))
  obtain ⟨cl, dp⟩ := shp_list C.sh
  obtain ⟨ha, hs⟩ := okSort_ok C.ok
  have e := each_item (X := X) r al
  have hu := C.hu
  refine PySem.W.sorted_data (enc := id) (R := ItemR X F H) p.isList e ((PySem.W.each_mem e).mono fun v d ⟨h, m⟩ => item_reads I h (canLay_mem cl m)) (by rw [List.map_id]; exact ha) (by rw [List.map_id]; exact hs) (by rw [← lim_eq]; exact C.len)
    (fun b hb => by have := depth_mem hb; show X.A.units + 2 + b.depth < cLine; omega) fun out ho eo => ?_
  obtain ⟨c, hc⟩ := sortedAll_at s.heap its out.toArray
  rw [← leO_eq, isort_merge] at eo
  exact sort_post (us := its) (tk := s.toks) I C eo ho (fun b u e => sortedAll_old e) (Nat.le_succ _) hc fun ys h1 h2 => q ys _ h1 h2
/-- sorted over what the kit collects -/
theorem sorted_src {T : String} {r d : Addr} {n : Nat} {P : Nat → Value → Prop} {OK : Heap → Prop} {pins : List (Addr × Obj)} {σ : L2.St} {H : Hp} {s : Shared} {Q : VK} {ds : List D} (hc : X.calm = true) (I : Inv X pins σ H s) (Ks : PySem.W.KdlSrc X.prog X.w T r d n P OK) (hok : OK s.heap) (hn : n ≤ sizeLine) (C : CanSort X ds)
    (hacc : ∀ acc : Array Value, ItemsOf P acc n → ∃ xs, Vals xs acc.toList ∧ HasAll X.K F H xs ds) (q : ∀ ys p, HasAll X.K F H ys (isortD ds) → H p = none → Q (.ref p) (upd H p (.lst ys))) :
    wpAny (model X.prog X.w) X.A (call (.builtin "sorted") [.ref r]) (EP X pins σ Q) X.xe s := by
  obtain ⟨cl, dp⟩ := shp_list C.sh
  obtain ⟨ha, hs⟩ := okSort_ok C.ok
  have hu := C.hu
  refine Calls.call_function_entry PyProof.Rows.kind_sorted PyProof.Rows.plain_sorted PyProof.Rows.entry_sorted (PyProof.Rows.args_sorted1 _) ?_
  unfold Builtin.«sorted»
  refine wpAny_bind (m := checkCount "sorted" 1 1 _) (wpAny_pure ?_)
  refine wpAny_bind (PySem.W.kdu_collect (A := X.A.in1) Ks (I.ok.hd hc) hok hn fun h' tk acc hk ho => ?_)
  obtain ⟨xs, r1, al⟩ := hacc acc ho
  have I1 : Inv X pins σ H { s with heap := h', toks := tk } := I.kept hk
  have el : acc.toList.length = ds.length := by rw [← r1.length]; exact al.length
  have hlen : acc.toList.length ≤ sizeLine := by rw [el, ← lim_eq]; exact C.len
  refine wpAny_bind (wpAny_newList ?_ hlen)
  have new1 : (h'.push (seqObj "list" acc.toList.toArray 0)).get? h'.objs.size = some (seqObj "list" acc.toList.toArray 0) := Heap.get?_push_size _ rfl
  have e := each_item (X := X) r1 al
  show wpAny _ _ _ _ _ { s with heap := h'.push (seqObj "list" acc.toList.toArray 0), toks := tk }
  have er : PySem.W.EachIs (fun v b => ∃ as, Reads (h'.push (seqObj "list" acc.toList.toArray 0)) v (id b) as ∧ h'.objs.size ∉ as) acc.toList ds := (PySem.W.each_mem e).mono fun v d ⟨h, m⟩ => by
    obtain ⟨as, rd⟩ := item_reads I1 h (canLay_mem cl m)
    refine ⟨as, PyProof.Rows.Reads.keeps (fun b o e => Heap.get?_push_of_some _ e) rd, fun z => ?_⟩
    obtain ⟨o, eo⟩ := PyProof.On.reads_mem_get rd _ z
    exact absurd (Heap.lt_size eo) (Nat.lt_irrefl _)
  refine wpAny_bind (wpAny_holding (PySem.W.list_sort_data (enc := id) (R := ItemR X F H) (s := { s with heap := h'.push (seqObj "list" acc.toList.toArray 0), toks := tk }) new1 e er (by rw [List.map_id]; exact ha) (by rw [List.map_id]; exact hs) (by rw [← el]; exact hlen)
    (fun b hb => by have := depth_mem hb; show X.A.units + 1 + 1 + b.depth < cLine; omega) fun out hol eo => ?_))
  rw [← leO_eq, isort_merge] at eo
  obtain ⟨c, hcc⟩ := sortedHeap_at (vs := acc.toList) (out := out.toArray) new1
  refine wpAny_pure ⟨_, rfl, ?_⟩
  refine sort_post (s := { s with heap := h', toks := tk }) (us := acc.toList) (tk := tk) I1 C eo hol (fun b u e => ?_) (Nat.le_refl _) hcc fun ys h1 h2 => q ys _ h1 h2
  have hlt := Heap.lt_size e
  show (sortedHeap (h'.push (seqObj "list" acc.toList.toArray 0)) h'.objs.size acc.toList out.toArray).get? b = some u
  rw [sortedHeap_old (Nat.ne_of_lt hlt) (by rw [Heap.size_push]; exact Nat.lt_succ_of_lt hlt)]
  exact Heap.get?_push_of_some _ e
end
end Pv

namespace Pv
open PySem PySem.Spec PyProof.Rows L2

section
variable {X : Cx} {F : Addr → Prop}
theorem vals_get {xs : List V} {us : List Value} {i : Nat} {u : Value} {x : V} (h : Vals xs us) (e : us[i]? = some u) (e2 : xs[i]? = some x) : RelV x u := by
  obtain ⟨y, h1, h2⟩ := vals_back h e
  rw [e2] at h1; cases h1; exact h2
/-- the keys of a flat dict, as data -/
theorem keys_flat {H : Hp} : ∀ {kvs : List (Key × V)}, HasAll X.K F H (kvs.map fun p => kV p.1) (kvs.map fun p => kD p.1)
  | [] => .nil
  | p :: r => .cons (by
      obtain ⟨k, v⟩ := p
      cases k with
      | inl i => exact .int i
      | inr z => exact .str z) keys_flat
theorem keys_tup {H : Hp} : ∀ {kvs : List (List Key × V)} {ks : List (List Key × Addr × Value)}, KT H kvs ks → HasAll X.K F H ((ks.map fun x => x.2.1).map V.ref) (kvs.map fun p => .tuple (p.1.map kD))
  | _, _, .nil => .nil
  | p :: r, q :: t, .cons h t' => .cons (.tup h.2.1 (by
      have key1 : ∀ l : List Key, HasAll X.K F H (l.map kV) (l.map kD) := fun l => by
        induction l with
        | nil => exact .nil
        | cons k l ih =>
          refine .cons ?_ ih
          cases k with
          | inl i => exact .int i
          | inr z => exact .str z
      exact key1 _)) (keys_tup t')
/-- sorted(d), d a dict -/
def rSortD (X : Cx) (F : Addr → Prop) : List V → Hp → VK → Prop := fun vs H Q => ∃ a kvs, vs = [V.ref a] ∧ DictV X.K F H (fun o => Rd H a o) kvs ∧ CanSort X (kvs.map (·.1)) ∧ ∀ ys p, HasAll X.K F H ys (isortD (kvs.map (·.1))) → H p = none → Q (.ref p) (upd H p (.lst ys))
theorem callr_sortD (hc : X.calm = true) : CallR X (.builtin "sorted") (rSortD X F) := fun pins s σ H vs us Q I rv ⟨a, ds, ev, dv, C, q⟩ => by
  subst ev
  obtain ⟨u, rfl, ru⟩ := vals1 rv
  cases ru
  have hl := C.len
  rcases dv with ⟨kvs, r, ek, ha⟩ | ⟨kvs, r, ne, ek, ha⟩
  · obtain ⟨z, lo, vs, rel, dd⟩ := dk_rd I.hok r
    obtain ⟨ep, hat⟩ := dd.dictAt
    have l1 := rel.length
    refine sorted_src hc I (PySem.W.kdl_dict (knd := mixKind X.prog X.w) (kvs := vs) (ep := ep) lo) hat (by omega) C (fun acc ho => ⟨kvs.map fun p => kV p.1, ?_, by rw [ek]; exact keys_flat⟩) q
    have el : acc.toList.length = vs.length := by rw [Array.length_toList, ho.1]
    refine vals_of_at (by rw [List.length_map, el, l1]) fun j x w h1 h2 => ?_
    obtain ⟨k, y, hky, hi⟩ := ho.2 j w (by rw [← Array.getElem?_toList]; exact h2)
    have e1 : (kvs.map (·.1))[j]? = some k := by rw [rel.keys, List.getElem?_map, hky]; rfl
    rw [List.getElem?_map] at e1 h1
    cases e2 : kvs[j]? with
    | none => rw [e2] at e1; cases e1
    | some p =>
      rw [e2] at e1 h1
      cases e1
      cases h1
      exact keyIs_rel hi
  · obtain ⟨z, lo, ks, pr, o, es, ep, ho, hx, hdt, he, hn⟩ := (show ObjOk X.prog X.w H s.heap a (.dT kvs) from r.ok I.hok)
    have l1 : es.size = ks.length := size_of_entries he
    have l2 : kvs.length = ks.length := Paired.length pr
    refine sorted_src hc I (kdl_raw lo hx hdt) ho (by omega) C (fun acc it => ⟨(ks.map fun x => x.2.1).map V.ref, ?_, by rw [ek]; exact keys_tup pr⟩) q
    have el : acc.toList.length = ks.length := by rw [Array.length_toList, it.1]; exact l1
    refine vals_of_at (by rw [List.length_map, List.length_map, el]) fun j x w h1 h2 => ?_
    obtain ⟨en, hen, hv⟩ := it.2 j w (by rw [← Array.getElem?_toList]; exact h2)
    have qe := entry_at he j
    rw [hen] at qe
    rw [List.getElem?_map, List.getElem?_map] at h1
    cases hb : ks[j]? with
    | none => rw [hb] at h1; cases h1
    | some b =>
      rw [hb] at qe h1
      have e2 : en = entryOfKey (tupleKind (mixKind X.prog X.w)) b := Option.some.inj qe
      cases h1
      rw [hv, e2]
      rfl
/-- max(x), min(x) of a list or a tuple -/
structure CanCmp (X : Cx) (ds : List D) : Prop where
  sh : shp (.list ds) = true
  ok : okAlike ds = true
  hu : X.A.units + 200 < cLine
def rBest (X : Cx) (F : Addr → Prop) (best : D → List D → D) : List V → Hp → VK → Prop := fun vs H Q => ∃ a b xs d ds, vs = [V.ref a] ∧ H a = some (hoS b xs) ∧ HasAll X.K F H xs (d :: ds) ∧ CanCmp X (d :: ds) ∧ ∀ y, Has X.K F H y (best d ds) → Q y H
theorem best_post {pins : List (Addr × Obj)} {σ : L2.St} {H : Hp} {s : Shared} {Q : VK} {xs : List V} {us : List Value} {d e : D} {ds : List D} {i tk : Nat} {v : Value} {h' : Heap} {bs : List Addr} (I : Inv X pins σ H s) (C : CanCmp X (d :: ds)) (r : Vals xs us) (al : HasAll X.K F H xs (d :: ds))
    (keep : ∀ b o, s.heap.get? b = some o → h'.get? b = some o) (hv : us[i]? = some v) (rd : Reads h' v e bs) (q : ∀ y, Has X.K F H y e → Q y H) : EP X pins σ Q v { s with heap := h', toks := tk } := by
  obtain ⟨cl, dp⟩ := shp_list C.sh
  obtain ⟨x, h1, h2⟩ := vals_back r hv
  obtain ⟨g, h3, h4⟩ := al.getV h1
  have m := List.mem_of_getElem? h3
  obtain ⟨as, rd2⟩ := item_reads I ⟨x, h2, h4⟩ (canLay_mem cl m)
  have eg : g = e := SeqAt.Reads.unique g e v as bs (canLay_mem cl m) (PyProof.Rows.Reads.keeps keep rd2) rd
  exact ⟨x, H, I.kept (t' := tk) keep, h2, q x (eg ▸ h4)⟩
theorem callr_max (hc : X.calm = true) : CallR X (.builtin "max") (rBest X F PySem.W.maxD) := fun pins s σ H vs us Q I rv ⟨a, b, xs, d, ds, ev, hx, al, C, q⟩ => by
  subst ev
  obtain ⟨u, rfl, ru⟩ := vals1 rv
  cases ru
  obtain ⟨cl, dp⟩ := shp_list C.sh
  have hu := C.hu
  obtain ⟨its, r, isq, _⟩ := seq_of I hx
  obtain ⟨as, rda⟩ := Dp.readsAll I (d :: ds) xs its (al.dp cl) r
  cases b with
  | true => exact PySem.W.max_list_data (I.ok.hd hc) isq rda (okAlike_ok C.ok) (by omega) fun i v h' tk bs hv rd hk => best_post I C r al hk (by simpa using hv) rd q
  | false => exact PySem.W.max_tuple_data (I.ok.hd hc) isq rda (okAlike_ok C.ok) (by omega) fun i v h' tk bs hv rd hk => best_post I C r al hk (by simpa using hv) rd q
theorem callr_min (hc : X.calm = true) : CallR X (.builtin "min") (rBest X F PySem.W.minD) := fun pins s σ H vs us Q I rv ⟨a, b, xs, d, ds, ev, hx, al, C, q⟩ => by
  subst ev
  obtain ⟨u, rfl, ru⟩ := vals1 rv
  cases ru
  obtain ⟨cl, dp⟩ := shp_list C.sh
  have hu := C.hu
  obtain ⟨its, r, isq, _⟩ := seq_of I hx
  obtain ⟨as, rda⟩ := Dp.readsAll I (d :: ds) xs its (al.dp cl) r
  cases b with
  | true => exact PySem.W.min_list_data (I.ok.hd hc) isq rda (okAlike_ok C.ok) (by omega) fun i v h' tk bs hv rd hk => best_post I C r al hk (by simpa using hv) rd q
  | false => exact PySem.W.min_tuple_data (I.ok.hd hc) isq rda (okAlike_ok C.ok) (by omega) fun i v h' tk bs hv rd hk => best_post I C r al hk (by simpa using hv) rd q
end

def sortD : D → Tr D
  | .list ds => need (shp (.list ds) = true ∧ okSort ds = true ∧ ds.length ≤ lim) (.ret (.list (isortD ds)))
  | .dict kvs => need (shp (.list (kvs.map (·.1))) = true ∧ okSort (kvs.map (·.1)) = true ∧ kvs.length ≤ lim) (.ret (.list (isortD (kvs.map (·.1)))))
  | _ => .fail
section
variable {S : Sx} {k : Nat} {N : List Str} {sc : Names}
theorem br_sorted : BR S k N sc (.builtin "sorted") .own (fn1 sortD) := br1 fun X c F H v d Q wf b w => by
  cases d <;> first | exact w.elim | skip
  · obtain ⟨a, xs, rfl, _, r, al⟩ := b
    obtain ⟨⟨h1, h2, h3⟩, w⟩ := wp_need.mp w
    exact ⟨_, callr_sortL (F := F), a, xs, _, rfl, r, by rw [c.K]; exact al, ⟨h1, h2, h3, c.hu⟩, fun ys p hy hp => res_lst wf hp (by rw [c.K] at hy; exact hy) w⟩
  · obtain ⟨a, rfl, _, dv⟩ := b
    obtain ⟨⟨h1, h2, h3⟩, w⟩ := wp_need.mp w
    exact ⟨_, callr_sortD (F := F) c.calm, a, _, rfl, by rw [c.K]; exact dv, ⟨h1, h2, by rw [List.length_map]; exact h3, c.hu⟩, fun ys p hy hp => res_lst wf hp (by rw [c.K] at hy; exact hy) w⟩
theorem best_seq {B : Bx} {F : Addr → Prop} {H : Hp} {v : V} {d : D} {P : List D → Prop} (b : BorV B F H v d) (w : (seqOf d).wp P) : ∃ a b xs ds, v = .ref a ∧ H a = some (hoS b xs) ∧ HasAll B.K F H xs ds ∧ P ds := by
  cases d <;> first | exact w.elim | skip
  · obtain ⟨a, xs, rfl, _, r, al⟩ := b
    exact ⟨a, true, xs, _, rfl, r, al, w⟩
  · obtain ⟨a, xs, rfl, r, al⟩ := Has.tup_inv b
    exact ⟨a, false, xs, _, rfl, r, al, w⟩
theorem br_max1 : BR S k N sc (.builtin "max") .frz (fn1 maxD1) := br1 fun X c F H v d Q wf b w => by
  obtain ⟨a, bb, xs, ds, rfl, hx, al, w⟩ := best_seq b (Tr.wp_bind.mp w)
  cases ds with
  | nil => exact w.elim
  | cons d ds =>
    obtain ⟨⟨h1, h2⟩, w⟩ := wp_need.mp w
    exact ⟨_, callr_max (F := F) c.calm, a, bb, xs, d, ds, rfl, hx, by rw [c.K]; exact al, ⟨h1, h2, c.hu⟩, fun y hy => w F y H (.refl wf) (by rw [c.K] at hy; exact hy)⟩
theorem br_min1 : BR S k N sc (.builtin "min") .frz (fn1 minD1) := br1 fun X c F H v d Q wf b w => by
  obtain ⟨a, bb, xs, ds, rfl, hx, al, w⟩ := best_seq b (Tr.wp_bind.mp w)
  cases ds with
  | nil => exact w.elim
  | cons d ds =>
    obtain ⟨⟨h1, h2⟩, w⟩ := wp_need.mp w
    exact ⟨_, callr_min (F := F) c.calm, a, bb, xs, d, ds, rfl, hx, by rw [c.K]; exact al, ⟨h1, h2, c.hu⟩, fun y hy => w F y H (.refl wf) (by rw [c.K] at hy; exact hy)⟩
end
end Pv

namespace Pv
open PySem PySem.Spec PyProof.Rows L2

mutual
def smallI : D → Bool
  | .int i => decide (i.natAbs < 10 ^ 12)
  | .list xs => smallAll xs
  | .tuple xs => smallAll xs
  | .dict _ => false
  | _ => true
def smallAll : List D → Bool
  | [] => true
  | x :: xs => smallI x && smallAll xs
end
theorem small_log {i : Int} (h : i.natAbs < 10 ^ 12) : i.natAbs.log2 < 1920 := by
  by_cases z : i.natAbs = 0
  · rw [z]; decide
  · exact Nat.lt_of_lt_of_le ((Nat.log2_lt (k := 64) z).mpr (Nat.lt_of_lt_of_le h (by decide))) (by decide)
mutual
theorem small_show : ∀ d : D, smallI d = true → d.showable = true
  | .none, _ => rfl
  | .bool _, _ => rfl
  | .str _, _ => rfl
  | .int i, h => by
    simp only [smallI, decide_eq_true_eq] at h
    simp only [PyData.showable, decide_eq_true_eq]; exact small_log h
  | .list xs, h => by
    simp only [smallI] at h
    simp only [PyData.showable]; exact small_showAll xs h
  | .tuple xs, h => by
    simp only [smallI] at h
    simp only [PyData.showable]; exact small_showAll xs h
  | .dict _, h => by cases h
theorem small_showAll : ∀ ds : List D, smallAll ds = true → PyData.showableAll ds = true
  | [], _ => rfl
  | x :: xs, h => by
    simp only [smallAll, Bool.and_eq_true] at h
    simp only [PyData.showableAll, Bool.and_eq_true]; exact ⟨small_show x h.1, small_showAll xs h.2⟩
end
theorem str_len (x : String) : (Str.ofString x).length = x.length := PySem.ofString_length x
mutual
theorem small_short : ∀ d : D, smallI d = true → d.intsShort 13 = true
  | .none, _ => rfl
  | .bool _, _ => rfl
  | .str _, _ => rfl
  | .int i, h => by
    simp only [smallI, decide_eq_true_eq] at h
    simp only [PyData.intsShort, decide_eq_true_eq]
    have := int_text_length_le10 (k := 12) (by decide) h
    show (Str.ofString (toString i)).length ≤ 13
    rw [str_len]; exact this
  | .list xs, h => by
    simp only [smallI] at h
    simp only [PyData.intsShort]; exact small_shortAll xs h
  | .tuple xs, h => by
    simp only [smallI] at h
    simp only [PyData.intsShort]; exact small_shortAll xs h
  | .dict _, h => by cases h
theorem small_shortAll : ∀ ds : List D, smallAll ds = true → PyData.intsShortAll 13 ds = true
  | [], _ => rfl
  | x :: xs, h => by
    simp only [smallAll, Bool.and_eq_true] at h
    simp only [PyData.intsShortAll, Bool.and_eq_true]; exact ⟨small_short x h.1, small_shortAll xs h.2⟩
end
def cheap (d : D) : Bool := smallI d && decide (d.weight ≤ 2 ^ 20)
/-- what may be shown -/
def okShow (d : D) : Prop := shp d = true ∧ (cheap d = true ∨ (d.showable = true ∧ d.shown.length ≤ lim))
instance (d : D) : Decidable (okShow d) := inferInstanceAs (Decidable (_ ∧ _))
theorem okShow_ok {d : D} (h : okShow d) : d.canLay0 = true ∧ d.depth ≤ 64 ∧ d.showable = true ∧ d.shown.length ≤ sizeLine := by
  obtain ⟨h1, h2⟩ := h
  have c := SeqAt.canLay_of_shaped h1
  refine ⟨c, SeqAt.depth_of_shaped h1, ?_⟩
  rcases h2 with h2 | h2
  · simp only [cheap, Bool.and_eq_true, decide_eq_true_eq] at h2
    exact ⟨small_show d h2.1, PyData.shown_fits (B := 13) (by decide) (by decide) (PyData.leavesShort_of_canLay0 13 d c (small_short d h2.1)) h2.2⟩
  · exact ⟨h2.1, by rw [← lim_eq]; exact h2.2⟩
def reprD (d : D) : Tr D := need (okShow d) (.ret (.str d.shown))
mutual
theorem canLay_noDict : ∀ d : D, d.canLay0 = true → d.hasDict = false
  | .none, _ => rfl
  | .bool _, _ => rfl
  | .str _, _ => rfl
  | .int _, _ => rfl
  | .list xs, h => by
    simp only [PyData.canLay0] at h
    simp only [PyData.hasDict]; exact canLay_noDictAll xs h
  | .tuple xs, h => by
    simp only [PyData.canLay0] at h
    simp only [PyData.hasDict]; exact canLay_noDictAll xs h
  | .dict _, h => by simp [PyData.canLay0] at h
theorem canLay_noDictAll : ∀ ds : List D, PyData.canLayAll0 ds = true → PyData.hasDictAll ds = false
  | [], _ => rfl
  | x :: xs, h => by
    simp only [PyData.canLayAll0, Bool.and_eq_true] at h
    simp only [PyData.hasDictAll, Bool.or_eq_false_iff]; exact ⟨canLay_noDict x h.1, canLay_noDictAll xs h.2⟩
end
theorem callr_repr {X : Cx} (hg : X.A.guards = some []) (hu : X.A.units + 200 < cLine) : CallR X (.builtin "repr") (fun vs H Q => ∃ v d, vs = [v] ∧ Dp X.K H v d ∧ okShow d ∧ Q (.str d.shown) H) := fun pins s σ H vs us Q I rv ⟨v, d, ev, dp, ok, q⟩ => by
  subst ev
  obtain ⟨u, rfl, ru⟩ := vals1 rv
  obtain ⟨h1, h2, h3, h4⟩ := okShow_ok ok
  obtain ⟨as, rd⟩ := Dp.reads I d v u dp ru
  have road : ∀ a, u = .ref a → wpAny (model X.prog X.w) X.A (call (.builtin "repr") [u]) (EP X pins σ Q) X.xe s := fun a e => by
    subst e
    exact repr_of_reads' rd h3 (fun z => by rw [canLay_noDict d h1] at z; cases z) hg (by omega) (fun _ _ e => e) (fun h' u tk hk => ⟨.str d.shown, H, I.kept (t' := tk) hk, ⟨u, rfl⟩, q⟩) h4
  cases dp with
  | non => cases ru; exact P.repr_of_none ⟨.str _, H, I.tok _, ⟨_, rfl⟩, q⟩
  | bl b => cases ru; exact P.repr_of_bool ⟨.str _, H, I.tok _, ⟨_, rfl⟩, q⟩
  | int i =>
    obtain ⟨t, rfl⟩ := ru
    exact P.repr_of_int (by simpa [PyData.showable] using h3) ⟨.str _, H, I.tok _, ⟨_, rfl⟩, q⟩
  | str z =>
    obtain ⟨t, rfl⟩ := ru
    exact P.repr_of_str ⟨.str _, H, I.tok _, ⟨_, rfl⟩, q⟩ h4
  | lst _ _ => exact road _ ru
  | tup _ _ => exact road _ ru

section
variable {S : Sx} {k : Nat} {N : List Str} {sc : Names}
theorem br_repr : BR S k N sc (.builtin "repr") .own (fn1 reprD) := br1 fun X c F H v d Q wf b w => by
  obtain ⟨ok, w⟩ := wp_need.mp w
  exact ⟨_, callr_repr c.gd c.hu, v, d, rfl, by rw [c.K]; exact b.dp (okShow_ok ok).1, ok, w F _ H (.refl wf) res_str⟩

def isaD (f : D → Bool) (d : D) : Tr D := need (d.canLay0 = true) (.ret (.bool (f d)))
def IsaLem (T : String) (f : D → Bool) : Prop := ∀ {prog : Program} {w : World} {A : Around} {E : Value → Shared → Prop} {s : Shared} {v : Value} {d : D} {as : List Addr} {Q : Value → Shared → Prop}, Reads s.heap v d as → (∀ tk, s.toks ≤ tk → Q (.bool (f d)) { s with toks := tk }) → wpAny (model prog w) A (call (.builtin "isinstance") [v, .type T]) Q E s
theorem callr_isa {X : Cx} {T : String} {f : D → Bool} (L : IsaLem T f) : CallR X (.builtin "isinstance") (fun vs H Q => ∃ v d, vs = [v, .ty T] ∧ Dp X.K H v d ∧ Q (.bl (f d)) H) := fun pins s σ H vs us Q I rv ⟨v, d, ev, dp, q⟩ => by
  subst ev
  obtain ⟨u1, u2, rfl, r1, r2⟩ := vals2 rv
  cases r2
  obtain ⟨as, rd⟩ := Dp.reads I d v u1 dp r1
  exact L rd fun tk _ => ⟨.bl _, H, I.kept (t' := tk) fun _ _ z => z, rfl, q⟩
theorem ej_isa {e : Expr} {fe : EF} {m : Md} {T : String} {f : D → Bool} {x : Str} {p p2 pos : Pos} (L : IsaLem T f) (hv : bootBuiltins x = some (.type T)) (hx : x ≠ "__name__") (hdb : (x == ("__debug__" : Str)) = false) (hgx : sc.lookup x = some .globalImplicit) (hmx : S.B.mg x = none)
    (hg : sc.lookup ("isinstance" : Str) = some .globalImplicit) (hm : S.B.mg "isinstance" = none) (he : EJ S k N sc e m fe) (hs : ∀ env : Env, starEach [e, .Name x p2] env = (false, eval e env) :: starEach [.Name x p2] env) (hpl : ∀ env : Env, (backTo pos (starEach [.Name x p2] env)).any (·.1) = false) :
    EJ S k N sc (.Call (.Name "isinstance" p) [e, .Name x p2] [] pos) .own (op1 (isaD f) fe) := fun X c F0 H0 F ρ σ H R Q w =>
  .of (pe_callB (callr_isa L) (gl_of c hg) (mg_of c hm) boot_isinstance (pa_cons pe_r (pa_cons (pe_bltn (v := .ty T) (gl_of c hgx) (mg_of c hmx) hv rfl hx hdb) pa_nil rfl) (hs _)) (by decide) (by decide) (hs _) (hpl _)) (he X c F0 H0 F ρ σ H R _ (Tr.wp_mono (fun d hd F1 v H1 l1 q1 => by
    obtain ⟨ok, hd⟩ := wp_need.mp hd
    exact ⟨v, d, rfl, by rw [c.K]; exact (Res.bor l1.wf' q1).dp ok, hd F1 _ H1 l1 res_bl⟩) (Tr.wp_bind.mp w)))

def eDict0 : EF := fun _ => .ret (.dict [])
theorem ej_dict0 {pos : Pos} : EJ S k N sc (.Dict [] [] pos) .own eDict0 := fun X c F0 H0 F ρ σ H R Q w =>
  .of pe_dnewK (fun p hp => w F _ _ (Le.lay R.wf hp) ⟨⟨p, rfl, notF_new R.wf hp, R.wf.srcSome hp, .inl ⟨[], upd_same, rfl, .nil⟩⟩, fun _ a e => by cases e; exact hp⟩)
def mergeD (acc more : List (D × D)) : List (D × D) := more.foldl (fun a p => putD a p.1 p.2) acc
def aPairs : List (EF × EF) → Ev → Tr (List (D × D))
  | [], _ => .ret []
  | (f, g) :: r, ρ => (f ρ).bind fun k => (g ρ).bind fun v => (aPairs r ρ).bind fun ps => .ret ((k, v) :: ps)
/-- a display whose keys are ints and texts -/
def eDisp (r : List (EF × EF)) : EF := fun ρ => (aPairs r ρ).bind fun ps => need (ps.all (fun p => isFlat p.1) = true ∧ ps.length ≤ 15) (.ret (.dict (mergeD [] ps)))
def PairsAre (B : Bx) (F : Addr → Prop) (H : Hp) (ps : List (V × V)) (ds : List (D × D)) : Prop := HasAll B.K F H (ps.map (·.1)) (ds.map (·.1)) ∧ HasAll B.K F H (ps.map (·.2)) (ds.map (·.2))
def PPJ (S : Sx) (k : Nat) (N : List Str) (sc : Names) (keys : List (Option Expr)) (vals : List Expr) (r : List (EF × EF)) : Prop :=
  ∀ X, Ctx S k N sc X → ∀ pos, ∃ trs, PPs X pos keys vals trs ∧ ∀ F0 H0 F ρ σ H, Rel S F0 H0 F ρ σ H → ∀ Q : List (V × V) → Hp → Prop, (aPairs r ρ).wp (fun ds => ∀ F' ps H', Le S.B F H F' H' → PairsAre S.B F' H' ps ds → Q ps H') → tPairs trs σ H Q
theorem ppj_nil : PPJ S k N sc [] [] [] := fun X c pos => ⟨[], pps_nil, fun F0 H0 F ρ σ H R Q w => w F [] H (.refl R.wf) ⟨.nil, .nil⟩⟩
theorem ppj_cons {e v : Expr} {ks : List (Option Expr)} {vs : List Expr} {f g : EF} {r : List (EF × EF)} (he : EJ S k N sc e .frz f) (hv : EJ S k N sc v .frz g) (hr : PPJ S k N sc ks vs r) : PPJ S k N sc (some e :: ks) (v :: vs) ((f, g) :: r) := fun X c pos => by
  obtain ⟨trs, p, h⟩ := hr X c pos
  refine ⟨(rE X e, rE X v) :: trs, pps_cons pe_r pe_r p, fun F0 H0 F ρ σ H R Q w => ?_⟩
  refine he X c F0 H0 F ρ σ H R _ (Tr.wp_mono (fun d hd F1 x H1 l1 q1 => ?_) (Tr.wp_bind.mp w))
  refine hv X c F0 H0 F1 ρ σ H1 (R.mono l1) _ (Tr.wp_mono (fun d2 hd2 F2 y H2 l2 q2 => ?_) (Tr.wp_bind.mp hd))
  refine h F0 H0 F2 ρ σ H2 ((R.mono l1).mono l2) _ (Tr.wp_mono (fun ds hds F3 ps H3 l3 q3 => ?_) (Tr.wp_bind.mp hd2))
  exact hds F3 _ H3 ((l1.trans l2).trans l3) ⟨.cons (l3.has (l2.has q1)) q3.1, .cons (l3.has q2) q3.2⟩
theorem flat_keys {K : PySem.W.Frag} {F : Addr → Prop} {H : Hp} : ∀ {ps : List (V × V)} {ds : List (D × D)}, HasAll K F H (ps.map (·.1)) (ds.map (·.1)) → ds.all (fun p => isFlat p.1) = true → ∃ kvs : List (Key × V), ps = kvs.map (fun kv => (kV kv.1, kv.2)) ∧ ds.map (·.1) = kvs.map (fun p => kD p.1) ∧ kvs.map (·.2) = ps.map (·.2)
  | [], [], _, _ => ⟨[], rfl, rfl, rfl⟩
  | [], _ :: _, h, _ => nomatch h
  | _ :: _, [], h, _ => nomatch h
  | p :: ps, d :: ds, h, hf => by
    simp only [List.all_cons, Bool.and_eq_true] at hf
    cases h with
    | cons h1 h2 =>
      obtain ⟨kvs, e1, e2, e3⟩ := flat_keys h2 hf.2
      obtain ⟨pk, pv⟩ := p
      obtain ⟨dk, dv⟩ := d
      cases dk with
      | int i =>
        have ek : pk = .int i := Has.int_inv h1
        subst ek
        exact ⟨(.inl i, pv) :: kvs, by rw [e1]; rfl, by rw [List.map_cons, e2]; rfl, by rw [List.map_cons, e3]; rfl⟩
      | str z =>
        have ek : pk = .str z := Has.str_inv h1
        subst ek
        exact ⟨(.inr z, pv) :: kvs, by rw [e1]; rfl, by rw [List.map_cons, e2]; rfl, by rw [List.map_cons, e3]; rfl⟩
      | _ => exact absurd hf.1 (by simp [isFlat])
theorem merge_ok {K : PySem.W.Frag} {F : Addr → Prop} {H : Hp} : ∀ {more : List (Key × V)} {mds : List (D × D)} {kvs : List (Key × V)} {ds : List (D × D)}, mds.map (·.1) = more.map (fun p => kD p.1) → HasAll K F H (more.map (·.2)) (mds.map (·.2)) → ds.map (·.1) = kvs.map (fun p => kD p.1) → HasAll K F H (kvs.map (·.2)) (ds.map (·.2)) →
    (mergeD ds mds).map (·.1) = (mergeK kvs more).map (fun p => kD p.1) ∧ HasAll K F H ((mergeK kvs more).map (·.2)) ((mergeD ds mds).map (·.2))
  | [], [], _, _, _, _, e, a => ⟨e, a⟩
  | [], _ :: _, _, _, e, _, _, _ => by simp at e
  | _ :: _, [], _, _, e, _, _, _ => by simp at e
  | p :: more, q :: mds, kvs, ds, e1, a1, e, a => by
    simp only [List.map_cons, List.cons.injEq] at e1 a1
    cases a1 with
    | cons b1 b2 =>
      obtain ⟨g1, g2⟩ := put_ok eqv_kD p.1 b1 e a
      rw [← e1.1] at g1 g2
      exact merge_ok (kvs := putK kvs p.1 p.2) (ds := putD ds q.1 q.2) e1.2 b2 g1 g2
theorem ej_disp {keys : List (Option Expr)} {vals : List Expr} {r : List (EF × EF)} {pos : Pos} (hall : keys.all (·.isSome) = true) (hl : keys.length = vals.length) (h0 : keys ≠ []) (h15 : keys.length ≤ 15) (h : PPJ S k N sc keys vals r) : EJ S k N sc (.Dict keys vals pos) .own (eDisp r) := fun X c F0 H0 F ρ σ H R Q w => by
  obtain ⟨trs, p, hp⟩ := h X c pos
  refine .of (pe_disp p hall hl h0 h15) (fun dd hdd => ?_)
  have l0 := Le.lay (o := .dK []) R.wf hdd
  refine hp F0 H0 F ρ σ _ (R.mono l0) _ (Tr.wp_mono (fun ds hds F1 ps H1 l1 q1 => ?_) (Tr.wp_bind.mp w))
  obtain ⟨⟨h1, h2⟩, hds⟩ := wp_need.mp hds
  have nS := R.wf.srcSome hdd
  have hD := l1.h dd _ upd_same nS
  have nD := l1.notF (notF_new R.wf hdd) (upd_same (H := H) (o := .dK []))
  obtain ⟨kvs, e1, e2, e3⟩ := flat_keys q1.1 h1
  obtain ⟨g1, g2⟩ := merge_ok (kvs := []) (ds := []) e2 (by rw [e3]; exact q1.2) rfl .nil
  have l := l0.trans l1
  have hm : Mut (H1 dd) := by rw [hD]; trivial
  have st : Stay F1 H1 (upd H1 dd (.dK (mergeK [] kvs))) := Stay.updL (B := S.B) nD hm
  refine ⟨hD, kvs, e1, by rw [← map_len e2]; exact h2, hds F1 _ _ ⟨l.f, fun a o ha n => ?_, l.n, l.wf, l.wf'.updO nS⟩ ⟨⟨dd, rfl, nD, nS, .inl ⟨_, upd_same, g1, g2.mono (fun _ h => h) st⟩⟩, fun _ a e => by cases e; exact hdd⟩⟩
  have ne : a ≠ dd := fun z => by rw [z, hdd] at ha; cases ha
  rw [upd_ne ne]; exact l.h a o ha n
/-- d.get(k), d.get(k, x): a tuple is not asked of the empty dict -/
def getO (kvs : List (D × D)) (k : D) : Tr (Option D) := (lookD kvs k).bind fun o => need (isFlat k = true ∨ kvs.isEmpty = false) (.ret o)
def get1D (c k : D) : Tr D := match c with
  | .dict kvs => (getO kvs k).bind fun o => .ret (o.getD .none)
  | _ => .fail
def eGet1 (f g : EF) : EF := op2 get1D f g
def get2D (c k x : D) : Tr D := match c with
  | .dict kvs => (getO kvs k).bind fun o => .ret (o.getD x)
  | _ => .fail
def eGet2 (f g h : EF) : EF := op3 get2D f g h
theorem DictV.isD {K : PySem.W.Frag} {F : Addr → Prop} {H : Hp} {a : Addr} {kvs : List (D × D)} (h : DictV K F H (fun o => Rd H a o) kvs) : IsD H a := by
  rcases h with ⟨kv, r, _⟩ | ⟨kv, r, _⟩
  · exact .inl ⟨kv, r⟩
  · exact .inr ⟨kv, r⟩
theorem get_ok {B : Bx} {F : Addr → Prop} {H : Hp} {a : Addr} {y : V} {kvs : List (D × D)} {k : D} {Q : Option D → Prop} (dv : DictV B.K F H (fun o => Rd H a o) kvs) (by' : BorV B F H y k) (w : (getO kvs k).wp Q) :
    ∃ o, DGet H a y o ∧ OptHas B.K F H o (findD kvs k) ∧ Q (findD kvs k) := by
  obtain ⟨o, g, oh, w⟩ := look_ok dv by' (Tr.wp_bind.mp w)
  obtain ⟨h, w⟩ := wp_need.mp w
  rcases g with g | ⟨ks, b, r, ey, eb, eo⟩
  · exact ⟨o, g, oh, w⟩
  · exfalso
    rcases h with h | h
    · cases k with
      | int i => cases by'; cases ey
      | str z => cases by'; cases ey
      | _ => cases h
    · have same : ∀ u, Rd H a u → (∀ z, u ≠ .frz z u) → True := fun _ _ _ => trivial
      rcases dv with ⟨kv, r2, ek, _⟩ | ⟨kv, r2, ne, ek, _⟩
      · have : kv = [] := by
          rcases r with r | ⟨o1, r⟩ <;> rcases r2 with r2 | ⟨o2, r2⟩ <;> rw [r] at r2 <;> cases r2 <;> rfl
        subst this
        cases kvs with
        | nil => cases h
        | cons _ _ => simp at ek
      · rcases r with r | ⟨o1, r⟩ <;> rcases r2 with r2 | ⟨o2, r2⟩ <;> rw [r] at r2 <;> cases r2
theorem ej_get1 {o e : Expr} {fo fe : EF} {m1 m2 : Md} {apos cpos : Pos} (ho : EJ S k N sc o m1 fo) (he : EJ S k N sc e m2 fe) (m : ∀ X, M1 X o "get" apos e cpos) : EJ S k N sc (.Call (.Attribute o "get" apos) [e] [] cpos) .frz (eGet1 fo fe) := fun X c F0 H0 F ρ σ H R Q w =>
  .of (pe_dget1 (by have := c.hu; omega) pe_r pe_r (m X)) (ho X c F0 H0 F ρ σ H R _ (Tr.wp_mono (fun d hd F1 v H1 l1 q1 => by
    have hd := Tr.wp_bind.mp hd
    have b1 := Res.bor l1.wf' q1
    have isd : ∃ kvs, d = .dict kvs := Tr.wp_const (Tr.wp_mono (fun y hy => by cases d <;> first | exact ⟨_, rfl⟩ | exact hy.elim) hd)
    obtain ⟨kvs, rfl⟩ := isd
    obtain ⟨a, rfl, nS, dv⟩ := b1
    refine ⟨a, rfl, dv.isD, he X c F0 H0 F1 ρ σ H1 (R.mono l1) _ (Tr.wp_mono (fun y hy F2 u H2 l2 q2 => ?_) hd)⟩
    have b2 : BorV S.B F2 H2 (.ref a) (.dict kvs) := l2.bor (F := F1) (H := H1) (v := .ref a) (d := .dict kvs) ⟨a, rfl, nS, dv⟩
    obtain ⟨a', ea, _, dv2⟩ := b2
    cases ea
    obtain ⟨oo, g, oh, hy⟩ := get_ok dv2 (Res.bor l2.wf' q2) (Tr.wp_bind.mp hy)
    refine ⟨oo, g, hy F2 _ H2 (l1.trans l2) ?_⟩
    revert oh
    cases oo <;> cases (findD kvs y) <;> intro oh
    · exact .non
    · exact oh.elim
    · exact oh.elim
    · exact oh) (Tr.wp_bind.mp w)))
theorem ej_get2 {o e x : Expr} {fo fe fx : EF} {m1 m2 : Md} {apos cpos : Pos} (ho : EJ S k N sc o m1 fo) (he : EJ S k N sc e m2 fe) (hx : EJ S k N sc x .frz fx) (m : ∀ X, M2 X o "get" apos e x cpos) : EJ S k N sc (.Call (.Attribute o "get" apos) [e, x] [] cpos) .frz (eGet2 fo fe fx) := fun X c F0 H0 F ρ σ H R Q w =>
  .of (pe_dget2 (by have := c.hu; omega) pe_r pe_r pe_r (m X)) (ho X c F0 H0 F ρ σ H R _ (Tr.wp_mono (fun d hd F1 v H1 l1 q1 => by
    have hd := Tr.wp_bind.mp hd
    have b1 := Res.bor l1.wf' q1
    have isd : ∃ kvs, d = .dict kvs := Tr.wp_const (Tr.wp_mono (fun y hy => Tr.wp_const (Tr.wp_mono (fun z hz => by cases d <;> first | exact ⟨_, rfl⟩ | exact hz.elim) (Tr.wp_bind.mp hy))) hd)
    obtain ⟨kvs, rfl⟩ := isd
    obtain ⟨a, rfl, nS, dv⟩ := b1
    refine ⟨a, rfl, dv.isD, he X c F0 H0 F1 ρ σ H1 (R.mono l1) _ (Tr.wp_mono (fun y hy F2 u H2 l2 q2 => ?_) hd)⟩
    refine hx X c F0 H0 F2 ρ σ H2 ((R.mono l1).mono l2) _ (Tr.wp_mono (fun z hz F3 u3 H3 l3 q3 => ?_) (Tr.wp_bind.mp hy))
    have b2 : BorV S.B F3 H3 (.ref a) (.dict kvs) := (l2.trans l3).bor (F := F1) (H := H1) (v := .ref a) (d := .dict kvs) ⟨a, rfl, nS, dv⟩
    obtain ⟨a', ea, _, dv2⟩ := b2
    cases ea
    obtain ⟨oo, g, oh, hz⟩ := get_ok dv2 (l3.bor (Res.bor l2.wf' q2)) (Tr.wp_bind.mp hz)
    refine ⟨oo, g, hz F3 _ H3 ((l1.trans l2).trans l3) ?_⟩
    revert oh
    cases oo <;> cases (findD kvs y) <;> intro oh
    · exact q3
    · exact oh.elim
    · exact oh.elim
    · exact oh) (Tr.wp_bind.mp w)))
end
end Pv

namespace Pv
open PySem PySem.Spec PyProof.Rows L2

section
variable {K : PySem.W.Frag} {F : Addr → Prop} {H H' : Hp}
/-- what the dicts need of two heaps -/
structure StayD (F : Addr → Prop) (H H' : Hp) : Prop where
  k : ∀ a kvs, F a → Rd H a (.dK kvs) → Rd H' a (.dK kvs)
  d : ∀ a kvs, F a → Rd H a (.dT kvs) → Rd H' a (.dT kvs)
  l : ∀ a xs, F a → H a = some (.lst xs) → H' a = some (.lst xs)
  t : ∀ a xs, H a = some (.tup xs) → H' a = some (.tup xs)
mutual
theorem Has.monoD (s : StayD F H H') : ∀ {v : V} {d : D}, Has K F H v d → Has K F H' v d
  | _, _, .non => .non
  | _, _, .bl b => .bl b
  | _, _, .int i => .int i
  | _, _, .str x => .str x
  | _, _, .lst h r l => .lst h (s.l _ _ h r) (HasAll.monoD s l)
  | _, _, .tup r l => .tup (s.t _ _ r) (HasAll.monoD s l)
  | _, _, .dK h r e l => .dK h (s.k _ _ h r) e (HasAll.monoD s l)
  | _, _, .dT h r z e l => .dT h (s.d _ _ h r) z e (HasAll.monoD s l)
theorem HasAll.monoD (s : StayD F H H') : ∀ {vs : List V} {ds : List D}, HasAll K F H vs ds → HasAll K F H' vs ds
  | _, _, .nil => .nil
  | _, _, .cons a b => .cons (Has.monoD s a) (HasAll.monoD s b)
end
/-- a dict's object, not locked -/
def isDct : HO → Prop
  | .dK _ => True
  | .dT _ => True
  | _ => False
theorem StayD.lock {a : Addr} {u : HO} {od : Obj} (h : H a = some u) (hu : isDct u) : StayD F H (upd H a (.frz od u)) := by
  have rd : ∀ b w, isDct w → Rd H b w → Rd (upd H a (.frz od u)) b w := fun b w hw r => by
    by_cases e : b = a
    · subst e
      rcases r with r | ⟨o, r⟩
      · rw [h] at r; cases r; exact .inr ⟨od, upd_same⟩
      · rw [h] at r; cases r; exact hu.elim
    · rcases r with r | ⟨o, r⟩
      · exact .inl (by rw [upd_ne e]; exact r)
      · exact .inr ⟨o, by rw [upd_ne e]; exact r⟩
  have ne : ∀ b w, H b = some w → ¬ isDct w → b ≠ a := fun b w r nw e => by rw [e, h] at r; cases r; exact nw hu
  exact ⟨fun b kvs _ r => rd b _ trivial r, fun b kvs _ r => rd b _ trivial r, fun b xs _ r => by rw [upd_ne (ne b _ r id)]; exact r, fun b xs r => by rw [upd_ne (ne b _ r id)]; exact r⟩
theorem StayD.unlock {a : Addr} {u : HO} {od : Obj} (h : H a = some (.frz od u)) (hu : isDct u) : StayD F H (upd H a u) := by
  have rd : ∀ b w, isDct w → Rd H b w → Rd (upd H a u) b w := fun b w hw r => by
    by_cases e : b = a
    · subst e
      rcases r with r | ⟨o, r⟩
      · rw [h] at r; cases r; exact hw.elim
      · rw [h] at r; cases r; exact .inl upd_same
    · rcases r with r | ⟨o, r⟩
      · exact .inl (by rw [upd_ne e]; exact r)
      · exact .inr ⟨o, by rw [upd_ne e]; exact r⟩
  have ne : ∀ b w, H b = some w → (∀ o x, w ≠ .frz o x) → b ≠ a := fun b w r nw e => by rw [e, h] at r; cases r; exact nw _ _ rfl
  exact ⟨fun b kvs _ r => rd b _ trivial r, fun b kvs _ r => rd b _ trivial r, fun b xs _ r => by rw [upd_ne (ne b _ r fun _ _ z => nomatch z)]; exact r, fun b xs r => by rw [upd_ne (ne b _ r fun _ _ z => nomatch z)]; exact r⟩
theorem Wf.lock {B : Bx} {a : Addr} {u w : HO} (wf : Wf B F H) (n : B.nS a) : Wf B F (upd H a w) := wf.updO n
end

/-- the owned slots only read -/
def Sx.lck (S : Sx) : Sx := ⟨S.B, fun i => if S.kd i = .sh then .sh else .lk, S.six⟩
theorem DictV.okMono {K : PySem.W.Frag} {F : Addr → Prop} {H H' : Hp} {ok ok' : HO → Prop} {ds : List (D × D)} (s : StayD F H H') (hk : ∀ u, isDct u → ok u → ok' u) (h : DictV K F H ok ds) : DictV K F H' ok' ds := by
  rcases h with ⟨kvs, h1, h2, h3⟩ | ⟨kvs, h1, z, h2, h3⟩
  · exact .inl ⟨kvs, hk _ trivial h1, h2, h3.monoD s⟩
  · exact .inr ⟨kvs, hk _ trivial h1, z, h2, h3.monoD s⟩
section
variable {S : Sx} {k : Nat} {N : List Str} {sc : Names} {X : Cx}
theorem lck_sh {i : Nat} (h : S.lck.kd i ≠ .sh) : S.kd i ≠ .sh := fun z => h (by show (if S.kd i = .sh then Kd.sh else .lk) = .sh; rw [if_pos z])
/-- all owned slots locked, one dict locked, or none -/
theorem Rel.lock {F0 F : Addr → Prop} {H0 H H1 : Hp} {ρ : Ev} {σ : L2.St} (R : Rel S F0 H0 F ρ σ H) (wf : Wf S.B F H1) (s : StayD F H H1) (hb : ∀ b u, isDct u → S.B.nS b → Rd H b u → Rd H1 b u) (hl : ∀ b xs, H b = some (.lst xs) → H1 b = some (.lst xs)) : Rel S.lck F H1 F ρ σ H1 := by
  refine ⟨.refl wf, R.len, fun i d e => ?_, fun i d a hk _ _ _ => ?_, fun i j d e a ne h1 h2 => R.apart i j d e a ne (lck_sh h1) (lck_sh h2), R.six⟩
  · obtain ⟨v, g1, g2⟩ := R.slot i d e
    refine ⟨v, g1, ?_⟩
    show SlotV S.B F H1 (if S.kd i = .sh then .sh else .lk) v d
    have bor : BorV S.B F H v d → BorV S.B F H1 v d := fun h => by
      cases d with
      | list ds => obtain ⟨a, xs, e, n, r, al⟩ := h; exact ⟨a, xs, e, n, hl _ _ r, al.monoD s⟩
      | dict ds => obtain ⟨a, e, n, dv⟩ := h; exact ⟨a, e, n, dv.okMono s fun u hu r => hb a u hu n r⟩
      | none => exact Has.monoD s h
      | bool _ => exact Has.monoD s h
      | int _ => exact Has.monoD s h
      | str _ => exact Has.monoD s h
      | tuple _ => exact Has.monoD s h
    cases q : S.kd i with
    | sh => rw [if_pos rfl]; rw [q] at g2; exact Has.monoD s g2
    | ow =>
      rw [if_neg (by simp)]
      rw [q] at g2
      refine ⟨bor (OwnV.bor g2), fun a ea m => ?_⟩
      cases d with
      | list ds => obtain ⟨b, xs, e, n, _⟩ := g2; rw [ea] at e; cases e; exact n
      | dict ds => obtain ⟨b, e, n, _⟩ := g2; rw [ea] at e; cases e; exact n
      | _ => cases m
    | lk =>
      rw [if_neg (by simp)]
      rw [q] at g2
      exact ⟨bor g2.1, g2.2⟩
  · exfalso
    have : (if S.kd i = .sh then Kd.sh else .lk) = .ow := hk
    split at this <;> cases this
def keysOf : D → Tr (List D)
  | .dict kvs => .ret (kvs.map (·.1))
  | _ => .fail
def itK (i : Nat) : Ev → Tr (List D) := fun ρ => (vr i ρ).bind keysOf
theorem wk_keys {B : Bx} {F1 : Addr → Prop} {H1 : Hp} {a : Addr} {od : Obj} {kvs : List (Key × V)} {ds : List (D × D)} (n : B.nS a) (h : H1 a = some (.frz od (.dK kvs))) (e : ds.map (·.1) = kvs.map (fun p => kD p.1)) : Wk (later B false F1 H1) B (Itk a od kvs) (ds.map (·.1)) := by
  have hl : (ds.map (·.1)).length = kvs.length := by rw [e, List.length_map]
  refine ⟨fun F H l _ => ⟨l.a rfl a _ h n, Nat.le_of_eq hl.symm⟩, fun i F H l _ hi => ⟨l.a rfl a _ h n, by rw [← hl]; exact hi⟩, fun i F H x H' l w hi y => ?_⟩
  obtain ⟨rfl, kk, v, hk, rfl⟩ := y
  refine ⟨kD kk, by rw [e, List.getElem?_map, hk]; rfl, ?_, .refl w⟩
  cases kk with
  | inl i => exact .int i
  | inr z => exact .str z
theorem has_keys {K : PySem.W.Frag} {F : Addr → Prop} {H : Hp} : ∀ l : List Key, HasAll K F H (l.map kV) (l.map kD)
  | [] => .nil
  | .inl i :: l => .cons (.int i) (has_keys l)
  | .inr z :: l => .cons (.str z) (has_keys l)
theorem wk_keysT {B : Bx} {F1 : Addr → Prop} {H1 : Hp} {a : Addr} {od : Obj} {kvs : List (List Key × V)} {ds : List (D × D)} (n : B.nS a) (h : H1 a = some (.frz od (.dT kvs))) (e : ds.map (·.1) = kvs.map (fun p => .tuple (p.1.map kD))) : Wk (later B false F1 H1) B (Itkt a od kvs) (ds.map (·.1)) := by
  have hl : (ds.map (·.1)).length = kvs.length := by rw [e, List.length_map]
  refine ⟨fun F H l _ => ⟨l.a rfl a _ h n, Nat.le_of_eq hl.symm⟩, fun i F H l _ hi => ⟨l.a rfl a _ h n, by rw [← hl]; exact hi⟩, fun i F H x H' l w hi y => ?_⟩
  obtain ⟨rfl, kk, v, q, hk, rfl, hq⟩ := y
  exact ⟨.tuple (kk.map kD), by rw [e, List.getElem?_map, hk]; rfl, .tup hq (has_keys kk), .refl w⟩
variable {tg elt : Expr} {x : Str} {xp : Pos} {ifs : List Expr} {scope : Scope} {own : List (Str × Nat)} {g : GF} {t : TF} {f : EF} {is : List Nat} {pos : Pos} {i : Nat}
theorem ej_lcD (hN : N[i]? = some x) (hv : sc.lookup x = some .local ∨ sc.lookup x = some .cell ∨ sc.lookup x = some .free) (hd : (x == ("__debug__" : Str)) = false) (hcd : (x == ("__classdict__" : Str)) = false)
    (hok : blkG N sc scope own = true) (h6 : ∀ i, S.six = some i → i ∉ own.map (·.2)) (hg : GJ S.lck k N (relN scope sc) tg is g) (his : ∀ i ∈ is, i ∈ own.map (·.2)) (ht : TsJ S.lck k N (relN scope sc) ifs t) (he : EJ S.lck k N (relN scope sc) elt .frz f) :
    EJ S k N sc (.ListComp elt [⟨tg, .Name x xp, ifs, 0⟩] scope pos) .own (eLc (itK i) (own.map (·.2)) g t f) := fun X c F0 H0 F ρ σ H R Q w => by
  have cl : Ctx S.lck k N sc X := ⟨c.hN, c.nd, c.sc, c.kind, c.P, c.w, c.K, c.mg, c.base, c.calm, c.room, c.gd, c.po, c.fnw⟩
  have isd : ∃ kvs, ρ[i]? = some (some (.dict kvs)) := by
    have w := Tr.wp_bind.mp w
    unfold itK vr at w
    cases e : ρ[i]? with
    | none => rw [e] at w; exact w.elim
    | some o =>
      cases o with
      | none => rw [e] at w; exact w.elim
      | some d => rw [e] at w; cases d <;> first | exact ⟨_, rfl⟩ | exact w.elim
  obtain ⟨kvs, hρ⟩ := isd
  obtain ⟨v, hσ, sv⟩ := R.slot i _ hρ
  have bv : BorV S.B F H v (.dict kvs) := by
    revert sv
    cases S.kd i with
    | sh => exact fun h => Has.bor R.wf h
    | ow => exact fun h => OwnV.bor h
    | lk => exact fun h => h.1
  obtain ⟨a, rfl, nS, dv⟩ := bv
  have srcE : ∀ P : List D → Prop, (itK i ρ).wp P → P (kvs.map (·.1)) := fun P h => by
    unfold itK vr at h
    rw [hρ] at h
    exact h
  have piN : PI X tg (.Name x xp) (iKeys (tVar i)) := pi_keys (pe_var (i := i) (by rw [c.hN]; exact hN) (by unfold Vis; rw [c.sc]; exact hv) hd hcd)
  -- the walk where the dict stands locked
  have walk : ∀ (H1 : Hp) (u : HO) (od : Obj) (Q1 : VK), H1 a = some (.frz od u) → ((∃ kv, u = .dK kv ∧ kvs.map (·.1) = kv.map (fun p => kD p.1)) ∨ ∃ kv, u = .dT kv ∧ kvs.map (·.1) = kv.map (fun p => .tuple (p.1.map kD))) → Rel S.lck F H1 F ρ σ H1 → (eLc (itK i) (own.map (·.2)) g t f ρ).wp (EP1 S.B .own F H1 Q1) →
      tLc (rIt X tg (.Name x xp)) (allG X scope tg) (allT X scope ifs) (allE X scope elt) (own.map (·.2)) σ H1 Q1 := fun H1 u od Q1 h1 hu R1 w1 => by
    refine lc_sound cl (blkG_k hok) h6 hg his ht he (fun Rk wr => ?_) R1 w1
    have wr := srcE _ wr
    refine .of piN ⟨.ref a, hσ, a, od, rfl, ?_⟩
    rcases hu with ⟨kv, rfl, e⟩ | ⟨kv, rfl, e⟩
    · exact .inl ⟨kv, h1, wr F H1 _ (.refl R1.wf) (wk_keys nS h1 e)⟩
    · exact .inr ⟨kv, h1, wr F H1 _ (.refl R1.wf) (wk_keysT nS h1 e)⟩
  have pl := pe_lc (elt := elt) (scope := scope) (pos := pos) (own := own) (ifs := ifs) c.calm c.nd (pi_r (X := X) (tg := tg) (e := .Name x xp)) (blk_ok c hok) pg_all pts_all pe_all (fun _ => rfl)
  have cases2 : ∃ u, isDct u ∧ Rd H a u ∧ ((∃ kv, u = .dK kv ∧ kvs.map (·.1) = kv.map (fun p => kD p.1)) ∨ ∃ kv, u = .dT kv ∧ kvs.map (·.1) = kv.map (fun p => .tuple (p.1.map kD))) := by
    rcases dv with ⟨kv, r, e, _⟩ | ⟨kv, r, _, e, _⟩
    · exact ⟨.dK kv, trivial, r, .inl ⟨kv, rfl, e⟩⟩
    · exact ⟨.dT kv, trivial, r, .inr ⟨kv, rfl, e⟩⟩
  obtain ⟨u, hu, r, hkv⟩ := cases2
  rcases r with r | ⟨od, r⟩
  · -- locked now
    have mu : Mut (some u) := by cases u <;> first | exact hu.elim | trivial
    refine .of (pe_lock pl) ⟨a, u, r, mu, fun od => ?_⟩
    have sD : StayD F H (upd H a (.frz od u)) := StayD.lock r hu
    have hbb : ∀ b w, isDct w → S.B.nS b → Rd H b w → Rd (upd H a (.frz od u)) b w := fun b w hw _ q => by
      by_cases e : b = a
      · subst e
        rcases q with q | ⟨o, q⟩
        · rw [r] at q; cases q; exact .inr ⟨od, upd_same⟩
        · rw [r] at q; cases q; exact hu.elim
      · rcases q with q | ⟨o, q⟩
        · exact .inl (by rw [upd_ne e]; exact q)
        · exact .inr ⟨o, by rw [upd_ne e]; exact q⟩
    have R1 : Rel S.lck F (upd H a (.frz od u)) F ρ σ (upd H a (.frz od u)) := R.lock (R.wf.updO nS) sD hbb fun b xs q => by
      have ne : b ≠ a := fun e => by rw [e, r] at q; cases q; exact hu
      rw [upd_ne ne]; exact q
    refine walk _ u od _ upd_same hkv R1 (Tr.wp_mono (fun d hd F' v H' l q => ?_) w)
    have hla : H' a = some (.frz od u) := l.h a _ upd_same nS
    refine ⟨hla, hd F' v _ ⟨l.f, fun b o hb n => ?_, fun b hb => ?_, R.wf, l.wf'.updO nS⟩ ⟨?_, fun m b e => ?_⟩⟩
    · by_cases e : b = a
      · subst e; rw [r] at hb; cases hb; exact upd_same
      · rw [upd_ne e]; exact l.h b o (by rw [upd_ne e]; exact hb) n
    · rcases l.n b hb with h | h
      · exact .inl h
      · have ne : b ≠ a := fun e => by rw [e, upd_same] at h; cases h
        rw [upd_ne ne] at h; exact .inr h
    · have s2 : StayD F' H' (upd H' a u) := StayD.unlock hla hu
      have q1 := q.1
      cases d with
      | list ds =>
        obtain ⟨p, xs, e, n1, n2, h3, al⟩ := q1
        have ne : p ≠ a := fun z => by rw [z, hla] at h3; cases h3
        exact ⟨p, xs, e, n1, n2, by rw [upd_ne ne]; exact h3, al.monoD s2⟩
      | dict ds =>
        obtain ⟨p, e, n1, n2, d2⟩ := q1
        refine ⟨p, e, n1, n2, d2.okMono s2 fun w hw hp => ?_⟩
        have ne : p ≠ a := fun z => by rw [z, hla] at hp; cases hp; exact hw
        rw [upd_ne ne]; exact hp
      | none => exact Has.monoD s2 q1
      | bool _ => exact Has.monoD s2 q1
      | int _ => exact Has.monoD s2 q1
      | str _ => exact Has.monoD s2 q1
      | tuple _ => exact Has.monoD s2 q1
    · have h := q.2 m b e
      have ne : b ≠ a := fun z => by rw [z, upd_same] at h; cases h
      rw [upd_ne ne] at h; exact h
  · -- it stands locked
    refine .of pl ?_
    exact walk H u od Q r hkv (R.lock R.wf ⟨fun _ _ _ h => h, fun _ _ _ h => h, fun _ _ _ h => h, fun _ _ h => h⟩ (fun _ _ _ _ h => h) fun _ _ h => h) w
end
end Pv

namespace Pv
open PySem PySem.Spec PyProof.Rows L2

section
variable {X : Cx} {σ : L2.St} {H : Hp}
/-- e is v here, and nothing changes -/
def VE (X : Cx) (σ : L2.St) (H : Hp) (e : Expr) (v : V) : Prop := ∀ Q : VK, Q v H → rE X e σ H Q
def VT (X : Cx) (σ : L2.St) (H : Hp) (e : Expr) (b : Bool) : Prop := ∀ Q : Bool → Hp → Prop, Q b H → rT X e σ H Q
variable {a b e o : Expr} {i j : Int} {p pos : Pos} {x : Str} {n : Nat} {v : V}
theorem ve_name (i : Nat) (hN : X.N[i]? = some x) (hv : Vis X.env.scope x) (hd : (x == ("__debug__" : Str)) = false) (hcd : (x == ("__classdict__" : Str)) = false) (h : σ[i]? = some (some v)) : VE X σ H (.Name x p) v := fun Q q => .of (pe_var (i := i) hN hv hd hcd) ⟨v, h, q⟩
theorem ve_int {k : Nat} : VE X σ H (.Constant (.int i) k p) (.int i) := fun Q q => .of pe_int q
theorem ve_str {z : Str} {k : Nat} : VE X σ H (.Constant (.str z) k p) (.str z) := fun Q q => .of pe_str q
theorem ve_op {op : Operator} {r : R2} {v u z : V} (hr : OpR X (binaryOp op) r) (ha : VE X σ H a v) (hb : VE X σ H b u) (h : ∀ Q : VK, Q z H → r v u H Q) : VE X σ H (.BinOp a op b pos) z := fun Q q => .of (pe_op hr pe_r pe_r) (ha _ (hb _ (h Q q)))
theorem ve_add (ha : VE X σ H a (.int i)) (hb : VE X σ H b (.int j)) : VE X σ H (.BinOp a .Add b pos) (.int (i + j)) := ve_op op_add ha hb fun Q q => ⟨i, j, rfl, rfl, q⟩
theorem ve_mul (ha : VE X σ H a (.int i)) (hb : VE X σ H b (.int j)) (h : small64 i ∨ small64 j) : VE X σ H (.BinOp a .Mult b pos) (.int (i * j)) := ve_op op_mul ha hb fun Q q => ⟨i, j, rfl, rfl, h, q⟩
theorem ve_mod (ha : VE X σ H a (.int i)) (hb : VE X σ H b (.int j)) (h : 0 < j) : VE X σ H (.BinOp a .Mod b pos) (.int (i % j)) := ve_op op_mod ha hb fun Q q => ⟨i, j, rfl, rfl, h, q⟩
theorem ve_fdiv (ha : VE X σ H a (.int i)) (hb : VE X σ H b (.int j)) (h : 0 < j) (h2 : j < 2 ^ 1000) : VE X σ H (.BinOp a .FloorDiv b pos) (.int (i / j)) := ve_op op_fdivW ha hb fun Q q => ⟨i, j, rfl, rfl, wide_div (b := 1000) h (by omega) (by decide) (by decide), q⟩
theorem ve_typ {T : String} {r : List V → Hp → VK → Prop} {u z : V} (hc : CallR X (.type T) r) (hg : Gl X x) (hm : X.mg x = none) (hv : bootBuiltins x = some (.type T)) (hn : x ≠ "__name__") (hdb : (x == ("__debug__" : Str)) = false) (hs : starEach [a] X.env = [(false, eval a X.env)]) (ha : VE X σ H a u) (h : ∀ Q : VK, Q z H → r [u] H Q) :
    VE X σ H (.Call (.Name x p) [a] [] pos) z := fun Q q => .of (pe_callTy hc hg hm hv (pa_cons pe_r pa_nil (by rw [hs]; rfl)) hn hdb (by rw [hs]; rfl) rfl) (ha _ (h Q q))
theorem ve_blt {T : String} {r : List V → Hp → VK → Prop} {u z : V} (hc : CallR X (.builtin T) r) (hg : Gl X x) (hm : X.mg x = none) (hv : bootBuiltins x = some (.builtin T)) (hn : x ≠ "__name__") (hdb : (x == ("__debug__" : Str)) = false) (hs : starEach [a] X.env = [(false, eval a X.env)]) (ha : VE X σ H a u) (h : ∀ Q : VK, Q z H → r [u] H Q) :
    VE X σ H (.Call (.Name x p) [a] [] pos) z := fun Q q => .of (pe_callB hc hg hm hv (pa_cons pe_r pa_nil (by rw [hs]; rfl)) hn hdb (by rw [hs]; rfl) rfl) (ha _ (h Q q))
theorem ve_int1 (hg : Gl X "int") (hm : X.mg "int" = none) (hs : starEach [a] X.env = [(false, eval a X.env)]) (ha : VE X σ H a (.int i)) : VE X σ H (.Call (.Name "int" p) [a] [] pos) (.int i) := ve_typ call_int1 hg hm boot_int (by decide) (by decide) hs ha fun Q q => .inl ⟨i, rfl, q⟩
theorem ve_abs (hg : Gl X "abs") (hm : X.mg "abs" = none) (hs : starEach [a] X.env = [(false, eval a X.env)]) (ha : VE X σ H a (.int i)) : VE X σ H (.Call (.Name "abs" p) [a] [] pos) (.int (if i < 0 then -i else i)) := ve_blt call_abs hg hm boot_abs (by decide) (by decide) hs ha fun Q q => ⟨i, rfl, q⟩
theorem ve_len {q : Addr} {xs : List V} (hg : Gl X "len") (hm : X.mg "len" = none) (hs : starEach [a] X.env = [(false, eval a X.env)]) (ha : VE X σ H a (.ref q)) (h : H q = some (.lst xs)) : VE X σ H (.Call (.Name "len" p) [a] [] pos) (.int (xs.length : Nat)) := ve_blt call_len_seq hg hm boot_len (by decide) (by decide) hs ha fun Q z => ⟨q, xs, rfl, .inl (SqL.of h), z⟩
theorem ve_max2 (hg : Gl X "max") (hm : X.mg "max" = none) (hc : X.calm = true) (hs : starEach [a, b] X.env = (false, eval a X.env) :: starEach [b] X.env) (hs2 : starEach [b] X.env = [(false, eval b X.env)]) (hpl : (backTo pos (starEach [b] X.env)).any (·.1) = false) (ha : VE X σ H a (.int i)) (hb : VE X σ H b (.int j)) :
    VE X σ H (.Call (.Name "max" p) [a, b] [] pos) (.int (if j > i then j else i)) := fun Q q => .of (pe_callB (call_max2 hc) hg hm boot_max (pa_cons pe_r (pa_cons pe_r pa_nil (by rw [hs2]; rfl)) hs) (by decide) (by decide) hs hpl) (ha _ (hb _ ⟨i, j, rfl, q⟩))
/-- d[k], k a text -/
theorem ve_sub {q : Addr} {kvs : List (Key × V)} {z : Str} {k : Nat} (hu : X.A.units + 1 < cLine) (ho : VE X σ H o (.ref q)) (h : H q = some (.dK kvs)) (hv : valV kvs (.inr z) = some v) : VE X σ H (.Subscript o (.Constant (.str z) k p) pos) v := fun Q w =>
  .of (pe_dget hu pe_r pe_str fun _ _ => rfl) (ho _ ⟨q, v, rfl, .inl ⟨kvs, .inr z, .inl h, rfl, hv.symm⟩, w⟩)
theorem vt_cmp {op : CmpOp} {r : R2} {v u : V} {k : Bool} (hr : OpR X (compareOp op) r) (hm : behindInMarks op b = false) (ha : VE X σ H a v) (hb : VE X σ H b u) (h : ∀ Q : VK, Q (.bl k) H → r v u H Q) : VT X σ H (.Compare a [op] [b] pos) k := fun Q q => .of (pt_cmpR hr pe_r pe_r hm) (ha _ (hb _ (h _ ⟨k, rfl, q⟩)))
theorem vt_lt {k : Nat} (ha : VE X σ H a (.int i)) : VT X σ H (.Compare a [.Lt] [.Constant (.int j) k p] pos) (decide (i < j)) := vt_cmp op_lt rfl ha ve_int fun Q q => ⟨i, j, rfl, rfl, q⟩
theorem vt_gt {k : Nat} (ha : VE X σ H a (.int i)) : VT X σ H (.Compare a [.Gt] [.Constant (.int j) k p] pos) (decide (j < i)) := vt_cmp op_gt rfl ha ve_int fun Q q => ⟨i, j, rfl, rfl, q⟩
def VW (X : Cx) (σ : L2.St) (H : Hp) (e : Expr) (b : Bool) : Prop := ∃ t, PW X e t ∧ ∀ Q : Bool → Hp → Prop, Q b H → t σ H Q
theorem VW.vt {c : Bool} (h : VW X σ H a c) : VT X σ H a c := fun Q q => let ⟨t, p, w⟩ := h; .of p.pt (w Q q)
theorem vw_and1 {c : Bool} (ha : VT X σ H a c) : VW X σ H (.BoolOp .And [a] pos) c := ⟨_, pw_and1 pt_r, ha⟩
theorem vw_and {rest : List Expr} {c d : Bool} (ha : VT X σ H a c) (hb : VW X σ H (.BoolOp .And (b :: rest) pos) d) : VW X σ H (.BoolOp .And (a :: b :: rest) pos) (c && d) := by
  obtain ⟨t, p, w⟩ := hb
  refine ⟨_, pw_and pt_r p, fun Q q => ha _ ?_⟩
  cases c with
  | true => exact w _ q
  | false => exact q
theorem vb_cons {st : Stmt} {rest : List Stmt} {D : Ends} (h : rS X st { D with nx := fun σ' H' => rB X rest D σ' H' } σ H) : rB X (st :: rest) D σ H := .of (pss_cons ps_r pb_r) h
theorem vb_nil {D : Ends} (h : D.nx σ H) : rB X [] D σ H := .of pss_nil h
theorem vs_set {D : Ends} {pos' : Pos} (i : Nat) (hN : X.N.Nodup) (hi : X.N[i]? = some x) (hx : X.env.scope.names.lookup x = some .local) (hs : swapsWith e (some (.Name x pos')) pos.line X.env = pure false) (he : VE X σ H e v) (h : D.nx (σ.set i (some v)) H) : rS X (.Assign [.Name x pos'] e pos) D σ H :=
  .of (ps_set (i := i) hN hi (.inl hx) pe_r hs (.inr hx)) (he _ h)
theorem vs_ret {D : Ends} (he : VE X σ H e v) (h : D.rt v H) : rS X (.Return (some e) pos) D σ H := .of (ps_ret pe_r) (he _ h)
theorem vs_if {D : Ends} {c : Expr} {s1 s2 : List Stmt} {k : Bool} (hc : VT X σ H c k) (h1 : k = true → rB X s1 D σ H) (h2 : k = false → rB X s2 D σ H) : rS X (.If c s1 s2 pos) D σ H :=
  .of (ps_if pt_r pb_r pb_r) (hc _ (by
    cases k with
    | true => rw [if_pos rfl]; exact h1 rfl
    | false => rw [if_neg Bool.false_ne_true]; exact h2 rfl))
/-- d[k] = e, k a text -/
theorem vs_put {D : Ends} {q : Addr} {kvs : List (Key × V)} {z : Str} {k : Nat} {pos' : Pos} (hu : X.A.units + 1 < cLine) (hs : swapsWith e (some (.Subscript o (.Constant (.str z) k p) pos')) pos.line X.env = pure false) (he : VE X σ H e v) (ho : VE X σ H o (.ref q)) (h : H q = some (.dK kvs)) (hl : kvs.length < 100) (hn : D.nx σ (upd H q (.dK (putK kvs (.inr z) v)))) :
    rS X (.Assign [.Subscript o (.Constant (.str z) k p) pos'] e pos) D σ H :=
  .of (ps_dput hu pe_r pe_str pe_r hs) (he _ (ho _ ⟨q, _, rfl, .inl ⟨kvs, .inr z, h, rfl, Nat.lt_trans hl (by decide), rfl⟩, hn⟩))
end

theorem fnG_by {B : Bx} {k : Nat} {f : Addr} {name qual : Str} {params : Arguments} {body : List Stmt} {scope : Scope} {dV kV doc pm cdv ct oc : Value} {an od : Option Addr} {osl : Array (Option Value)} {N ps : List Str} {ret : Md} {hs : Bool} {Φ : List D → Tr D}
    (lk : B.K.lookup f = some ⟨oc, od, .func (PySem.W.fnOf name qual params body scope dV kV doc pm an cdv ct), osl⟩) (hcd : PySem.W.codeIn B.K cdv qual = true) (S : FnScope N ps scope)
    (J : ∀ X, Ctx ⟨B, fun _ => .sh, none⟩ k N scope.names X → ∀ (F : Addr → Prop) (H : Hp) (vs : List V) (ds : List D) (Q : VK), vs.length = ps.length → Args1 B hs F H vs ds → Wf B F H → (Φ ds).wp (EP1 B ret F H Q) → rB X body { nx := fun _ H' => Q .non H', rt := Q } (L2.start N vs) H) :
    FnG B (k + 1) f (PySem.W.fnOf name qual params body scope dV kV doc pm an cdv ct) ps ret hs Φ := by
  refine ⟨fun A outer s H args us vs ds F Q hr hgd e0 hb hul r ar wf hw => ?_⟩
  have hl : vs.length = ps.length := by rw [r.length]; exact hul
  have KX : B.K.In s.heap := e0.mod.kin.keeps fun b o e => (e0.bs b o e).1
  have lim : s.heap.NoLimit := e0.mod.nolimit.keeps fun b o e => (e0.bs b o e).1
  have hkind : ∀ y ∈ ps.zip us, scope.names.lookup y.1 = some .local ∨ (scope.names.lookup y.1 = some .cell ∧ ((cellsFrom (s.heap.objs.size + 1) scope.names []).lookup y.1).isSome = true) := fun y hy => by
    obtain ⟨n, v⟩ := y
    exact (S.par n (List.of_mem_zip hy).1).imp id fun q => ⟨q, PySem.W.cellsFrom_some _ _ _ (.inl q)⟩
  exact codeAny_call_function (prog := B.P) (w := B.w) (A := A) hr.depth (KX _ _ lk) rfl S.co S.gen rfl (PySem.W.codeRec_of KX hcd) (R := CR CX0 outer B.P B.w H s Q E0) (hb _ _ _ _ (
    wpAny_newFunctionEnv_cells S.kind hkind fun env he s1 x => by
      subst he
      refine ⟨lim.keeps x.toInCall.keep, codeAny_func ?_⟩
      have I := inv_start (CX := CX0) (E := E0) (K := B.K) (mg := B.mg) (base := B.base) S hr.hd e0 hl r x
      have c : Ctx ⟨B, fun _ => .sh, none⟩ k N scope.names (cxOf CX0 B.P B.w B.K B.mg B.base N qual scope f cdv A outer s H E0).nox :=
        ⟨rfl, S.nd, rfl, S.kind, rfl, rfl, rfl, rfl, rfl, rfl, hr.deeper _, hgd, PassesOwn.never, fun _ _ => rfl⟩
      obtain ⟨t, ht, hq⟩ := J _ c F H vs ds Q hl ar wf hw
      refine wpAny_mono (ht.nox.run [] s1 (L2.start N vs) H _ I hq) (fun fl s' hs' => ?_) fun e s' hs' => hs'
      cases fl with
      | ret u =>
        obtain ⟨v, σ', H', J', rv, q⟩ := hs'
        exact ⟨v, H', J'.os, J'.bare, J'.base, J'.hok, rv, q⟩
      | next =>
        obtain ⟨σ', H', J', q⟩ := hs'
        exact ⟨.non, H', J'.os, J'.bare, J'.base, J'.hok, rfl, q⟩
      | brk => obtain ⟨_, _, _, q⟩ := hs'; exact q.elim
      | cont => obtain ⟨_, _, _, q⟩ := hs'; exact q.elim))
end Pv

namespace Pv
open PySem PySem.Spec PyProof.Rows L2

abbrev srcK (L : Addr) (left mixed turn : Int) : List (Key × V) := [(.inr "cells", .ref L), (.inr "left", .int left), (.inr "mixed", .int mixed), (.inr "turn", .int turn)]
theorem src_v1 {L : Addr} {l m t : Int} : valV (srcK L l m t) (.inr "cells") = some (.ref L) := by rfl
theorem src_v2 {L : Addr} {l m t : Int} : valV (srcK L l m t) (.inr "left") = some (.int l) := by rfl
theorem src_v3 {L : Addr} {l m t : Int} : valV (srcK L l m t) (.inr "mixed") = some (.int m) := by rfl
theorem src_v4 {L : Addr} {l m t : Int} : valV (srcK L l m t) (.inr "turn") = some (.int t) := by rfl
theorem src_p2 {L : Addr} {l m t x : Int} : putK (srcK L l m t) (.inr "left") (.int x) = srcK L x m t := by rfl
theorem src_p3 {L : Addr} {l m t x : Int} : putK (srcK L l m t) (.inr "mixed") (.int x) = srcK L l x t := by rfl
theorem src_p4 {L : Addr} {l m t x : Int} : putK (srcK L l m t) (.inr "turn") (.int x) = srcK L l m x := by rfl
/-- only the source has changed -/
structure At (A L : Addr) (cs : List Int) (l m t : Int) (H0 H : Hp) : Prop where
  ne : A ≠ L
  a : H A = some (.dK (srcK L l m t))
  lst : H L = some (.lst (cs.map V.int))
  o : ∀ b, b ≠ A → b ≠ L → H b = H0 b
  all : ∀ c ∈ cs, 0 ≤ c
  len : cs.length ≤ 1000
  l0 : 0 ≤ l
  m0 : 0 ≤ m ∧ m < 2 ^ 40
  t0 : 0 ≤ t
section
variable {A L : Addr} {cs : List Int} {l m t x : Int} {H0 H : Hp} {B : Bx} {F : Addr → Prop}
theorem At.of (w : Wf B F H) (h : B.src = some (A, L)) : ∃ cs l m t, At A L cs l m t H H := by
  obtain ⟨cs, l, m, t, h1, h2, h3, h4, h5, h7, h8, h9⟩ := w.src A L h
  exact ⟨cs, l, m, t, ⟨fun e => by (rw [e, h2] at h1; cases h1), h1, h2, fun _ _ _ => rfl, h3, h4, h5, ⟨h7, h8⟩, h9⟩⟩
theorem At.left (a : At A L cs l m t H0 H) (h : 0 ≤ x) : At A L cs x m t H0 (upd H A (.dK (putK (srcK L l m t) (.inr "left") (.int x)))) :=
  ⟨a.ne, by rw [src_p2]; exact upd_same, by rw [upd_ne (Ne.symm a.ne)]; exact a.lst, fun b h1 h2 => by rw [upd_ne h1]; exact a.o b h1 h2, a.all, a.len, h, a.m0, a.t0⟩
theorem At.mixed (a : At A L cs l m t H0 H) (h : 0 ≤ x ∧ x < 2 ^ 40) : At A L cs l x t H0 (upd H A (.dK (putK (srcK L l m t) (.inr "mixed") (.int x)))) :=
  ⟨a.ne, by rw [src_p3]; exact upd_same, by rw [upd_ne (Ne.symm a.ne)]; exact a.lst, fun b h1 h2 => by rw [upd_ne h1]; exact a.o b h1 h2, a.all, a.len, a.l0, h, a.t0⟩
theorem At.turn (a : At A L cs l m t H0 H) (h : 0 ≤ x) : At A L cs l m x H0 (upd H A (.dK (putK (srcK L l m t) (.inr "turn") (.int x)))) :=
  ⟨a.ne, by rw [src_p4]; exact upd_same, by rw [upd_ne (Ne.symm a.ne)]; exact a.lst, fun b h1 h2 => by rw [upd_ne h1]; exact a.o b h1 h2, a.all, a.len, a.l0, a.m0, h⟩
theorem At.pop (a : At A L cs l m t H0 H) : At A L cs.dropLast l m t H0 (upd H L (.lst (cs.map V.int).dropLast)) :=
  ⟨a.ne, by rw [upd_ne a.ne]; exact a.a, by rw [upd_same, ← List.map_dropLast], fun b h1 h2 => by rw [upd_ne h2]; exact a.o b h1 h2, fun c hc => a.all c (List.dropLast_subset cs hc), by rw [List.length_dropLast]; have := a.len; omega, a.l0, a.m0, a.t0⟩
theorem At.le (a : At A L cs l m t H0 H) (w : Wf B F H0) (h : B.src = some (A, L)) : Le B F H0 F H := by
  refine ⟨fun _ h => h, fun b o e n => ?_, fun _ h => .inl h, w, fun A' L' e => ?_, w.nS, fun b hb => ?_⟩
  · obtain ⟨n1, n2⟩ := n A L h
    rw [a.o b n1 n2]; exact e
  · rw [h] at e; cases e
    exact ⟨cs, l, m, t, a.a, a.lst, a.all, a.len, a.l0, a.m0.1, a.m0.2, a.t0⟩
  · obtain ⟨n1, n2⟩ := w.nS b hb A L h
    rw [a.o b n1 n2]; exact w.is b hb
end
theorem small_pow : (2 ^ 64 : Int) ≤ 2 ^ 1000 := by
  have h : (2 ^ 64 : Nat) ≤ 2 ^ 1000 := Nat.pow_le_pow_right (by decide) (by decide)
  exact_mod_cast h
/-- a draw below m -/
@[irreducible] def pickF : List D → Tr D
  | [.int m] => need (m < 2 ^ 1000) (.draw m fun r => .ret (.int r))
  | _ => .fail
theorem pick_args {B : Bx} {A L : Addr} {F : Addr → Prop} {H : Hp} {vs : List V} {ds : List D} {ret : Md} {Q : VK} (h : B.src = some (A, L)) (ar : Args1 B true F H vs ds) (w : (pickF ds).wp (EP1 B ret F H Q)) :
    ∃ m : Int, vs = [.ref A, .int m] ∧ m < 2 ^ 1000 ∧ ∀ r : Int, 0 ≤ r → r < max 1 m → EP1 B ret F H Q (.int r) := by
  obtain ⟨A', L', vs', e, rfl, al⟩ := ar
  rw [h] at e
  cases e
  unfold pickF at w
  match ds, al, w with
  | [.int m], al, w =>
    cases al with
    | cons a b =>
      cases a; cases b
      obtain ⟨h1, w⟩ := wp_need.mp w
      exact ⟨m, rfl, h1, fun r h0 h2 => w r h0 h2⟩
section
variable {S : Sx} {k : Nat} {N : List Str} {sc : Names} {X : Cx} {σ : L2.St} {H : Hp} {x : Str} {p : Pos} {v : V}
theorem ven (c : Ctx S k N sc X) (i : Nat) (h : σ[i]? = some (some v)) (hN : N[i]? = some x := by rfl) (hv : sc.lookup x = some .local := by rfl) (hd : (x == ("__debug__" : Str)) = false := by decide) (hcd : (x == ("__classdict__" : Str)) = false := by decide) : VE X σ H (.Name x p) v :=
  ve_name i (by rw [c.hN]; exact hN) (.inl (by rw [c.sc]; exact hv)) hd hcd h
theorem vset (c : Ctx S k N sc X) {D : Ends} {e : Expr} {pos pos' : Pos} (i : Nat) (he : VE X σ H e v) (h : D.nx (σ.set i (some v)) H) (hN : N[i]? = some x := by rfl) (hv : sc.lookup x = some .local := by rfl) (hs : swapsWith e (some (.Name x pos')) pos.line X.env = pure false := by rfl) : rS X (.Assign [.Name x pos'] e pos) D σ H :=
  vs_set i c.nd (by rw [c.hN]; exact hN) (by rw [c.sc]; exact hv) hs he h
end
end Pv

namespace Pv
open PySem PySem.Spec PyProof.Rows L2

/-- a def by a hand-made promise -/
structure FnH (B : Bx) (k : Nat) (f : Addr) (fd : FuncData) (ps : List Str) (sp : List V → Hp → VK → Prop) : Prop where
  run : ∀ (A : Around) (outer : List Env) (s : Shared) (H : Hp) (args : Args) (us : List Value) (vs : List V) (Q : VK),
    Room k A → A.guards = some [] → Env0 B.P B.w B.K B.mg B.base A outer s H → BindsTo s fd args (ps.zip us) → us.length = ps.length → Vals vs us → sp vs H Q → codeAny (model B.P B.w) A (.call (.ref f) args) (CR CX0 outer B.P B.w H s Q E0) s
theorem fnH_by {B : Bx} {k : Nat} {f : Addr} {name qual : Str} {params : Arguments} {body : List Stmt} {scope : Scope} {dV kV doc pm cdv ct oc : Value} {an od : Option Addr} {osl : Array (Option Value)} {N ps : List Str} {sp : List V → Hp → VK → Prop}
    (lk : B.K.lookup f = some ⟨oc, od, .func (PySem.W.fnOf name qual params body scope dV kV doc pm an cdv ct), osl⟩) (hcd : PySem.W.codeIn B.K cdv qual = true) (S : FnScope N ps scope)
    (J : ∀ X, Ctx ⟨B, fun _ => .sh, none⟩ k N scope.names X → ∀ (H : Hp) (vs : List V) (Q : VK), vs.length = ps.length → sp vs H Q → rB X body { nx := fun _ H' => Q .non H', rt := Q } (L2.start N vs) H) :
    FnH B (k + 1) f (PySem.W.fnOf name qual params body scope dV kV doc pm an cdv ct) ps sp := by
  refine ⟨fun A outer s H args us vs Q room quiet start bind len vals hsp => ?_⟩
  have hl : vs.length = ps.length := vals.length.trans len
  have inK : B.K.In s.heap := start.mod.kin.keeps fun b o e => (start.bs b o e).1
  have nolim : s.heap.NoLimit := start.mod.nolimit.keeps fun b o e => (start.bs b o e).1
  refine codeAny_call_function (prog := B.P) (w := B.w) (A := A) room.depth (inK _ _ lk) rfl S.co S.gen rfl (PySem.W.codeRec_of inK hcd) (R := CR CX0 outer B.P B.w H s Q E0) (bind _ _ _ _ ?_)
  refine wpAny_newFunctionEnv_cells S.kind (fun y hy => ?_) fun env he s1 x => ?_
  · obtain ⟨n, v⟩ := y
    exact (S.par n (List.of_mem_zip hy).1).imp id fun q => ⟨q, PySem.W.cellsFrom_some _ _ _ (.inl q)⟩
  · subst he
    refine ⟨nolim.keeps x.toInCall.keep, codeAny_func ?_⟩
    have I := inv_start (CX := CX0) (E := E0) (K := B.K) (mg := B.mg) (base := B.base) S room.hd start hl vals x
    have c : Ctx ⟨B, fun _ => .sh, none⟩ k N scope.names (cxOf CX0 B.P B.w B.K B.mg B.base N qual scope f cdv A outer s H E0).nox :=
      ⟨rfl, S.nd, rfl, S.kind, rfl, rfl, rfl, rfl, rfl, rfl, room.deeper _, quiet, PassesOwn.never, fun _ _ => rfl⟩
    obtain ⟨t, ht, hq⟩ := J _ c H vs Q hl hsp
    refine wpAny_mono (ht.nox.run [] s1 (L2.start N vs) H _ I hq) (fun fl s' hs' => ?_) fun e s' hs' => hs'
    cases fl with
    | ret u =>
      obtain ⟨v, σ', H', J', rv, q⟩ := hs'
      exact ⟨v, H', J'.os, J'.bare, J'.base, J'.hok, rv, q⟩
    | next =>
      obtain ⟨σ', H', J', q⟩ := hs'
      exact ⟨.non, H', J'.os, J'.bare, J'.base, J'.hok, rfl, q⟩
    | brk => obtain ⟨_, _, _, q⟩ := hs'; exact q.elim
    | cont => obtain ⟨_, _, _, q⟩ := hs'; exact q.elim
section
variable {S : Sx} {k : Nat} {N : List Str} {sc : Names} {X : Cx}
theorem call_h {x : Str} {p pos : Pos} {sp : List V → Hp → VK → Prop} {e : Expr} {es : List Expr} {t : TA} {f : Addr} {fd : FuncData} {ps : List Str} (c : Ctx S k N sc X) (hm : S.B.mg x = some (.ref f)) (hk : PySem.W.keepIn S.B.K (.ref f) = true) (hb : Binds S.B.K fd ps []) (G : FnH S.B k f fd ps sp)
    (hg : X.env.scope.names.lookup x = some .globalImplicit) (hdb : (x == ("__debug__" : Str)) = false) (he : starEach (e :: es) X.env = (false, eval e X.env) :: starEach es X.env) (hpl : (backTo pos (starEach es X.env)).any (·.1) = false) (ha : PA X (e :: es) t) :
    PE X (.Call (.Name x p) (e :: es) [] pos) (fun σ H Q => t σ H fun vs H1 => vs.length = ps.length ∧ sp vs H1 Q) := by
  refine ⟨fun pins s σ H Q I h => wpAny_Call_Name_kw (ld_glob I hg (by rw [c.mg]; exact hm) ?_ hdb)⟩
  refine PySem.W.callWith_K (h₀ := X.base) I.ok.mod.kin (by rw [c.K]; exact hk) (thn (ha.run pos pins s σ H _ I h) fun us s1 ⟨vs, H1, I1, r, hlen, q⟩ => ⟨I1.kIn, wpAny_call ?_⟩) he hpl
  have hl : us.length = ps.length := by rw [← r.length]; exact hlen
  have kin : S.B.K.In s1.heap := by have := I1.kIn; rw [c.K] at this; exact this
  have st : Env0 S.B.P S.B.w S.B.K S.B.mg S.B.base X.A X.stack s1 H1 := by have := I1.env0; rw [c.P, c.w, c.K, c.mg, c.base] at this; exact this
  have bd := hb s1 us kin (by simpa using hl)
  rw [List.append_nil] at bd
  rw [c.P, c.w]
  refine codeAny_mono (G.run X.A X.stack s1 H1 ⟨us, []⟩ us vs Q c.room c.gd st bd hl r q) fun r s' hq => ?_
  cases r with
  | error e => exact hq.elim
  | ok fl =>
    cases fl with
    | ret u =>
      have hq' : CE X.stack X.prog X.w H1 s1 Q u s' := by rw [c.P, c.w]; exact hq
      exact I1.after hq'
    | next => exact hq.elim
    | brk => exact hq.elim
    | cont => exact hq.elim
end

/-- the source's promise: of a script a new source -/
def spSrc (K : PySem.W.Frag) : List V → Hp → VK → Prop := fun vs H Q => ∃ (a : Addr) (ns : List Int), vs = [.ref a] ∧ SqL K H a (ns.map V.int) ∧ ns.length ≤ 1000 ∧ ∀ (A L : Addr) (H' : Hp), SrcAt A L H' → (∀ b o, H b = some o → H' b = some o) → Q (.ref A) H'
/-- the law's promise -/
def spLaw (K : PySem.W.Frag) : List V → Hp → VK → Prop := fun vs H Q => ∃ (a : Addr) (ns : List Int), vs = [.ref a] ∧ SqL K H a (ns.map V.int) ∧ ns.length ≤ 63 ∧ ∀ H', Q (.bl true) H'
/-- with a source -/
def Bx.at (B : Bx) (A L : Addr) : Bx := { B with src := some (A, L) }
/-- the law's body behind the source -/
theorem law_rest {B : Bx} {k : Nat} {N : List Str} {sc : Names} {X : Cx} {rest : List Stmt} {g : SF} {kd : Nat → Kd} (c : Ctx ⟨B, fun _ => .sh, none⟩ k N sc X) (J : ∀ A L, BJ ⟨B.at A L, kd, some 1⟩ k N sc .frz rest g)
    (hw : (g (List.replicate N.length none)).wp (fun r => ∃ ρ, r = (.rt (.bool true), ρ))) {A L : Addr} {σ : L2.St} {H : Hp} {Q : VK} (hs : SrcAt A L H) (hσ : σ.length = N.length) (h1 : σ[1]? = some (some (.ref A))) (hQ : ∀ H', Q (.bl true) H') : rB X rest { nx := fun _ H' => Q .non H', rt := Q } σ H := by
  have c' : Ctx ⟨B.at A L, kd, some 1⟩ k N sc X := ⟨c.hN, c.nd, c.sc, c.kind, c.P, c.w, c.K, c.mg, c.base, c.calm, c.room, c.gd, c.po, c.fnw⟩
  have wf : Wf (B.at A L) (fun _ => False) H := ⟨fun A' L' e => by cases e; exact hs, fun _ h => h.elim, fun _ h => h.elim⟩
  have no : ∀ {i : Nat} {d : D}, (List.replicate N.length (none : Option D))[i]? ≠ some (some d) := fun {i d} e => by
    rw [List.getElem?_replicate] at e
    split at e <;> cases e
  have l1 : 1 < N.length := by rw [← hσ]; exact (List.getElem?_eq_some_iff.mp h1).1
  have R : Rel ⟨B.at A L, kd, some 1⟩ (fun _ => False) H (fun _ => False) (List.replicate N.length none) σ H :=
    ⟨.refl wf, by rw [hσ, List.length_replicate], fun i d e => (no e).elim, fun i d a _ e => (no e).elim, fun i j d e a _ _ _ e1 => (no e1).elim, fun i A' L' e1 e2 => by
      cases e1; cases e2
      exact ⟨h1, by rw [List.getElem?_replicate, if_pos l1]⟩⟩
  refine J A L X c' _ H _ _ σ H R _ (Tr.wp_mono (fun r hr => ?_) hw)
  obtain ⟨ρ, rfl⟩ := hr
  intro F' v H' _ _ _ q
  cases q
  exact hQ H'

/-- from the promise of the law's def at the heap behind the top -/
theorem law_run {P : Program} {w : World} {K : PySem.W.Frag} {mg mb : Str → Option Value} {k : Nat} {fa a : Addr} {fd : FuncData} {x : Str} {s : Shared} {vs : List Value} {ns : List Int} {H : Hp}
    (inK : K.In s.heap) (glob : s.heap.Ns mainGlobals mg) (blt : s.heap.Ns builtinsNs mb) (boot : ∀ x : Str, x ≠ "__name__" → mb x = bootBuiltins x) (nolim : s.heap.NoLimit) (still : s.gens = #[]) (obj : s.heap.get? a = some { cls := .type "list", data := .seq vs.toArray }) (len : ns.length ≤ 63) (room : Room k callerA)
    (F : ∀ base : Heap, K.In base → base.Ns mainGlobals mg → FnH ⟨P, w, K, mg, base, none⟩ k fa fd [x] (spLaw K)) (bind : ∀ (s : Shared) (u : Value), BindsTo s fd ⟨[u], []⟩ [(x, u)])
    (only : ∀ b, H b = none ∨ (b = a ∧ K.lookup a = none ∧ ∃ ob xs, H b = some (.frz ob (.lst xs)))) (seq : SqL K H a (ns.map V.int)) (hok : HOk P w H s.heap) :
    codeAny (model P w) callerA (.call (.ref fa) ⟨[.ref a], []⟩) (fun r s' => r = .ok (.ret (.bool true)) ∧ OldK s.heap s'.heap ∧ s'.os = s.os ∧ AllBare s'.gens) s := by
  have tracked : ∀ {b : Addr}, H b ≠ none → b = a ∧ K.lookup a = none := fun {b} h => (only b).elim (fun z => (h z).elim) fun z => ⟨z.1, z.2.1⟩
  have seen : ∀ {b : Addr} {o : Obj}, s.heap.get? b = some o → H b = none → (hidT s.heap H).get? b = some o := fun e n => hidT_get e n
  have spaces : ∀ {b : Addr} {m : Str → Option Value}, s.heap.Ns b m → (hidT s.heap H).Ns b m := fun {b m} ⟨o, es, ep, e, d, r⟩ => by
    refine ⟨o, es, ep, seen e ?_, d, r⟩
    by_cases n : H b = none
    · exact n
    · obtain ⟨rfl, _⟩ := tracked n
      rw [obj] at e
      cases e
      exact nomatch (show Data.seq vs.toArray _ = Data.dict es ep from d)
  have inK' : K.In (hidT s.heap H) := fun b o e => seen (inK b o e) (by
    by_cases n : H b = none
    · exact n
    · obtain ⟨rfl, z⟩ := tracked n
      rw [z] at e; cases e)
  have modu : Mod K mg (hidT s.heap H) := ⟨inK', spaces glob, ⟨mb, spaces blt, boot⟩, by obtain ⟨mc, g1, g2⟩ := nolim; exact ⟨mc, spaces g1, g2⟩⟩
  have start : Env0 P w K mg (hidT s.heap H) callerA [] s H := ⟨rfl, modu, fun b o e => of_hidT e, Nat.le_of_eq (hidT_size _ _), trivial, (fun b hb => nomatch (show b ∈ ([] : List Addr) from hb)), hok, .of_eq still⟩
  have G := F _ inK' (spaces glob)
  refine codeAny_mono (G.run callerA [] s H ⟨[.ref a], []⟩ [.ref a] [.ref a] (fun v _ => v = .bl true) room rfl start (bind s (.ref a)) rfl (.cons rfl .nil) ⟨a, ns, rfl, seq, len, fun _ => rfl⟩) fun r s' hr => ?_
  cases r with
  | error e => exact False.elim hr
  | ok fl =>
    cases fl with
    | next => exact False.elim hr
    | brk => exact False.elim hr
    | cont => exact False.elim hr
    | ret u =>
      obtain ⟨v, H', os, bare, un, hok2, rv, q⟩ := hr
      cases (show v = .bl true from q)
      obtain rfl : u = Value.bool true := rv
      refine ⟨rfl, OldK.of_keep fun b o e => ?_, os, bare⟩
      rcases only b with n | ⟨rfl, _, ob, xs, n⟩
      · exact un.keep b o e n (fun z => nomatch (show b ∈ ([] : List Addr) from z)) (fun z => nomatch z)
      · have e1 := (hok b _ n).1
        have e2 := (hok2 b _ (un.frzs b ob _ n)).1
        exact e2.trans (e1.symm.trans e)
theorem law_start {P : Program} {w : World} {K : PySem.W.Frag} {mg mb : Str → Option Value} {k : Nat} {fa a : Addr} {fd : FuncData} {x : Str} {s : Shared} {vs : List Value} {ns : List Int}
    (inK : K.In s.heap) (glob : s.heap.Ns mainGlobals mg) (blt : s.heap.Ns builtinsNs mb) (boot : ∀ x : Str, x ≠ "__name__" → mb x = bootBuiltins x) (nolim : s.heap.NoLimit) (still : s.gens = #[]) (obj : s.heap.get? a = some { cls := .type "list", data := .seq vs.toArray }) (whole : IntsAre vs ns) (len : ns.length ≤ 63) (room : Room k callerA)
    (F : ∀ base : Heap, K.In base → base.Ns mainGlobals mg → FnH ⟨P, w, K, mg, base, none⟩ k fa fd [x] (spLaw K)) (bind : ∀ (s : Shared) (u : Value), BindsTo s fd ⟨[u], []⟩ [(x, u)]) :
    codeAny (model P w) callerA (.call (.ref fa) ⟨[.ref a], []⟩) (fun r s' => r = .ok (.ret (.bool true)) ∧ OldK s.heap s'.heap ∧ s'.os = s.os ∧ AllBare s'.gens) s := by
  have vals := vals_ints whole
  have llen : vs.length = ns.length := whole.length.symm ▸ rfl
  have small : ns.length ≤ sizeLine := Nat.le_trans len (by decide)
  by_cases inside : K.lookup a = none
  · -- an object of the caller's
    have at_a : (fun b => if b = a then some (HO.frz { cls := .type "list", data := .seq vs.toArray } (.lst (ns.map V.int))) else none : Hp) a = some (.frz { cls := .type "list", data := .seq vs.toArray } (.lst (ns.map V.int))) := if_pos rfl
    refine law_run (H := fun b => if b = a then some (.frz { cls := .type "list", data := .seq vs.toArray } (.lst (ns.map V.int))) else none) inK glob blt boot nolim still obj len room F bind (fun b => ?_) (.inl (.inr ⟨_, at_a⟩)) (fun b u z => ?_)
    · by_cases e : b = a
      · exact .inr ⟨e, inside, _, _, if_pos e⟩
      · exact .inl (if_neg e)
    · by_cases e : b = a
      · subst e
        cases at_a.symm.trans z
        exact ⟨obj, by rw [List.length_map]; exact small, vs, _, vals, obj⟩
      · exact nomatch (if_neg e).symm.trans z
  · obtain ⟨o, ho⟩ := Option.ne_none_iff_exists'.mp inside
    have e := inK a o ho
    cases obj.symm.trans e
    exact law_run (H := fun _ => none) inK glob blt boot nolim still obj len room F bind (fun b => .inl rfl) (.inr ⟨_, vs.toArray, _, ho, rfl, rfl, rfl, by rw [List.size_toArray, llen]; exact small, by simpa using vals⟩) fun b u z => nomatch z
theorem walk_pv {l : PySem.W.OpenLaw} {k : Nat} {q : Program} {loose : List Str} {XP : (Str → Option Value) → Heap → Prop} {YP : World → Heap → Prop} {d : DefRec} {K : Params → PySem.W.Frag} {x : Str} (hn : l.most = some 63) (hdf : d.params.defaults = []) (room : Room k callerA)
    (hY : ∀ (w : World) (h : Heap), YP w h → (K w.params).In h)
    (F : ∀ (w : World) (mg : Str → Option Value) (fa : Addr) (h : Heap), (K w.params).In h → h.Ns mainGlobals mg → mg d.name = some (.ref fa) →
      ∃ fd : FuncData, (∀ (s : Shared) (u : Value), BindsTo s fd ⟨[u], []⟩ [(x, u)]) ∧ ∀ base : Heap, (K w.params).In base → base.Ns mainGlobals mg → FnH ⟨l.prog, w, K w.params, mg, base, none⟩ k fa fd [x] (spLaw (K w.params))) :
    PySem.W.WalkO q loose XP YP l.row.toRowW d [] (fun f vs => PySem.call f vs) :=
  Att.attach_call hn hdf fun w s₀ s₁ mg mb fa o pm cd doc a vs ns G Y _ _ _ hmg obj whole len still => by
    obtain ⟨fd, bind, hF⟩ := F w mg fa _ (hY w _ Y) G.T.g hmg
    exact law_start (hY w _ Y) G.T.g G.T.b G.T.builtins G.T.nolimit still obj whole len room hF bind
section
variable {S : Sx} {k : Nat} {N : List Str} {sc : Names} {X : Cx} {σ : L2.St} {H : Hp} {x : Str} {p pos : Pos} {v : V}
theorem vyes {Q : Bool → Hp → Prop} (h : Q true H) : tYes σ H Q := h
theorem vgn (c : Ctx S k N sc X) (i : Nat) {Q : L2.St → Hp → Prop} (h : Q (σ.set i (some v)) H) (hN : N[i]? = some x := by rfl) (hv : sc.lookup x = some .local := by rfl) : rG X (.Name x p) v σ H Q :=
  .of (pg_name (i := i) c.nd (by rw [c.hN]; exact hN) (.inl (by rw [c.sc]; exact hv)) (.inr (by rw [c.sc]; exact hv))) h
theorem vabs (c : Ctx S k N sc X) {a : Expr} {i : Int} {Q : VK} (za : S.B.mg "abs" = none) (ha : Ctx S k N sc X → VE X σ H a (.int i)) (h : Q (.int (if i < 0 then -i else i)) H) (hg : sc.lookup ("abs" : Str) = some .globalImplicit := by rfl) (hs : starEach [a] X.env = [(false, eval a X.env)] := by rfl) : rE X (.Call (.Name "abs" p) [a] [] pos) σ H Q :=
  ve_abs (gl_of c hg) (mg_of c za) hs (ha c) _ h
end
end Pv

namespace Pv
open PySem PySem.Spec PyProof.Rows L2
theorem bo_len : bootBuiltins "len" = some (.builtin "len") := by first | exact boot_len | exact PyProof.Rows.boot_len
theorem bo_sorted : bootBuiltins "sorted" = some (.builtin "sorted") := by first | exact boot_sorted | exact PyProof.Rows.boot_sorted
theorem bo_abs : bootBuiltins "abs" = some (.builtin "abs") := by first | exact boot_abs | exact PyProof.Rows.boot_abs
theorem bo_any : bootBuiltins "any" = some (.builtin "any") := by first | exact boot_any | exact PyProof.Rows.boot_any
theorem bo_all : bootBuiltins "all" = some (.builtin "all") := by first | exact boot_all | exact PyProof.Rows.boot_all
theorem bo_sum : bootBuiltins "sum" = some (.builtin "sum") := by first | exact boot_sum | exact PyProof.Rows.boot_sum
theorem bo_repr : bootBuiltins "repr" = some (.builtin "repr") := by first | exact boot_repr | exact PyProof.Rows.boot_repr
theorem bo_max : bootBuiltins "max" = some (.builtin "max") := by first | exact boot_max | exact PyProof.Rows.boot_max
theorem bo_min : bootBuiltins "min" = some (.builtin "min") := by first | exact boot_min | exact PyProof.Rows.boot_min
theorem bo_isinstance : bootBuiltins "isinstance" = some (.builtin "isinstance") := by first | exact boot_isinstance | exact PyProof.Rows.boot_isinstance
theorem bo_tuple : bootBuiltins "tuple" = some (.type "tuple") := by first | exact PyProof.Rows.boot_tuple | exact boot_tuple
theorem bo_list : bootBuiltins "list" = some (.type "list") := by first | exact PyProof.Rows.boot_list | exact boot_list
theorem bo_int : bootBuiltins "int" = some (.type "int") := by first | exact PyProof.Rows.boot_int | exact boot_int
theorem bo_bool : bootBuiltins "bool" = some (.type "bool") := by first | exact PyProof.Rows.boot_bool | exact boot_bool
theorem bo_str : bootBuiltins "str" = some (.type "str") := by first | exact PyProof.Rows.boot_str | exact boot_str
theorem bo_dict : bootBuiltins "dict" = some (.type "dict") := by first | exact PyProof.Rows.boot_dict | exact boot_dict
section
variable {S : Sx} {k : Nat} {N : List Str} {sc : Names} {ret : Md} {e e2 e3 a b c : Expr} {es : List Expr} {fe fa fb fc f f2 f3 : EF} {m m1 m2 m3 : Md} {x y : Str} {p pos pos' : Pos} {g : AF} {ms : List Md}
/-- is the slot the source's -/
def sixIs (S : Sx) (i : Nat) : Bool := match S.six with
  | some j => j == i
  | none => false
theorem sixIs_ne {S : Sx} {i : Nat} (h : sixIs S i = false) : S.six ≠ some i := fun e => by
  unfold sixIs at h
  rw [e] at h
  simp at h
abbrev Seen (sc : Names) (x : Str) : Prop := sc.lookup x = some .local ∨ sc.lookup x = some .cell ∨ sc.lookup x = some .free
abbrev Kept (sc : Names) (x : Str) : Prop := sc.lookup x = some .local ∨ sc.lookup x = some .cell
abbrev Fnk (sc : Names) (x : Str) : Prop := sc.lookup (".0" : Str) = none ∨ sc.lookup x = some .local
abbrev Ndb (x : Str) : Prop := (x == ("__debug__" : Str)) = false
abbrev Ncd (x : Str) : Prop := (x == ("__classdict__" : Str)) = false
theorem n_sh (i : Nat) (hk : S.kd i = .sh := by rfl) (hN : N[i]? = some x := by rfl) (hv : Seen sc x := by first | exact .inl rfl | exact .inr (.inl rfl) | exact .inr (.inr rfl)) (hd : Ndb x := by rfl) (hc : Ncd x := by rfl) : EJ S k N sc (.Name x p) .frz (vr i) := ej_sh hk hN hv hd hc
theorem n_bo (i : Nat) (hN : N[i]? = some x := by rfl) (hv : Seen sc x := by first | exact .inl rfl | exact .inr (.inl rfl) | exact .inr (.inr rfl)) (hd : Ndb x := by rfl) (hc : Ncd x := by rfl) : EJ S k N sc (.Name x p) .bor (vr i) := ej_bor hN hv hd hc
theorem n_cmp {op : CmpOp} {φ : D → D → Tr D} (h : O2 S k N sc m (fun X => rO X (compareOp op)) φ) (ha : EJ S k N sc a m1 fa) (hb : EJ S k N sc b m2 fb) (hm : behindInMarks op b = false := by rfl) : EJ S k N sc (.Compare a [op] [b] pos) m (op2 φ fa fb) := ej_cmp h ha hb hm
theorem n_tcmp {op : CmpOp} {φ : D → D → Tr D} (h : O2 S k N sc m (fun X => rO X (compareOp op)) φ) (ha : EJ S k N sc a m1 fa) (hb : EJ S k N sc b m2 fb) (hm : behindInMarks op b = false := by rfl) : TJ S k N sc (.Compare a [op] [b] pos) (tOf (op2 φ fa fb)) := tj_cmp h ha hb hm
theorem n_chain {op op' : CmpOp} {φ ψ : D → D → Tr D} (h : O2 S k N sc .own (fun X => rO X (compareOp op)) φ) (h' : O2 S k N sc .own (fun X => rO X (compareOp op')) ψ) (ha : EJ S k N sc a m1 fa) (hb : EJ S k N sc b m2 fb) (hc : EJ S k N sc c m3 fc) (hm : lastMarks [op, op'] [b, c] = false := by rfl) :
    EJ S k N sc (.Compare a [op, op'] [b, c] pos) .own (chain φ ψ fa fb fc) := ej_chain h h' ha hb hc hm
theorem n_tchain {op op' : CmpOp} {φ ψ : D → D → Tr D} (h : O2 S k N sc .own (fun X => rO X (compareOp op)) φ) (h' : O2 S k N sc .own (fun X => rO X (compareOp op')) ψ) (ha : EJ S k N sc a m1 fa) (hb : EJ S k N sc b m2 fb) (hc : EJ S k N sc c m3 fc) (hm : lastMarks [op, op'] [b, c] = false := by rfl) :
    TJ S k N sc (.Compare a [op, op'] [b, c] pos) (tOf (chain φ ψ fa fb fc)) := tj_chain h h' ha hb hc hm
theorem n_tru (ha : EJ S k N sc a m fa) (he : ∀ (X : Cx) whole, isTrue a X.env whole = (do let v ← whole; standAt a.pos; holding [v] (truthy v)) := by intro _ _; rfl) : TJ S k N sc a (tTru fa) := tj_tru ha he
theorem n_idx (ha : EJ S k N sc a m1 fa) (hb : EJ S k N sc b m2 fb) (hs : PlainIx b := by intro _ _; rfl) : EJ S k N sc (.Subscript a b pos) .frz (op2 idxD fa fb) := ej_idx ha hb hs
theorem n_ac (ha : EJ S k N sc a .frz fa) (hr : AJ S k N sc es g) (hs : ∀ (env : Env), starEach (a :: es) env = (false, eval a env) :: starEach es env := by intro _; rfl) : AJ S k N sc (a :: es) (aCons fa g) := aj_cons ha hr hs
theorem n_pc (ha : EJ S k N sc e m fe) (hr : PJ S k N sc es ms g) (hs : ∀ (env : Env), starEach (e :: es) env = (false, eval e env) :: starEach es env := by intro _; rfl) : PJ S k N sc (e :: es) (m :: ms) (aCons fe g) := pj_cons ha hr hs
theorem n_call {np : Nat} {Φ : List D → Tr D} {j : Nat} (D1 : DefIn S.B j x np ret false Φ) (h : AJ S k N sc (e :: es) g) (hn : ALen g np) (hj : j ≤ k := by decide) (hg : sc.lookup x = some .globalImplicit := by rfl) (hdb : Ndb x := by rfl) (he : ∀ env : Env, starEach (e :: es) env = (false, eval e env) :: starEach es env := by intro _; rfl)
    (hpl : ∀ env : Env, (backTo pos (starEach es env)).any (·.1) = false := by intro _; rfl) : EJ S k N sc (.Call (.Name x p) (e :: es) [] pos) ret (eCall Φ g) := ej_call (D1.lift hj) h hg hdb he hpl hn
theorem n_callS {sN : Str} {ps' : Pos} {np j : Nat} {Φ : List D → Tr D} (i : Nat) (D1 : DefIn S.B j x (np + 1) ret true Φ) (hsrc : ∃ A L, S.B.src = some (A, L)) (h : AJ S k N sc es g) (hn : ALen g np) (hj : j ≤ k := by decide) (hg : sc.lookup x = some .globalImplicit := by rfl) (hdb : Ndb x := by rfl) (hsix : S.six = some i := by rfl) (hN : N[i]? = some sN := by rfl)
    (hv : Seen sc sN := by first | exact .inl rfl | exact .inr (.inl rfl) | exact .inr (.inr rfl)) (hd : Ndb sN := by rfl) (hcd : Ncd sN := by rfl) (hpl : ∀ env : Env, (backTo pos (starEach es env)).any (·.1) = false := by intro _; rfl) : EJ S k N sc (.Call (.Name x p) (.Name sN ps' :: es) [] pos) ret (eCall Φ g) :=
  ej_callS (D1.lift hj) h hg hdb hsix hsrc hN hv hd hcd hpl hn
theorem n_blt {idn : String} {φ : List D → Tr D} (r : BR S k N sc (.builtin idn) m φ) (hv : bootBuiltins x = some (.builtin idn)) (hm : S.B.mg x = none) (h : PJ S k N sc (e :: es) ms g) (hx : x ≠ "__name__" := by decide) (hdb : Ndb x := by rfl) (hg : sc.lookup x = some .globalImplicit := by rfl)
    (he : ∀ env : Env, starEach (e :: es) env = (false, eval e env) :: starEach es env := by intro _; rfl) (hpl : ∀ env : Env, (backTo pos (starEach es env)).any (·.1) = false := by intro _; rfl) : EJ S k N sc (.Call (.Name x p) (e :: es) [] pos) m (eCall φ g) := ej_blt r hv hx hdb hg hm h he hpl
theorem n_typ {idn : String} {φ : List D → Tr D} (r : BR S k N sc (.type idn) m φ) (hv : bootBuiltins x = some (.type idn)) (hm : S.B.mg x = none) (h : PJ S k N sc (e :: es) ms g) (hx : x ≠ "__name__" := by decide) (hdb : Ndb x := by rfl) (hg : sc.lookup x = some .globalImplicit := by rfl)
    (he : ∀ env : Env, starEach (e :: es) env = (false, eval e env) :: starEach es env := by intro _; rfl) (hpl : ∀ env : Env, (backTo pos (starEach es env)).any (·.1) = false := by intro _; rfl) : EJ S k N sc (.Call (.Name x p) (e :: es) [] pos) m (eCall φ g) := ej_typ r hv hx hdb hg hm h he hpl
theorem n_isa {T : String} {φ : D → Bool} {p2 : Pos} (L : IsaLem T φ) (hv : bootBuiltins x = some (.type T)) (hm : S.B.mg "isinstance" = none) (hmx : S.B.mg x = none) (he : EJ S k N sc e m fe) (hx : x ≠ "__name__" := by decide) (hdb : Ndb x := by rfl) (hgx : sc.lookup x = some .globalImplicit := by rfl)
    (hg : sc.lookup ("isinstance" : Str) = some .globalImplicit := by rfl) (hs : ∀ env : Env, starEach [e, .Name x p2] env = (false, eval e env) :: starEach [.Name x p2] env := by intro _; rfl) (hpl : ∀ env : Env, (backTo pos (starEach [.Name x p2] env)).any (·.1) = false := by intro _; rfl) :
    EJ S k N sc (.Call (.Name "isinstance" p) [e, .Name x p2] [] pos) .own (op1 (isaD φ) fe) := ej_isa L hv hx hdb hgx hmx hg hm he hs hpl
theorem n_disp {keys : List (Option Expr)} {vals : List Expr} {r : List (EF × EF)} (h : PPJ S k N sc keys vals r) (hall : keys.all (·.isSome) = true := by rfl) (hl : keys.length = vals.length := by rfl) (h0 : keys ≠ [] := by intro z; cases z) (h15 : keys.length ≤ 15 := by decide) : EJ S k N sc (.Dict keys vals pos) .own (eDisp r) := ej_disp hall hl h0 h15 h
theorem n_get1 {apos cpos : Pos} (ho : EJ S k N sc a m1 fa) (he : EJ S k N sc e m2 fe) (mm : ∀ X, M1 X a "get" apos e cpos := by intro _; exact ⟨rfl, rfl, rfl, rfl⟩) : EJ S k N sc (.Call (.Attribute a "get" apos) [e] [] cpos) .frz (eGet1 fa fe) := ej_get1 ho he mm
theorem n_get2 {apos cpos : Pos} (ho : EJ S k N sc a m1 fa) (he : EJ S k N sc e m2 fe) (hx : EJ S k N sc b .frz fb) (mm : ∀ X, M2 X a "get" apos e b cpos := by intro _; exact ⟨rfl, rfl, rfl, rfl⟩) : EJ S k N sc (.Call (.Attribute a "get" apos) [e, b] [] cpos) .frz (eGet2 fa fe fb) := ej_get2 ho he hx mm
theorem n_r1 {tg : Expr} {fr : Bool} (hm : S.B.mg "range" = none) (ha : AJ S k N sc [e] g) (hg : sc.lookup ("range" : Str) = some .globalImplicit := by rfl) (hs : ∀ env : Env, starEach [e] env = [(false, eval e env)] := by intro _; rfl) : IJ S k N sc tg (.Call (.Name "range" p) [e] [] pos) fr (itR1 g) := ij_range1 hg hm ha hs
theorem n_r2 {tg : Expr} {fr : Bool} (hm : S.B.mg "range" = none) (ha : AJ S k N sc [e, e2] g) (hg : sc.lookup ("range" : Str) = some .globalImplicit := by rfl) (hs : ∀ env : Env, starEach [e, e2] env = [(false, eval e env), (false, eval e2 env)] := by intro _; rfl) (hs2 : ∀ env : Env, starEach [e2] env = [(false, eval e2 env)] := by intro _; rfl) :
    IJ S k N sc tg (.Call (.Name "range" p) [e, e2] [] pos) fr (itR2 g) := ij_range2 hg hm ha hs hs2
theorem n_r3 {tg : Expr} {fr : Bool} (hm : S.B.mg "range" = none) (ha : AJ S k N sc [e, e2, e3] g) (hg : sc.lookup ("range" : Str) = some .globalImplicit := by rfl) (hs : ∀ env : Env, starEach [e, e2, e3] env = (false, eval e env) :: starEach [e2, e3] env := by intro _; rfl) (hpl : ∀ env : Env, (backTo pos (starEach [e2, e3] env)).any (·.1) = false := by intro _; rfl) :
    IJ S k N sc tg (.Call (.Name "range" p) [e, e2, e3] [] pos) fr (itR3 g) := ij_range3 hg hm ha hs hpl
theorem n_enum {fr : Bool} {tpos : Pos} {elts : List Expr} {kk : Nat} (hm : S.B.mg "enumerate" = none) (he : EJ S k N sc e (mdOf fr) f) (hg : sc.lookup ("enumerate" : Str) = some .globalImplicit := by rfl) (hs : ∀ env : Env, starEach [e] env = [(false, eval e env)] := by intro _; rfl) : IJ S k N sc (.Tuple elts kk tpos) (.Call (.Name "enumerate" p) [e] [] pos) fr (itE f) := ij_enum hg hm he hs
theorem n_zip2 {fr : Bool} {tpos : Pos} {elts : List Expr} {kk : Nat} (hm : S.B.mg "zip" = none) (he : EJ S k N sc e (mdOf fr) f) (he2 : EJ S k N sc e2 (mdOf fr) f2) (hg : sc.lookup ("zip" : Str) = some .globalImplicit := by rfl) (hs : ∀ env : Env, starEach [e, e2] env = (false, eval e env) :: starEach [e2] env := by intro _; rfl) (hs2 : ∀ env : Env, starEach [e2] env = [(false, eval e2 env)] := by intro _; rfl)
    (hpl : ∀ env : Env, (backTo pos (starEach [e2] env)).any (·.1) = false := by intro _; rfl) : IJ S k N sc (.Tuple elts kk tpos) (.Call (.Name "zip" p) [e, e2] [] pos) fr (itZ2 f f2) := ij_zip2 hg hm he he2 hs hs2 hpl
theorem n_zip3 {fr : Bool} {tpos : Pos} {elts : List Expr} {kk : Nat} (hm : S.B.mg "zip" = none) (he : EJ S k N sc e (mdOf fr) f) (he2 : EJ S k N sc e2 (mdOf fr) f2) (he3 : EJ S k N sc e3 (mdOf fr) f3) (hg : sc.lookup ("zip" : Str) = some .globalImplicit := by rfl) (hs : ∀ env : Env, starEach [e, e2, e3] env = (false, eval e env) :: starEach [e2, e3] env := by intro _; rfl)
    (hs2 : ∀ env : Env, starEach [e2, e3] env = (false, eval e2 env) :: starEach [e3] env := by intro _; rfl) (hs3 : ∀ env : Env, starEach [e3] env = [(false, eval e3 env)] := by intro _; rfl) (hpl : ∀ env : Env, (backTo pos (starEach [e2, e3] env)).any (·.1) = false := by intro _; rfl) : IJ S k N sc (.Tuple elts kk tpos) (.Call (.Name "zip" p) [e, e2, e3] [] pos) fr (itZ3 f f2 f3) := ij_zip3 hg hm he he2 he3 hs hs2 hs3 hpl
theorem n_g (i : Nat) (hk : S.kd i = .sh := by rfl) (h6 : sixIs S i = false := by rfl) (hN : N[i]? = some x := by rfl) (hx : Kept sc x := by first | exact .inl rfl | exact .inr rfl) (hfn : Fnk sc x := by first | exact .inr rfl | exact .inl rfl) : GJ S k N sc (.Name x pos) [i] (gN i) := gj_name hk (sixIs_ne h6) hN hx hfn
theorem n_gc {gg : GF} {gs : GsF} {is js : List Nat} (h1 : GJ S k N sc e is gg) (h2 : GsJ S k N sc es js gs) (hs : ∀ env : Env, (assignEach (e :: es) env).map (·.2) = assign e env :: (assignEach es env).map (·.2) := by intro _; rfl) : GsJ S k N sc (e :: es) (is ++ js) (gsCons gg gs) := gsj_cons h1 h2 hs
theorem n_gt {j n : Nat} {gs : GsF} {is : List Nat} (h : GsJ S k N sc es is gs) (hl : GLen gs n) (hn : ∀ env : Env, (assignEach es env).length = n := by intro _; rfl) (hst : ∀ env : Env, (assignEach es env).findIdx? (·.1) = none := by intro _; rfl) : GJ S k N sc (.Tuple es j pos) is (gT gs) := gj_tup h hn hst hl
variable {tg it elt : Expr} {ifs : List Expr} {scope : Scope} {src : Ev → Tr (List D)} {gg : GF} {t : TF} {is : List Nat} {spos py : Pos}
theorem n_lc (own : List (Str × Nat)) (hi : IJ S k N sc tg it false src) (hg : GJ S k N (relN scope sc) tg is gg) (ht : TsJ S k N (relN scope sc) ifs t) (he : EJ S k N (relN scope sc) elt .frz f) (hok : blkG N sc scope own = true := by rfl) (h6 : (match S.six with | some i => !(own.map (·.2)).contains i | none => true) = true := by rfl) (his : (is.all fun i => (own.map (·.2)).contains i) = true := by rfl)
    (hs : ∀ (env : Env) x, foldedSetIterable it env x = pure x := by intro _ _; rfl) : EJ S k N sc (.ListComp elt [⟨tg, it, ifs, 0⟩] scope pos) .own (eLc src (own.map (·.2)) gg t f) :=
  ej_lc hok (fun i e => by rw [e] at h6; simpa using h6) hi hg (fun i h => by have := List.all_eq_true.mp his i h; simpa using this) ht he hs
theorem n_lcD (i : Nat) {xp : Pos} (own : List (Str × Nat)) (hg : GJ S.lck k N (relN scope sc) tg is gg) (ht : TsJ S.lck k N (relN scope sc) ifs t) (he : EJ S.lck k N (relN scope sc) elt .frz f) (hN : N[i]? = some x := by rfl) (hv : Seen sc x := by first | exact .inl rfl | exact .inr (.inl rfl) | exact .inr (.inr rfl)) (hd : Ndb x := by rfl) (hcd : Ncd x := by rfl)
    (hok : blkG N sc scope own = true := by rfl) (h6 : (match S.six with | some i => !(own.map (·.2)).contains i | none => true) = true := by rfl) (his : (is.all fun i => (own.map (·.2)).contains i) = true := by rfl) : EJ S k N sc (.ListComp elt [⟨tg, .Name x xp, ifs, 0⟩] scope pos) .own (eLc (itK i) (own.map (·.2)) gg t f) :=
  ej_lcD hN hv hd hcd hok (fun i e => by rw [e] at h6; simpa using h6) hg (fun i h => by have := List.all_eq_true.mp his i h; simpa using this) ht he
theorem n_setLc (i : Nat) (own : List (Str × Nat)) (hi : IJ S k N sc tg it false src) (hg : GJ S k N (relN scope sc) tg is gg) (ht : TsJ S k N (relN scope sc) ifs t) (he : EJ S k N (relN scope sc) elt .frz f) (hkd : S.kd i = .sh ∨ S.kd i = .ow := by first | exact .inl rfl | exact .inr rfl) (hi6 : sixIs S i = false := by rfl) (hy : N[i]? = some y := by rfl) (hyl : sc.lookup y = some .local := by rfl)
    (hl : (py.line == pos.line) = true := by rfl) (ha : (scope.names.any fun (n, k) => n == y && (k == .local || k == .cell)) = false := by rfl) (hok : blkG N sc scope own = true := by rfl) (h6 : (match S.six with | some i => !(own.map (·.2)).contains i | none => true) = true := by rfl) (his : (is.all fun i => (own.map (·.2)).contains i) = true := by rfl)
    (hs : ∀ (env : Env) x, foldedSetIterable it env x = pure x := by intro _ _; rfl) : SJ S k N sc ret (.Assign [.Name y py] (.ListComp elt [⟨tg, it, ifs, 0⟩] scope pos) spos) (sSet i (eLc src (own.map (·.2)) gg t f)) :=
  sj_setLc hkd (sixIs_ne hi6) hy hyl (fun env hk hy => sw_true hk hy hl ha) hok (fun i e => by rw [e] at h6; simpa using h6) hi hg (fun i h => by have := List.all_eq_true.mp his i h; simpa using this) ht he hs
theorem n_set (i : Nat) (he : EJ S k N sc e .frz fe) (hk : S.kd i = .sh := by rfl) (h6 : sixIs S i = false := by rfl) (hN : N[i]? = some x := by rfl) (hx : Kept sc x := by first | exact .inl rfl | exact .inr rfl) (hfn : Fnk sc x := by first | exact .inr rfl | exact .inl rfl) (hs : ∀ env : Env, swapsWith e (some (.Name x pos')) pos.line env = pure false := by intro _; rfl) :
    SJ S k N sc ret (.Assign [.Name x pos'] e pos) (sSet i fe) := sj_set hk (sixIs_ne h6) hN hx hfn hs he
theorem n_setO (i : Nat) (he : EJ S k N sc e .own fe) (hk : S.kd i = .ow := by rfl) (h6 : sixIs S i = false := by rfl) (hN : N[i]? = some x := by rfl) (hx : Kept sc x := by first | exact .inl rfl | exact .inr rfl) (hfn : Fnk sc x := by first | exact .inr rfl | exact .inl rfl) (hs : ∀ env : Env, swapsWith e (some (.Name x pos')) pos.line env = pure false := by intro _; rfl) :
    SJ S k N sc ret (.Assign [.Name x pos'] e pos) (sSet i fe) := sj_setOw hk (sixIs_ne h6) hN hx hfn hs he
theorem n_asg {tgt : Expr} (hg : GJ S k N sc tgt is gg) (he : EJ S k N sc e .frz fe) (hs : ∀ env : Env, swapsWithSole [tgt] e pos.line env = pure false := by intro _; rfl) (hw : ∀ env : Env, swappedStores [tgt] e env = pure none := by intro _; rfl) (h1 : ∀ env : Env, (assignEach [tgt] env).map (·.2) = [assign tgt env] := by intro _; rfl) : SJ S k N sc ret (.Assign [tgt] e pos) (sAsg gg fe) := sj_asg hg he hs hw h1
theorem n_app {apos cpos : Pos} (i : Nat) (he : EJ S k N sc e .frz fe) (hk : S.kd i = .ow := by rfl) (hN : N[i]? = some x := by rfl) (hv : Seen sc x := by first | exact .inl rfl | exact .inr (.inl rfl) | exact .inr (.inr rfl)) (hd : Ndb x := by rfl) (hcd : Ncd x := by rfl) (hs : ∀ env : Env, starEach [e] env = [(false, eval e env)] := by intro _; rfl) (hl : (apos.endLine == cpos.line) = true := by rfl) :
    SJ S k N sc ret (.Expr (.Call (.Attribute (.Name x pos) "append" apos) [e] [] cpos) pos') (sApp i fe) := sj_app hk hN hv hd hcd he hs hl
theorem n_ext {apos cpos : Pos} (i : Nat) (he : EJ S k N sc e m fe) (hk : S.kd i = .ow := by rfl) (hN : N[i]? = some x := by rfl) (hv : Seen sc x := by first | exact .inl rfl | exact .inr (.inl rfl) | exact .inr (.inr rfl)) (hd : Ndb x := by rfl) (hcd : Ncd x := by rfl) (hs : ∀ env : Env, starEach [e] env = [(false, eval e env)] := by intro _; rfl) (hl : (apos.endLine == cpos.line) = true := by rfl) :
    SJ S k N sc ret (.Expr (.Call (.Attribute (.Name x pos) "extend" apos) [e] [] cpos) pos') (sExt i fe) := sj_ext hk hN hv hd hcd he hs hl
theorem n_pop0 {apos cpos : Pos} (i : Nat) (hk : S.kd i = .ow := by rfl) (hN : N[i]? = some x := by rfl) (hv : Seen sc x := by first | exact .inl rfl | exact .inr (.inl rfl) | exact .inr (.inr rfl)) (hd : Ndb x := by rfl) (hcd : Ncd x := by rfl) (hl : (apos.endLine == cpos.line) = true := by rfl) :
    SJ S k N sc ret (.Expr (.Call (.Attribute (.Name x pos) "pop" apos) [] [] cpos) pos') (sPop0 i) := sj_pop0 hk hN hv hd hcd hl
theorem n_pop {apos cpos : Pos} {tgt : Expr} (i : Nat) (hg : GJ S k N sc tgt is gg) (hk : S.kd i = .ow := by rfl) (hN : N[i]? = some x := by rfl) (hv : Seen sc x := by first | exact .inl rfl | exact .inr (.inl rfl) | exact .inr (.inr rfl)) (hd : Ndb x := by rfl) (hcd : Ncd x := by rfl) (hl : (apos.endLine == cpos.line) = true := by rfl)
    (hw : ∀ env : Env, swappedStores [tgt] (.Call (.Attribute (.Name x pos) "pop" apos) [] [] cpos) env = pure none := by intro _; rfl) (h1 : ∀ env : Env, (assignEach [tgt] env).map (·.2) = [assign tgt env] := by intro _; rfl) : SJ S k N sc ret (.Assign [tgt] (.Call (.Attribute (.Name x pos) "pop" apos) [] [] cpos) pos') (sPop gg i) := sj_pop hk hN hv hd hcd hl hg hw h1
theorem n_setI {tpos : Pos} (i : Nat) (hj : EJ S k N sc a m fa) (he : EJ S k N sc e .frz fe) (hk : S.kd i = .ow := by rfl) (hN : N[i]? = some x := by rfl) (hv : Seen sc x := by first | exact .inl rfl | exact .inr (.inl rfl) | exact .inr (.inr rfl)) (hd : Ndb x := by rfl) (hcd : Ncd x := by rfl)
    (ha : ∀ (env : Env) v, assign (.Subscript (.Name x pos) a tpos) env v = (do let ov ← holding [v] (eval (.Name x pos) env); let iv ← holding [v, ov] (eval a env); standAt tpos; holding [v, ov, iv] (setItem ov iv v); release [v, ov, iv] []) := by intro _ _; rfl)
    (hs : ∀ env : Env, swapsWithSole [.Subscript (.Name x pos) a tpos] e pos'.line env = pure false := by intro _; rfl) (hw : ∀ env : Env, swappedStores [.Subscript (.Name x pos) a tpos] e env = pure none := by intro _; rfl) (h1 : ∀ env : Env, (assignEach [.Subscript (.Name x pos) a tpos] env).map (·.2) = [assign (.Subscript (.Name x pos) a tpos) env] := by intro _; rfl) :
    SJ S k N sc ret (.Assign [.Subscript (.Name x pos) a tpos] e pos') (sSetI i fa fe) := sj_setI hk hN hv hd hcd he hj ha hs hw h1
theorem n_mvF {npos : Pos} (i j : Nat) (hj : S.kd j = .ow := by rfl) (hk : S.kd i = .sh := by rfl) (h6 : sixIs S i = false := by rfl) (hN : N[i]? = some x := by rfl) (hx : Kept sc x := by first | exact .inl rfl | exact .inr rfl) (hfn : Fnk sc x := by first | exact .inr rfl | exact .inl rfl) (hNj : N[j]? = some y := by rfl) (hv : Seen sc y := by first | exact .inl rfl | exact .inr (.inl rfl) | exact .inr (.inr rfl)) (hd : Ndb y := by rfl) (hcd : Ncd y := by rfl) :
    SJ S k N sc ret (.Assign [.Name x pos'] (.Name y npos) pos) (sMove i j) := sj_moveF hj hk (sixIs_ne h6) hN hx hfn hNj hv hd hcd
theorem n_mvO {npos : Pos} (i j : Nat) (hj : S.kd j = .ow := by rfl) (hk : S.kd i = .ow := by rfl) (hij : i ≠ j := by decide) (h6 : sixIs S i = false := by rfl) (hN : N[i]? = some x := by rfl) (hx : Kept sc x := by first | exact .inl rfl | exact .inr rfl) (hfn : Fnk sc x := by first | exact .inr rfl | exact .inl rfl) (hNj : N[j]? = some y := by rfl) (hv : Seen sc y := by first | exact .inl rfl | exact .inr (.inl rfl) | exact .inr (.inr rfl)) (hd : Ndb y := by rfl) (hcd : Ncd y := by rfl) :
    SJ S k N sc ret (.Assign [.Name x pos'] (.Name y npos) pos) (sMove i j) := sj_moveO hj hk hij (sixIs_ne h6) hN hx hfn hNj hv hd hcd
theorem n_retO {npos : Pos} (j : Nat) (hj : S.kd j = .ow := by rfl) (hr : ret ≠ .bor := by intro z; cases z) (hNj : N[j]? = some y := by rfl) (hv : Seen sc y := by first | exact .inl rfl | exact .inr (.inl rfl) | exact .inr (.inr rfl)) (hd : Ndb y := by rfl) (hcd : Ncd y := by rfl) : SJ S k N sc ret (.Return (some (.Name y npos)) pos) (sRetO j) := sj_retO hj hr hNj hv hd hcd
theorem n_for {body : List Stmt} {bb : SF} (hi : IJ S k N sc tg it true src) (hg : GJ S k N sc tg is gg) (hb : BJ S k N sc ret body bb) (hs : ∀ (env : Env) x, foldedSetIterable it env x = pure x := by intro _ _; rfl) : SJ S k N sc ret (.For tg it body [] pos) (sFor src gg bb) := sj_for hi hg hb hs
abbrev FnkAll (sc : Names) : Prop := sc.lookup (".0" : Str) = none
theorem n_par2 {i j : Nat} {px py : Pos} {kt k2 : Nat} {pt pt2 : Pos} (hp : PJ S k N sc [a, b] [m1, m2] g) (hkd : KdOk S [i, j] [m1, m2] := by exact ⟨rfl, sixIs_ne rfl, rfl, sixIs_ne rfl, trivial⟩) (hst : StoreOk S N sc (FnkAll sc) [i, j] [x, y] := by exact ⟨rfl, by first | exact .inl rfl | exact .inr ⟨rfl, rfl⟩, rfl, by first | exact .inl rfl | exact .inr ⟨rfl, rfl⟩, trivial⟩) (hij : i ≠ j := by decide)
    (hc : (foldedForSure 8 a && foldedForSure 8 b) = true ∨ (constantsAlone 8 a && constantsAlone 8 b) = false := by first | exact .inl rfl | exact .inr rfl) : SJ S k N sc ret (.Assign [.Tuple [.Name x px, .Name y py] kt pt] (.Tuple [a, b] k2 pt2) pos) (sPar [i, j] g) := sj_par2 (fun X cc h => cc.fn h) hkd hst hij hc hp
theorem n_par3 {i j l : Nat} {z : Str} {px py pz : Pos} {kt k2 : Nat} {pt pt2 : Pos} (hp : PJ S k N sc [a, b, c] [m1, m2, m3] g) (hkd : KdOk S [i, j, l] [m1, m2, m3] := by exact ⟨rfl, sixIs_ne rfl, rfl, sixIs_ne rfl, rfl, sixIs_ne rfl, trivial⟩)
    (hst : StoreOk S N sc (FnkAll sc) [i, j, l] [x, y, z] := by exact ⟨rfl, by first | exact .inl rfl | exact .inr ⟨rfl, rfl⟩, rfl, by first | exact .inl rfl | exact .inr ⟨rfl, rfl⟩, rfl, by first | exact .inl rfl | exact .inr ⟨rfl, rfl⟩, trivial⟩) (hij : i ≠ j := by decide) (hil : i ≠ l := by decide) (hjl : j ≠ l := by decide)
    (hc : (foldedForSure 8 a && foldedForSure 8 b && foldedForSure 8 c) = true ∨ (constantsAlone 8 a && constantsAlone 8 b && constantsAlone 8 c) = false := by first | exact .inl rfl | exact .inr rfl) : SJ S k N sc ret (.Assign [.Tuple [.Name x px, .Name y py, .Name z pz] kt pt] (.Tuple [a, b, c] k2 pt2) pos) (sPar [i, j, l] g) := sj_par3 (fun X cc h => cc.fn h) hkd hst hij hil hjl hc hp
end
theorem def_in {B : Bx} {k : Nat} {x : Str} {st : Stmt} {N ps : List Str} {ret : Md} {hs : Bool} {kd : Nat → Kd} {g : SF} (F : ∃ f fd, B.mg x = some (.ref f) ∧ Fun B.K x x st f fd) (hb : ∀ (kV doc pm : Value) (an : Option Addr) (cdv ct : Value) (us : List Value), us.length = ps.length → bindArgs (PySem.W.fnOf x x (defArgs st) (defBody st) (defScope st) .none kV doc pm an cdv ct) ⟨us, []⟩ = pure (ps.zip us))
    (S : FnScope N ps (defScope st)) (hk : (List.range ps.length).all (fun i => decide (kd i = .sh)) = true) (hret : ret ≠ .bor) (J : BJ ⟨B, kd, if hs then some 0 else none⟩ k N (defScope st).names ret (defBody st) g) : DefIn B (k + 1) x ps.length ret hs (runF N.length hs g) := by
  obtain ⟨f, fd, h1, h2⟩ := F
  have hbd := h2.binds (ps := ps) hb
  obtain ⟨oc, od, kV, doc, pm, an, cdv, ct, osl, rfl, lk, hcd⟩ := h2.ex
  exact ⟨f, _, ps, h1, h2.kp, hbd, rfl, fnG_of lk hcd S (fun i hi => by have := List.all_eq_true.mp hk i (List.mem_range.mpr hi); exact of_decide_eq_true this) hret J⟩
theorem def_by {B : Bx} {k : Nat} {x : Str} {st : Stmt} {N ps : List Str} {ret : Md} {hs : Bool} {Φ : List D → Tr D} (F : ∃ f fd, B.mg x = some (.ref f) ∧ Fun B.K x x st f fd) (hb : ∀ (kV doc pm : Value) (an : Option Addr) (cdv ct : Value) (us : List Value), us.length = ps.length → bindArgs (PySem.W.fnOf x x (defArgs st) (defBody st) (defScope st) .none kV doc pm an cdv ct) ⟨us, []⟩ = pure (ps.zip us))
    (S : FnScope N ps (defScope st)) (J : ∀ X, Ctx ⟨B, fun _ => .sh, none⟩ k N (defScope st).names X → ∀ (F : Addr → Prop) (H : Hp) (vs : List V) (ds : List D) (Q : VK), vs.length = ps.length → Args1 B hs F H vs ds → Wf B F H → (Φ ds).wp (EP1 B ret F H Q) → rB X (defBody st) { nx := fun _ H' => Q .non H', rt := Q } (L2.start N vs) H) : DefIn B (k + 1) x ps.length ret hs Φ := by
  obtain ⟨f, fd, h1, h2⟩ := F
  have hbd := h2.binds (ps := ps) hb
  obtain ⟨oc, od, kV, doc, pm, an, cdv, ct, osl, rfl, lk, hcd⟩ := h2.ex
  exact ⟨f, _, ps, h1, h2.kp, hbd, rfl, fnG_by lk hcd S J⟩
theorem fun_h {B : Bx} {k : Nat} {x : Str} {st : Stmt} {N ps : List Str} {sp : List V → Hp → VK → Prop} {f : Addr} {fd : FuncData} (h2 : Fun B.K x x st f fd) (S : FnScope N ps (defScope st))
    (J : ∀ X, Ctx ⟨B, fun _ => .sh, none⟩ k N (defScope st).names X → ∀ (H : Hp) (vs : List V) (Q : VK), vs.length = ps.length → sp vs H Q → rB X (defBody st) { nx := fun _ H' => Q .non H', rt := Q } (L2.start N vs) H) : FnH B (k + 1) f fd ps sp := by
  obtain ⟨oc, od, kV, doc, pm, an, cdv, ct, osl, rfl, lk, hcd⟩ := h2.ex
  exact fnH_by lk hcd S J
theorem FnH.lift {B : Bx} {j k : Nat} {f : Addr} {fd : FuncData} {ps : List Str} {sp : List V → Hp → VK → Prop} (h : FnH B j f fd ps sp) (l : j ≤ k) : FnH B k f fd ps sp := ⟨fun A outer s H args us vs Q r => h.run A outer s H args us vs Q (r.mono l)⟩
structure SrcIn (B : Bx) (k : Nat) (x : Str) : Prop where
  ex : ∃ f fd, B.mg x = some (.ref f) ∧ PySem.W.keepIn B.K (.ref f) = true ∧ Binds B.K fd ["script"] [] ∧ FnH B k f fd ["script"] (spSrc B.K)
theorem src_in {B : Bx} {k : Nat} {x : Str} {st : Stmt} {N : List Str} (F : ∃ f fd, B.mg x = some (.ref f) ∧ Fun B.K x x st f fd) (hb : ∀ (kV doc pm : Value) (an : Option Addr) (cdv ct : Value) (us : List Value), us.length = 1 → bindArgs (PySem.W.fnOf x x (defArgs st) (defBody st) (defScope st) .none kV doc pm an cdv ct) ⟨us, []⟩ = pure ((["script"] : List Str).zip us)) (S : FnScope N ["script"] (defScope st))
    (J : ∀ X, Ctx ⟨B, fun _ => .sh, none⟩ k N (defScope st).names X → ∀ (H : Hp) (vs : List V) (Q : VK), vs.length = 1 → spSrc B.K vs H Q → rB X (defBody st) { nx := fun _ H' => Q .non H', rt := Q } (L2.start N vs) H) : SrcIn B (k + 1) x := by
  obtain ⟨f, fd, h1, h2⟩ := F
  exact ⟨f, fd, h1, h2.kp, h2.binds (ps := ["script"]) hb, fun_h h2 S J⟩
/-- what is left to show of the law's plain meaning -/
structure LawHolds (g : SF) (n : Nat) : Prop where
  ok : (g (List.replicate n none)).wp (fun r => ∃ ρ, r = (.rt (.bool true), ρ))
theorem law_first {B : Bx} {j k : Nat} {N : List Str} {sc : Names} {X : Cx} {x : Str} {p p' p2 pos pos2 : Pos} {rest : List Stmt} {g : SF} {kd : Nat → Kd} (c : Ctx ⟨B, fun _ => .sh, none⟩ k N sc X) (G : SrcIn B j x) (hj : j ≤ k) (hg : sc.lookup x = some .globalImplicit) (hdb : Ndb x) (hN0 : N[0]? = some ("script" : Str)) (hN1 : N[1]? = some ("source" : Str))
    (h0 : sc.lookup ("script" : Str) = some .local) (h1 : Kept sc "source") (h1f : Fnk sc "source") (J : ∀ A L, BJ ⟨B.at A L, kd, some 1⟩ k N sc .frz rest g) (hw : LawHolds g N.length) {H : Hp} {vs : List V} {Q : VK} (hl : vs.length = 1) (hsp : spLaw B.K vs H Q) :
    rB X (.Assign [.Name "source" p'] (.Call (.Name x p) [.Name "script" p2] [] pos) pos2 :: rest) { nx := fun _ H' => Q .non H', rt := Q } (L2.start N vs) H := by
  obtain ⟨a, ns, rfl, sq, hlen, hq⟩ := hsp
  obtain ⟨f, fd, g1, g2, g3, g4⟩ := G.ex
  have l1 : 1 < N.length := (List.getElem?_eq_some_iff.mp hN1).1
  have lst : (L2.start N [V.ref a]).length = N.length := start_len (by show 1 ≤ N.length; omega)
  have pa : PA X [.Name "script" p2] (tCons (tVar 0) tNil) := pa_cons (pe_var (i := 0) (by rw [c.hN]; exact hN0) (.inl (by rw [c.sc]; exact h0)) (by decide) (by decide)) pa_nil rfl
  refine vb_cons (.of (ps_set (i := 1) c.nd (by rw [c.hN]; exact hN1) (by unfold L2.Loc; rw [c.sc]; exact h1) (call_h c g1 g2 g3 (g4.lift hj) (by rw [c.sc]; exact hg) hdb rfl rfl pa) rfl (h1f.imp (fun z => c.fn z _) fun z => by rw [c.sc]; exact z)) ?_)
  refine ⟨.ref a, start_get rfl, rfl, a, ns, rfl, sq, Nat.le_trans hlen (by decide), fun A L H' hs _ => ?_⟩
  exact law_rest c J hw.ok hs (by rw [List.length_set]; exact lst) (by rw [List.getElem?_set_self (by rw [lst]; exact l1)]) hq
end Pv

namespace Pv
open PySem PySem.Spec PyProof.Rows L2

/-- the items of a range as a list, a tuple -/
def eLstR (src : Ev → Tr (List D)) : EF := fun ρ => (src ρ).bind fun ds => need (ds.length ≤ lim) (.ret (.list ds))
def eTupR (src : Ev → Tr (List D)) : EF := fun ρ => (src ρ).bind fun ds => need (ds.length ≤ lim) (.ret (.tuple ds))
section
variable {S : Sx} {k : Nat} {N : List Str} {sc : Names} {ret : Md} {a b : Expr} {fa fb : EF} {m1 m2 : Md} {p p2 pos pos2 : Pos}
theorem rg_all (K : PySem.W.Frag) (F : Addr → Prop) (H : Hp) (lo hi : Int) : HasAll K F H (rgV lo hi) (rangeL lo (hi - lo).toNat) := by
  have e1 : rgV lo hi = ((List.range (hi - lo).toNat).map fun i : Nat => lo + (i : Int)).map V.int := by unfold rgV; rw [List.map_map]; rfl
  have e2 : rangeL lo (hi - lo).toNat = ((List.range (hi - lo).toNat).map fun i : Nat => lo + (i : Int)).map .int := by unfold rangeL; rw [List.map_map]; rfl
  rw [e1, e2]; exact HasAll.ofInts _
theorem rg_len (lo : Int) (n : Nat) : (rangeL lo n).length = n := by unfold rangeL; rw [List.length_map, List.length_range]
theorem rg_ok {lo hi : Int} (h : -(2 ^ 62) ≤ lo ∧ lo < 2 ^ 62 ∧ -(2 ^ 62) ≤ hi ∧ hi < 2 ^ 62) (hl : (rangeL lo (hi - lo).toNat).length ≤ lim) : RgOk lo hi := by
  rw [rg_len] at hl
  have e : lim = 16777216 := rfl
  exact ⟨h.1, h.2.1, h.2.2.1, h.2.2.2, by omega⟩
/-- what the answer of a range is asked -/
theorem rg1_wp {ρ : Ev} {P : List D → Prop} (w : (itR1 (aCons fa aNil) ρ).wp P) : (fa ρ).wp fun d => ∃ j, d = .int j ∧ (-(2 ^ 62) ≤ j ∧ j < 2 ^ 62) ∧ P (rangeL 0 j.toNat) := by
  unfold itR1 at w
  refine Tr.wp_mono (fun d hd => ?_) (Tr.wp_bind.mp (Tr.wp_bind.mp w))
  cases d <;> first | exact hd.elim | skip
  rename_i j
  exact ⟨j, rfl, (wp_need.mp hd).1, (wp_need.mp hd).2⟩
theorem rg2_wp {ρ : Ev} {P : List D → Prop} (w : (itR2 (aCons fa (aCons fb aNil)) ρ).wp P) : (fa ρ).wp fun d => (fb ρ).wp fun e => ∃ i j, d = .int i ∧ e = .int j ∧ (-(2 ^ 62) ≤ i ∧ i < 2 ^ 62 ∧ -(2 ^ 62) ≤ j ∧ j < 2 ^ 62) ∧ P (rangeL i (j - i).toNat) := by
  unfold itR2 at w
  refine Tr.wp_mono (fun d hd => ?_) (Tr.wp_bind.mp (Tr.wp_bind.mp w))
  have hd2 := Tr.wp_bind.mp (Tr.wp_bind.mp hd)
  clear hd
  refine Tr.wp_mono (fun e he => ?_) hd2
  clear hd2
  cases d <;> first | exact he.elim | skip
  cases e <;> first | exact he.elim | skip
  rename_i i j
  exact ⟨i, j, rfl, rfl, (wp_need.mp he).1, (wp_need.mp he).2⟩
theorem n_lstR1 (hml : S.B.mg "list" = none) (hmr : S.B.mg "range" = none) (ha : EJ S k N sc a m1 fa) (hgl : sc.lookup ("list" : Str) = some .globalImplicit := by rfl) (hgr : sc.lookup ("range" : Str) = some .globalImplicit := by rfl) (na : ∀ env : Env, starEach [a] env = (false, eval a env) :: starEach [] env := by intro _; rfl)
    (nb : ∀ env : Env, starEach [Expr.Call (.Name "range" p2) [a] [] pos2] env = (false, eval (.Call (.Name "range" p2) [a] [] pos2) env) :: starEach [] env := by intro _; rfl) : EJ S k N sc (.Call (.Name "list" p) [.Call (.Name "range" p2) [a] [] pos2] [] pos) .own (eLstR (itR1 (aCons fa aNil))) := fun X c F0 H0 F ρ σ H R Q w =>
  .of (pe_listRg c.calm (gl_of c hgl) (mg_of c hml) (prg_1 (gl_of c hgr) (mg_of c hmr) pe_r (na _)) (nb _)) (ha X c F0 H0 F ρ σ H R _ (Tr.wp_mono (fun d ⟨j, ed, hb, hP⟩ F1 v H1 l1 q1 => by
    subst ed
    have bx := Res.bor l1.wf' q1
    cases bx
    obtain ⟨hl, hw⟩ := wp_need.mp hP
    have e0 : (j - 0).toNat = j.toNat := by rw [Int.sub_zero]
    refine ⟨j, rfl, rg_ok ⟨by omega, by omega, hb.1, hb.2⟩ (by rw [e0]; exact hl), fun q hq => ?_⟩
    have := rg_all S.B.K F1 H1 0 j
    rw [e0] at this
    exact res_lst l1.wf' hq this (EP1.le l1 hw)) (rg1_wp (Tr.wp_bind.mp w))))
theorem n_tupR1 (hml : S.B.mg "tuple" = none) (hmr : S.B.mg "range" = none) (ha : EJ S k N sc a m1 fa) (hgl : sc.lookup ("tuple" : Str) = some .globalImplicit := by rfl) (hgr : sc.lookup ("range" : Str) = some .globalImplicit := by rfl) (na : ∀ env : Env, starEach [a] env = (false, eval a env) :: starEach [] env := by intro _; rfl)
    (nb : ∀ env : Env, starEach [Expr.Call (.Name "range" p2) [a] [] pos2] env = (false, eval (.Call (.Name "range" p2) [a] [] pos2) env) :: starEach [] env := by intro _; rfl) : EJ S k N sc (.Call (.Name "tuple" p) [.Call (.Name "range" p2) [a] [] pos2] [] pos) .own (eTupR (itR1 (aCons fa aNil))) := fun X c F0 H0 F ρ σ H R Q w =>
  .of (pe_tupRg c.calm (gl_of c hgl) (mg_of c hml) (prg_1 (gl_of c hgr) (mg_of c hmr) pe_r (na _)) (nb _)) (ha X c F0 H0 F ρ σ H R _ (Tr.wp_mono (fun d ⟨j, ed, hb, hP⟩ F1 v H1 l1 q1 => by
    subst ed
    have bx := Res.bor l1.wf' q1
    cases bx
    obtain ⟨hl, hw⟩ := wp_need.mp hP
    have e0 : (j - 0).toNat = j.toNat := by rw [Int.sub_zero]
    refine ⟨j, rfl, rg_ok ⟨by omega, by omega, hb.1, hb.2⟩ (by rw [e0]; exact hl), fun q hq => ?_⟩
    have := rg_all S.B.K F1 H1 0 j
    rw [e0] at this
    exact res_tup l1.wf' hq this (EP1.le l1 hw)) (rg1_wp (Tr.wp_bind.mp w))))
theorem n_lstR2 (hml : S.B.mg "list" = none) (hmr : S.B.mg "range" = none) (ha : EJ S k N sc a m1 fa) (hb : EJ S k N sc b m2 fb) (hgl : sc.lookup ("list" : Str) = some .globalImplicit := by rfl) (hgr : sc.lookup ("range" : Str) = some .globalImplicit := by rfl)
    (na : ∀ env : Env, starEach [a, b] env = (false, eval a env) :: starEach [b] env := by intro _; rfl) (na2 : ∀ env : Env, starEach [b] env = (false, eval b env) :: starEach [] env := by intro _; rfl) (hp : ∀ env : Env, (backTo pos2 (starEach [b] env)).any (·.1) = false := by intro _; rfl)
    (nb : ∀ env : Env, starEach [Expr.Call (.Name "range" p2) [a, b] [] pos2] env = (false, eval (.Call (.Name "range" p2) [a, b] [] pos2) env) :: starEach [] env := by intro _; rfl) : EJ S k N sc (.Call (.Name "list" p) [.Call (.Name "range" p2) [a, b] [] pos2] [] pos) .own (eLstR (itR2 (aCons fa (aCons fb aNil)))) := fun X c F0 H0 F ρ σ H R Q w =>
  .of (pe_listRg c.calm (gl_of c hgl) (mg_of c hml) (prg_2 (gl_of c hgr) (mg_of c hmr) pe_r pe_r (na _) (na2 _) (hp _)) (nb _)) (ha X c F0 H0 F ρ σ H R _ (Tr.wp_mono (fun d hd F1 v H1 l1 q1 => by
    refine hb X c F0 H0 F1 ρ σ H1 (R.mono l1) _ (Tr.wp_mono (fun e ⟨i, j, ed, ee, hbd, hP⟩ F2 u H2 l2 q2 => ?_) hd)
    subst ed; subst ee
    have bx := Res.bor l1.wf' q1
    have by2 := Res.bor l2.wf' q2
    cases bx; cases by2
    obtain ⟨hl, hw⟩ := wp_need.mp hP
    refine ⟨i, j, rfl, rfl, rg_ok hbd hl, fun q hq => ?_⟩
    exact res_lst l2.wf' hq (rg_all S.B.K F2 H2 i j) (EP1.le (l1.trans l2) hw)) (rg2_wp (Tr.wp_bind.mp w))))
variable {X : Cx} {F : Addr → Prop}
def rSortTu (X : Cx) (F : Addr → Prop) : List V → Hp → VK → Prop := fun vs H Q => ∃ a xs ds, vs = [V.ref a] ∧ H a = some (.tup xs) ∧ HasAll X.K F H xs ds ∧ CanSort X ds ∧ ∀ ys p, HasAll X.K F H ys (isortD ds) → H p = none → Q (.ref p) (upd H p (.lst ys))
theorem callr_sortTu : CallR X (.builtin "sorted") (rSortTu X F) := fun pins s σ H vs us Q I rv ⟨a, xs, ds, ev, hx, al, C, q⟩ => by
  subst ev
  obtain ⟨u, rfl, ru⟩ := vals1 rv
  cases ru
  obtain ⟨its, r, p, _⟩ := I.tuple (.inl (.inl hx))
  obtain ⟨cl, dp⟩ := shp_list C.sh
  obtain ⟨ha, hs⟩ := okSort_ok C.ok
  have hu := C.hu
  obtain ⟨o, ho, hcls, n0, hdat⟩ := id p
  have el0 : its.length = ds.length := by rw [← r.length]; exact al.length
  refine Calls.call_function_entry PyProof.Rows.kind_sorted PyProof.Rows.plain_sorted PyProof.Rows.entry_sorted (PyProof.Rows.args_sorted1 _) ?_
  unfold Builtin.«sorted»
  refine wpAny_bind (m := checkCount "sorted" 1 1 _) (wpAny_pure ?_)
  refine wpAny_bind (wpAny_collect_seq (A := X.A.in1) (T := "tuple") a (.inr rfl) ho hcls hdat (fun h' hk => ?_) (by have := C.len; rw [← lim_eq]; show its.length ≤ _; omega))
  have I1 : Inv X pins σ H { s with heap := h' } := I.kept (t' := s.toks) hk
  have hlen : its.length ≤ sizeLine := by rw [el0, ← lim_eq]; exact C.len
  refine wpAny_bind (wpAny_newList ?_ hlen)
  have new1 : (h'.push (seqObj "list" its.toArray 0)).get? h'.objs.size = some (seqObj "list" its.toArray 0) := Heap.get?_push_size _ rfl
  have e := each_item (X := X) r al
  show wpAny _ _ _ _ _ { s with heap := h'.push (seqObj "list" its.toArray 0) }
  have er : PySem.W.EachIs (fun v b => ∃ as, Reads (h'.push (seqObj "list" its.toArray 0)) v (id b) as ∧ h'.objs.size ∉ as) its ds := (PySem.W.each_mem e).mono fun v d ⟨h, m⟩ => by
    obtain ⟨as, rd⟩ := item_reads I1 h (canLay_mem cl m)
    refine ⟨as, PyProof.Rows.Reads.keeps (fun b o e => Heap.get?_push_of_some _ e) rd, fun z => ?_⟩
    obtain ⟨o, eo⟩ := PyProof.On.reads_mem_get rd _ z
    exact absurd (Heap.lt_size eo) (Nat.lt_irrefl _)
  refine wpAny_bind (wpAny_holding (PySem.W.list_sort_data (enc := id) (R := ItemR X F H) (s := { s with heap := h'.push (seqObj "list" its.toArray 0) }) new1 e er (by rw [List.map_id]; exact ha) (by rw [List.map_id]; exact hs) (by rw [← el0]; exact hlen)
    (fun b hb => by have := depth_mem hb; show X.A.units + 1 + 1 + b.depth < cLine; omega) fun out hol eo => ?_))
  rw [← leO_eq, isort_merge] at eo
  obtain ⟨c, hcc⟩ := sortedHeap_at (vs := its) (out := out.toArray) new1
  refine wpAny_pure ⟨_, rfl, ?_⟩
  refine sort_post (s := { s with heap := h' }) (us := its) (tk := s.toks) I1 C eo hol (fun b u e => ?_) (Nat.le_refl _) hcc fun ys h1 h2 => q ys _ h1 h2
  have hlt := Heap.lt_size e
  show (sortedHeap (h'.push (seqObj "list" its.toArray 0)) h'.objs.size its out.toArray).get? b = some u
  rw [sortedHeap_old (Nat.ne_of_lt hlt) (by rw [Heap.size_push]; exact Nat.lt_succ_of_lt hlt)]
  exact Heap.get?_push_of_some _ e
/-- sorted(x), a tuple too -/
def sortD2 : D → Tr D
  | .tuple ds => need (shp (.list ds) = true ∧ okSort ds = true ∧ ds.length ≤ lim) (.ret (.list (isortD ds)))
  | d => sortD d
theorem br_sorted2 : BR S k N sc (.builtin "sorted") .own (fn1 sortD2) := br1 fun X c F H v d Q wf b w => by
  cases d <;> first | exact w.elim | skip
  · obtain ⟨a, xs, rfl, _, r, al⟩ := b
    obtain ⟨⟨h1, h2, h3⟩, w⟩ := wp_need.mp w
    exact ⟨_, callr_sortL (F := F), a, xs, _, rfl, r, by rw [c.K]; exact al, ⟨h1, h2, h3, c.hu⟩, fun ys p hy hp => res_lst wf hp (by rw [c.K] at hy; exact hy) w⟩
  · obtain ⟨a, xs, rfl, r, al⟩ := Has.tup_inv b
    obtain ⟨⟨h1, h2, h3⟩, w⟩ := wp_need.mp w
    exact ⟨_, callr_sortTu (F := F), a, xs, _, rfl, r, by rw [c.K]; exact al, ⟨h1, h2, h3, c.hu⟩, fun ys p hy hp => res_lst wf hp (by rw [c.K] at hy; exact hy) w⟩
  · obtain ⟨a, rfl, _, dv⟩ := b
    obtain ⟨⟨h1, h2, h3⟩, w⟩ := wp_need.mp w
    exact ⟨_, callr_sortD (F := F) c.calm, a, _, rfl, by rw [c.K]; exact dv, ⟨h1, h2, by rw [List.length_map]; exact h3, c.hu⟩, fun ys p hy hp => res_lst wf hp (by rw [c.K] at hy; exact hy) w⟩
def sNever : SF := fun _ => .fail
theorem sj_never {st : Stmt} : SJ S k N sc ret st sNever := fun X c F0 H0 F ρ σ H R D w => w.elim
end
end Pv

namespace Pv
open PySem PySem.Spec PyProof.Rows L2

section
variable {X : Cx} {pins : List (Addr × Obj)} {σ : L2.St} {H H' : Hp} {s : Shared}
theorem put_tup {E : Value → Shared → Prop} {Q : Unit → Shared → Prop} {D b : Addr} {kvs : List (List Key × V)} {k : List Key} {v : V} {r : Value} (hu : X.A.units < cLine) (I : Inv X pins σ H s) (e : H D = some (.dT kvs)) (eb : H b = some (.tup (k.map kV))) (l : kvs.length < sizeLine) (rv : RelV v r)
    (h : ∀ s', Inv X pins σ (upd H D (.dT (putK kvs k v))) s' → Q () s') : wpAny (model X.prog X.w) X.A (dictSet D (.ref b) r) Q E s := by
  obtain ⟨z, hd, xs, rel, dd⟩ := dt_of I.hok e
  have sz : xs.length ≤ sizeLine := by have := Paired.length rel; omega
  have sz2 : (putK kvs k v).length ≤ sizeLine := by have := length_putK kvs k v; omega
  refine wpAny_dictSet_heap (hsz := sz) (show (tupleKind (mixKind X.prog X.w)).room X.A from hu) (key_of I.hok eb) dd fun h' dd' sb => h _ ?_
  obtain ⟨q, es, ep, q1, q2, q3, q4, _, q5⟩ := dd'
  refine d_write I (by rw [e]; trivial) sb ⟨q, q1⟩ ⟨sz2, hd, _, (rel.put k eb rv).keeps fun c ys ec => ?_, q, es, ep, q1, q2, q3, q4, q5⟩
  have hne : c ≠ D := fun z => by rw [z, e] at ec; cases ec
  rw [upd_ne hne]; exact ec
theorem put_comp {E : Value → Shared → Prop} {Q : Unit → Shared → Prop} {D : Addr} {y v : V} {u r : Value} (hu : X.A.units < cLine) (I : Inv X pins σ H s) (g : DPut2 H D y v H') (ry : RelV y u) (rv : RelV v r) (h : ∀ s', Inv X pins σ H' s' → Q () s') : wpAny (model X.prog X.w) X.A (dictSet D u r) Q E s := by
  rcases g with (⟨kvs, k, e, rfl, l, rfl⟩ | ⟨kvs, k, b, e, rfl, eb, l, rfl⟩) | ⟨k, b, e, rfl, eb, rfl⟩
  · exact d_dictSet I e l ry rv h
  · cases (show u = Value.ref b from ry)
    exact put_tup hu I e eb l rv h
  · cases (show u = Value.ref b from ry)
    have hd : (D == sysModules) = false := (dk_of I.hok e).2.1
    obtain ⟨_, ob, es, ep, g1, g2, g3, g4, _⟩ := emptyH I (.inl e)
    have mu : Mut (H D) := by rw [e]; trivial
    have I2 : Inv X pins σ (upd H D (.dT [])) s := I.write (x := D) (e := D) (t' := s.toks) (h' := s.heap) mu (.inl rfl) (fun _ _ _ q => q) ⟨ob, g1⟩ ⟨Nat.zero_le _, hd, [], .nil, ob, es, ep, g1, g2, g3, g4, List.nodup_nil⟩
    have nb : b ≠ D := fun z => by rw [z, e] at eb; cases eb
    refine put_tup hu I2 (kvs := []) upd_same (by rw [upd_ne nb]; exact eb) (by rw [sizeLine_eq]; decide) rv fun s' I' => h s' ?_
    rw [upd_upd] at I'
    exact I'
end
section
variable {X : Cx}
/-- one turn of the block, its answers told by T -/
def turnD (g : TG) (tt : TT) (tk tv : TE) (vs : List Nat) (σ : L2.St) (D : Addr) (Nx : Hp → Prop) (x : V) (H : Hp) : Prop :=
  g x (L2.wipe σ vs) H fun σ2 H2 => L2.wipe σ2 vs = L2.wipe σ vs ∧ tt σ2 H2 fun b H3 => if b = true then tk σ2 H3 fun y H4 => tv σ2 H4 fun z H5 => ∃ H6, DPut2 H5 D y z H6 ∧ Nx H6 else Nx H3
def tDc2 (wi : TI) (g : TG) (tt : TT) (tk tv : TE) (vs : List Nat) : TE := fun σ H Q => wi σ H fun J H1 => ∀ D, H1 D = none → ∃ W : Nat → Nat → Hp → Prop, (∃ m, W 0 m (upd H1 D (.dK []))) ∧ ∀ i m H, W i m H →
  (J.stop i H ∧ Q (.ref D) H) ∨ (J.go i H ∧ ∃ Nx : Hp → Prop, (∀ H', Nx H' → ∃ m', m' < m ∧ W (i + 1) m' H') ∧ ∀ x H', J.yld i H x H' → turnD g tt tk tv vs σ D Nx x H')
theorem pe_dc2 {kx vx tg iter : Expr} {ifs : List Expr} {scope : Scope} {own : List (Str × Nat)} {pos : Pos} {wi : TI} {g : TG} {tt : TT} {tk tv : TE} (hc : X.calm = true) (hu : X.A.units < cLine) (hN : X.N.Nodup) (hi : PI X tg iter wi) (ok : BlkOk X.N X.env.scope scope own)
    (hg : ∀ s H C cl fp, PG (X.blk s H scope (compEnvC scope cl C X.env) fp) tg g) (ht : ∀ s H C cl fp, PTs (X.blk s H scope (compEnvC scope cl C X.env) fp) ifs tt)
    (hk : ∀ s H C cl fp, PE (X.blk s H scope (compEnvC scope cl C X.env) fp) kx tk) (he : ∀ s H C cl fp, PE (X.blk s H scope (compEnvC scope cl C X.env) fp) vx tv) (hs : ∀ x, foldedSetIterable iter X.env x = pure x) :
    PE X (.DictComp kx vx [⟨tg, iter, ifs, 0⟩] scope pos) (tDc2 wi g tt tk tv (own.map (·.2))) := by
  refine ⟨fun pins s σ H Q I hw => ?_⟩
  rw [arm_eval_DictComp]
  have cells : ∀ y ∈ scope.names, y.2 = .free → ∃ c, X.env.cells.lookup y.1 = some c := fun y hy e => (ok.free y hy e).elim (fun z => I.ok.has _ (.inl z)) fun z => I.ok.has _ (.inr z)
  refine wpAny_comprehension_free (use := none) rfl hs (closure_ok cells) ok.kind (fun y hy e => by rw [ok.uniq y hy, e])
    (thn (hi.run pins s σ H _ I hw) fun xv s1 h1 => thn h1 fun itv s2 ⟨it, fp, tn, J, H2, e, I2, T, st2, f2, q⟩ => ?_)
  subst e
  refine wpAny_newObj_type (newEnv_comp ?_)
  generalize eD : s2.heap.objs.size = D
  obtain ⟨W, ⟨m0, w0⟩, turn⟩ := q D (I2.hok.fresh (Nat.le_of_eq eD))
  generalize e3 : ({ s2 with heap := s2.heap.push { cls := .type "dict", data := .dict #[] } } : Shared) = s3
  have hp3 : s3.heap = s2.heap.push { cls := .type "dict", data := .dict #[] } := by rw [← e3]
  have I3 : Inv X pins σ (upd H2 D (.dK [])) s3 := by
    rw [← e3]
    refine I2.laid (t' := s2.toks) (fun b o e => Heap.get?_push_of_some _ e) (Nat.le_of_eq eD) ?_
    rw [← eD]; exact dk_empty s2.heap I2.big
  have lt2 : ∀ b ∈ fp, b < s2.heap.objs.size := fun b hb => let ⟨o, e, _⟩ := T.obj _ _ st2 b hb; Heap.lt_size e
  have f3 : ∀ b ∈ fp, FpOk X pins (upd H2 D (.dK [])) b ∧ b < s3.heap.objs.size := fun b hb =>
    ⟨⟨by rw [upd_ne (by rw [← eD]; exact Nat.ne_of_lt (lt2 b hb))]; exact (f2 b hb).1, (f2 b hb).2⟩, by rw [hp3, Heap.size_push]; exact Nat.lt_succ_of_lt (lt2 b hb)⟩
  have st3 : tn 0 s3.heap := T.keep _ _ _ st2 fun b _ o e => by rw [hp3]; exact Heap.get?_push_of_some _ e
  have I4 := block_start I3 ok hN f3
  let cc := cellsFrom (s3.heap.objs.size + 1) scope.names (cloFrom X.env.cells scope.names [])
  have pg := hg s3 (upd H2 D (.dK [])) s3.heap.objs.size cc fp
  have pt := ht s3 (upd H2 D (.dK [])) s3.heap.objs.size cc fp
  have pk := hk s3 (upd H2 D (.dK [])) s3.heap.objs.size cc fp
  have pe := he s3 (upd H2 D (.dK [])) s3.heap.objs.size cc fp
  show codeAny _ _ (.compStart (.DictComp kx vx [⟨tg, iter, ifs, 0⟩] scope pos) 0 (.ref it) (.ref D) (compEnvC scope cc s3.heap.objs.size X.env)) (compPost (model X.prog X.w) X.A X.xe none (EP X pins σ Q) (.ref D) s3.heap.objs.size) { s3 with heap := pushCells (s3.heap.push { cls := .type "dict", data := .dict #[] }) scope.names }
  have nfp : ∀ b ∈ fp, (upd H2 D (.dK [])) b = none := fun b hb => (f3 b hb).1.1
  change Inv (X.blk s3 (upd H2 D (.dK [])) scope (compEnvC scope cc s3.heap.objs.size X.env) fp) _ _ _ _ at I4
  generalize ece : compEnvC scope cc s3.heap.objs.size X.env = ce at I4 pg pt pk pe ⊢
  have cL : ce.locals = s3.heap.objs.size := by subst ece; rfl
  generalize eH3 : upd H2 D (.dK []) = H3 at I3 I4 pg pt pk pe w0 nfp f3
  generalize e4 : ({ s3 with heap := pushCells (s3.heap.push { cls := .type "dict", data := .dict #[] }) scope.names } : Shared) = s4 at I4 ⊢
  have st4 : tn 0 s4.heap := T.keep _ _ _ st3 fun b _ o e => by rw [← e4]; exact pushCells_keeps _ _ _ _ (Heap.get?_push_of_some _ e)
  have free : ∀ {σ' : L2.St} {Hx : Hp} {sx : Shared}, Inv (X.blk s3 H3 scope ce fp) [] σ' Hx sx → (∀ b ∈ fp, Hx b = none) → ∀ b ∈ fp, FpOk (X.blk s3 H3 scope ce fp) [] Hx b := fun Ix hn b hb =>
    ⟨hn b hb, (Ix.ok.exf b hb).1, Ix.ok.exfs b hb, .inl hb, fun x c e => (Ix.ok.exf b hb).2 x c e, fun p hp => by cases hp⟩
  have inner : codeAny (model X.prog X.w) X.A (.compLoop (.DictComp kx vx [⟨tg, iter, ifs, 0⟩] scope pos) 0 (.ref it) (.ref D) ce) (compPost (model X.prog X.w) X.A X.xe none (EP X pins σ Q) (.ref D) s3.heap.objs.size) s4 := by
    refine compLoop_anyD (fun n sx => ∃ i Hx, Inv (X.blk s3 H3 scope ce fp) [] (L2.wipe σ (own.map (·.2))) Hx sx ∧ tn i sx.heap ∧ (∀ b ∈ fp, Hx b = none) ∧ W i n Hx) ?_ m0 ⟨0, H3, I4, st4, nfp, w0⟩
    rintro n s5 ⟨i, H5, I5, st5, n5, w5⟩
    rcases turn i n H5 w5 with ⟨stop, qq⟩ | ⟨go, Nx, hNx, step⟩
    · refine thnF (T.done (X.blk s3 H3 scope ce fp) rfl rfl rfl hc i [] s5 _ H5 (fun _ _ => False) I5 (free I5 n5) st5 stop) fun r s6 ⟨hr, I6⟩ => ?_
      subst hr
      have I7 : Inv X pins σ H5 s6 := I3.call' (ch := fp) I6.os I6.base I6.hok I6.bare fun b hb => let z := (f3 b hb).1.2; ⟨z.2.2.1, z.1, z.2.2.2.1, z.2.2.2.2⟩
      obtain ⟨mm, hn, _⟩ := I6.loc
      have hn : s6.heap.Ns ce.locals mm := hn
      have nC : H5 ce.locals = none := I6.free
      rw [cL] at hn nC
      refine ⟨mm, hn, fun h'' sb => ?_⟩
      obtain ⟨a0, a1, a2, a3, a4, a5⟩ := I3.fpOk (Nat.le_refl _) nC
      exact ⟨.ref D, H5, I7.turned (t' := s6.toks) (fun b o hb e => (sb.2 b hb).trans e) a0 a1 a3 a4 a5, rfl, qq⟩
    · refine thnF (T.item (X.blk s3 H3 scope ce fp) rfl rfl rfl hc i [] s5 _ H5 (fun _ _ => False) I5 (free I5 n5) st5 go) fun r s6 ⟨u, hr, h6⟩ => ?_
      subst hr
      refine thnF h6 fun _ s7 ⟨x, H7, I7, r7, y7, st7, n7⟩ => ?_
      refine thnF (pg.run _ s7 _ H7 x u _ (I7.pinned (free I7 n7) (T.obj _ _ st7)) r7 (step x H7 y7)) fun _ s8 ⟨σ8, H8, I8, hw8, q8⟩ => ?_
      refine thnF (pt.run _ s8 σ8 H8 _ I8 q8) fun b s9 ⟨H9, I9, q9⟩ => ?_
      have close : ∀ {sx : Shared} {Hx : Hp}, Inv (X.blk s3 H3 scope ce fp) ([] ++ pinsAt fp s7.heap) σ8 Hx sx → Nx Hx → ∃ m, m < n ∧ ∃ i Hx, Inv (X.blk s3 H3 scope ce fp) [] (L2.wipe σ (own.map (·.2))) Hx sx ∧ tn i sx.heap ∧ (∀ b ∈ fp, Hx b = none) ∧ W i m Hx := fun {sx Hx} Ix nx => by
        obtain ⟨m', hm, w'⟩ := hNx Hx nx
        have held : ∀ b ∈ fp, ∀ o, s7.heap.get? b = some o → sx.heap.get? b = some o ∧ Hx b = none := fun b hb o e =>
          let z := Ix.pin (b, o) (List.mem_append_right _ (List.mem_append_right _ (mem_pinsAt hb e))); ⟨z.1, z.2.1⟩
        refine ⟨m', hm, i + 1, Hx, (Ix.unpinned (pins := [])).weak (by rw [← hw8, wipe_length]) (fun j v e => ?_), T.keep _ _ _ st7 fun b hb o e => (held b hb o e).1, fun b hb => ?_, w'⟩
        · rw [← hw8] at e; exact (wipe_some e).1
        · obtain ⟨o, e, _⟩ := T.obj _ _ st7 b hb
          exact (held b hb o e).2
      cases b with
      | false => exact close I9 q9
      | true =>
        refine thnF (pk.run _ s9 σ8 H9 _ I9 q9) fun z s10 ⟨yk, H10, I10, r10, q10⟩ => ?_
        refine thnF (pe.run _ s10 σ8 H10 _ I10 q10) fun z2 s11 ⟨yv, H11, I11, r11, H12, pd, nx⟩ => ?_
        exact put_comp (X := X.blk s3 H3 scope ce fp) hu I11 pd r10 r11 fun s12 I12 => close I12 nx
  exact codeAny_compStart_dict inner (T.self X.A 0 _ _ _ st4 inner)
end
end Pv

namespace Pv
open PySem PySem.Spec PyProof.Rows L2

def dcGo (g : GF) (t : TF) (fk fv : EF) (ρ : Ev) : List D → List (D × D) → Tr (List (D × D))
  | [], acc => .ret acc
  | d :: ds, acc => (g d ρ).bind fun ρ1 => (t ρ1).bind fun b => if b then (fk ρ1).bind fun k => (fv ρ1).bind fun v => need (isKey k = true ∧ sameK acc k = true ∧ acc.length < lim) (dcGo g t fk fv ρ ds (putD acc k v)) else dcGo g t fk fv ρ ds acc
def eDc (src : Ev → Tr (List D)) (vs : List Nat) (g : GF) (t : TF) (fk fv : EF) : EF := fun ρ => (src ρ).bind fun ds => (dcGo g t fk fv (wipeA ρ vs) ds []).bind fun kvs => .ret (.dict kvs)
/-- a dict that is stored into -/
theorem put_okD {B : Bx} {F : Addr → Prop} {H : Hp} {a : Addr} {kvs : List (D × D)} {i v : D} {vi vv : V} (n1 : ¬ F a) (dv : DictV B.K F H (fun o => H a = some o) kvs) (bi : Has B.K F H vi i) (hv : Has B.K F H vv v) (hk : isKey i = true) (hs : sameK kvs i = true) (hl : kvs.length < lim) :
    ∃ o, DPut2 H a vi vv (upd H a o) ∧ Mut (H a) ∧ DictV B.K F (upd H a o) (fun u => upd H a o a = some u) (putD kvs i v) := by
  have hl' : ∀ {n : Nat}, n = kvs.length → n < sizeLine := fun e => by rw [e, ← lim_eq]; exact hl
  have flat : ∀ {key : Key}, vi = kV key → i = kD key → ∃ o, DPut2 H a vi vv (upd H a o) ∧ Mut (H a) ∧ DictV B.K F (upd H a o) (fun u => upd H a o a = some u) (putD kvs i v) := fun {key} e1 e2 => by
    rcases dv with ⟨kv, r, ek, ha⟩ | ⟨kv, r, ne, ek, ha⟩
    · have hm : Mut (H a) := by rw [r]; trivial
      obtain ⟨p1, p2⟩ := put_ok eqv_kD key hv ek ha
      have ll : kv.length = kvs.length := by have := congrArg List.length ek; simpa using this.symm
      refine ⟨.dK (putK kv key vv), .inl (.inl ⟨kv, key, r, e1, hl' ll, rfl⟩), hm, .inl ⟨_, upd_same, ?_, ?_⟩⟩
      · rw [e2]; exact p1
      · rw [e2]; exact p2.mono (fun _ h => h) (Stay.updL (B := B) n1 hm)
    · exfalso
      cases kv with
      | nil => exact ne rfl
      | cons p kv =>
        cases kvs with
        | nil => simp at ek
        | cons q ds =>
          simp only [List.map_cons, List.cons.injEq] at ek
          unfold sameK at hs
          simp only [ek.1, e2, kD_flat] at hs
          cases hs
  cases i with
  | int i => cases bi; exact flat (key := .inl i) rfl rfl
  | str x => cases bi; exact flat (key := .inr x) rfl rfl
  | tuple ds =>
    obtain ⟨b, xs, rfl, hb, hx⟩ := Has.tup_inv bi
    obtain ⟨ks, rfl⟩ := flats (show ds.all isFlat = true from hk)
    have ex := hx.keys
    subst ex
    rcases dv with ⟨kv, r, ek, ha⟩ | ⟨kv, r, ne, ek, ha⟩
    · have hm : Mut (H a) := by rw [r]; trivial
      cases kv with
      | nil =>
        cases kvs with
        | nil =>
          refine ⟨.dT [(ks, vv)], .inr ⟨ks, b, r, rfl, hb, rfl⟩, hm, .inr ⟨[(ks, vv)], upd_same, by simp, rfl, ?_⟩⟩
          exact .cons (hv.mono (fun _ h => h) (Stay.updL (B := B) n1 hm)) .nil
        | cons q ds => simp at ek
      | cons p kv =>
        exfalso
        cases kvs with
        | nil => simp at ek
        | cons q ds =>
          simp only [List.map_cons, List.cons.injEq] at ek
          unfold sameK at hs
          simp only [ek.1, kD_flat] at hs
          cases hs
    · have hm : Mut (H a) := by rw [r]; trivial
      obtain ⟨p1, p2⟩ := put_ok eqv_kT ks hv ek ha
      have ll : kv.length = kvs.length := by have := congrArg List.length ek; simpa using this.symm
      exact ⟨.dT (putK kv ks vv), .inl (.inr ⟨kv, ks, b, r, rfl, hb, hl' ll, rfl⟩), hm, .inr ⟨_, upd_same, putK_ne, p1, p2.mono (fun _ h => h) (Stay.updL (B := B) n1 hm)⟩⟩
  | _ => cases hk
section
variable {S : Sx} {k : Nat} {N : List Str} {sc : Names} {X : Cx} {tg it kx vx : Expr} {ifs : List Expr} {scope : Scope} {own : List (Str × Nat)} {src : Ev → Tr (List D)} {g : GF} {t : TF} {fk fv : EF} {is : List Nat} {pos : Pos}
theorem Stay.updN {B : Bx} {F : Addr → Prop} {H : Hp} {a : Addr} {o : HO} (n : ¬ F a) (hm : Mut (H a)) : Stay F H (upd H a o) := Stay.updL (B := B) n hm
theorem dc_sound (c : Ctx S k N sc X) (hk : BlkK sc scope) (h6 : ∀ i, S.six = some i → i ∉ own.map (·.2)) (hg : GJ S k N (relN scope sc) tg is g) (his : ∀ i ∈ is, i ∈ own.map (·.2)) (ht : TsJ S k N (relN scope sc) ifs t) (hkx : EJ S k N (relN scope sc) kx .frz fk) (hvx : EJ S k N (relN scope sc) vx .frz fv)
    {F0 F : Addr → Prop} {H0 H : Hp} {ρ : Ev} {σ : L2.St} {Q : VK} (hi : ∀ Rk : It → Hp → Prop, (src ρ).wp (fun ds => ∀ F1 H1 J, Le S.B F H F1 H1 → Wk (later S.B false F1 H1) S.B J ds → Rk J H1) → rIt X tg it σ H Rk) (R : Rel S F0 H0 F ρ σ H) (w : (eDc src (own.map (·.2)) g t fk fv ρ).wp (EP1 S.B .own F H Q)) :
    tDc2 (rIt X tg it) (allG X scope tg) (allT X scope ifs) (allE X scope kx) (allE X scope vx) (own.map (·.2)) σ H Q :=
  hi _ (Tr.wp_mono (fun ds hds F1 H1 J l1 wk => by
    intro dd hdd
    have nS := l1.wf'.srcSome hdd
    have hw := Tr.wp_bind.mp hds
    refine ⟨fun i m H' => m = ds.length - i ∧ i ≤ ds.length ∧ ∃ F' acc, Le S.B F1 H1 F' H' ∧ ¬ F' dd ∧ DictV S.B.K F' H' (fun o => H' dd = some o) acc ∧ (dcGo g t fk fv (wipeA ρ (own.map (·.2))) (ds.drop i) acc).wp fun r => EP1 S.B .own F H Q (.dict r), ⟨ds.length, rfl, Nat.zero_le _, F1, [], Le.lay l1.wf' hdd, notF_new l1.wf' hdd, .inl ⟨[], upd_same, rfl, .nil⟩, ?_⟩, ?_⟩
    · rw [List.drop_zero]; exact hw
    · rintro i m H' ⟨rfl, hil, F', acc, lW, nD, dv, w'⟩
      obtain ⟨o0, hD⟩ := dv.is
      by_cases hlt : i < ds.length
      · have lt := later.of (fr := false) lW
        refine .inr ⟨wk.go i F' H' lt lW.wf' hlt, fun H2 => ∃ F' acc, Le S.B F1 H1 F' H2 ∧ ¬ F' dd ∧ DictV S.B.K F' H2 (fun o => H2 dd = some o) acc ∧ (dcGo g t fk fv (wipeA ρ (own.map (·.2))) (ds.drop (i + 1)) acc).wp fun r => EP1 S.B .own F H Q (.dict r),
          fun H2 h2 => ⟨ds.length - (i + 1), by omega, rfl, hlt, h2⟩, fun x H2 y => ?_⟩
        obtain ⟨d, hd, hx, l2⟩ := wk.yld i F' H' x H2 lt lW.wf' hlt y
        have ed : ds.drop i = d :: ds.drop (i + 1) := by
          rw [List.drop_eq_getElem_cons hlt]
          congr 1
          exact Option.some.inj ((List.getElem?_eq_getElem hlt).symm.trans hd)
        rw [ed] at w'
        intro s Hb C cl fp
        have Rw : Rel S F0 H0 F' (wipeA ρ (own.map (·.2))) (wipeA σ (own.map (·.2))) H2 := (((R.mono l1).mono lW).mono l2).wipe h6
        rw [wipe_eq]
        refine hg _ (blk_ctx c hk s Hb C cl fp) F0 H0 F' _ _ H2 Rw x d hx _ (Tr.wp_mono (fun ρ1 h1 σ2 R2 sm => ⟨by rw [wipe_eq]; exact wipe_same sm his, fun s Hb C cl fp => ?_⟩) (Tr.wp_bind.mp w'))
        refine ht _ (blk_ctx c hk s Hb C cl fp) F0 H0 F' ρ1 σ2 H2 R2 _ (Tr.wp_mono (fun b hb F3 H3 l3 => ?_) (Tr.wp_bind.mp h1))
        have l23 := l2.trans l3
        have keep : ∀ {F4 H4}, Le S.B F' H' F4 H4 → H4 dd = some o0 ∧ ¬ F4 dd ∧ DictV S.B.K F4 H4 (fun o => H4 dd = some o) acc := fun {F4 H4} l =>
          ⟨l.h _ _ hD nS, l.notF nD hD, dv.mono l.f l.stay fun u h => l.h dd u h nS⟩
        cases b with
        | false =>
          exact ⟨F3, acc, lW.trans l23, (keep l23).2.1, (keep l23).2.2, hb⟩
        | true =>
          intro s Hb C cl fp
          refine hkx _ (blk_ctx c hk s Hb C cl fp) F0 H0 F3 ρ1 σ2 H3 (R2.mono l3) _ (Tr.wp_mono (fun yk hyk F4 v4 H4 l4 q4 => ?_) (Tr.wp_bind.mp hb))
          intro s Hb C cl fp
          refine hvx _ (blk_ctx c hk s Hb C cl fp) F0 H0 F4 ρ1 σ2 H4 ((R2.mono l3).mono l4) _ (Tr.wp_mono (fun yv hyv F5 v5 H5 l5 q5 => ?_) (Tr.wp_bind.mp hyk))
          obtain ⟨⟨c1, c2, c3⟩, hgo⟩ := wp_need.mp hyv
          have lA := (l23.trans l4).trans l5
          obtain ⟨hD5, nD5, dv5⟩ := keep lA
          obtain ⟨o, dp, hm, dv6⟩ := put_okD (B := S.B) nD5 dv5 (l5.has q4) q5 c1 c2 c3
          have l6 := lW.trans lA
          refine ⟨_, dp, F5, putD acc yk yv, ⟨l6.f, fun a u h n => ?_, l6.n, l6.wf, l6.wf'.updO nS⟩, nD5, dv6, hgo⟩
          have ne : a ≠ dd := fun z => by rw [z, hdd] at h; cases h
          rw [upd_ne ne]; exact l6.h a u h n
      · have e : i = ds.length := by omega
        subst e
        rw [List.drop_length] at w'
        exact .inl ⟨wk.stop F' H' (later.of lW) lW.wf', w' F' _ H' (l1.trans lW) ⟨⟨dd, rfl, nD, nS, dv⟩, fun _ a e => by cases e; exact l1.none hdd⟩⟩) (Tr.wp_bind.mp w))
theorem n_dc (own : List (Str × Nat)) (hi : IJ S k N sc tg it false src) (hg : GJ S k N (relN scope sc) tg is g) (ht : TsJ S k N (relN scope sc) ifs t) (hkx : EJ S k N (relN scope sc) kx .frz fk) (hvx : EJ S k N (relN scope sc) vx .frz fv) (hok : blkG N sc scope own = true := by rfl)
    (h6 : (match S.six with | some i => !(own.map (·.2)).contains i | none => true) = true := by rfl) (his : (is.all fun i => (own.map (·.2)).contains i) = true := by rfl) (hs : ∀ (env : Env) x, foldedSetIterable it env x = pure x := by intro _ _; rfl) :
    EJ S k N sc (.DictComp kx vx [⟨tg, it, ifs, 0⟩] scope pos) .own (eDc src (own.map (·.2)) g t fk fv) := fun X c F0 H0 F ρ σ H R Q w =>
  .of (pe_dc2 c.calm (by have := c.hu; omega) c.nd pi_r (blk_ok c hok) pg_all pts_all pe_all pe_all (hs _)) (dc_sound c (blkG_k hok) (fun i e => by rw [e] at h6; simpa using h6) hg (fun i h => by have := List.all_eq_true.mp his i h; simpa using this) ht hkx hvx (hi X c F0 H0 F ρ σ H R) R w)
end
end Pv

namespace Pv
open PySem PySem.Spec PyProof.Rows L2

/-- the item at r, and what is left -/
def popAtD (xs : List D) : D → Tr (D × List D)
  | .int r => need (0 ≤ r ∧ r < 2 ^ 63) (match xs[r.toNat]? with
    | some y => .ret (y, xs.eraseIdx r.toNat)
    | none => .fail)
  | _ => .fail
def drGo (i : Nat) (vs : List Nat) (g : GF) (fi : EF) : List D → Ev → Tr (List D)
  | [], _ => .ret []
  | d :: ds, ρ => (g d (wipeA ρ vs)).bind fun ρ1 => (fi ρ1).bind fun r => (ownL i ρ).bind fun xs => (popAtD xs r).bind fun z => (drGo i vs g fi ds (ρ.set i (some (.list z.2)))).bind fun ys => .ret (z.1 :: ys)
def sDrain (i : Nat) (src : Ev → Tr (List D)) (vs : List Nat) (g : GF) (fi : EF) : SF := fun ρ => (src ρ).bind fun ds => (drGo i vs g fi ds ρ).bind fun out => need (out.length ≤ lim) (.ret (.rt (.list out), ρ))
/-- a heap without one place -/
def Hp.no (H : Hp) (a : Addr) : Hp := fun b => if b = a then none else H b
section
variable {S : Sx} {F F' F0 : Addr → Prop} {H H' H0 : Hp} {ρ : Ev} {σ : L2.St} {dd : Addr}
theorem no_ne {b : Addr} (h : b ≠ dd) : Hp.no H dd b = H b := if_neg h
theorem no_at : Hp.no H dd dd = none := if_pos rfl
theorem no_upd {o : HO} : upd (Hp.no H dd) dd o = upd H dd o := by
  funext b
  unfold upd Hp.no
  by_cases h : b = dd <;> simp [h]
theorem Stay.no {acc : List V} (hD : H dd = some (.lst acc)) (n : ¬ F dd) : Stay F H (Hp.no H dd) := by
  have ne : ∀ a, F a → a ≠ dd := fun a h z => n (z ▸ h)
  refine ⟨fun a u h r => ?_, fun a xs h r => by rw [no_ne (ne a h)]; exact r, fun a xs r => by rw [no_ne (fun z => by rw [z, hD] at r; cases r)]; exact r⟩
  rcases r with r | ⟨o, r⟩
  · exact .inl (by rw [no_ne (ne a h)]; exact r)
  · exact .inr ⟨o, by rw [no_ne (ne a h)]; exact r⟩
theorem Wf.no {B : Bx} (w : Wf B F H) (n : ¬ F dd) (nS : B.nS dd) : Wf B F (Hp.no H dd) := by
  refine ⟨fun A L e => ?_, w.nS, fun a h => by
    have na : a ≠ dd := fun z => n (by rw [← z]; exact h)
    rw [no_ne na]; exact w.is a h⟩
  obtain ⟨cs, l, m, t, h1, h2, r⟩ := w.src A L e
  obtain ⟨n1, n2⟩ := nS A L e
  exact ⟨cs, l, m, t, by rw [no_ne (Ne.symm n1)]; exact h1, by rw [no_ne (Ne.symm n2)]; exact h2, r⟩
theorem Rel.no {acc : List V} (R : Rel S F0 H0 F ρ σ H) (hD : H dd = some (.lst acc)) (n : ¬ F dd) (nS : S.B.nS dd) (h0 : H0 dd = none) (free : ∀ j d a, S.kd j ≠ .sh → ρ[j]? = some (some d) → mutD d = true → σ[j]? = some (some (.ref a)) → a ≠ dd) : Rel S F0 H0 F ρ σ (Hp.no H dd) := by
  have st := Stay.no (F := F) hD n
  refine ⟨⟨R.base.f, fun a o h m => ?_, R.base.n, R.base.wf, R.wf.no n nS⟩, R.len, fun j d e => ?_, R.new, R.apart, R.six⟩
  · have : a ≠ dd := fun z => by rw [z, h0] at h; cases h
    rw [no_ne this]; exact R.base.h a o h m
  · obtain ⟨v, h1, h2⟩ := R.slot j d e
    refine ⟨v, h1, ?_⟩
    have fr := free j d
    cases hk : S.kd j with
    | sh => rw [hk] at h2; exact Has.mono (fun _ h => h) st h2
    | ow =>
      rw [hk] at h2
      have fr := fun a => fr a (by rw [hk]; exact fun z => nomatch z) e
      cases d with
      | list ds =>
        obtain ⟨a, xs, rfl, m1, m2, r, q⟩ := h2
        exact ⟨a, xs, rfl, m1, m2, by rw [no_ne (fr a rfl h1)]; exact r, q.mono (fun _ h => h) st⟩
      | dict ds =>
        obtain ⟨a, rfl, m1, m2, q⟩ := h2
        exact ⟨a, rfl, m1, m2, q.mono (fun _ h => h) st fun u h => by rw [no_ne (fr a rfl h1)]; exact h⟩
      | none => exact Has.mono (fun _ h => h) st h2
      | bool _ => exact Has.mono (fun _ h => h) st h2
      | int _ => exact Has.mono (fun _ h => h) st h2
      | str _ => exact Has.mono (fun _ h => h) st h2
      | tuple _ => exact Has.mono (fun _ h => h) st h2
    | lk =>
      rw [hk] at h2
      have fr := fun a => fr a (by rw [hk]; exact fun z => nomatch z) e
      obtain ⟨hb, hF⟩ := h2
      refine ⟨?_, hF⟩
      cases d with
      | list ds =>
        obtain ⟨a, xs, rfl, m2, r, q⟩ := hb
        exact ⟨a, xs, rfl, m2, by rw [no_ne (fr a rfl h1)]; exact r, q.mono (fun _ h => h) st⟩
      | dict ds =>
        obtain ⟨a, rfl, m2, q⟩ := hb
        refine ⟨a, rfl, m2, q.mono (fun _ h => h) st fun u h => ?_⟩
        have na := fr a rfl h1
        rcases h with h | ⟨o, h⟩
        · exact .inl (by rw [no_ne na]; exact h)
        · exact .inr ⟨o, by rw [no_ne na]; exact h⟩
      | none => exact Has.mono (fun _ h => h) st hb
      | bool _ => exact Has.mono (fun _ h => h) st hb
      | int _ => exact Has.mono (fun _ h => h) st hb
      | str _ => exact Has.mono (fun _ h => h) st hb
      | tuple _ => exact Has.mono (fun _ h => h) st hb
theorem seq_ix {r : Int} {n : Nat} (h0 : 0 ≤ r) (h1 : r.toNat < n) : seqIndex? r n = some r.toNat := by
  unfold seqIndex?
  simp only [show ¬ r < 0 by omega, if_false]
  rw [if_pos (by simp; omega)]
end
section
variable {S : Sx} {k : Nat} {N : List Str} {sc : Names} {X : Cx} {tg it ix : Expr} {scope : Scope} {own : List (Str × Nat)} {src : Ev → Tr (List D)} {g : GF} {fi : EF} {is : List Nat} {m1 : Md} {i : Nat} {x : Str} {xp apos cpos pos rpos : Pos}
theorem sj_drain (hk : S.kd i = .ow) (hio : i ∉ own.map (·.2)) (hN : N[i]? = some x) (hv : Seen (relN scope sc) x) (hd : Ndb x) (hcd : Ncd x) (hok : blkG N sc scope own = true) (h6 : ∀ j, S.six = some j → j ∉ own.map (·.2)) (hi : IJ S k N sc tg it true src) (hg : GJ S k N (relN scope sc) tg is g) (his : ∀ j ∈ is, j ∈ own.map (·.2))
    (he : EJ S k N (relN scope sc) ix m1 fi) (hs : ∀ (env : Env) y, foldedSetIterable it env y = pure y) (hse : ∀ env : Env, starEach [ix] env = [(false, eval ix env)]) (hline : (apos.endLine == cpos.line) = true) :
    SJ S k N sc .own (.Return (some (.ListComp (.Call (.Attribute (.Name x xp) "pop" apos) [ix] [] cpos) [⟨tg, it, [], 0⟩] scope pos)) rpos) (sDrain i src (own.map (·.2)) g fi) := fun X c F0 H0 F ρ σ H R D w => by
  have hkB := blkG_k hok
  refine .of (ps_ret (pe_lc c.calm c.nd pi_r (blk_ok c hok) pg_all pts_all pe_all (hs _))) ?_
  refine hi X c F0 H0 F ρ σ H R _ (Tr.wp_mono (fun ds hds F1 H1 J l1 wk => ?_) (Tr.wp_bind.mp w))
  intro dd hdd
  have nS := l1.wf'.srcSome hdd
  have hw := Tr.wp_bind.mp hds
  have R1 := R.mono l1
  have h0dd : H0 dd = none := R1.base.none hdd
  have free : ∀ j d a, S.kd j ≠ .sh → ρ[j]? = some (some d) → mutD d = true → σ[j]? = some (some (.ref a)) → a ≠ dd := fun j d a hj e m z => by
    obtain ⟨v, h1, h2⟩ := R1.slot j d e
    rw [z] at h1
    cases Option.some.inj h1
    intro ea
    subst ea
    cases hkj : S.kd j with
    | sh => exact hj hkj
    | ow =>
      rw [hkj] at h2
      cases d with
      | list us => obtain ⟨b, xs, eb, _, _, r, _⟩ := h2; cases eb; rw [hdd] at r; cases r
      | dict us => obtain ⟨b, eb, _, _, q⟩ := h2; cases eb; obtain ⟨u, r⟩ := q.is; rw [hdd] at r; cases r
      | _ => cases m
    | lk =>
      rw [hkj] at h2
      cases d with
      | list us => obtain ⟨b, xs, eb, _, r, _⟩ := h2.1; cases eb; rw [hdd] at r; cases r
      | dict us =>
        obtain ⟨b, eb, _, q⟩ := h2.1; cases eb
        obtain ⟨u, r⟩ := q.is
        rcases r with r | ⟨o, r⟩ <;> (rw [hdd] at r; cases r)
      | _ => cases m
  -- the state: G, the heap without the new list
  refine ⟨fun n m H' => m = ds.length - n ∧ n ≤ ds.length ∧ ∃ G F' acc out ρ', H' = upd G dd (.lst acc) ∧ G dd = none ∧ ¬ F' dd ∧ Rel S F0 H0 F' ρ' σ G ∧ (∀ a, F1 a → F' a) ∧ Stay F1 H1 G ∧ HasAll S.B.K F' G acc out ∧ (∀ j d a, S.kd j ≠ .sh → ρ'[j]? = some (some d) → mutD d = true → σ[j]? = some (some (.ref a)) → a ≠ dd) ∧
      (drGo i (own.map (·.2)) g fi (ds.drop n) ρ').wp (fun r => (out ++ r).length ≤ lim ∧ SP1 S .own F0 H0 F H D (.rt (.list (out ++ r)), ρ)), ⟨ds.length, rfl, Nat.zero_le _, H1, F1, [], [], ρ, rfl, hdd, notF_new l1.wf' hdd, R1, fun _ h => h, .refl, .nil, free, ?_⟩, ?_⟩
  · rw [List.drop_zero]
    exact Tr.wp_mono (fun r hr => wp_need.mp hr) hw
  rintro n m H' ⟨rfl, hnl, G, F', acc, out, ρ', rfl, hG, nD, RG, fF, stG, al, fr, w'⟩
  have lay : Le S.B F' G F' (upd G dd (.lst acc)) := Le.lay RG.wf hG
  have stay1 : Stay F1 H1 (upd G dd (.lst acc)) := stG.trans fF lay.stay
  have lt : later S.B true F1 H1 F' (upd G dd (.lst acc)) := ⟨fF, stay1, fun z => nomatch z⟩
  by_cases hlt : n < ds.length
  · refine .inr ⟨wk.go n F' _ lt lay.wf' hlt, fun H2 => ∃ G F' acc out ρ', H2 = upd G dd (.lst acc) ∧ G dd = none ∧ ¬ F' dd ∧ Rel S F0 H0 F' ρ' σ G ∧ (∀ a, F1 a → F' a) ∧ Stay F1 H1 G ∧ HasAll S.B.K F' G acc out ∧ (∀ j d a, S.kd j ≠ .sh → ρ'[j]? = some (some d) → mutD d = true → σ[j]? = some (some (.ref a)) → a ≠ dd) ∧
      (drGo i (own.map (·.2)) g fi (ds.drop (n + 1)) ρ').wp (fun r => (out ++ r).length ≤ lim ∧ SP1 S .own F0 H0 F H D (.rt (.list (out ++ r)), ρ)), fun H2 h2 => ⟨ds.length - (n + 1), by omega, rfl, hlt, h2⟩, fun y H2 hy => ?_⟩
    obtain ⟨d, hdn, hx, l2⟩ := wk.yld n F' _ y H2 lt lay.wf' hlt hy
    have ed : ds.drop n = d :: ds.drop (n + 1) := by
      rw [List.drop_eq_getElem_cons hlt]
      congr 1
      exact Option.some.inj ((List.getElem?_eq_getElem hlt).symm.trans hdn)
    rw [ed] at w'
    intro s Hb C cl fp
    have R2o : Rel S F0 H0 F' ρ' σ H2 := (RG.mono lay).mono l2
    have Rw := R2o.wipe h6
    rw [wipe_eq]
    refine hg _ (blk_ctx c hkB s Hb C cl fp) F0 H0 F' _ _ H2 Rw y d hx _ (Tr.wp_mono (fun ρ1 h1 σ2 R2 sm => ⟨by rw [wipe_eq]; exact wipe_same sm his, fun s Hb C cl fp => ?_⟩) (Tr.wp_bind.mp w'))
    refine ⟨_, pts_nil, ?_⟩
    intro s Hb C cl fp
    have h1 := Tr.wp_bind.mp h1
    -- the name's value in the block
    have hcx := blk_ctx c hkB s Hb C cl fp
    have pick : ∃ a vs us, σ[i]? = some (some (.ref a)) ∧ ρ'[i]? = some (some (.list us)) ∧ ¬ F' a ∧ S.B.nS a ∧ G a = some (.lst vs) ∧ HasAll S.B.K F' G vs us ∧ (fi ρ1).wp fun r => ((popAtD us r).bind fun z => (drGo i (own.map (·.2)) g fi (ds.drop (n + 1)) (ρ'.set i (some (.list z.2)))).bind fun ys => .ret (z.1 :: ys)).wp fun r => (out ++ r).length ≤ lim ∧ SP1 S .own F0 H0 F H D (.rt (.list (out ++ r)), ρ) := by
      cases q : ρ'[i]? with
      | none =>
        exact ((Tr.wp_const (Tr.wp_mono (fun r hr => by unfold ownL at hr; rw [q] at hr; exact (hr : False)) h1)) : False).elim
      | some o =>
        cases o with
        | none => exact ((Tr.wp_const (Tr.wp_mono (fun r hr => by unfold ownL at hr; rw [q] at hr; exact (hr : False)) h1)) : False).elim
        | some dv =>
          cases dv with
          | list us =>
            have ow : ownL i ρ' = .ret us := by unfold ownL; rw [q]
            obtain ⟨v, g1, g2⟩ := RG.slot i _ q
            rw [hk] at g2
            obtain ⟨a, vs, rfl, n1, n2, r, ga⟩ := g2
            exact ⟨a, vs, us, g1, rfl, n1, n2, r, ga, Tr.wp_mono (fun r hr => by rw [ow, Tr.ret_bind] at hr; exact hr) h1⟩
          | _ => exact ((Tr.wp_const (Tr.wp_mono (fun r hr => by unfold ownL at hr; rw [q] at hr; exact (hr : False)) h1)) : False).elim
    obtain ⟨a, vs, us, gs, gr, n1, n2, g3, ga, hpop⟩ := pick
    have ane : a ≠ dd := fun z => by rw [z, hG] at g3; cases g3
    have s2 : σ2[i]? = some (some (.ref a)) := by
      have := sm.at' i (fun z => hio (his i z))
      rw [this, wipeA_out hio]; exact gs
    refine .of (pe_bm PySem.F.plainAttrs_list PySem.F.slot_list_pop PySem.F.type_list_pop mt_popAt (pe_var (i := i) (by rw [hcx.hN]; exact hN) (by unfold Vis; rw [hcx.sc]; exact hv) hd hcd) (pa_cons pe_r pa_nil (by rw [hse]; rfl)) attr_name (by rw [hse]; rfl) hline (by rw [hse]; rfl) rfl) ?_
    have l2G : Le S.B F' G F' H2 := lay.trans l2
    refine ⟨.ref a, s2, .inl ⟨rfl, vs, SqL.of (l2G.h _ _ g3 n2)⟩, ?_⟩
    refine he _ hcx F0 H0 F' ρ1 σ2 H2 R2 _ (Tr.wp_mono (fun r hr F3 rv H3 l3 q3 => ?_) hpop)
    have l23 : Le S.B F' G F3 H3 := l2G.trans l3
    cases r with
    | int r =>
      obtain ⟨⟨r0, r63⟩, hr⟩ := wp_need.mp (Tr.wp_bind.mp hr)
      cases hy : us[r.toNat]? with
      | none => rw [hy] at hr; exact hr.elim
      | some yv =>
        rw [hy] at hr
        have hr := Tr.wp_bind.mp hr
        have br := Res.bor l3.wf' q3
        cases br
        have hH3 : H3 a = some (.lst vs) := l23.h _ _ g3 n2
        have al3 := l23.all ga
        obtain ⟨zv, hz, hzv⟩ := al3.get hy
        have hlen : r.toNat < vs.length := (List.getElem?_eq_some_iff.mp hz).1
        refine ⟨a, vs, r, r.toNat, zv, rfl, rfl, hH3, by omega, r63, seq_ix r0 hlen, hz, ?_⟩
        -- behind the pop
        have R3 : Rel S F0 H0 F3 ρ' σ H3 := R2o.mono l3
        obtain ⟨R4, st4⟩ := R3.newList hk gr gs (l23.notF n1 g3) n2 hH3 (al3.eraseIdx r.toNat)
        have hD2 : (upd G dd (.lst acc)) dd = some (.lst acc) := upd_same
        have l2' : Le S.B F' (upd G dd (.lst acc)) F3 H3 := l2.trans l3
        have hD3 : H3 dd = some (.lst acc) := l2'.h _ _ hD2 nS
        have nD3 : ¬ F3 dd := l2'.notF nD hD2
        have hD4 : (upd H3 a (.lst (vs.eraseIdx r.toNat))) dd = some (.lst acc) := by rw [upd_ne (Ne.symm ane)]; exact hD3
        have small : acc.length < lim := by
          have := Tr.wp_const (Tr.wp_mono (fun ys hys => (show out.length < lim by have := (hys : (out ++ _ :: ys).length ≤ lim ∧ _).1; simp at this; omega)) hr)
          rw [al.length]; exact this
        have fr4 : ∀ j d b, S.kd j ≠ .sh → (ρ'.set i (some (.list (us.eraseIdx r.toNat))))[j]? = some (some d) → mutD d = true → σ[j]? = some (some (.ref b)) → b ≠ dd := fun j d b hj e m z => by
          by_cases hji : j = i
          · subst hji
            rw [gs] at z
            cases z; exact ane
          · rw [List.getElem?_set_ne (Ne.symm hji)] at e
            exact fr j d b hj e m z
        refine ⟨acc, hD4, by rw [← lim_eq]; exact small, Hp.no (upd H3 a (.lst (vs.eraseIdx r.toNat))) dd, F3, acc ++ [zv], out ++ [yv], ρ'.set i (some (.list (us.eraseIdx r.toNat))), no_upd.symm, no_at, nD3, R4.no hD4 nD3 nS h0dd fr4, fun b h => l3.f b (l2.f b (fF b h)), ?_, ?_, fr4, Tr.wp_mono (fun ys hys => ?_) hr⟩
        · have sA : Stay F1 H1 H3 := stay1.trans fF l2'.stay
          have sB := sA.trans (fun b h => l3.f b (l2.f b (fF b h))) st4
          exact sB.trans (fun b h => l3.f b (l2.f b (fF b h))) (Stay.no hD4 nD3)
        · have a4 : HasAll S.B.K F3 H3 (acc ++ [zv]) (out ++ [yv]) := (l23.all al).append (.cons hzv .nil)
          exact (a4.mono (fun _ h => h) st4).mono (fun _ h => h) (Stay.no hD4 nD3)
        · have e : out ++ [yv] ++ ys = out ++ yv :: ys := by simp
          rw [e]; exact hys
    | _ => exact hr.elim
  · have e : n = ds.length := by omega
    subst e
    rw [List.drop_length] at w'
    obtain ⟨_, ep⟩ := w'
    rw [List.append_nil] at ep
    refine .inl ⟨wk.stop F' _ lt lay.wf', ?_⟩
    have lB := RG.base.trans lay
    refine ep F' (.ref dd) _ (fun b h => fF b (l1.f b h)) (l1.stay.trans l1.f stay1) lB ⟨⟨dd, acc, rfl, nD, nS, upd_same, lay.all al⟩, fun _ b eb => by cases eb; exact h0dd⟩
theorem n_drain (i : Nat) (own : List (Str × Nat)) (hi : IJ S k N sc tg it true src) (hg : GJ S k N (relN scope sc) tg is g) (he : EJ S k N (relN scope sc) ix m1 fi) (hk : S.kd i = .ow := by rfl) (hio : (own.map (·.2)).contains i = false := by rfl) (hN : N[i]? = some x := by rfl)
    (hv : Seen (relN scope sc) x := by first | exact .inl rfl | exact .inr (.inl rfl) | exact .inr (.inr rfl)) (hd : Ndb x := by rfl) (hcd : Ncd x := by rfl) (hok : blkG N sc scope own = true := by rfl) (h6 : (match S.six with | some i => !(own.map (·.2)).contains i | none => true) = true := by rfl)
    (his : (is.all fun i => (own.map (·.2)).contains i) = true := by rfl) (hs : ∀ (env : Env) y, foldedSetIterable it env y = pure y := by intro _ _; rfl) (hse : ∀ env : Env, starEach [ix] env = [(false, eval ix env)] := by intro _; rfl) (hline : (apos.endLine == cpos.line) = true := by rfl) :
    SJ S k N sc .own (.Return (some (.ListComp (.Call (.Attribute (.Name x xp) "pop" apos) [ix] [] cpos) [⟨tg, it, [], 0⟩] scope pos)) rpos) (sDrain i src (own.map (·.2)) g fi) :=
  sj_drain hk (fun z => by have := List.contains_iff_mem.mpr z; rw [hio] at this; cases this) hN hv hd hcd hok (fun j e => by rw [e] at h6; simpa using h6) hi hg (fun j h => by have := List.all_eq_true.mp his j h; simpa using this) he hs hse hline
end
end Pv

namespace Pv
open PySem PySem.Spec PyProof.Rows L2

section
variable {prog : Program} {w : World} {A : Around} {E : Value → Shared → Prop} {s : Shared} {r d : Addr} {n : Nat} {P : Nat → Value → Prop} {OK : Heap → Prop}
theorem tup_code_src {Q₁ : Value → Shared → Prop} (Ks : PySem.W.KdlSrc prog w "dict" r d n P OK) (hh : A.handled = none) (hok : OK s.heap) (hn : n ≤ sizeLine)
    (h : ∀ (h' : Heap) (tk : Nat) (acc : Array Value), (∀ b o, s.heap.get? b = some o → h'.get? b = some o) → ItemsOf P acc n → Q₁ (.ref h'.objs.size) { s with heap := h'.push { cls := .type "tuple", data := .seq acc }, toks := tk }) :
    codeAny (model prog w) A (.call (.builtin "tuple.__new__") ⟨[.type "tuple", .ref r], []⟩) (wants Q₁ E) s := by
  refine codeAny_of_tree ?_
  show wpAny _ A.in1 (do checkBuiltinCall "tuple.__new__" ⟨[.type "tuple", .ref r], []⟩; again (.builtin "tuple.__new__" ⟨[.type "tuple", .ref r], []⟩)) _ _ s
  refine wpAny_bind (wpAny_of_eq (PySem.F.newCall_tuple_1 _) (wpAny_pure ⟨plainId_quiet PySem.F.plain_tuple_new _, codeAny_builtin PySem.F.entry_tuple_new ?_⟩))
  rw [Around.under_plainId PySem.F.plain_tuple_new _]
  have a1 := sub_tuple_self
  have a2 := init_tuple_lookup
  have a3 := madeHere_tuple
  have ty : s.TypeIs (.ref r) "dict" := Ks.type s hok
  wp_walk using wpAny_typeOf ty, PySem.W.kdu_collect (A := A.in1) Ks hh hok hn
  intro h' tk acc hk hacc
  show wpAny _ _ (Builtin.Tuple.tupleExact acc.toList.toArray >>= fun v => ret v) _ _ _
  unfold Builtin.Tuple.tupleExact
  refine wpAny_bind (wpAny_newObj_type ?_ (show acc.toList.toArray.size ≤ sizeLine by rw [Array.toArray_toList, hacc.1]; exact hn))
  refine wpAny_pure ?_
  rw [Array.toArray_toList]
  exact h h' tk acc hk hacc
theorem call_tuple_src {Q : Value → Shared → Prop} (Ks : PySem.W.KdlSrc prog w "dict" r d n P OK) (hh : A.handled = none) (hok : OK s.heap) (hn : n ≤ sizeLine)
    (hQ : ∀ (h' : Heap) (tk : Nat) (acc : Array Value), (∀ b o, s.heap.get? b = some o → h'.get? b = some o) → ItemsOf P acc n → Q (.ref h'.objs.size) { s with heap := h'.push { cls := .type "tuple", data := .seq acc }, toks := tk }) :
    wpAny (model prog w) A (call (.type "tuple") [.ref r]) Q E s := by
  refine callType_codes (Q₁ := fun o s₁ => s₁.TypeIs o "tuple" ∧ Q o s₁) PySem.F.called_tuple (PySem.F.typeCall_tuple_1 _) PySem.F.entry_object_init
    (tup_code_src (A := A.in1) Ks hh hok hn fun h' tk acc hk hacc => ⟨⟨_, Heap.get?_push_size _ rfl, rfl⟩, hQ h' tk acc hk hacc⟩) fun o s₁ h₁ => ?_
  exact ⟨h₁.1, PySem.F.args_object_init_2 o _, object_init_meets PySem.F.called_tuple.init.lookup PySem.F.called_tuple.made (by decide) prog w A.in1 _ s₁ ⟨h₁.1, rfl, h₁.2⟩⟩
end
section
variable {X : Cx} {F : Addr → Prop}
def rTupD (X : Cx) (F : Addr → Prop) : List V → Hp → VK → Prop := fun vs H Q => ∃ a kvs, vs = [V.ref a] ∧ DictV X.K F H (fun o => Rd H a o) kvs ∧ kvs.length ≤ lim ∧ ∀ ys p, HasAll X.K F H ys (kvs.map (·.1)) → H p = none → Q (.ref p) (upd H p (.tup ys))
theorem callr_tupD (hc : X.calm = true) : CallR X (.type "tuple") (rTupD X F) := fun pins s σ H vs us Q I rv ⟨a, ds, ev, dv, hl, q⟩ => by
  subst ev
  obtain ⟨u, rfl, ru⟩ := vals1 rv
  cases ru
  have hlim := lim_eq
  have fin : ∀ {h' : Heap} {tk : Nat} {acc : Array Value} {xs : List V}, (∀ b o, s.heap.get? b = some o → h'.get? b = some o) → Vals xs acc.toList → HasAll X.K F H xs (ds.map (·.1)) → EP X pins σ Q (.ref h'.objs.size) { s with heap := h'.push { cls := .type "tuple", data := .seq acc }, toks := tk } := fun {h' tk acc xs} hk r1 al => by
    have I1 : Inv X pins σ H { s with heap := h', toks := tk } := I.kept hk
    have lx : xs.length ≤ sizeLine := by rw [al.length, List.length_map, ← hlim]; exact hl
    have I2 : Inv X pins σ (upd H h'.objs.size (.tup xs)) { s with heap := h'.push { cls := .type "tuple", data := .seq acc }, toks := tk } :=
      I1.laid (t' := tk) (fun b o e => Heap.get?_push_of_some _ e) (Nat.le_refl _) (show ObjOk X.prog X.w _ _ _ (.tup xs) from ⟨lx, acc.toList, r1, by rw [Array.toArray_toList]; exact IsTup.new _ _⟩)
    exact ⟨.ref h'.objs.size, _, I2, rfl, q _ _ al (I1.hok.fresh (Nat.le_refl _))⟩
  rcases dv with ⟨kvs, r, ek, ha⟩ | ⟨kvs, r, ne, ek, ha⟩
  · obtain ⟨z, lo, vs, rel, dd⟩ := dk_rd I.hok r
    obtain ⟨ep, hat⟩ := dd.dictAt
    have l1 := rel.length
    refine call_tuple_src (PySem.W.kdl_dict (knd := mixKind X.prog X.w) (kvs := vs) (ep := ep) lo) (I.ok.hd hc) hat (by omega) fun h' tk acc hk ho => fin (xs := kvs.map fun p => kV p.1) hk ?_ (by rw [ek]; exact keys_flat)
    have el : acc.toList.length = vs.length := by rw [Array.length_toList, ho.1]
    refine vals_of_at (by rw [List.length_map, el, l1]) fun j x w h1 h2 => ?_
    obtain ⟨k, y, hky, hi⟩ := ho.2 j w (by rw [← Array.getElem?_toList]; exact h2)
    have e1 : (kvs.map (·.1))[j]? = some k := by rw [rel.keys, List.getElem?_map, hky]; rfl
    rw [List.getElem?_map] at e1 h1
    cases e2 : kvs[j]? with
    | none => rw [e2] at e1; cases e1
    | some p =>
      rw [e2] at e1 h1
      cases e1
      cases h1
      exact keyIs_rel hi
  · obtain ⟨z, lo, ks, pr, o, es, ep, ho, hx, hdt, he, hn⟩ := (show ObjOk X.prog X.w H s.heap a (.dT kvs) from r.ok I.hok)
    have l1 : es.size = ks.length := size_of_entries he
    have l2 : kvs.length = ks.length := Paired.length pr
    refine call_tuple_src (kdl_raw lo hx hdt) (I.ok.hd hc) ho (by omega) fun h' tk acc hk it => fin (xs := (ks.map fun x => x.2.1).map V.ref) hk ?_ (by rw [ek]; exact keys_tup pr)
    have el : acc.toList.length = ks.length := by rw [Array.length_toList, it.1]; exact l1
    refine vals_of_at (by rw [List.length_map, List.length_map, el]) fun j x w h1 h2 => ?_
    obtain ⟨en, hen, hv⟩ := it.2 j w (by rw [← Array.getElem?_toList]; exact h2)
    have qe := entry_at he j
    rw [hen] at qe
    rw [List.getElem?_map, List.getElem?_map] at h1
    cases hb : ks[j]? with
    | none => rw [hb] at h1; cases h1
    | some b =>
      rw [hb] at qe h1
      have e2 : en = entryOfKey (tupleKind (mixKind X.prog X.w)) b := Option.some.inj qe
      cases h1
      rw [hv, e2]
      rfl
end
/-- tuple(x), of a dict its keys -/
def tupleD2 : D → Tr D
  | .dict kvs => need (kvs.length ≤ lim) (.ret (.tuple (kvs.map (·.1))))
  | d => tupleD d
theorem br_tuple2 {S : Sx} {k : Nat} {N : List Str} {sc : Names} : BR S k N sc (.type "tuple") .own (fn1 tupleD2) := br1 fun X c F H v d Q wf b w => by
  cases d <;> first | exact w.elim | skip
  · obtain ⟨a, xs, rfl, _, r, al⟩ := b
    exact ⟨_, call_tuple_of, a, xs, rfl, .inl ⟨SqL.of r, fun l hl => res_tup wf hl al w⟩⟩
  · obtain ⟨a, xs, rfl, r, al⟩ := Has.tup_inv b
    exact ⟨_, call_tuple_of, a, xs, rfl, .inr ⟨SqT.of r, w F _ H (.refl wf) ⟨b, fun z => by cases z⟩⟩⟩
  · obtain ⟨a, rfl, _, dv⟩ := b
    obtain ⟨hl, w⟩ := wp_need.mp w
    exact ⟨_, callr_tupD (F := F) c.calm, a, _, rfl, by rw [c.K]; exact dv, hl, fun ys p hy hp => res_tup wf hp (by rw [c.K] at hy; exact hy) w⟩
end Pv

namespace Pv
open PySem PySem.Spec PyProof.Rows L2

def cntD (c k : D) : Tr D := match c with
  | .list xs => match intsOf xs with
    | some ns => match k with
      | .int j => .ret (.int (ns.count j : Nat))
      | _ => .fail
    | none => .fail
  | _ => .fail
def eCnt (f g : EF) : EF := op2 cntD f g
section
variable {S : Sx} {k : Nat} {N : List Str} {sc : Names}
theorem ej_cnt {o e : Expr} {fo fe : EF} {m1 m2 : Md} {apos cpos : Pos} (ho : EJ S k N sc o m1 fo) (he : EJ S k N sc e m2 fe) (hb : ∀ env : Env, attributeBase o "count" env (eval o env) = eval o env) (hs : ∀ env : Env, starEach [e] env = [(false, eval e env)]) (hline : (apos.endLine == cpos.line) = true) :
    EJ S k N sc (.Call (.Attribute o "count" apos) [e] [] cpos) .own (eCnt fo fe) := fun X c F0 H0 F ρ σ H R Q w =>
  .of (pe_bm PySem.F.plainAttrs_list PySem.F.slot_list_count PySem.F.type_list_count mt_lcount pe_r (pa_cons pe_r pa_nil (by rw [hs]; rfl)) (hb _) (by rw [hs]; rfl) hline (by rw [hs]; rfl) rfl) (ho X c F0 H0 F ρ σ H R _ (Tr.wp_mono (fun d hd F1 v H1 l1 q1 => by
    have hd := Tr.wp_bind.mp hd
    have b1 := Res.bor l1.wf' q1
    have isd : ∃ xs, d = .list xs := Tr.wp_const (Tr.wp_mono (fun y hy => by cases d <;> first | exact ⟨_, rfl⟩ | exact hy.elim) hd)
    obtain ⟨xs, rfl⟩ := isd
    cases e1 : intsOf xs with
    | none => exact ((Tr.wp_const (Tr.wp_mono (fun y hy => by simp only [cntD, e1] at hy; exact hy) hd)) : False).elim
    | some ns =>
      obtain ⟨a, vs, rfl, nS, r, al⟩ := b1
      rw [intsOf_ok e1] at al
      rw [al.ints] at r
      refine ⟨.inl ⟨rfl, _, SqL.of r⟩, he X c F0 H0 F1 ρ σ H1 (R.mono l1) _ (Tr.wp_mono (fun y hy F2 u H2 l2 q2 => ?_) hd)⟩
      simp only [cntD, e1] at hy
      cases y with
      | int j =>
        have b2 := Res.bor l2.wf' q2
        cases b2
        have b3 : BorV S.B F2 H2 (.ref a) (.list xs) := l2.bor (F := F1) (H := H1) (v := .ref a) (d := .list xs) ⟨a, _, rfl, nS, r, by rw [intsOf_ok e1]; exact .ofInts ns⟩
        obtain ⟨a', vs', ea, _, r', al'⟩ := b3
        cases ea
        rw [intsOf_ok e1] at al'
        rw [al'.ints] at r'
        exact ⟨a, ns, j, rfl, rfl, SqL.of r', hy F2 _ H2 (l1.trans l2) res_int⟩
      | _ => exact hy.elim) (Tr.wp_bind.mp w)))
theorem n_cnt {o e : Expr} {fo fe : EF} {m1 m2 : Md} {apos cpos : Pos} (ho : EJ S k N sc o m1 fo) (he : EJ S k N sc e m2 fe) (hb : ∀ env : Env, attributeBase o "count" env (eval o env) = eval o env := by intro _; rfl) (hs : ∀ env : Env, starEach [e] env = [(false, eval e env)] := by intro _; rfl) (hline : (apos.endLine == cpos.line) = true := by rfl) :
    EJ S k N sc (.Call (.Attribute o "count" apos) [e] [] cpos) .own (eCnt fo fe) := ej_cnt ho he hb hs hline
end
end Pv

namespace Pv
open PySem PySem.Spec PyProof.Rows L2

def sUnp (is : List Nat) (src : Ev → Tr (List D)) (vs : List Nat) (g : GF) (f : EF) : SF := fun ρ => (src ρ).bind fun ds => (lcGo g tYesF f (wipeA ρ vs) ds).bind fun out => need (out.length = is.length ∧ out.length ≤ lim) (.ret (.nx, setAll is out ρ))
abbrev owns (n : Nat) : List Md := List.replicate n .own
section
variable {S : Sx} {B : Bx} {Hs H H' : Hp} {F F' : Addr → Prop}
theorem OwnIn.snoc {v : V} {d : D} {a : Addr} : ∀ {ms : List Md} {vs : List V} {ds : List D}, vs.length = ms.length → ds.length = ms.length → OwnIn (ms ++ [.own]) (vs ++ [v]) (ds ++ [d]) a → OwnIn ms vs ds a ∨ (mutD d = true ∧ v = .ref a)
  | [], [], [], _, _, h => h.elim .inr fun h => h.elim
  | .own :: ms, u :: vs, e :: ds, h1, h2, h => h.elim (fun z => .inl (.inl z)) fun z => (OwnIn.snoc (by simpa using h1) (by simpa using h2) z).elim (fun y => .inl (.inr y)) .inr
  | .frz :: ms, u :: vs, e :: ds, h1, h2, h => OwnIn.snoc (ms := ms) (by simpa using h1) (by simpa using h2) h
  | .bor :: ms, u :: vs, e :: ds, h1, h2, h => OwnIn.snoc (ms := ms) (by simpa using h1) (by simpa using h2) h
  | [], _ :: _, _, h1, _, _ => by simp at h1
  | [], [], _ :: _, _, h2, _ => by simp at h2
  | _ :: _, [], _, h1, _, _ => by simp at h1
  | _ :: _, _ :: _, [], _, h2, _ => by simp at h2
theorem ResL.snoc {v : V} {d : D} : ∀ {ms : List Md} {vs : List V} {ds : List D}, ResL B Hs F H ms vs ds → Res B .own Hs F H v d → (∀ a, mutD d = true → v = .ref a → ¬ OwnIn ms vs ds a) → ResL B Hs F H (ms ++ [.own]) (vs ++ [v]) (ds ++ [d])
  | [], [], [], _, r, _ => ⟨r, fun _ _ _ _ h => h, trivial⟩
  | m :: ms, u :: vs, e :: ds, R, r, n => by
    obtain ⟨l1, l2⟩ := R.2.2.len
    refine ⟨R.1, fun em md a ea o => ?_, ResL.snoc R.2.2 r fun a md ea o => n a md ea ?_⟩
    · rcases OwnIn.snoc l1 l2 o with o | ⟨m2, e2⟩
      · exact R.2.1 em md a ea o
      · subst em
        exact n a m2 e2 (.inl ⟨md, ea⟩)
    · cases m with
      | own => exact .inr o
      | frz => exact o
      | bor => exact o
  | [], _ :: _, _, R, _, _ => R.elim
  | [], [], _ :: _, R, _, _ => R.elim
  | _ :: _, [], _, R, _, _ => R.elim
  | _ :: _, _ :: _, [], R, _, _ => R.elim
theorem ResL.mono (l : Le S.B F H F' H') : ∀ {ms : List Md} {vs : List V} {ds : List D}, ResL S.B Hs F H ms vs ds → ResL S.B Hs F' H' ms vs ds
  | [], [], [], _ => trivial
  | m :: ms, u :: vs, e :: ds, R => ⟨Res.mono l R.1, R.2.1, ResL.mono l R.2.2⟩
  | [], _ :: _, _, R => R.elim
  | [], [], _ :: _, R => R.elim
  | _ :: _, [], _, R => R.elim
  | _ :: _, _ :: _, [], R => R.elim
/-- another place is changed -/
theorem OwnV.upd {v : V} {d : D} {dd : Addr} {o : HO} (st : Stay F H (upd H dd o)) (h : OwnV B F H v d) (ne : ∀ a, mutD d = true → v = .ref a → a ≠ dd) : OwnV B F (L2.upd H dd o) v d := by
  cases d with
  | list ds =>
    obtain ⟨a, xs, rfl, m1, m2, r, q⟩ := h
    exact ⟨a, xs, rfl, m1, m2, by rw [upd_ne (ne a rfl rfl)]; exact r, q.mono (fun _ h => h) st⟩
  | dict ds =>
    obtain ⟨a, rfl, m1, m2, q⟩ := h
    exact ⟨a, rfl, m1, m2, q.mono (fun _ h => h) st fun u h => by rw [upd_ne (ne a rfl rfl)]; exact h⟩
  | none => exact Has.mono (fun _ h => h) st h
  | bool _ => exact Has.mono (fun _ h => h) st h
  | int _ => exact Has.mono (fun _ h => h) st h
  | str _ => exact Has.mono (fun _ h => h) st h
  | tuple _ => exact Has.mono (fun _ h => h) st h
theorem ResL.upd {dd : Addr} {o : HO} (st : Stay F H (upd H dd o)) : ∀ {n : Nat} {vs : List V} {ds : List D}, ResL B Hs F H (owns n) vs ds → (∀ a, OwnIn (owns n) vs ds a → a ≠ dd) → ResL B Hs F (L2.upd H dd o) (owns n) vs ds
  | 0, [], [], _, _ => trivial
  | n + 1, u :: vs, e :: ds, R, ne => ⟨⟨OwnV.upd st R.1.1 fun a m ea => ne a (.inl ⟨m, ea⟩), R.1.2⟩, R.2.1, ResL.upd st (n := n) R.2.2 fun a o => ne a (.inr o)⟩
  | 0, _ :: _, _, R, _ => R.elim
  | 0, [], _ :: _, R, _ => R.elim
  | n + 1, [], _, R, _ => R.elim
  | n + 1, _ :: _, [], R, _ => R.elim
theorem ResL.taken : ∀ {n : Nat} {vs : List V} {ds : List D} {a : Addr}, ResL B Hs F H (owns n) vs ds → OwnIn (owns n) vs ds a → H a ≠ none
  | n + 1, u :: vs, e :: ds, a, R, o => o.elim (fun z => (OwnV.bor R.1.1).taken z.1 z.2) fun z => ResL.taken (n := n) R.2.2 z
  | 0, [], [], _, _, o => by simp [OwnIn, owns] at o
  | 0, _ :: _, _, _, R, _ => R.elim
  | 0, [], _ :: _, _, R, _ => R.elim
  | n + 1, [], _, _, R, _ => R.elim
  | n + 1, _ :: _, [], _, R, _ => R.elim
end
section
variable {S : Sx} {k : Nat} {N : List Str} {sc : Names} {ret : Md} {tg it elt : Expr} {scope : Scope} {own : List (Str × Nat)} {src : Ev → Tr (List D)} {g : GF} {f : EF} {is js : List Nat} {lpos pos : Pos}
theorem owns_snoc (n : Nat) : owns n ++ [.own] = owns (n + 1) := by
  rw [owns, ← List.replicate_one, List.replicate_append_replicate]
theorem sj_unp {xs : List Str} {ps : List Pos} {kt : Nat} {pt : Pos} {fnOk : Prop} (hfn : ∀ X, Ctx S k N sc X → fnOk → ∀ x, X.fn x = true) (hkd : KdOk S is (owns is.length)) (hst : StoreOk S N sc fnOk is xs) (hxl : xs.length = ps.length) (hil : is.length = xs.length)
    (hok : blkG N sc scope own = true) (h6 : ∀ i, S.six = some i → i ∉ own.map (·.2)) (hi : IJ S k N sc tg it false src) (hg : GJ S k N (relN scope sc) tg js g) (his : ∀ i ∈ js, i ∈ own.map (·.2)) (he : EJ S k N (relN scope sc) elt .own f) (hs : ∀ (env : Env) x, foldedSetIterable it env x = pure x)
    (hsw : ∀ env : Env, swapsWithSole [.Tuple (nameTs xs ps) kt pt] (.ListComp elt [⟨tg, it, [], 0⟩] scope lpos) pos.line env = pure false) (hw : ∀ env : Env, swappedStores [.Tuple (nameTs xs ps) kt pt] (.ListComp elt [⟨tg, it, [], 0⟩] scope lpos) env = pure none)
    (h1 : ∀ env : Env, (assignEach [.Tuple (nameTs xs ps) kt pt] env).map (·.2) = [assign (.Tuple (nameTs xs ps) kt pt) env]) (hn : ∀ env : Env, (assignEach (nameTs xs ps) env).length = is.length) (hst' : ∀ env : Env, (assignEach (nameTs xs ps) env).findIdx? (·.1) = none) :
    SJ S k N sc ret (.Assign [.Tuple (nameTs xs ps) kt pt] (.ListComp elt [⟨tg, it, [], 0⟩] scope lpos) pos) (sUnp is src (own.map (·.2)) g f) := fun X c F0 H0 F ρ σ H R D w => by
  have hkB := blkG_k hok
  refine .of (ps_asg (pe_lc c.calm c.nd pi_r (blk_ok c hok) pg_all pts_all pe_all (hs _)) (pg_unl c.calm (pgs_names c (hfn X c) hst hxl) (hn _) (hst' _)) (hsw _) (hw _) (h1 _)) ?_
  refine hi X c F0 H0 F ρ σ H R _ (Tr.wp_mono (fun ds hds F1 H1 J l1 wk => ?_) (Tr.wp_bind.mp w))
  intro dd hdd
  have nS := l1.wf'.srcSome hdd
  have hwp := Tr.wp_bind.mp hds
  refine ⟨fun i m H' => m = ds.length - i ∧ i ≤ ds.length ∧ ∃ F' acc out n, Le S.B F1 H1 F' H' ∧ H' dd = some (.lst acc) ∧ ¬ F' dd ∧ ResL S.B H1 F' H' (owns n) acc out ∧ (∀ a, OwnIn (owns n) acc out a → a ≠ dd) ∧ (lcGo g tYesF f (wipeA ρ (own.map (·.2))) (ds.drop i)).wp fun r => ((out ++ r).length = is.length ∧ (out ++ r).length ≤ lim) ∧ SP1 S ret F0 H0 F H D (.nx, setAll is (out ++ r) ρ), ⟨ds.length, rfl, Nat.zero_le _, F1, [], [], 0, Le.lay l1.wf' hdd, upd_same, notF_new l1.wf' hdd, trivial, fun a h => h.elim, ?_⟩, ?_⟩
  · rw [List.drop_zero]
    exact Tr.wp_mono (fun r hr => wp_need.mp hr) hwp
  rintro i m H' ⟨rfl, hil', F', acc, out, n, lW, hD, nD, al, na, w'⟩
  have lt := later.of (fr := false) lW
  by_cases hlt : i < ds.length
  · refine .inr ⟨wk.go i F' H' lt lW.wf' hlt, fun H2 => ∃ F' acc out n, Le S.B F1 H1 F' H2 ∧ H2 dd = some (.lst acc) ∧ ¬ F' dd ∧ ResL S.B H1 F' H2 (owns n) acc out ∧ (∀ a, OwnIn (owns n) acc out a → a ≠ dd) ∧ (lcGo g tYesF f (wipeA ρ (own.map (·.2))) (ds.drop (i + 1))).wp fun r => ((out ++ r).length = is.length ∧ (out ++ r).length ≤ lim) ∧ SP1 S ret F0 H0 F H D (.nx, setAll is (out ++ r) ρ),
      fun H2 h2 => ⟨ds.length - (i + 1), by omega, rfl, hlt, h2⟩, fun x H2 y => ?_⟩
    obtain ⟨d, hd, hx, l2⟩ := wk.yld i F' H' x H2 lt lW.wf' hlt y
    have ed : ds.drop i = d :: ds.drop (i + 1) := by
      rw [List.drop_eq_getElem_cons hlt]
      congr 1
      exact Option.some.inj ((List.getElem?_eq_getElem hlt).symm.trans hd)
    rw [ed] at w'
    intro s Hb C cl fp
    have Rw : Rel S F0 H0 F' (wipeA ρ (own.map (·.2))) (wipeA σ (own.map (·.2))) H2 := (((R.mono l1).mono lW).mono l2).wipe h6
    rw [wipe_eq]
    refine hg _ (blk_ctx c hkB s Hb C cl fp) F0 H0 F' _ _ H2 Rw x d hx _ (Tr.wp_mono (fun ρ1 h1 σ2 R2 sm => ⟨by rw [wipe_eq]; exact wipe_same sm his, fun s Hb C cl fp => ?_⟩) (Tr.wp_bind.mp w'))
    refine ⟨_, pts_nil, ?_⟩
    intro s Hb C cl fp
    have h1 : (Tr.bind (f ρ1) fun y => (lcGo g tYesF f (wipeA ρ (own.map (·.2))) (ds.drop (i + 1))).bind fun r => .ret (y :: r)).wp _ := h1
    refine he _ (blk_ctx c hkB s Hb C cl fp) F0 H0 F' ρ1 σ2 H2 R2 _ (Tr.wp_mono (fun y hy F4 v H4 l4 q4 => ?_) (Tr.wp_bind.mp h1))
    have hy := Tr.wp_bind.mp hy
    have l24 := l2.trans l4
    have hD2 := l2.h _ _ hD nS
    have hD4 := l24.h _ _ hD nS
    have nD4 := l24.notF nD hD
    have small : acc.length < lim := by
      have := Tr.wp_const (Tr.wp_mono (fun r hr => (show out.length < lim by have := hr.1.2; simp at this; omega)) hy)
      rw [al.len.1, ← al.len.2]; exact this
    have hm : Mut (H4 dd) := by rw [hD4]; trivial
    have st : Stay F4 H4 (upd H4 dd (.lst (acc ++ [v]))) := Stay.updL (B := S.B) nD4 hm
    have l5 := lW.trans l24
    have vdd : ∀ a, mutD y = true → v = .ref a → a ≠ dd := fun a md ea z => by
      have := q4.2 md a ea
      rw [z, hD2] at this; cases this
    have al2 := al.mono l2
    have al4 : ResL S.B H1 F4 H4 (owns (n + 1)) (acc ++ [v]) (out ++ [y]) := by
      rw [← owns_snoc]
      refine (al2.mono l4).snoc ⟨q4.1, fun md a ea => (lW.trans l2).none (q4.2 md a ea)⟩ fun a md ea o => ?_
      exact al2.taken o (q4.2 md a ea)
    have na4 : ∀ a, OwnIn (owns (n + 1)) (acc ++ [v]) (out ++ [y]) a → a ≠ dd := fun a o => by
      rw [← owns_snoc] at o
      rcases OwnIn.snoc (al.len.1) (al.len.2) o with o | o
      · exact na a o
      · exact vdd a o.1 o.2
    refine ⟨acc, hD4, by rw [← lim_eq]; exact small, F4, acc ++ [v], out ++ [y], n + 1, ⟨l5.f, fun a o h n => ?_, l5.n, l5.wf, l5.wf'.updO nS⟩, upd_same, nD4, al4.upd st na4, na4, Tr.wp_mono (fun r hr => ?_) hy⟩
    · have ne : a ≠ dd := fun z => by rw [z, hdd] at h; cases h
      rw [upd_ne ne]; exact l5.h a o h n
    · have e : out ++ [y] ++ r = out ++ y :: r := by simp
      rw [e]; exact hr
  · have e : i = ds.length := by omega
    subst e
    rw [List.drop_length] at w'
    obtain ⟨⟨e1, e2⟩, ep⟩ := w'
    rw [List.append_nil] at ep e1
    have nn : n = is.length := by have := al.len.2; rw [e1] at this; simpa using this.symm
    subst nn
    have l := l1.trans lW
    have alH : ResL S.B H F' H' (owns is.length) acc out := al.start fun a => l1.none
    refine .inl ⟨wk.stop F' H' lt lW.wf', ?_⟩
    have la : acc.length = is.length := by have := al.len.1; simpa using this
    refine ⟨dd, acc, rfl, SqL.of hD, la, gsAll_ok la.symm ?_⟩
    exact ep F' _ _ l.f l.stay ((R.mono l).setAll hkd alH (par_av R alH))
theorem n_unp3 {x y z : Str} {px py pz : Pos} {kt : Nat} {pt : Pos} (i j l : Nat) (own : List (Str × Nat)) (hi : IJ S k N sc tg it false src) (hg : GJ S k N (relN scope sc) tg js g) (he : EJ S k N (relN scope sc) elt .own f) (hkd : KdOk S [i, j, l] (owns 3) := by exact ⟨rfl, sixIs_ne rfl, rfl, sixIs_ne rfl, rfl, sixIs_ne rfl, trivial⟩)
    (hst : StoreOk S N sc (FnkAll sc) [i, j, l] [x, y, z] := by exact ⟨rfl, by first | exact .inl rfl | exact .inr ⟨rfl, rfl⟩, rfl, by first | exact .inl rfl | exact .inr ⟨rfl, rfl⟩, rfl, by first | exact .inl rfl | exact .inr ⟨rfl, rfl⟩, trivial⟩)
    (hok : blkG N sc scope own = true := by rfl) (h6 : (match S.six with | some i => !(own.map (·.2)).contains i | none => true) = true := by rfl) (his : (js.all fun i => (own.map (·.2)).contains i) = true := by rfl) (hs : ∀ (env : Env) x, foldedSetIterable it env x = pure x := by intro _ _; rfl)
    (hsw : ∀ env : Env, swapsWithSole [.Tuple [.Name x px, .Name y py, .Name z pz] kt pt] (.ListComp elt [⟨tg, it, [], 0⟩] scope lpos) pos.line env = pure false := by intro _; rfl) (hw : ∀ env : Env, swappedStores [.Tuple [.Name x px, .Name y py, .Name z pz] kt pt] (.ListComp elt [⟨tg, it, [], 0⟩] scope lpos) env = pure none := by intro _; rfl)
    (h1 : ∀ env : Env, (assignEach [.Tuple [.Name x px, .Name y py, .Name z pz] kt pt] env).map (·.2) = [assign (.Tuple [.Name x px, .Name y py, .Name z pz] kt pt) env] := by intro _; rfl) :
    SJ S k N sc ret (.Assign [.Tuple [.Name x px, .Name y py, .Name z pz] kt pt] (.ListComp elt [⟨tg, it, [], 0⟩] scope lpos) pos) (sUnp [i, j, l] src (own.map (·.2)) g f) :=
  sj_unp (xs := [x, y, z]) (ps := [px, py, pz]) (fun X cc h => cc.fn h) hkd hst rfl rfl hok (fun i e => by rw [e] at h6; simpa using h6) hi hg (fun i h => by have := List.all_eq_true.mp his i h; simpa using this) he hs hsw hw h1 (fun _ => rfl) (fun _ => rfl)
end
end Pv

namespace Pv
open PySem PySem.Spec PyProof.Rows L2
theorem sw_cell {elt : Expr} {gs : List Comprehension} {scope : Scope} {pos py : Pos} {y : Str} {l : Nat} {env : Env} (hy : env.scope.names.lookup y = some .cell) : swapsWith (.ListComp elt gs scope pos) (some (.Name y py)) l env = pure false := by
  have ky : env.kindOf y = some .cell := hy
  unfold swapsWith
  simp only [ky]
  have : (env.blockKind == .function && (some NameKind.cell == some NameKind.local)) = false := by
    cases env.blockKind == .function <;> rfl
  rw [this]; rfl
section
variable {S : Sx} {k : Nat} {N : List Str} {sc : Names} {ret : Md} {tg it elt : Expr} {ifs : List Expr} {scope : Scope} {own : List (Str × Nat)} {src : Ev → Tr (List D)} {gg : GF} {t : TF} {f : EF} {is : List Nat} {pos spos : Pos} {i : Nat} {y : Str} {py : Pos}
theorem sj_setLcC (hkd : S.kd i = .sh ∨ S.kd i = .ow) (hi6 : S.six ≠ some i) (hN : N[i]? = some y) (hyl : sc.lookup y = some .cell) (hfn : sc.lookup (".0" : Str) = none) (he : EJ S k N sc (.ListComp elt [⟨tg, it, ifs, 0⟩] scope pos) .own f) : SJ S k N sc ret (.Assign [.Name y py] (.ListComp elt [⟨tg, it, ifs, 0⟩] scope pos) spos) (sSet i f) := fun X c F0 H0 F ρ σ H R D w => by
  have e1 : X.env.scope.names.lookup y = some .cell := by rw [c.sc]; exact hyl
  refine .of (ps_set (i := i) c.nd (by rw [c.hN]; exact hN) (by unfold L2.Loc; exact .inr e1) pe_r (sw_cell e1) (.inl (c.fn hfn y))) ?_
  refine he X c F0 H0 F ρ σ H R _ ?_
  exact hkd.elim (fun z => set_sh z hi6 R w) fun z => set_ow z hi6 R w
theorem n_setLcC (i : Nat) (he : EJ S k N sc (.ListComp elt [⟨tg, it, ifs, 0⟩] scope pos) .own f) (hkd : S.kd i = .sh ∨ S.kd i = .ow := by first | exact .inl rfl | exact .inr rfl) (hi6 : sixIs S i = false := by rfl) (hN : N[i]? = some y := by rfl) (hyl : sc.lookup y = some .cell := by rfl) (hfn : sc.lookup (".0" : Str) = none := by rfl) : SJ S k N sc ret (.Assign [.Name y py] (.ListComp elt [⟨tg, it, ifs, 0⟩] scope pos) spos) (sSet i f) :=
  sj_setLcC hkd (sixIs_ne hi6) hN hyl hfn he
theorem n_par4 {i j l h : Nat} {x y z t : Str} {px py pz pu : Pos} {kt k2 : Nat} {pt pt2 pos : Pos} {ret : Md} {a b c d : Expr} {m1 m2 m3 m4 : Md} {g : AF} (hp : PJ S k N sc [a, b, c, d] [m1, m2, m3, m4] g) (hkd : KdOk S [i, j, l, h] [m1, m2, m3, m4] := by exact ⟨rfl, sixIs_ne rfl, rfl, sixIs_ne rfl, rfl, sixIs_ne rfl, rfl, sixIs_ne rfl, trivial⟩)
    (hst : StoreOk S N sc (FnkAll sc) [i, j, l, h] [x, y, z, t] := by exact ⟨rfl, by first | exact .inl rfl | exact .inr ⟨rfl, rfl⟩, rfl, by first | exact .inl rfl | exact .inr ⟨rfl, rfl⟩, rfl, by first | exact .inl rfl | exact .inr ⟨rfl, rfl⟩, rfl, by first | exact .inl rfl | exact .inr ⟨rfl, rfl⟩, trivial⟩) :
    SJ S k N sc ret (.Assign [.Tuple [.Name x px, .Name y py, .Name z pz, .Name t pu] kt pt] (.Tuple [a, b, c, d] k2 pt2) pos) (sPar [i, j, l, h] g) := sj_par4 (xs := [x, y, z, t]) (ps := [px, py, pz, pu]) (fun X cc h => cc.fn h) hkd hst rfl rfl (show 4 ≤ 4 by decide) (show 4 ≤ lim by decide) hp
end
end Pv

namespace L2
open PySem PySem.Spec PyProof.Rows
section
variable {X : Cx}
/-- what the pairs are: key, place of the key's tuple, value -/
abbrev PrT (H : Hp) : List Addr → List (List Key × Addr × V) → Prop := Paired fun p kv => H p = some (.tup [.ref kv.2.1, kv.2.2]) ∧ H kv.2.1 = some (.tup (kv.1.map kV))
abbrev QrT : List (List Key × Addr × V) → List (List Key × Addr × Value) → Prop := Paired fun x q => x.1 = q.1 ∧ x.2.1 = q.2.1 ∧ RelV x.2.2 q.2.2
def mergeT (acc : List (List Key × V)) (xs : List (List Key × Addr × V)) : List (List Key × V) := xs.foldl (fun a p => putK a p.1 p.2.2) acc
theorem pairsT_of {pins : List (Addr × Obj)} {σ : St} {H : Hp} {s : Shared} (I : Inv X pins σ H s) : ∀ {ps : List Addr} {kbs : List (List Key × Addr × V)}, PrT H ps kbs →
    ∃ prs : List (List Key × Addr × Value), QrT kbs prs ∧ prs.length = ps.length ∧ ∀ (j : Nat) (q : List Key × Addr × Value), prs[j]? = some q → ∃ p, ps[j]? = some p ∧ IsTup s.heap p #[.ref q.2.1, q.2.2] ∧ (tupleKind (mixKind X.prog X.w)).is s.heap q.1 q.2.1
  | _, _, .nil => ⟨[], .nil, rfl, fun j q e => by simp at e⟩
  | _, _, .cons (a := p) (b := kv) h t => by
    obtain ⟨prs, r, hl, hp⟩ := pairsT_of I t
    obtain ⟨its, rv, ht, _⟩ := I.tuple (.of h.1)
    obtain ⟨u, y, ei, ru, ry⟩ := vals2 rv
    subst ei
    cases ru
    refine ⟨(kv.1, kv.2.1, y) :: prs, .cons ⟨rfl, rfl, ry⟩ r, by rw [List.length_cons, List.length_cons, hl], fun j q e => ?_⟩
    cases j with
    | zero =>
      have e' : (kv.1, kv.2.1, y) = q := Option.some.inj e
      subst e'
      exact ⟨p, rfl, ht, key_of I.hok h.2⟩
    | succ j =>
      obtain ⟨b, e1, e2, e3⟩ := hp j q (by simpa using e)
      exact ⟨b, by simpa using e1, e2, e3⟩
theorem kt_merge {H : Hp} : ∀ {kbs : List (List Key × Addr × V)} {ps : List Addr} {prs : List (List Key × Addr × Value)} {acc : List (List Key × V)} {xs : List (List Key × Addr × Value)}, PrT H ps kbs → QrT kbs prs → KT H acc xs → KT H (mergeT acc kbs) (storedAllH xs prs)
  | [], ps, prs, acc, xs, h, g, r => by
    cases h; cases g; exact r
  | kv :: kbs, ps, prs, acc, xs, h, g, r => by
    cases h with
    | cons h t =>
      cases g with
      | @cons _ q _ qs g u =>
        obtain ⟨e1, e2, e3⟩ := g
        have := r.put kv.1 (b := kv.2.1) h.2 e3
        have := kt_merge t u this
        rw [e1, e2] at this
        show KT H (mergeT (putK acc kv.1 kv.2.2) kbs) (storedAllH (storedH xs q.1 q.2.1 q.2.2) qs)
        rw [e1]; exact this
theorem mergeT_len : ∀ (kbs : List (List Key × Addr × V)) (acc : List (List Key × V)), (mergeT acc kbs).length ≤ acc.length + kbs.length
  | [], _ => Nat.le_refl _
  | p :: kbs, acc => by
    have h1 := mergeT_len kbs (putK acc p.1 p.2.2)
    have h2 := length_putK acc p.1 p.2.2
    show (mergeT (putK acc p.1 p.2.2) kbs).length ≤ _
    rw [List.length_cons]; omega
def rDictT (K : PySem.W.Frag) : List V → Hp → VK → Prop := fun xs H Q => ∃ (a : Addr) (ps : List Addr) (kbs : List (List Key × Addr × V)), xs = [.ref a] ∧ SqL K H a (ps.map V.ref) ∧ PrT H ps kbs ∧ ∀ p, H p = none → Q (.ref p) (upd H p (.dT (mergeT [] kbs)))
theorem callr_dictT (hcalm : X.calm = true) (hu : X.A.in1.in1.units < cLine) : CallR X (.type "dict") (rDictT X.K) := by
  intro pins s σ H xs us Q I r q
  obtain ⟨a, ps, kbs, ex, hq, hp, q⟩ := q
  subst ex
  obtain ⟨u, eu, rx⟩ := vals1 r
  subst eu
  cases rx
  obtain ⟨its, rv, pl, hz⟩ := I.list hq
  have ei := refs_at rv
  subst ei
  rw [List.length_map] at hz
  obtain ⟨prs, rel, hl, hpr⟩ := pairsT_of I hp
  obtain ⟨o, n, ho, hc, hd, hdat⟩ := pl
  have lk : kbs.length = ps.length := (Paired.length hp).symm
  refine call_dict_pairsH (knd := tupleKind (mixKind X.prog X.w)) (ps := prs) (PairArg.list a (ps.map Value.ref).toArray (fun j => ps.getD j 0) (prs.map fun p => (Value.ref p.2.1, p.2.2))) (I.ok.hd hcalm) hu ⟨⟨o, n, ho, hc, hd, hdat⟩, by simp [hl], fun j k v e => ?_⟩ ⟨by simp, fun i key v e => ?_⟩ (fun h' hk x hx => ?_) (by simp; omega) fun h' tk dd k => ?_
  · rw [List.getElem?_map] at e
    cases e2 : prs[j]? with
    | none => rw [e2] at e; cases e
    | some q' =>
      rw [e2] at e
      cases e
      obtain ⟨p, f1, f2, f3⟩ := hpr j q' e2
      have f4 : ps.getD j 0 = p := by rw [List.getD_eq_getElem?_getD, f1]; rfl
      refine ⟨by simp [f1], .inl ?_⟩
      show s.heap.IsTuple (ps.getD j 0) _
      rw [f4]; exact f2
  · have e : (prs.map fun p => (Value.ref p.2.1, p.2.2))[i]? = some (key, v) := e
    rw [List.getElem?_map] at e
    cases e2 : prs[i]? with
    | none => rw [e2] at e; cases e
    | some q' =>
      rw [e2] at e
      cases e
      exact ⟨q'.1, q'.2.1, rfl, rfl⟩
  · obtain ⟨j, hj⟩ := List.getElem?_of_mem hx
    obtain ⟨p, f1, f2, f3⟩ := hpr j x hj
    exact (tupleKind_stays).stays (fun b ob vs m e _ => hk b ob (Nat.ne_of_lt (Heap.lt_size e)) (by simp) e) f3
  · have hm : (s.heap.objs.size == sysModules) = false := beq_eq_false_iff_ne.mpr (Nat.ne_of_gt I.big)
    have hlen : (mergeT [] kbs).length ≤ sizeLine := by
      refine Nat.le_trans (mergeT_len kbs []) ?_
      rw [List.length_nil, Nat.zero_add, lk]; exact hz
    obtain ⟨qo, es, ep, q1, q2, q3, q4, q5, q6⟩ := dd
    have kt := kt_merge (acc := []) (xs := []) hp rel .nil
    have hn := I.hok.fresh (Nat.le_refl s.heap.objs.size)
    have kt2 : KT (upd H s.heap.objs.size (.dT (mergeT [] kbs))) (mergeT [] kbs) (storedAllH [] prs) := kt.keeps fun c ys ec => by
      have hne : c ≠ s.heap.objs.size := fun z => by rw [z, hn] at ec; cases ec
      rw [upd_ne hne]; exact ec
    exact ⟨.ref s.heap.objs.size, upd H s.heap.objs.size (.dT (mergeT [] kbs)), I.laid (t' := tk) (fun b o e => k b o (by simp) e) (Nat.le_refl _) (show ObjOk X.prog X.w _ _ _ (.dT (mergeT [] kbs)) from ⟨hlen, hm, storedAllH [] prs, kt2, qo, es, ep, q1, q2, q3, q4, q6⟩), rfl, q _ hn⟩
end
end L2
namespace Pv
open PySem PySem.Spec PyProof.Rows L2
def pairsD : List D → Option (List (D × D))
  | [] => some []
  | .tuple [k, v] :: r => (pairsD r).map ((k, v) :: ·)
  | _ :: _ => none
def tupFlat : D → Bool
  | .tuple ks => ks.all isFlat
  | _ => false
def dictLD : D → Tr D
  | .list xs => match pairsD xs with
    | some ps => need ((ps.all (fun p => isFlat p.1) = true ∨ ps.all (fun p => tupFlat p.1) = true) ∧ ps.length ≤ lim) (.ret (.dict (mergeD [] ps)))
    | none => .fail
  | _ => .fail
section
variable {K : PySem.W.Frag} {F : Addr → Prop} {H : Hp}
theorem pairs_has : ∀ {xs : List D} {ps : List (D × D)} {vs : List V}, pairsD xs = some ps → HasAll K F H vs xs → ∃ (as : List Addr) (kv : List (V × V)), vs = as.map V.ref ∧ Paired (fun a p => H a = some (.tup [p.1, p.2])) as kv ∧ HasAll K F H (kv.map (·.1)) (ps.map (·.1)) ∧ HasAll K F H (kv.map (·.2)) (ps.map (·.2))
  | [], ps, vs, e, h => by
    cases e; cases h
    exact ⟨[], [], rfl, .nil, .nil, .nil⟩
  | x :: xs, ps, vs, e, h => by
    cases h with
    | @cons v _ vs _ h1 h2 =>
      unfold pairsD at e
      split at e
      · next heq => cases heq
      · next k' v' r heq =>
        cases heq
        cases e2 : pairsD xs with
        | none => rw [e2] at e; cases e
        | some qs =>
          rw [e2] at e
          cases e
          obtain ⟨as, kv, f1, f2, f3, f4⟩ := pairs_has e2 h2
          obtain ⟨a, ys, rfl, g1, g2⟩ := Has.tup_inv h1
          cases g2 with
          | cons b1 g2 =>
            cases g2 with
            | cons b2 g2 =>
              cases g2
              exact ⟨a :: as, (_, _) :: kv, by rw [f1]; rfl, .cons g1 f2, .cons b1 f3, .cons b2 f4⟩
      · cases e
theorem tup_keys : ∀ {ps : List (D × D)} {kv : List (V × V)}, HasAll K F H (kv.map (·.1)) (ps.map (·.1)) → ps.all (fun p => tupFlat p.1) = true → ∃ kbs : List (List Key × Addr × V), kv = kbs.map (fun x => (.ref x.2.1, x.2.2)) ∧ ps.map (·.1) = kbs.map (fun x => .tuple (x.1.map kD)) ∧ kbs.map (·.2.2) = kv.map (·.2) ∧ ∀ x ∈ kbs, H x.2.1 = some (.tup (x.1.map kV))
  | [], [], _, _ => ⟨[], rfl, rfl, rfl, fun x hx => by cases hx⟩
  | [], _ :: _, h, _ => nomatch h
  | _ :: _, [], h, _ => nomatch h
  | p :: ps, q :: kv, h, hf => by
    simp only [List.all_cons, Bool.and_eq_true] at hf
    cases h with
    | cons h1 h2 =>
      obtain ⟨kbs, e1, e2, e3, e4⟩ := tup_keys h2 hf.2
      obtain ⟨pk, pv⟩ := p
      obtain ⟨qk, qv⟩ := q
      cases pk with
      | tuple ds =>
        have h1 : Has K F H qk (.tuple ds) := h1
        obtain ⟨b, xs, rfl, hb, hx⟩ := Has.tup_inv h1
        obtain ⟨ks, rfl⟩ := flats (show ds.all isFlat = true from hf.1)
        have ex := hx.keys
        subst ex
        exact ⟨(ks, b, qv) :: kbs, by rw [e1]; rfl, by rw [List.map_cons, e2]; rfl, by rw [List.map_cons, e3]; rfl, fun x hx => by
          rcases List.mem_cons.mp hx with rfl | hx
          · exact hb
          · exact e4 x hx⟩
      | _ => exact absurd hf.1 (by simp [tupFlat])
theorem mergeT_ok : ∀ {more : List (List Key × Addr × V)} {mds : List (D × D)} {kvs : List (List Key × V)} {ds : List (D × D)}, mds.map (·.1) = more.map (fun x => .tuple (x.1.map kD)) → HasAll K F H (more.map (·.2.2)) (mds.map (·.2)) → ds.map (·.1) = kvs.map (fun p => .tuple (p.1.map kD)) → HasAll K F H (kvs.map (·.2)) (ds.map (·.2)) →
    (mergeD ds mds).map (·.1) = (mergeT kvs more).map (fun p => .tuple (p.1.map kD)) ∧ HasAll K F H ((mergeT kvs more).map (·.2)) ((mergeD ds mds).map (·.2))
  | [], [], _, _, _, _, e, a => ⟨e, a⟩
  | [], _ :: _, _, _, e, _, _, _ => by simp at e
  | _ :: _, [], _, _, e, _, _, _ => by simp at e
  | p :: more, q :: mds, kvs, ds, e1, a1, e, a => by
    simp only [List.map_cons, List.cons.injEq] at e1 a1
    cases a1 with
    | cons b1 b2 =>
      obtain ⟨g1, g2⟩ := put_ok eqv_kT p.1 b1 e a
      rw [← e1.1] at g1 g2
      exact mergeT_ok (kvs := putK kvs p.1 p.2.2) (ds := putD ds q.1 q.2) e1.2 b2 g1 g2
theorem mergeT_ne : ∀ {more : List (List Key × Addr × V)} {kvs : List (List Key × V)}, kvs ≠ [] ∨ more ≠ [] → mergeT kvs more ≠ []
  | [], kvs, h => h.elim id fun z => absurd rfl z
  | p :: more, kvs, _ => mergeT_ne (more := more) (kvs := putK kvs p.1 p.2.2) (.inl putK_ne)
end
theorem paired_map {α β γ : Type} {R : α → β → Prop} {f : γ → β} : ∀ {as : List α} {xs : List γ}, Paired R as (xs.map f) → Paired (fun a x => R a (f x)) as xs
  | _, [], h => by cases h; exact .nil
  | _, x :: xs, h => by cases h with | cons a b => exact .cons a (paired_map b)
theorem paired_and {α β : Type} {R : α → β → Prop} {P : β → Prop} : ∀ {as : List α} {xs : List β}, Paired R as xs → (∀ x ∈ xs, P x) → Paired (fun a x => R a x ∧ P x) as xs
  | _, [], h, _ => by cases h; exact .nil
  | _, x :: xs, h, p => by cases h with | cons a b => exact .cons ⟨a, p x List.mem_cons_self⟩ (paired_and b fun y hy => p y (List.mem_cons_of_mem _ hy))
theorem br_dictL {S : Sx} {k : Nat} {N : List Str} {sc : Names} : BR S k N sc (.type "dict") .own (fn1 dictLD) := br1 fun X c F H v d Q wf b w => by
  cases d <;> first | exact w.elim | skip
  rename_i ds
  obtain ⟨a, xs, rfl, _, r, al⟩ := b
  cases e : pairsD ds with
  | none => simp only [dictLD, e] at w; exact w.elim
  | some ps =>
    simp only [dictLD, e] at w
    obtain ⟨⟨hk, hl⟩, w⟩ := wp_need.mp w
    obtain ⟨as, kv, f1, f2, f3, f4⟩ := pairs_has e al
    subst f1
    have flat : ps.all (fun p => isFlat p.1) = true → ∃ r, CallR X (.type "dict") r ∧ r [.ref a] H Q := fun hk => by
      obtain ⟨kvs, e1, e2, e3⟩ := flat_keys f3 hk
      have e4 : kvs.map (·.2) = kv.map (·.2) := e3
      refine ⟨_, call_dictP c.calm, a, as, kvs, rfl, SqL.of r, ?_, fun p hp => ?_⟩
      · rw [e1] at f2
        exact Paired.mapP (paired_map f2) fun _ _ z => SqT.of z
      · have l := Le.lay (o := .dK (mergeK [] kvs)) wf hp
        obtain ⟨g1, g2⟩ := merge_ok (kvs := []) (ds := []) e2 (by rw [e4]; exact l.all f4) rfl .nil
        exact w F _ _ l ⟨⟨p, rfl, notF_new wf hp, wf.srcSome hp, .inl ⟨_, upd_same, g1, g2⟩⟩, fun _ b e => by cases e; exact hp⟩
    rcases hk with hk | hk
    · exact flat hk
    · cases ps with
      | nil => exact flat rfl
      | cons p0 ps0 =>
        obtain ⟨kbs, e1, e2, e3, e4⟩ := tup_keys f3 hk
        refine ⟨_, callr_dictT c.calm (by have := c.hu; show X.A.units + 1 + 1 < cLine; omega), a, as, kbs, rfl, SqL.of r, ?_, fun p hp => ?_⟩
        · rw [e1] at f2
          have f5 : Paired (fun a (x : List Key × Addr × V) => H a = some (.tup [.ref x.2.1, x.2.2])) as kbs := paired_map (R := fun a (p : V × V) => H a = some (.tup [p.1, p.2])) (f := fun x : List Key × Addr × V => (.ref x.2.1, x.2.2)) f2
          exact paired_and f5 e4
        · have l := Le.lay (o := .dT (mergeT [] kbs)) wf hp
          obtain ⟨g1, g2⟩ := mergeT_ok (kvs := []) (ds := []) e2 (by rw [e3]; exact l.all f4) rfl .nil
          have ne : kbs ≠ [] := fun z => by rw [z] at e2; cases e2
          exact w F _ _ l ⟨⟨p, rfl, notF_new wf hp, wf.srcSome hp, .inr ⟨_, upd_same, mergeT_ne (.inr ne), g1, g2⟩⟩, fun _ b e => by cases e; exact hp⟩
end Pv

namespace L2
open PySem PySem.Spec PyProof.Rows
section
variable {X : Cx} {pos : Pos} {keys : List (Option Expr)} {values : List Expr} {trs : List (TE × TE)}
def tDispT (trs : List (TE × TE)) : TE := fun σ H Q => ∀ p, H p = none → tPairs trs σ (upd H p (.dT [])) fun ps H2 => H2 p = some (.dT []) ∧ ∃ kbs : List (List Key × Addr × V), ps = kbs.map (fun x => (V.ref x.2.1, x.2.2)) ∧ (∀ x ∈ kbs, H2 x.2.1 = some (.tup (x.1.map kV))) ∧ kbs.length ≤ 15 ∧ Q (.ref p) (upd H2 p (.dT (mergeT [] kbs)))
theorem carriesT {pins : List (Addr × Obj)} {σ : St} {H : Hp} {s : Shared} (I : Inv X pins σ H s) : ∀ {kbs : List (List Key × Addr × V)} {vs : List (Value × Value)}, VV (kbs.map fun x => (V.ref x.2.1, x.2.2)) vs → (∀ x ∈ kbs, H x.2.1 = some (.tup (x.1.map kV))) →
    ∃ prs : List (List Key × Addr × Value), QrT kbs prs ∧ CarriesH (tupleKind (mixKind X.prog X.w)) s.heap vs prs ∧ prs.length = kbs.length
  | [], _, r, _ => by
    rw [List.map_nil] at r; cases r
    exact ⟨[], .nil, trivial, rfl⟩
  | x :: kbs, _, r, h => by
    rw [List.map_cons] at r
    cases r with
    | @cons a b as bs g t =>
      obtain ⟨prs, q, c, l⟩ := carriesT I t fun y hy => h y (List.mem_cons_of_mem _ hy)
      obtain ⟨b1, b2⟩ := b
      obtain ⟨g1, g2⟩ := g
      cases (show b1 = Value.ref x.2.1 from g1)
      exact ⟨(x.1, x.2.1, b2) :: prs, .cons ⟨rfl, rfl, g2⟩ q, ⟨rfl, rfl, key_of I.hok (h x List.mem_cons_self), c⟩, by rw [List.length_cons, List.length_cons, l]⟩
theorem kt_merge2 {H : Hp} : ∀ {kbs : List (List Key × Addr × V)} {prs : List (List Key × Addr × Value)} {acc : List (List Key × V)} {xs : List (List Key × Addr × Value)}, (∀ x ∈ kbs, H x.2.1 = some (.tup (x.1.map kV))) → QrT kbs prs → KT H acc xs → KT H (mergeT acc kbs) (storedAllH xs prs)
  | [], prs, acc, xs, _, g, r => by cases g; exact r
  | kv :: kbs, prs, acc, xs, h, g, r => by
    cases g with
    | @cons _ q _ qs g u =>
      obtain ⟨e1, e2, e3⟩ := g
      have := r.put kv.1 (b := kv.2.1) (h kv List.mem_cons_self) e3
      have := kt_merge2 (fun y hy => h y (List.mem_cons_of_mem _ hy)) u this
      rw [e1, e2] at this
      show KT H (mergeT (putK acc kv.1 kv.2.2) kbs) (storedAllH (storedH xs q.1 q.2.1 q.2.2) qs)
      rw [e1]; exact this
theorem pe_dispT (h : PPs X pos keys values trs) (hall : keys.all (·.isSome) = true) (hl : keys.length = values.length) (h0 : keys ≠ []) (h15 : keys.length ≤ 15) (hu : X.A.units < cLine) : PE X (.Dict keys values pos) (tDispT trs) := by
  refine ⟨fun pins s σ H Q I q => ?_⟩
  have hn := I.hok.fresh (Nat.le_refl s.heap.objs.size)
  have I1 := I.laid (a := s.heap.objs.size) (o := .dT []) (h' := s.heap.push { cls := .type "dict", data := .dict #[] }) (t' := s.toks) (fun _ _ q => Heap.get?_push_of_some _ q) (Nat.le_refl _) (dt_empty s.heap I.big)
  have pn := pairTrees_length keys values X.env pos hall hl
  rw [arm_eval_Dict, zip_pairTrees keys values X.env pos hall hl, dictDisplay_pairs _ (fun he => by rw [he] at pn; exact h0 (List.length_eq_zero_iff.mp pn.symm)) (by omega)]
  refine wpAny_bind (wpAny_standAt (wpAny_bind (wpAny_subDictH (knd := tupleKind (mixKind X.prog X.w)) (Q := fun d s' => wpAny (model X.prog X.w) X.A (pure (Value.ref d)) (EP X pins σ Q) X.xe s') hu (by omega) ?_)))
  refine thn (h.run pins _ σ _ _ I1 (q _ hn)) fun ws s2 ⟨ps, H2, I2, rel, e, kbs, ep, hk, lk, q2⟩ => ?_
  subst ep
  obtain ⟨prs, qr, c, lp⟩ := carriesT I2 rel hk
  obtain ⟨z, hd, vs0, r0, dd⟩ := dt_of I2.hok e
  cases r0
  refine ⟨prs, c, dd, fun h' tk dd' hs => wpAny_pure ⟨.ref s.heap.objs.size, _, ?_, rfl, q2⟩⟩
  have hz : (mergeT [] kbs).length ≤ sizeLine := by
    have h1 := mergeT_len kbs []
    rw [List.length_nil] at h1
    rw [sizeLine_eq]; omega
  have kt := kt_merge2 (acc := []) (xs := []) hk qr .nil
  obtain ⟨qo, es, ep, q1, q2', q3, q4, q5, q6⟩ := dd'
  refine d_write I2 (by rw [e]; exact True.intro) hs ⟨qo, q1⟩ ⟨hz, hd, _, kt.keeps fun b ys ec => ?_, qo, es, ep, q1, q2', q3, q4, q6⟩
  have hne : b ≠ s.heap.objs.size := fun z => by rw [z, e] at ec; cases ec
  rw [upd_ne hne]; exact ec
end
end L2

namespace L2
open PySem PySem.Spec PyProof.Rows
section
variable {X : Cx}
def hashT (ks : List Int) : Int := reduceHash (Builtin.Tuple.tupleHashOf (ks.map hashInt))
/-- the keys' hashes are unlike -/
def HashOk (more : List (List Key × V)) : Prop := ∃ is : List (List Int), more.map (·.1) = is.map (fun l => l.map Sum.inl) ∧ (is.map hashT).Nodup
def mergeV (acc more : List (List Key × V)) : List (List Key × V) := more.foldl (fun a p => putK a p.1 p.2) acc
theorem kt_mergeV {H : Hp} : ∀ {more : List (List Key × V)} {ys : List (List Key × Addr × Value)} {acc : List (List Key × V)} {xs : List (List Key × Addr × Value)}, KT H more ys → KT H acc xs → KT H (mergeV acc more) (storedAllH xs ys)
  | [], ys, acc, xs, g, r => by cases g; exact r
  | kv :: more, ys, acc, xs, g, r => by
    cases g with
    | @cons _ q _ qs g u =>
      obtain ⟨e1, e2, e3⟩ := g
      have := r.put kv.1 (b := q.2.1) e2 e3
      have := kt_mergeV u this
      rw [e1] at this
      show KT H (mergeV (putK acc kv.1 kv.2) more) (storedAllH (storedH xs q.1 q.2.1 q.2.2) qs)
      rw [e1]; exact this
theorem mergeV_len : ∀ (more acc : List (List Key × V)), (mergeV acc more).length ≤ acc.length + more.length
  | [], _ => Nat.le_refl _
  | p :: more, acc => by
    have h1 := mergeV_len more (putK acc p.1 p.2)
    have h2 := length_putK acc p.1 p.2
    show (mergeV (putK acc p.1 p.2) more).length ≤ _
    rw [List.length_cons]; omega
theorem hash_keys {H : Hp} : ∀ {more : List (List Key × V)} {ys : List (List Key × Addr × Value)}, KT H more ys → (ys.map fun x => (tupleKind (mixKind X.prog X.w)).hash x.1) = (more.map (·.1)).map fun ks => (tupleKind (mixKind X.prog X.w)).hash ks
  | _, _, .nil => rfl
  | _, _, .cons g u => by rw [List.map_cons, List.map_cons, List.map_cons, hash_keys u, g.1]
theorem hash_ints (l : List Int) : (tupleKind (mixKind X.prog X.w)).hash (l.map Sum.inl) = hashT l := by
  show reduceHash (Builtin.Tuple.tupleHashOf ((l.map Sum.inl).map (keyH X.w))) = _
  rw [List.map_map]; rfl
theorem tup_type {H : Hp} {s : Shared} {pins : List (Addr × Obj)} {σ : St} (I : Inv X pins σ H s) : ∀ {more : List (List Key × V)} {ys : List (List Key × Addr × Value)}, KT H more ys → ∀ x ∈ ys, s.TypeIs (.ref x.2.1) "tuple"
  | _, _, .nil, x, hx => by cases hx
  | _, _, .cons (b := q) g u, x, hx => by
    rcases List.mem_cons.mp hx with rfl | hx
    · obtain ⟨its, r, ⟨o, ho, hc, _⟩, _⟩ := I.tuple (.of g.2.1)
      exact ⟨o, ho, hc⟩
    · exact tup_type I u x hx
def rUpdT (K : PySem.W.Frag) : V → List V → Hp → VK → Prop := fun x xs H Q => ∃ (d o : Addr) (kvs more : List (List Key × V)), x = .ref d ∧ xs = [.ref o] ∧ d ≠ o ∧ (H d = some (.dT kvs) ∨ (kvs = [] ∧ H d = some (.dK []))) ∧ H o = some (.dT more) ∧ (kvs ≠ [] ∨ HashOk more) ∧ kvs.length + more.length ≤ sizeLine ∧ Q .non (upd H d (.dT (mergeV kvs more)))
theorem mt_updT (hu : X.A.in1.units < cLine) : MtR X "dict.update" (rUpdT X.K) := by
  intro pins s σ H x xs v us Q I rx rxs h
  obtain ⟨d, o, kvs, more, rfl, rfl, hdo, hd, ho, hh, hz, q⟩ := h
  cases rx
  obtain ⟨u, rfl, ru⟩ := rxs.one
  cases ru
  have key : ∀ {H : Hp} (I : Inv X pins σ H s) (hd : H d = some (.dT kvs)) (ho : H o = some (.dT more)) (q : Q .non (upd H d (.dT (mergeV kvs more)))), wpAny (model X.prog X.w) X.A (call (.builtin "dict.update") [.ref d, .ref o]) (EP X pins σ Q) X.xe s := fun {H} I hd ho q => by
    obtain ⟨z1, s1, xs1, k1, d1⟩ := dt_of I.hok hd
    obtain ⟨z2, s2, xs2, k2, d2⟩ := dt_of I.hok ho
    have l1 : kvs.length = xs1.length := Paired.length k1
    have l2 : more.length = xs2.length := Paired.length k2
    refine call_update_dictH (knd := tupleKind (mixKind X.prog X.w)) hu hdo s2 d1 d2 ?_ (by omega) fun h' dd _ hs => ?_
    · rcases hh with ne | ⟨is, e1, e2⟩
      · exact .inl fun z => by subst z; rw [List.length_nil] at l1; exact ne (List.length_eq_zero_iff.mp l1)
      · refine .inr ⟨tup_type I k2, ?_⟩
        rw [hash_keys k2, e1, List.map_map]
        have : ((fun ks => (tupleKind (mixKind X.prog X.w)).hash ks) ∘ fun l : List Int => l.map Sum.inl) = hashT := funext fun l => hash_ints l
        rw [this]; exact e2
    · obtain ⟨qo, es, ep, q1, q2, q3, q4, q5, q6⟩ := dd
      have hz' : (mergeV kvs more).length ≤ sizeLine := Nat.le_trans (mergeV_len more kvs) hz
      have kt := kt_mergeV k2 k1
      have I2 : Inv X pins σ (upd H d (.dT (mergeV kvs more))) { s with heap := h' } := d_write I (by rw [hd]; exact True.intro) hs ⟨qo, q1⟩ ⟨hz', s1, _, kt.keeps fun b ys ec => by
        have hne : b ≠ d := fun z => by rw [z, hd] at ec; cases ec
        rw [upd_ne hne]; exact ec, qo, es, ep, q1, q2, q3, q4, q6⟩
      exact ⟨.non, _, I2, rfl, q⟩
  rcases hd with hd | ⟨rfl, hd⟩
  · exact key I hd ho q
  · have hds : (d == sysModules) = false := (dk_of I.hok hd).2.1
    obtain ⟨_, ob, es, ep, g1, g2, g3, g4, _⟩ := Pv.emptyH I (.inl hd)
    have mu : Mut (H d) := by rw [hd]; trivial
    have I2 : Inv X pins σ (upd H d (.dT [])) s := I.write (x := d) (e := d) (t' := s.toks) (h' := s.heap) mu (.inl rfl) (fun _ _ _ q => q) ⟨ob, g1⟩ ⟨Nat.zero_le _, hds, [], .nil, ob, es, ep, g1, g2, g3, g4, List.nodup_nil⟩
    refine key I2 upd_same (by rw [upd_ne (Ne.symm hdo)]; exact ho) ?_
    rw [upd_upd]; exact q
end
end L2
namespace Pv
open PySem PySem.Spec PyProof.Rows L2
def eDispT (r : List (EF × EF)) : EF := fun ρ => (aPairs r ρ).bind fun ps => need (ps.all (fun p => tupFlat p.1) = true ∧ ps.isEmpty = false ∧ ps.length ≤ 15) (.ret (.dict (mergeD [] ps)))
def intKeys : List (D × D) → Option (List (List Int))
  | [] => some []
  | (.tuple ds, _) :: r => match intsOf ds, intKeys r with
    | some is, some js => some (is :: js)
    | _, _ => none
  | _ :: _ => none
def hashOkD (more : List (D × D)) : Bool := match intKeys more with
  | some is => decide ((is.map hashT).Nodup)
  | none => false
def updOk (kvs more : List (D × D)) : Bool := more.all (fun p => tupFlat p.1) && !more.isEmpty && kvs.all (fun p => tupFlat p.1) && (!kvs.isEmpty || hashOkD more)
def updD (c m : D) : Tr D := match c with
  | .dict kvs => match m with
    | .dict more => need (updOk kvs more = true ∧ kvs.length + more.length ≤ lim) (.ret (.dict (mergeD kvs more)))
    | _ => .fail
  | _ => .fail
def sUpd (i : Nat) (f : EF) : SF := fun ρ => (ownC i ρ).bind fun c => (f ρ).bind fun m => (updD c m).bind fun c' => .ret (.nx, ρ.set i (some c'))
theorem mergeV_ok {K : PySem.W.Frag} {F : Addr → Prop} {H : Hp} : ∀ {more : List (List Key × V)} {mds : List (D × D)} {kvs : List (List Key × V)} {ds : List (D × D)}, mds.map (·.1) = more.map (fun x => .tuple (x.1.map kD)) → HasAll K F H (more.map (·.2)) (mds.map (·.2)) → ds.map (·.1) = kvs.map (fun p => .tuple (p.1.map kD)) → HasAll K F H (kvs.map (·.2)) (ds.map (·.2)) →
    (mergeD ds mds).map (·.1) = (mergeV kvs more).map (fun p => .tuple (p.1.map kD)) ∧ HasAll K F H ((mergeV kvs more).map (·.2)) ((mergeD ds mds).map (·.2))
  | [], [], _, _, _, _, e, a => ⟨e, a⟩
  | [], _ :: _, _, _, e, _, _, _ => by simp at e
  | _ :: _, [], _, _, e, _, _, _ => by simp at e
  | p :: more, q :: mds, kvs, ds, e1, a1, e, a => by
    simp only [List.map_cons, List.cons.injEq] at e1 a1
    cases a1 with
    | cons b1 b2 =>
      obtain ⟨g1, g2⟩ := put_ok eqv_kT p.1 b1 e a
      rw [← e1.1] at g1 g2
      exact mergeV_ok (kvs := putK kvs p.1 p.2) (ds := putD ds q.1 q.2) e1.2 b2 g1 g2
theorem mergeV_ne : ∀ {more kvs : List (List Key × V)}, kvs ≠ [] ∨ more ≠ [] → mergeV kvs more ≠ []
  | [], kvs, h => h.elim id fun z => absurd rfl z
  | p :: more, kvs, _ => mergeV_ne (more := more) (kvs := putK kvs p.1 p.2) (.inl putK_ne)
theorem ints_keys : ∀ {ks : List Key} {is : List Int}, intsOf (ks.map kD) = some is → ks = is.map Sum.inl
  | [], is, h => by cases h; rfl
  | .inl i :: ks, is, h => by
    have h : (intsOf (ks.map kD)).map (i :: ·) = some is := h
    cases e : intsOf (ks.map kD) with
    | none => rw [e] at h; cases h
    | some js => rw [e] at h; cases h; rw [ints_keys e]; rfl
  | .inr x :: ks, is, h => by cases h
theorem hash_ok : ∀ {more : List (List Key × V)} {mds : List (D × D)} {is : List (List Int)}, mds.map (·.1) = more.map (fun x => .tuple (x.1.map kD)) → intKeys mds = some is → more.map (·.1) = is.map (fun l => l.map Sum.inl)
  | [], [], is, _, h => by cases h; rfl
  | [], _ :: _, _, e, _ => by simp at e
  | _ :: _, [], _, e, _ => by simp at e
  | p :: more, q :: mds, is, e, h => by
    simp only [List.map_cons, List.cons.injEq] at e
    obtain ⟨q1, q2⟩ := q
    cases (show q1 = .tuple (p.1.map kD) from e.1)
    have h : (match intsOf (p.1.map kD), intKeys mds with | some is, some js => some (is :: js) | _, _ => none) = some is := h
    cases e1 : intsOf (p.1.map kD) with
    | none => rw [e1] at h; cases h
    | some as =>
      cases e2 : intKeys mds with
      | none => rw [e1, e2] at h; cases h
      | some bs =>
        rw [e1, e2] at h
        cases h
        rw [List.map_cons, List.map_cons, hash_ok e.2 e2, ints_keys e1]
theorem tupFlat_kD (k : Key) : tupFlat (kD k) = false := by cases k <;> rfl
/-- a dict that is updated -/
theorem upd_okD {B : Bx} {F : Addr → Prop} {H : Hp} {a : Addr} {kvs : List (D × D)} {mm : List (D × D)} {b : Addr} (n1 : ¬ F a) (dv : DictV B.K F H (fun o => H a = some o) kvs) (mv : DictV B.K F H (fun o => H b = some o) mm) (ok : updOk kvs mm = true) (hl : kvs.length + mm.length ≤ lim) (hab : a ≠ b) :
    ∃ kv more : List (List Key × V), (H a = some (.dT kv) ∨ (kv = [] ∧ H a = some (.dK []))) ∧ H b = some (.dT more) ∧ (kv ≠ [] ∨ HashOk more) ∧ kv.length + more.length ≤ sizeLine ∧ Mut (H a) ∧ DictV B.K F (upd H a (.dT (mergeV kv more))) (fun u => upd H a (.dT (mergeV kv more)) a = some u) (mergeD kvs mm) := by
  unfold updOk at ok
  simp only [Bool.and_eq_true, Bool.or_eq_true, Bool.not_eq_true'] at ok
  obtain ⟨⟨⟨o1, o2⟩, o3⟩, o4⟩ := ok
  have more_ex : ∃ more : List (List Key × V), H b = some (.dT more) ∧ more ≠ [] ∧ mm.map (·.1) = more.map (fun p => .tuple (p.1.map kD)) ∧ HasAll B.K F H (more.map (·.2)) (mm.map (·.2)) := by
    rcases mv with ⟨kv, r, ek, ha⟩ | ⟨kv, r, ne, ek, ha⟩
    · exfalso
      cases mm with
      | nil => cases o2
      | cons q ds =>
        cases kv with
        | nil => simp at ek
        | cons p kv =>
          simp only [List.map_cons, List.cons.injEq] at ek
          simp only [List.all_cons, Bool.and_eq_true] at o1
          have := o1.1
          rw [ek.1] at this
          rw [tupFlat_kD] at this; cases this
    · exact ⟨kv, r, ne, ek, ha⟩
  obtain ⟨more, r2, ne2, e2, a2⟩ := more_ex
  have l2 : more.length = mm.length := by have := congrArg List.length e2; simpa using this.symm
  have fin : ∀ {kv : List (List Key × V)} (hm : Mut (H a)), kvs.map (·.1) = kv.map (fun p => .tuple (p.1.map kD)) → HasAll B.K F H (kv.map (·.2)) (kvs.map (·.2)) → DictV B.K F (upd H a (.dT (mergeV kv more))) (fun u => upd H a (.dT (mergeV kv more)) a = some u) (mergeD kvs mm) := fun {kv} hm e a => by
    obtain ⟨g1, g2⟩ := mergeV_ok e2 a2 e a
    exact .inr ⟨_, upd_same, mergeV_ne (.inr ne2), g1, g2.mono (fun _ h => h) (Stay.updL (B := B) n1 hm)⟩
  have hash : kvs = [] → HashOk more := fun z => by
    subst z
    have o4 : hashOkD mm = true := o4.elim (fun z => by cases z) id
    unfold hashOkD at o4
    cases e : intKeys mm with
    | none => rw [e] at o4; cases o4
    | some is => rw [e] at o4; exact ⟨is, hash_ok e2 e, of_decide_eq_true o4⟩
  rcases dv with ⟨kv, r, ek, ha⟩ | ⟨kv, r, ne, ek, ha⟩
  · have hm : Mut (H a) := by rw [r]; trivial
    cases kvs with
    | nil =>
      cases kv with
      | nil => exact ⟨[], more, .inr ⟨rfl, r⟩, r2, .inr (hash rfl), by rw [← lim_eq, List.length_nil, l2]; simpa using hl, hm, fin hm rfl .nil⟩
      | cons p kv => simp at ek
    | cons q ds =>
      exfalso
      cases kv with
      | nil => simp at ek
      | cons p kv =>
        simp only [List.map_cons, List.cons.injEq] at ek
        simp only [List.all_cons, Bool.and_eq_true] at o3
        have := o3.1
        rw [ek.1] at this
        rw [tupFlat_kD] at this; cases this
  · have hm : Mut (H a) := by rw [r]; trivial
    have l1 : kv.length = kvs.length := by have := congrArg List.length ek; simpa using this.symm
    exact ⟨kv, more, .inl r, r2, .inl ne, by rw [← lim_eq, l1, l2]; exact hl, hm, fin hm ek ha⟩
section
variable {S : Sx} {k : Nat} {N : List Str} {sc : Names} {ret : Md} {i : Nat} {x : Str} {e : Expr} {fe : EF} {pos pos' apos cpos : Pos}
theorem ej_dispT {keys : List (Option Expr)} {vals : List Expr} {r : List (EF × EF)} {pos : Pos} (hall : keys.all (·.isSome) = true) (hl : keys.length = vals.length) (h0 : keys ≠ []) (h15 : keys.length ≤ 15) (h : PPJ S k N sc keys vals r) : EJ S k N sc (.Dict keys vals pos) .own (eDispT r) := fun X c F0 H0 F ρ σ H R Q w => by
  obtain ⟨trs, p, hp⟩ := h X c pos
  refine .of (pe_dispT p hall hl h0 h15 (by have := c.hu; omega)) (fun dd hdd => ?_)
  have l0 := Le.lay (o := .dT []) R.wf hdd
  refine hp F0 H0 F ρ σ _ (R.mono l0) _ (Tr.wp_mono (fun ds hds F1 ps H1 l1 q1 => ?_) (Tr.wp_bind.mp w))
  obtain ⟨⟨h1, h2, h3⟩, hds⟩ := wp_need.mp hds
  have nS := R.wf.srcSome hdd
  have hD := l1.h dd _ upd_same nS
  have nD := l1.notF (notF_new R.wf hdd) (upd_same (H := H) (o := .dT []))
  obtain ⟨kbs, e1, e2, e3, e4⟩ := tup_keys q1.1 h1
  obtain ⟨g1, g2⟩ := mergeT_ok (kvs := []) (ds := []) e2 (by rw [e3]; exact q1.2) rfl .nil
  have ne : kbs ≠ [] := fun z => by
    rw [z] at e2
    cases ds with
    | nil => cases h2
    | cons _ _ => cases e2
  have l := l0.trans l1
  have hm : Mut (H1 dd) := by rw [hD]; trivial
  have st : Stay F1 H1 (upd H1 dd (.dT (mergeT [] kbs))) := Stay.updL (B := S.B) nD hm
  have lk : kbs.length = ds.length := by have := congrArg List.length e2; simpa using this.symm
  refine ⟨hD, kbs, e1, e4, by rw [lk]; exact h3, hds F1 _ _ ⟨l.f, fun a o ha n => ?_, l.n, l.wf, l.wf'.updO nS⟩ ⟨⟨dd, rfl, nD, nS, .inr ⟨_, upd_same, mergeT_ne (.inr ne), g1, g2.mono (fun _ h => h) st⟩⟩, fun _ a e => by cases e; exact hdd⟩⟩
  have ne : a ≠ dd := fun z => by rw [z, hdd] at ha; cases ha
  rw [upd_ne ne]; exact l.h a o ha n
theorem sj_upd {m : Md} (hm1 : m = .own) (hk : S.kd i = .ow) (hN : N[i]? = some x) (hv : sc.lookup x = some .local ∨ sc.lookup x = some .cell ∨ sc.lookup x = some .free) (hd : (x == ("__debug__" : Str)) = false) (hcd : (x == ("__classdict__" : Str)) = false)
    (he : EJ S k N sc e m fe) (hs : ∀ env : Env, starEach [e] env = [(false, eval e env)]) (hline : (apos.endLine == cpos.line) = true) : SJ S k N sc ret (.Expr (.Call (.Attribute (.Name x pos) "update" apos) [e] [] cpos) pos') (sUpd i fe) := fun X c F0 H0 F ρ σ H R D w => by
  subst hm1
  obtain ⟨a, cc, g1, g2, g3, n1, n2, oc, w1⟩ := own_c R hk w
  have isd : ∃ kvs, cc = .dict kvs := by
    cases cc with
    | dict kvs => exact ⟨kvs, rfl⟩
    | list xs => exact ((Tr.wp_const (Tr.wp_mono (fun d hd' => ((Tr.wp_bind.mp hd' : (Tr.fail : Tr PyData).wp _) : False)) (Tr.wp_bind.mp w1))) : False).elim
    | _ => cases g3
  obtain ⟨kvs, rfl⟩ := isd
  obtain ⟨a', ea, _, _, dv⟩ := oc
  cases ea
  refine .of (ps_expr (pe_bm PySem.F.plainAttrs_dict PySem.F.slot_dict_update PySem.F.type_dict_update (mt_updT (by have := c.hu; show X.A.units + 1 < cLine; omega)) (pe_var (i := i) (by rw [c.hN]; exact hN) (by unfold Vis; rw [c.sc]; exact hv) hd hcd) (pa_cons pe_r pa_nil (by rw [hs]; rfl)) attr_name (by rw [hs]; rfl) hline (by rw [hs]; rfl) rfl) rfl) ?_
  refine ⟨.ref a, g2, .inr (.inr (.inl ⟨rfl, dv.imp (fun ⟨kv, r, _⟩ => ⟨kv, r⟩) fun ⟨kv, r, _⟩ => ⟨kv, r⟩⟩)), ?_⟩
  have ha : H a ≠ none := by
    rcases dv with ⟨kv, r, _⟩ | ⟨kv, r, _⟩ <;> rw [r] <;> simp
  refine he X c F0 H0 F ρ σ H R _ (Tr.wp_mono (fun d hd' => ?_) (Tr.wp_bind.mp w1))
  intro F1 v H1 l1 q1
  have hd' := Tr.wp_bind.mp hd'
  cases d with
  | dict mm =>
    obtain ⟨⟨ok, hl⟩, w2⟩ := wp_need.mp hd'
    obtain ⟨⟨b, rfl, nb, nSb, mv⟩, fr⟩ := q1
    have hb : H b = none := fr rfl b rfl
    have hab : a ≠ b := fun z => ha (z ▸ hb)
    have oc1 : OwnV S.B F1 H1 (.ref a) (.dict kvs) := l1.own (F := F) (H := H) (v := .ref a) (d := .dict kvs) ⟨a, rfl, n1, n2, dv⟩
    obtain ⟨a'', ea, n1', _, dv1⟩ := oc1
    cases ea
    obtain ⟨kv, more, h1, h2, h3, h4, hm, dv2⟩ := upd_okD n1' dv1 mv ok hl hab
    obtain ⟨R3, st⟩ := (R.mono l1).change (d' := .dict (mergeD kvs mm)) hk g1 g3 g2 n1' n2 hm ⟨a, rfl, n1', n2, dv2⟩
    exact ⟨a, b, kv, more, rfl, rfl, hab, h1, h2, h3, h4, w2 F1 σ _ l1.f (l1.stay.trans l1.f st) R3⟩
  | _ => exact (hd' : False).elim
theorem n_dispT {keys : List (Option Expr)} {vals : List Expr} {r : List (EF × EF)} (h : PPJ S k N sc keys vals r) (hall : keys.all (·.isSome) = true := by rfl) (hl : keys.length = vals.length := by rfl) (h0 : keys ≠ [] := by intro z; cases z) (h15 : keys.length ≤ 15 := by decide) : EJ S k N sc (.Dict keys vals pos) .own (eDispT r) := ej_dispT hall hl h0 h15 h
theorem n_upd (i : Nat) (he : EJ S k N sc e .own fe) (hk : S.kd i = .ow := by rfl) (hN : N[i]? = some x := by rfl) (hv : Seen sc x := by first | exact .inl rfl | exact .inr (.inl rfl) | exact .inr (.inr rfl)) (hd : Ndb x := by rfl) (hcd : Ncd x := by rfl) (hs : ∀ env : Env, starEach [e] env = [(false, eval e env)] := by intro _; rfl) (hl : (apos.endLine == cpos.line) = true := by rfl) :
    SJ S k N sc ret (.Expr (.Call (.Attribute (.Name x pos) "update" apos) [e] [] cpos) pos') (sUpd i fe) := sj_upd rfl hk hN hv hd hcd he hs hl
end
end Pv

namespace Pv
open PySem PySem.Spec PyProof.Rows L2
def sRaiseB : SF := fun ρ => .ret (.bk, ρ)
section
variable {S : Sx} {k : Nat} {N : List Str} {sc : Names} {ret : Md} {C : Addr} {st : Stmt} {rest body orelse : List Stmt} {f g : SF} {c : Expr} {tc : TF} {pos : Pos}
def noBk (D : Ends) : Ends := { D with bk := fun _ _ => False }
def SJr (S : Sx) (k : Nat) (N : List Str) (sc : Names) (ret : Md) (C : Addr) (st : Stmt) (f : SF) : Prop :=
  ∀ X, Ctx S k N sc X → ∀ W : WX, Takes X W → ∀ F0 H0 F ρ σ H, Rel S F0 H0 F ρ σ H → ∀ D : Ends, (∀ σ H, D.bk σ H → W (.ref C) none σ H) → (f ρ).wp (SP1 S ret F0 H0 F H D) → rS X st (noBk D) σ H
def BJr (S : Sx) (k : Nat) (N : List Str) (sc : Names) (ret : Md) (C : Addr) (st : List Stmt) (f : SF) : Prop :=
  ∀ X, Ctx S k N sc X → ∀ W : WX, Takes X W → ∀ F0 H0 F ρ σ H, Rel S F0 H0 F ρ σ H → ∀ D : Ends, (∀ σ H, D.bk σ H → W (.ref C) none σ H) → (f ρ).wp (SP1 S ret F0 H0 F H D) → rB X st (noBk D) σ H
/-- never a bk -/
def NoBk (f : SF) : Prop := ∀ ρ (Q : Fl × Ev → Prop), (f ρ).wp Q → (f ρ).wp fun r => r.1 ≠ .bk ∧ Q r
theorem sp_noBk {S : Sx} {ret : Md} {F0 F : Addr → Prop} {H0 H : Hp} {D : Ends} {r : Fl × Ev} (h : r.1 ≠ .bk) (w : SP1 S ret F0 H0 F H D r) : SP1 S ret F0 H0 F H (noBk D) r := by
  obtain ⟨fl, ρ⟩ := r
  cases fl with
  | nx => exact w
  | rt d => exact w
  | bk => exact absurd rfl h
  | ct => exact w
theorem sjr_of (n : NoBk f) (h : SJ S k N sc ret st f) : SJr S k N sc ret C st f := fun X c W tk F0 H0 F ρ σ H R D hD w => h X c F0 H0 F ρ σ H R (noBk D) (Tr.wp_mono (fun r hr => sp_noBk hr.1 hr.2) (n ρ _ w))
theorem bjr_never : BJr S k N sc ret C rest (fun _ => .fail) := fun X c W tk F0 H0 F ρ σ H R D hD w => w.elim
theorem bjr_nil : BJr S k N sc ret C [] sPass := fun X c W tk F0 H0 F ρ σ H R D hD w => bj_nil (ret := ret) X c F0 H0 F ρ σ H R (noBk D) w
theorem bjr_cons (h1 : SJr S k N sc ret C st f) (h2 : BJr S k N sc ret C rest g) : BJr S k N sc ret C (st :: rest) (sSeq f g) := fun X c W tk F0 H0 F ρ σ H R D hD w =>
  .of (pss_cons ps_r pb_r) (h1 X c W tk F0 H0 F ρ σ H R { D with nx := fun σ H => rB X rest (noBk D) σ H } hD (Tr.wp_mono (fun r hr => by
    obtain ⟨fl, ρ'⟩ := r
    cases fl with
    | nx => exact fun F' σ' H' f1 s1 R' => h2 X c W tk F0 H0 F' ρ' σ' H' R' D hD (Tr.wp_mono (fun r hr => hr.le f1 s1) hr)
    | rt d => exact hr
    | bk => exact hr
    | ct => exact hr) (Tr.wp_bind.mp w)))
theorem sjr_if (hc : TJ S k N sc c tc) (ha : BJr S k N sc ret C body f) (hb : BJr S k N sc ret C orelse g) : SJr S k N sc ret C (.If c body orelse pos) (sIf tc f g) := fun X cx W tk F0 H0 F ρ σ H R D hD w =>
  .of (ps_if pt_r pb_r pb_r) (hc X cx F0 H0 F ρ σ H R _ (Tr.wp_mono (fun b hb' F1 H1 l1 => by
    cases b with
    | true => rw [if_pos rfl]; exact ha X cx W tk F0 H0 F1 ρ σ H1 (R.mono l1) D hD (Tr.wp_mono (fun r hr => hr.le l1.f l1.stay) hb')
    | false => rw [if_neg Bool.false_ne_true]; exact hb X cx W tk F0 H0 F1 ρ σ H1 (R.mono l1) D hD (Tr.wp_mono (fun r hr => hr.le l1.f l1.stay) hb')) (Tr.wp_bind.mp w)))
theorem pmk_own0 {X : Cx} {C : Addr} {bmB : List Value} {B newId initId : String} {x : Str} {p pos : Pos} (F : ExcBaseFacts B newId initId bmB) (q : PySem.W.excIn X.K C bmB newId = true) (gC : X.mg x = some (.ref C)) (kC : PySem.W.keepIn X.K (.ref C) = true) (r : Raises X (.ref C)) (hg : Gl X x) (hdb : (x == ("__debug__" : Str)) = false := by decide) :
    PMk X (.Call (.Name x p) [] [] pos) (fun _ H Q => Q (.ref C) none H) := by
  intro pins s σ H Q I h
  refine wpAny_Call_Name_kw (ld_glob I hg gC ?_ hdb)
  refine PySem.W.callWith_K0 (K := X.K) I.kIn kC ?_
  show wpAny _ _ (call (.ref C) []) _ _ _
  obtain ⟨bm, N, nm, qn, bs, hdct, sn, sub, ab, col, dd, k0, k1, k2, k3, k5, mN, hC, hN, hni, T⟩ := exc_obj I.kIn q
  refine wpAny_call_exc_subT F T hC hN hni (fun h' e hm => ?_) (Nat.zero_le _)
  exact mk_of I hm r h (I.hok.gone hm.new)
/-- what must be seen of the class C that is raised -/
structure ExcIn (B : Bx) (C : Addr) (x : Str) : Prop where
  mg : B.mg x = some (.ref C)
  keep : PySem.W.keepIn B.K (.ref C) = true
  sub : PySem.W.subIn B.K (.ref C) (.type "BaseException") = some true
  ty : PySem.W.typeIn B.K (.ref C) = some (.type "type")
  ex : ∃ (T newId initId : String) (bm : List Value), ExcBaseFacts T newId initId bm ∧ PySem.W.excIn B.K C bm newId = true
theorem sjr_raise {S : Sx} {k : Nat} {N : List Str} {sc : Names} {ret : Md} {C : Addr} {x : Str} {p cpos pos : Pos} (E : ExcIn S.B C x) (hg : sc.lookup x = some .globalImplicit) (hdb : (x == ("__debug__" : Str)) = false := by decide) : SJr S k N sc ret C (.Raise (some (.Call (.Name x p) [] [] cpos)) none pos) sRaiseB := fun X c W tk F0 H0 F ρ σ H R D hD w => by
  obtain ⟨T, newId, initId, bm, F1, q⟩ := E.ex
  have hs : PySem.W.subIn X.K (.ref C) (.type "BaseException") = some true := by rw [c.K]; exact E.sub
  have ht : PySem.W.typeIn X.K (.ref C) = some (.type "type") := by rw [c.K]; exact E.ty
  refine .of (ps_raise c.calm tk (pmk_own0 F1 (by rw [c.K]; exact q) (by rw [c.mg]; exact E.mg) (by rw [c.K]; exact E.keep) (raises_own hs ht) (gl_of c hg) hdb)) ?_
  exact hD σ H (w F σ H (fun _ h => h) .refl R)
end
def raisedT : Fl × Ev → Tr Unit
  | (.bk, _) => .ret ()
  | _ => .fail
def runX (n : Nat) (g : SF) (ds : List D) : Tr Unit := (g (ev0 n false ds)).bind raisedT
structure FnX (B : Bx) (k : Nat) (f : Addr) (fd : FuncData) (ps : List Str) (C : Addr) (Φ : List D → Tr Unit) : Prop where
  run : ∀ (A : Around) (outer : List Env) (s : Shared) (H : Hp) (args : Args) (us : List Value) (vs : List V) (ds : List D) (F : Addr → Prop) (E : XK),
    Room k A → A.guards = some [] → Env0 B.P B.w B.K B.mg B.base A outer s H → BindsTo s fd args (ps.zip us) → us.length = ps.length → Vals vs us → Args1 B false F H vs ds → Wf B F H →
    (Φ ds).wp (fun _ => ∀ F' H', Le B F H F' H' → E (.ref C) none H') → codeAny (model B.P B.w) A (.call (.ref f) args) (CR (L2.CX B.P B.w) outer B.P B.w H s (fun _ _ => False) E) s
theorem fnX_of {B : Bx} {k : Nat} {f C : Addr} {name qual : Str} {params : Arguments} {body : List Stmt} {scope : Scope} {dV kV doc pm cdv ct oc : Value} {an od : Option Addr} {osl : Array (Option Value)} {N ps : List Str} {ret : Md} {kd : Nat → Kd} {g : SF}
    (lk : B.K.lookup f = some ⟨oc, od, .func (PySem.W.fnOf name qual params body scope dV kV doc pm an cdv ct), osl⟩) (hcd : PySem.W.codeIn B.K cdv qual = true) (S : FnScope N ps scope)
    (hk : ∀ i, i < ps.length → kd i = .sh) (J : BJr ⟨B, kd, none⟩ k N scope.names ret C body g) :
    FnX B (k + 1) f (PySem.W.fnOf name qual params body scope dV kV doc pm an cdv ct) ps C (runX N.length g) := by
  refine ⟨fun A outer s H args us vs ds F E hr hgd e0 hb hul r ar wf hw => ?_⟩
  unfold runX at hw
  have hl : vs.length = ps.length := by rw [r.length]; exact hul
  have hpl : ps.length ≤ N.length := by have := congrArg List.length S.pre; rw [List.length_take] at this; omega
  have KX : B.K.In s.heap := e0.mod.kin.keeps fun b o e => (e0.bs b o e).1
  have lim : s.heap.NoLimit := e0.mod.nolimit.keeps fun b o e => (e0.bs b o e).1
  have hkind : ∀ y ∈ ps.zip us, scope.names.lookup y.1 = some .local ∨ (scope.names.lookup y.1 = some .cell ∧ ((cellsFrom (s.heap.objs.size + 1) scope.names []).lookup y.1).isSome = true) := fun y hy => by
    obtain ⟨n, v⟩ := y
    exact (S.par n (List.of_mem_zip hy).1).imp id fun q => ⟨q, PySem.W.cellsFrom_some _ _ _ (.inl q)⟩
  have run1 := codeAny_call_function (prog := B.P) (w := B.w) (A := A) hr.depth (KX _ _ lk) rfl S.co S.gen rfl (PySem.W.codeRec_of KX hcd) (R := CR (L2.CX B.P B.w) outer B.P B.w H s (fun _ _ => False) E) (hb _ _ _ _ (
    wpAny_newFunctionEnv_cells S.kind hkind fun env he s1 x => by
      subst he
      refine ⟨lim.keeps x.toInCall.keep, codeAny_func ?_⟩
      have I := inv_start (CX := L2.CX B.P B.w) (E := E) (K := B.K) (mg := B.mg) (base := B.base) S hr.hd e0 hl r x
      have c : Ctx ⟨B, kd, none⟩ k N scope.names (cxOf (L2.CX B.P B.w) B.P B.w B.K B.mg B.base N qual scope f cdv A outer s H E) :=
        ⟨rfl, S.nd, rfl, S.kind, rfl, rfl, rfl, rfl, rfl, rfl, hr.deeper _, hgd, passes_of rfl, fun _ _ => rfl⟩
      have tk : Takes (cxOf (L2.CX B.P B.w) B.P B.w B.K B.mg B.base N qual scope f cdv A outer s H E) (fun cls d _ H => E cls d H) := takes_of rfl rfl rfl rfl
      have R0 := rel_start (B := B) (kd := kd) (hs := false) (N := N) wf ar (by omega) (fun i hi => hk i (by omega))
      have rd := J _ c _ tk F H F _ _ H R0 { nx := fun _ _ => False, rt := fun _ _ => False, bk := fun _ H' => E (.ref C) none H' } (fun _ _ h => h) (Tr.wp_mono (fun fl hfl => ?_) (Tr.wp_bind.mp hw))
      · obtain ⟨t, ht, hq⟩ := rd
        refine wpAny_mono (ht.run [] s1 (L2.start N vs) H _ I hq) (fun fl s' hs' => ?_) fun e s' hs' => hs'
        cases fl with
        | ret u =>
          obtain ⟨v, σ', H', J', rv, q⟩ := hs'
          exact q.elim
        | next =>
          obtain ⟨σ', H', J', q⟩ := hs'
          exact q.elim
        | brk => obtain ⟨_, _, _, q⟩ := hs'; exact q.elim
        | cont => obtain ⟨_, _, _, q⟩ := hs'; exact q.elim
      · obtain ⟨fl, ρ'⟩ := fl
        cases fl with
        | nx => exact hfl.elim
        | rt d => exact hfl.elim
        | bk => intro F' σ' H' _ _ R'; exact hfl F' H' R'.base
        | ct => exact hfl.elim))
  exact run1
end Pv
namespace Pv
open PySem PySem.Spec PyProof.Rows L2
theorem noBk_set {i : Nat} {f : EF} : NoBk (sSet i f) := fun ρ Q w => by
  unfold sSet at w ⊢
  rw [Tr.wp_bind] at w ⊢
  exact Tr.wp_mono (fun d hd => ⟨by simp, hd⟩) w
theorem noBk_unp {is : List Nat} {src : Ev → Tr (List D)} {vs : List Nat} {g : GF} {f : EF} : NoBk (sUnp is src vs g f) := fun ρ Q w => by
  unfold sUnp at w ⊢
  rw [Tr.wp_bind] at w ⊢
  refine Tr.wp_mono (fun ds hd => ?_) w
  rw [Tr.wp_bind] at hd ⊢
  refine Tr.wp_mono (fun out ho => ?_) hd
  obtain ⟨h1, h2⟩ := wp_need.mp ho
  refine wp_need.mpr ⟨h1, ?_⟩
  exact ⟨by simp, h2⟩
section
variable {S : Sx} {k : Nat} {N : List Str} {sc : Names} {X : Cx}
/-- the call of a def that raises, where W takes what is raised -/
theorem call_x {np : Nat} {x : Str} {p pos : Pos} {C : Addr} {W : WX} {Φ : List D → Tr Unit} {e : Expr} {es : List Expr} {t : TA} {f : Addr} {fd : FuncData} {ps : List Str} (c : Ctx S k N sc X) (tk : Takes X W)
    (hm : S.B.mg x = some (.ref f)) (hk : PySem.W.keepIn S.B.K (.ref f) = true) (hb : Binds S.B.K fd ps []) (G : FnX S.B k f fd ps C Φ) (hg : X.env.scope.names.lookup x = some .globalImplicit)
    (hdb : (x == ("__debug__" : Str)) = false) (he : starEach (e :: es) X.env = (false, eval e X.env) :: starEach es X.env) (hpl : (backTo pos (starEach es X.env)).any (·.1) = false) (ha : PA X (e :: es) t) :
    PE X (.Call (.Name x p) (e :: es) [] pos) (fun σ H _ => t σ H fun vs H1 => ∃ F1 ds, vs.length = ps.length ∧ Wf S.B F1 H1 ∧ Args1 S.B false F1 H1 vs ds ∧ (Φ ds).wp (fun _ => ∀ F' H', Le S.B F1 H1 F' H' → W (.ref C) none σ H')) := by
  refine ⟨fun pins s σ H Q I h => ?_⟩
  refine wpAny_Call_Name_kw (ld_glob I hg (by rw [c.mg]; exact hm) ?_ hdb)
  refine PySem.W.callWith_K (h₀ := X.base) I.ok.mod.kin (by rw [c.K]; exact hk) (thn (ha.run pos pins s σ H _ I h) fun us s1 ⟨vs, H1, I1, r, q⟩ => ⟨I1.kIn, ?_⟩) he hpl
  obtain ⟨F1, ds, hlen, wf, ar, w⟩ := q
  have hl : us.length = ps.length := by rw [← r.length]; exact hlen
  have kin := I1.kIn
  have e0 := I1.env0
  rw [c.P, c.w, c.K, c.mg, c.base] at e0
  rw [c.K] at kin
  refine wpAny_call ?_
  rw [c.P, c.w]
  have bb := hb s1 us kin (by simpa using hl)
  rw [List.append_nil] at bb
  refine codeAny_mono (G.run X.A X.stack s1 H1 ⟨us, []⟩ us vs ds F1 (WE W σ) c.room c.gd e0 bb hl r ar wf w) fun r s' hq => ?_
  cases r with
  | error e =>
    have hq' : L2.CX X.prog X.w X.stack H1 s1 (WE W σ) e s' := by rw [c.P, c.w]; exact hq
    exact passAt tk σ pins H1 s1 e s' I1 hq'
  | ok fl =>
    cases fl with
    | ret u =>
      have hq' : CE X.stack X.prog X.w H1 s1 (fun _ _ => False) u s' := by rw [c.P, c.w]; exact hq
      obtain ⟨v, σ', H', J', q⟩ := I1.after hq'
      exact q.elim
    | next => exact hq.elim
    | brk => exact hq.elim
    | cont => exact hq.elim
end
end Pv

namespace Pv
open PySem PySem.Spec PyProof.Rows L2
/-- the suite: return isinstance(e, A) and isinstance(e, T) -/
theorem suite_isa {X : Cx} {a C A2 : Addr} {oe : Obj} {pn : List (Addr × Obj)} {T : String} {i : Nat} {n xa xt : Str} {p1 p2 p3 p4 p5 p6 q1 q2 bp rp : Pos} (EC : ExcC X.K C) (hf : ∃ vs, oe.data = .fields vs) (hN : X.N[i]? = some n) (hv : Vis X.env.scope n) (hd : (n == ("__debug__" : Str)) = false) (hcd : (n == ("__classdict__" : Str)) = false)
    (gi : Gl X ("isinstance" : Str)) (mi : X.mg "isinstance" = none) (ga : Gl X xa) (ma : X.mg xa = some (.ref A2)) (da : (xa == ("__debug__" : Str)) = false) (ka : PySem.W.kitOne X.K (.ref C) (.ref A2) = some true)
    (gt : Gl X xt) (mt : X.mg xt = none) (bt : bootBuiltins xt = some (.type T)) (nt : xt ≠ "__name__") (dt : (xt == ("__debug__" : Str)) = false) (kt : PySem.W.kitOne X.K (.ref C) (.type T) = some true) (cls : Value) (d : Option Addr) (hz : Zc cls d oe) :
    PSs (X.suite a ((a, oe) :: pn)) [.Return (some (.BoolOp .And [.Call (.Name "isinstance" p1) [.Name n p2, .Name xa p3] [] q1, .Call (.Name "isinstance" p4) [.Name n p5, .Name xt p6] [] q2] bp)) rp]
      (fun D σ H => cls = .ref C ∧ d = none ∧ σ[i]? = some (some (.ref a)) ∧ D.rt (.bl true) H) := by
  refine ⟨fun pins s σ H D I h => ?_⟩
  obtain ⟨rfl, rfl, hi, q⟩ := h
  have ci := call_isE (a := a) EC hz hf (pn := pn)
  have e1 : PE (X.suite a ((a, oe) :: pn)) (.Call (.Name "isinstance" p1) [.Name n p2, .Name xa p3] [] q1) _ := pe_callB ci gi mi boot_isinstance (pa_cons (pe_var (i := i) hN hv hd hcd) (pa_cons (pe_glob (v := .ref A2) ga ma rfl da) pa_nil rfl) rfl) (by decide) (by decide) rfl rfl
  have e2 : PE (X.suite a ((a, oe) :: pn)) (.Call (.Name "isinstance" p4) [.Name n p5, .Name xt p6] [] q2) _ := pe_callB ci gi mi boot_isinstance (pa_cons (pe_var (i := i) hN hv hd hcd) (pa_cons (pe_bltn (v := .ty T) gt mt bt rfl nt dt) pa_nil rfl) rfl) (by decide) (by decide) rfl rfl
  refine (pss_one (ps_ret (pe_and e1 (pe_one e2)))).run pins s σ H D I ?_
  refine ⟨.ref a, hi, .ref A2, .ref A2, true, rfl, fun u hu => hu, ka, true, rfl, ?_⟩
  rw [if_pos rfl]
  exact ⟨.ref a, hi, .ty T, .type T, true, rfl, fun u hu => hu, kt, q⟩
def SJT (S : Sx) (k : Nat) (N : List Str) (sc : Names) (ret : Md) (st : Stmt) (g : SF) : Prop :=
  ∀ X, Ctx S k N sc X → X.stack = X.env :: X.outer → X.env.frame = some X.env.locals → ∀ F0 H0 F ρ σ H, Rel S F0 H0 F ρ σ H → ∀ D : Ends, (g ρ).wp (SP1 S ret F0 H0 F H D) → rS X st D σ H
def BJT (S : Sx) (k : Nat) (N : List Str) (sc : Names) (ret : Md) (st : List Stmt) (g : SF) : Prop :=
  ∀ X, Ctx S k N sc X → X.stack = X.env :: X.outer → X.env.frame = some X.env.locals → ∀ F0 H0 F ρ σ H, Rel S F0 H0 F ρ σ H → ∀ D : Ends, (g ρ).wp (SP1 S ret F0 H0 F H D) → rB X st D σ H
section
variable {S : Sx} {k : Nat} {N : List Str} {sc : Names} {ret : Md} {st : Stmt} {rest : List Stmt} {f g : SF}
theorem bjt_cons (h1 : SJT S k N sc ret st f) (h2 : BJ S k N sc ret rest g) : BJT S k N sc ret (st :: rest) (sSeq f g) := fun X c hs hf F0 H0 F ρ σ H R D w =>
  .of (pss_cons ps_r pb_r) (h1 X c hs hf F0 H0 F ρ σ H R _ (Tr.wp_mono (fun r hr => by
    obtain ⟨fl, ρ'⟩ := r
    cases fl with
    | nx => exact fun F' σ' H' f1 s1 R' => h2 X c F0 H0 F' ρ' σ' H' R' D (Tr.wp_mono (fun r hr => hr.le f1 s1) hr)
    | rt d => exact hr
    | bk => exact hr
    | ct => exact hr) (Tr.wp_bind.mp w)))
/-- a def that raises, by its name -/
structure DefX (B : Bx) (k : Nat) (x : Str) (np : Nat) (C : Addr) (Φ : List D → Tr Unit) : Prop where
  ex : ∃ f fd ps, B.mg x = some (.ref f) ∧ PySem.W.keepIn B.K (.ref f) = true ∧ Binds B.K fd ps [] ∧ ps.length = np ∧ FnX B k f fd ps C Φ
/-- what must be seen of the classes that the suite asks of -/
structure SuiteIn (B : Bx) (C : Addr) (xc xa xt : Str) (T : String) : Prop where
  e : ExcIn B C xc
  x : ExcC B.K C
  self : PySem.W.exmOne B.K (.ref C) (.ref C) = some true
  a : ∃ A2, B.mg xa = some (.ref A2) ∧ PySem.W.kitOne B.K (.ref C) (.ref A2) = some true
  t : B.mg xt = none ∧ bootBuiltins xt = some (.type T) ∧ xt ≠ "__name__" ∧ (xt == ("__debug__" : Str)) = false ∧ PySem.W.kitOne B.K (.ref C) (.type T) = some true
  mi : B.mg "isinstance" = none
def sTryT (i : Nat) (ga : AF) (Φ : List D → Tr Unit) : SF := fun ρ => need (i < ρ.length) <| (ga ρ).bind fun ds => (Φ ds).bind fun _ => .ret (.rt (.bool true), ρ)
theorem sjt_try {x xc xa xt n : Str} {T : String} {C : Addr} {np i : Nat} {e : Expr} {es : List Expr} {ga : AF} {Φ : List D → Tr Unit} {p pos1 pos2 cp p1 p2 p3 p4 p5 p6 q1 q2 bp rp hp pos : Pos} (D1 : DefX S.B k x np C Φ) (I : SuiteIn S.B C xc xa xt T) (h : AJ S k N sc (e :: es) ga)
    (hg : sc.lookup x = some .globalImplicit) (hdb : (x == ("__debug__" : Str)) = false) (he : ∀ env : Env, starEach (e :: es) env = (false, eval e env) :: starEach es env) (hpl : ∀ env : Env, (backTo pos1 (starEach es env)).any (·.1) = false) (hn : ∀ ρ (Q : List D → Prop), (ga ρ).wp Q → (ga ρ).wp fun ds => ds.length = np ∧ Q ds)
    (hN : N[i]? = some n) (hl : sc.lookup n = some .local) (hd : (n == ("__debug__" : Str)) = false) (hcd : (n == ("__classdict__" : Str)) = false) (hgc : sc.lookup xc = some .globalImplicit) (hdc : (xc == ("__debug__" : Str)) = false) (hga : sc.lookup xa = some .globalImplicit) (hda : (xa == ("__debug__" : Str)) = false) (hgt : sc.lookup xt = some .globalImplicit) (hgi : sc.lookup ("isinstance" : Str) = some .globalImplicit)
    (hsw : ∀ env : Env, swapsWith (.Call (.Name x p) (e :: es) [] pos1) none pos2.line env = pure false) :
    SJT S k N sc ret (.Try [.Expr (.Call (.Name x p) (e :: es) [] pos1) pos2] [.ExceptHandler (some (.Name xc cp)) (some n) [.Return (some (.BoolOp .And [.Call (.Name "isinstance" p1) [.Name n p2, .Name xa p3] [] q1, .Call (.Name "isinstance" p4) [.Name n p5, .Name xt p6] [] q2] bp)) rp] hp] [] [] pos) (sTryT i ga Φ) := fun X c hs hf F0 H0 F ρ σ H R D w => by
  obtain ⟨hiL, w⟩ := wp_need.mp w
  obtain ⟨f, fd, ps, d1, d2, d3, d4, G⟩ := D1.ex
  obtain ⟨A2, a1, a2⟩ := I.a
  obtain ⟨t1, t2, t3, t4, t5⟩ := I.t
  let tA : WX → TA := fun W σ H Q => ∀ pn xe, Takes (X.tr pn xe) W → PassesOwn (model X.prog X.w) X.A X.env xe → rA (X.tr pn xe) (e :: es) σ H Q
  have cY : ∀ pn xe, PassesOwn (model X.prog X.w) X.A X.env xe → Ctx S k N sc (X.tr pn xe) := fun pn xe po => ⟨c.hN, c.nd, c.sc, c.kind, c.P, c.w, c.K, c.mg, c.base, c.calm, c.room, c.gd, po, c.fnw⟩
  refine .of (ps_try_as (i := i) (c := .ref C) (Wout := fun _ _ _ _ => False) (tb := fun W => tDrop (fun σ H _ => tA W σ H fun vs H1 => ∃ F1 ds, vs.length = ps.length ∧ Wf S.B F1 H1 ∧ Args1 S.B false F1 H1 vs ds ∧ (Φ ds).wp (fun _ => ∀ F' H', Le S.B F1 H1 F' H' → W (.ref C) none σ H')))
    (ts := fun a cls d => fun D σ H => cls = .ref C ∧ d = none ∧ σ[i]? = some (some (.ref a)) ∧ D.rt (.bl true) H) hs hf c.nd (by rw [c.hN]; exact hN) (by show X.env.scope.names.lookup n = _; rw [c.sc]; exact hl) ⟨gl_of c hgc, hdc, .inl (by rw [c.mg]; exact I.e.mg)⟩ (fun u s' ⟨_, _, _, _, _, _, _, _, _, _, _, _, _, _, _, _, z⟩ => z.elim) (fun W pn xe tkW po => ?_) (fun a oe cls d pn hz hfl => ?_)) ?_
  · refine pss_one (ps_expr (call_x (np := 0) (cY pn xe po) tkW d1 d2 d3 G (by show X.env.scope.names.lookup x = _; rw [c.sc]; exact hg) hdb (he _) (hpl _) ⟨fun pos pins s σ H Q I h => pa_r.run pos pins s σ H Q I (h pn xe tkW po)⟩) (hsw _))
  · exact suite_isa (i := i) (A2 := A2) (by rw [c.K]; exact I.x) hfl (by rw [c.hN]; exact hN) (by unfold Vis; rw [c.sc]; exact .inl hl) hd hcd (gl_of c hgi) (by rw [c.mg]; exact I.mi) (gl_of c hga) (by rw [c.mg]; exact a1) hda (by rw [c.K]; exact a2) (gl_of c hgt) (by rw [c.mg]; exact t1) t2 t3 t4 (by rw [c.K]; exact t5) cls d hz
  · intro pn xe tkW po
    refine h _ (cY pn xe po) F0 H0 F ρ σ H R _ (Tr.wp_mono (fun ds hds F1 vs H1 l1 q1 => ?_) (hn ρ _ (Tr.wp_bind.mp w)))
    obtain ⟨hlen, hds⟩ := hds
    refine ⟨F1, ds, by rw [q1.length, hlen]; exact d4.symm, l1.wf', q1, Tr.wp_mono (fun _ hu F' H' l2 => ?_) (Tr.wp_bind.mp hds)⟩
    refine ⟨true, by rw [c.K]; exact I.self, fun _ a na => ⟨rfl, rfl, ?_, ?_⟩, fun z => by cases z⟩
    · rw [List.getElem?_set_self (by rw [R.len]; exact hiL)]
    · have l := l1.trans l2
      exact hu F' (.bl true) H' l.f l.stay (R.base.trans l) (by
        cases ret with
        | bor => exact res_any
        | frz => exact res_any
        | own => exact res_any)
end
theorem fnG_ofT {B : Bx} {k : Nat} {f : Addr} {name qual : Str} {params : Arguments} {body : List Stmt} {scope : Scope} {dV kV doc pm cdv ct oc : Value} {an od : Option Addr} {osl : Array (Option Value)} {N ps : List Str} {ret : Md} {hs : Bool} {kd : Nat → Kd} {g : SF}
    (lk : B.K.lookup f = some ⟨oc, od, .func (PySem.W.fnOf name qual params body scope dV kV doc pm an cdv ct), osl⟩) (hcd : PySem.W.codeIn B.K cdv qual = true) (S : FnScope N ps scope)
    (hk : ∀ i, i < ps.length → kd i = .sh) (hret : ret ≠ .bor) (J : BJT ⟨B, kd, if hs then some 0 else none⟩ k N scope.names ret body g) :
    FnG B (k + 1) f (PySem.W.fnOf name qual params body scope dV kV doc pm an cdv ct) ps ret hs (runF N.length hs g) := by
  refine ⟨fun A outer s H args us vs ds F Q hr hgd e0 hb hul r ar wf hw => ?_⟩
  unfold runF at hw
  have hl : vs.length = ps.length := by rw [r.length]; exact hul
  have hpl : ps.length ≤ N.length := by have := congrArg List.length S.pre; rw [List.length_take] at this; omega
  have KX : B.K.In s.heap := e0.mod.kin.keeps fun b o e => (e0.bs b o e).1
  have lim : s.heap.NoLimit := e0.mod.nolimit.keeps fun b o e => (e0.bs b o e).1
  have hkind : ∀ y ∈ ps.zip us, scope.names.lookup y.1 = some .local ∨ (scope.names.lookup y.1 = some .cell ∧ ((cellsFrom (s.heap.objs.size + 1) scope.names []).lookup y.1).isSome = true) := fun y hy => by
    obtain ⟨n, v⟩ := y
    exact (S.par n (List.of_mem_zip hy).1).imp id fun q => ⟨q, PySem.W.cellsFrom_some _ _ _ (.inl q)⟩
  have run1 := codeAny_call_function (prog := B.P) (w := B.w) (A := A) hr.depth (KX _ _ lk) rfl S.co S.gen rfl (PySem.W.codeRec_of KX hcd) (R := CR CX0 outer B.P B.w H s Q E0) (hb _ _ _ _ (
    wpAny_newFunctionEnv_cells S.kind hkind fun env he s1 x => by
      subst he
      refine ⟨lim.keeps x.toInCall.keep, codeAny_func ?_⟩
      have I := inv_start (CX := CX0) (E := E0) (K := B.K) (mg := B.mg) (base := B.base) S hr.hd e0 hl r x
      have c : Ctx ⟨B, kd, if hs then some 0 else none⟩ k N scope.names (cxOf CX0 B.P B.w B.K B.mg B.base N qual scope f cdv A outer s H E0).nox :=
        ⟨rfl, S.nd, rfl, S.kind, rfl, rfl, rfl, rfl, rfl, rfl, hr.deeper _, hgd, PassesOwn.never, fun _ _ => rfl⟩
      have R0 := rel_start (B := B) (kd := kd) (N := N) wf ar (by omega) (fun i hi => hk i (by omega))
      have rd := J _ c rfl rfl F H F _ _ H R0 { nx := fun _ H' => Q .non H', rt := Q } (Tr.wp_mono (fun fl hfl => ?_) (Tr.wp_bind.mp hw))
      · obtain ⟨t, ht, hq⟩ := rd
        refine wpAny_mono (ht.nox.run [] s1 (L2.start N vs) H _ I hq) (fun fl s' hs' => ?_) fun e s' hs' => hs'
        cases fl with
        | ret u =>
          obtain ⟨v, σ', H', J', rv, q⟩ := hs'
          exact ⟨v, H', J'.os, J'.bare, J'.base, J'.hok, rv, q⟩
        | next =>
          obtain ⟨σ', H', J', q⟩ := hs'
          exact ⟨.non, H', J'.os, J'.bare, J'.base, J'.hok, rfl, q⟩
        | brk => obtain ⟨_, _, _, q⟩ := hs'; exact q.elim
        | cont => obtain ⟨_, _, _, q⟩ := hs'; exact q.elim
      · obtain ⟨fl, ρ'⟩ := fl
        cases fl with
        | nx =>
          intro F' σ' H' _ _ R'
          refine hfl F' .non H' R'.base ?_
          cases ret with
          | bor => exact absurd rfl hret
          | frz => exact .non
          | own => exact ⟨.non, fun z => by cases z⟩
        | rt d => intro F' v H' _ _ l q; exact hfl F' v H' l q
        | bk => exact hfl.elim
        | ct => exact hfl.elim))
  exact run1
theorem def_inT {B : Bx} {k : Nat} {x : Str} {st : Stmt} {N ps : List Str} {ret : Md} {hs : Bool} {kd : Nat → Kd} {g : SF} (F : ∃ f fd, B.mg x = some (.ref f) ∧ Fun B.K x x st f fd) (hb : ∀ (kV doc pm : Value) (an : Option Addr) (cdv ct : Value) (us : List Value), us.length = ps.length → bindArgs (PySem.W.fnOf x x (defArgs st) (defBody st) (defScope st) .none kV doc pm an cdv ct) ⟨us, []⟩ = pure (ps.zip us))
    (S : FnScope N ps (defScope st)) (hk : (List.range ps.length).all (fun i => decide (kd i = .sh)) = true) (hret : ret ≠ .bor) (J : BJT ⟨B, kd, if hs then some 0 else none⟩ k N (defScope st).names ret (defBody st) g) : DefIn B (k + 1) x ps.length ret hs (runF N.length hs g) := by
  obtain ⟨f, fd, h1, h2⟩ := F
  have hbd := h2.binds (ps := ps) hb
  obtain ⟨oc, od, kV, doc, pm, an, cdv, ct, osl, rfl, lk, hcd⟩ := h2.ex
  exact ⟨f, _, ps, h1, h2.kp, hbd, rfl, fnG_ofT lk hcd S (fun i hi => by have := List.all_eq_true.mp hk i (List.mem_range.mpr hi); exact of_decide_eq_true this) hret J⟩
theorem def_inX {B : Bx} {k : Nat} {x : Str} {st : Stmt} {N ps : List Str} {ret : Md} {kd : Nat → Kd} {g : SF} {C : Addr} (F : ∃ f fd, B.mg x = some (.ref f) ∧ Fun B.K x x st f fd) (hb : ∀ (kV doc pm : Value) (an : Option Addr) (cdv ct : Value) (us : List Value), us.length = ps.length → bindArgs (PySem.W.fnOf x x (defArgs st) (defBody st) (defScope st) .none kV doc pm an cdv ct) ⟨us, []⟩ = pure (ps.zip us))
    (S : FnScope N ps (defScope st)) (hk : (List.range ps.length).all (fun i => decide (kd i = .sh)) = true) (J : BJr ⟨B, kd, none⟩ k N (defScope st).names ret C (defBody st) g) : DefX B (k + 1) x ps.length C (runX N.length g) := by
  obtain ⟨f, fd, h1, h2⟩ := F
  have hbd := h2.binds (ps := ps) hb
  obtain ⟨oc, od, kV, doc, pm, an, cdv, ct, osl, rfl, lk, hcd⟩ := h2.ex
  exact ⟨f, _, ps, h1, h2.kp, hbd, rfl, fnX_of lk hcd S (fun i hi => by have := List.all_eq_true.mp hk i (List.mem_range.mpr hi); exact of_decide_eq_true this) J⟩
theorem DefX.lift {B : Bx} {j k : Nat} {x : Str} {np : Nat} {C : Addr} {Φ : List D → Tr Unit} (h : DefX B j x np C Φ) (l : j ≤ k) : DefX B k x np C Φ := by
  obtain ⟨f, fd, ps, h1, h2, h3, h4, h5⟩ := h.ex
  exact ⟨f, fd, ps, h1, h2, h3, h4, ⟨fun A outer s H args us vs ds F E a => h5.run A outer s H args us vs ds F E (a.mono l)⟩⟩
theorem SuiteIn.at {B : Bx} {C : Addr} {xc xa xt : Str} {T : String} (h : SuiteIn B C xc xa xt T) (A L : Addr) : SuiteIn (B.at A L) C xc xa xt T := ⟨⟨h.e.mg, h.e.keep, h.e.sub, h.e.ty, h.e.ex⟩, h.x, h.self, h.a, h.t, h.mi⟩
end Pv

namespace Pv
open PySem PySem.Spec PyProof.Rows L2
theorem suite_mk {B : Bx} {C A2 : Addr} {xc xa xt : Str} {T T0 newId initId : String} {bm : List Value} (F : ExcBaseFacts T0 newId initId bm) (m1 : B.mg xc = some (.ref C)) (m2 : B.mg xa = some (.ref A2)) (m3 : B.mg xt = none) (m4 : B.mg "isinstance" = none)
    (bt : bootBuiltins xt = some (.type T)) (nt : xt ≠ "__name__") (dt : (xt == ("__debug__" : Str)) = false) (kp : PySem.W.keepIn B.K (.ref C) = true) (sb : PySem.W.subIn B.K (.ref C) (.type "BaseException") = some true) (ty : PySem.W.typeIn B.K (.ref C) = some (.type "type")) (xi : PySem.W.excIn B.K C bm newId = true)
    (hg : PySem.W.findIn B.K (.ref C) "__getattribute__" = some (some (.builtin "BaseException.__getattribute__"))) (hk : PySem.W.findIn B.K (.ref C) "__getattr__" = some none) (hd : PySem.W.hasDictIn B.K C = true) (ha : PySem.W.findIn B.K (.ref C) "__class__" = some (some (.builtin "object.__class__")))
    (hn : PySem.W.specialIn B.K (.builtin "object.__class__") "__get__" = some (some (.builtin "getset_descriptor.__get__"))) (ht : PySem.W.takesIn B.K (.builtin "object.__class__") = some true) (hm : PySem.W.mroIn B.K C (.type "object") = some true)
    (ss : PySem.W.subIn B.K (.ref C) (.ref C) = some true) (k1 : PySem.W.kitOne B.K (.ref C) (.ref A2) = some true) (k2 : PySem.W.kitOne B.K (.ref C) (.type T) = some true) : SuiteIn B C xc xa xt T :=
  ⟨⟨m1, kp, sb, ty, T0, newId, initId, bm, F, xi⟩, ⟨hg, hk, sb, hd, ha, hn, ht, hm⟩, PySem.W.exm_ref sb hd ty ss, ⟨A2, m2, k1⟩, ⟨m3, bt, nt, dt, k2⟩, m4⟩
end Pv

namespace Pv
open PySem PySem.Spec PyProof.Rows L2
mutual
/-- leaves, tuples and empty dicts -/
def canT : D → Bool
  | .none => true
  | .bool _ => true
  | .int _ => true
  | .str x => (PyData.str x).canLay0
  | .tuple xs => canTAll xs
  | .dict kvs => kvs.isEmpty
  | .list _ => false
def canTAll : List D → Bool
  | [] => true
  | x :: xs => canT x && canTAll xs
end
section
variable {X : Cx} {pins : List (Addr × Obj)} {σ : L2.St} {H : Hp} {s : Shared} {F : Addr → Prop}
theorem reads_dict0 (I : Inv X pins σ H s) {a : Addr} (r : Rd H a (.dK [])) : ∃ as, Reads s.heap (.ref a) (.dict []) as ∧ sysModules ∉ as := by
  obtain ⟨_, hd, vs, rel, ob, es, ep, h1, h2, h3, h4, h5, h6⟩ := dk_rd I.hok r
  cases rel
  have e0 : es.toList = [] := by
    cases q : es.toList with
    | nil => rfl
    | cons x xs => rw [q] at h5; cases h5
  refine ⟨_, Reads.dict (kvs := []) (as := []) (bs := []) h1 h2.1 h3 (by rw [e0]; exact ReadsAll.nil) (by rw [e0]; exact ReadsAll.nil), ?_⟩
  intro z
  have z : sysModules ∈ [a] := z
  rw [List.mem_singleton] at z
  rw [← z] at hd
  simp at hd
mutual
theorem Has.readsT (I : Inv X pins σ H s) : ∀ {v : V} {d : D} {u : Value}, Has X.K F H v d → canT d = true → RelV v u → ∃ as, Reads s.heap u d as ∧ sysModules ∉ as
  | _, _, _, .non, _, r => by cases r; exact ⟨_, Reads.none, by simp⟩
  | _, _, _, .bl b, _, r => by cases r; exact ⟨_, Reads.bool b, by simp⟩
  | _, _, _, .int i, _, r => by obtain ⟨t, rfl⟩ := r; exact ⟨_, Reads.int i t, by simp⟩
  | _, _, _, .str x, _, r => by obtain ⟨t, rfl⟩ := r; exact ⟨_, Reads.str x t, by simp⟩
  | _, _, _, .lst _ _ _, h, _ => by cases h
  | _, _, _, .tup ra l, h, r => by
    cases r
    obtain ⟨its, rv, ⟨o, ho, hc, n, hd⟩, _⟩ := I.tuple (SqT.of ra)
    obtain ⟨as, hr, hn⟩ := HasAll.readsT I l (by simpa only [canT] using h) rv
    exact ⟨_, Reads.tuple ho hc hd hr, hn⟩
  | _, _, _, .dK (kvs := kvs) (ds := ds) _ rd e _, h, r => by
    cases r
    cases ds with
    | cons _ _ => simp [canT] at h
    | nil =>
      cases kvs with
      | nil => exact reads_dict0 I rd
      | cons _ _ => simp at e
  | _, _, _, .dT (kvs := kvs) (ds := ds) _ _ ne e _, h, _ => by
    cases ds with
    | cons _ _ => simp [canT] at h
    | nil =>
      cases kvs with
      | nil => exact absurd rfl ne
      | cons _ _ => simp at e
theorem HasAll.readsT (I : Inv X pins σ H s) : ∀ {vs : List V} {ds : List D} {us : List Value}, HasAll X.K F H vs ds → canTAll ds = true → Vals vs us → ∃ as, ReadsAll s.heap us ds as ∧ sysModules ∉ as
  | _, _, _, .nil, _, r => by cases r; exact ⟨_, ReadsAll.nil, by simp⟩
  | _, _, _, .cons h1 h2, h, r => by
    simp only [canTAll, Bool.and_eq_true] at h
    cases r with
    | cons r1 r2 =>
      obtain ⟨as, q1, n1⟩ := Has.readsT I h1 h.1 r1
      obtain ⟨bs, q2, n2⟩ := HasAll.readsT I h2 h.2 r2
      exact ⟨_, ReadsAll.cons q1 q2, by simp [n1, n2]⟩
end
theorem BorV.readsT {B : Bx} (hK : X.K = B.K) (I : Inv X pins σ H s) {v : V} {d : D} {u : Value} (b : BorV B F H v d) (h : canT d = true) (r : RelV v u) : ∃ as, Reads s.heap u d as ∧ sysModules ∉ as := by
  cases d with
  | list ds => cases h
  | dict ds =>
    obtain ⟨a, rfl, _, q⟩ := b
    cases ds with
    | cons _ _ => simp [canT] at h
    | nil =>
      cases r
      rcases q with ⟨kvs, rd, e, _⟩ | ⟨kvs, rd, ne, e, _⟩
      · cases kvs with
        | nil => exact reads_dict0 I rd
        | cons _ _ => simp at e
      · cases kvs with
        | nil => exact absurd rfl ne
        | cons _ _ => simp at e
  | none => exact Has.readsT (F := F) I (by rw [hK]; exact b) h r
  | bool _ => exact Has.readsT (F := F) I (by rw [hK]; exact b) h r
  | int _ => exact Has.readsT (F := F) I (by rw [hK]; exact b) h r
  | str _ => exact Has.readsT (F := F) I (by rw [hK]; exact b) h r
  | tuple _ => exact Has.readsT (F := F) I (by rw [hK]; exact b) h r
end
def isTD : D → Bool
  | .tuple _ => true
  | .dict _ => true
  | _ => false
def okShowT (d : D) : Prop := (isTD d = true ∧ canT d = true) ∧ d.depth ≤ 64 ∧ d.showable = true ∧ d.shown.length ≤ lim
instance (d : D) : Decidable (okShowT d) := inferInstanceAs (Decidable (_ ∧ _))
def reprD2 (d : D) : Tr D := need (okShow d ∨ okShowT d) (.ret (.str d.shown))
theorem callr_reprT {B : Bx} {F : Addr → Prop} {X : Cx} (hK : X.K = B.K) (hg : X.A.guards = some []) (hu : X.A.units + 200 < cLine) : CallR X (.builtin "repr") (fun vs H Q => ∃ v d, vs = [v] ∧ BorV B F H v d ∧ okShowT d ∧ Q (.str d.shown) H) := fun pins s σ H vs us Q I rv ⟨v, d, ev, b, ok, q⟩ => by
  subst ev
  obtain ⟨u, rfl, ru⟩ := vals1 rv
  obtain ⟨⟨h0, h1⟩, h2, h3, h4⟩ := ok
  obtain ⟨as, rd, hn⟩ := b.readsT hK I h1 ru
  have h4 : d.shown.length ≤ sizeLine := by rw [← lim_eq]; exact h4
  have road : ∀ a, u = .ref a → wpAny (model X.prog X.w) X.A (call (.builtin "repr") [u]) (EP X pins σ Q) X.xe s := fun a e => by
    subst e
    exact repr_of_reads' rd h3 (fun _ => hn) hg (by omega) (fun _ _ e => e) (fun h' u tk hk => ⟨.str d.shown, H, I.kept (t' := tk) hk, ⟨u, rfl⟩, q⟩) h4
  cases rd with
  | tuple _ _ _ _ => exact road _ rfl
  | dict _ _ _ _ _ => exact road _ rfl
  | none => cases h0
  | bool _ => cases h0
  | int _ _ => cases h0
  | str _ _ => cases h0
  | list _ _ _ _ => cases h0
section
variable {S : Sx} {k : Nat} {N : List Str} {sc : Names}
theorem br_repr2 : BR S k N sc (.builtin "repr") .own (fn1 reprD2) := br1 fun X c F H v d Q wf b w => by
  obtain ⟨ok, w⟩ := wp_need.mp w
  rcases ok with ok | ok
  · exact ⟨_, callr_repr c.gd c.hu, v, d, rfl, by rw [c.K]; exact b.dp (okShow_ok ok).1, ok, w F _ H (.refl wf) res_str⟩
  · exact ⟨_, callr_reprT (F := F) c.K c.gd c.hu, v, d, rfl, b, ok, w F _ H (.refl wf) res_str⟩
def isaD2 (f : D → Bool) (d : D) : Tr D := need (d.canLay0 = true ∨ canT d = true) (.ret (.bool (f d)))
theorem callr_isa2 {B : Bx} {X : Cx} {T : String} {f : D → Bool} (hK : X.K = B.K) (L : IsaLem T f) : CallR X (.builtin "isinstance") (fun vs H Q => ∃ (F : Addr → Prop) (v : V) (d : D), vs = [v, .ty T] ∧ BorV B F H v d ∧ (d.canLay0 = true ∨ canT d = true) ∧ Q (.bl (f d)) H) := fun pins s σ H vs us Q I rv ⟨F, v, d, ev, b, ok, q⟩ => by
  subst ev
  obtain ⟨u1, u2, rfl, r1, r2⟩ := vals2 rv
  cases r2
  have : ∃ as, Reads s.heap u1 d as := by
    rcases ok with ok | ok
    · exact Dp.reads I d v u1 (by rw [hK]; exact b.dp ok) r1
    · obtain ⟨as, r, _⟩ := b.readsT hK I ok r1; exact ⟨as, r⟩
  obtain ⟨as, rd⟩ := this
  exact L rd fun tk _ => ⟨.bl _, H, I.kept (t' := tk) fun _ _ z => z, rfl, q⟩
theorem ej_isa2 {e : Expr} {fe : EF} {m : Md} {T : String} {f : D → Bool} {x : Str} {p p2 pos : Pos} (L : IsaLem T f) (hv : bootBuiltins x = some (.type T)) (hx : x ≠ "__name__") (hdb : (x == ("__debug__" : Str)) = false) (hgx : sc.lookup x = some .globalImplicit) (hmx : S.B.mg x = none)
    (hg : sc.lookup ("isinstance" : Str) = some .globalImplicit) (hm : S.B.mg "isinstance" = none) (he : EJ S k N sc e m fe) (hs : ∀ env : Env, starEach [e, .Name x p2] env = (false, eval e env) :: starEach [.Name x p2] env) (hpl : ∀ env : Env, (backTo pos (starEach [.Name x p2] env)).any (·.1) = false) :
    EJ S k N sc (.Call (.Name "isinstance" p) [e, .Name x p2] [] pos) .own (op1 (isaD2 f) fe) := fun X c F0 H0 F ρ σ H R Q w =>
  .of (pe_callB (callr_isa2 c.K L) (gl_of c hg) (mg_of c hm) boot_isinstance (pa_cons pe_r (pa_cons (pe_bltn (v := .ty T) (gl_of c hgx) (mg_of c hmx) hv rfl hx hdb) pa_nil rfl) (hs _)) (by decide) (by decide) (hs _) (hpl _)) (he X c F0 H0 F ρ σ H R _ (Tr.wp_mono (fun d hd F1 v H1 l1 q1 => by
    obtain ⟨ok, hd⟩ := wp_need.mp hd
    exact ⟨F1, v, d, rfl, Res.bor l1.wf' q1, ok, hd F1 _ H1 l1 res_bl⟩) (Tr.wp_bind.mp w)))
def neD2 (d e : D) : Tr D := match d, e with
  | .list (_ :: _), .list [] => .ret (.bool true)
  | d, e => neD d e
theorem op_neL {X : Cx} (hu : X.A.units < cLine) : OpR X (compareOp .NotEq) (fun x y H Q => ∃ a b z xs, x = .ref a ∧ y = .ref b ∧ H a = some (.lst (z :: xs)) ∧ H b = some (.lst []) ∧ Q (.bl true) H) := by
  rintro pins s σ H x y u v Q I rx ry ⟨a, b, z, xs, rfl, rfl, ha, hb, q⟩
  cases rx; cases ry
  obtain ⟨its, r1, p1, _⟩ := I.list (.inl (.inl ha))
  obtain ⟨its2, r2, p2, _⟩ := I.list (.inl (.inl hb))
  have l1 := r1.length
  have l2 := r2.length
  refine SeqAt.RcNeAt.lists_lengths p1.isList p2.isList ?_ hu X.prog X.w X.xe _ ⟨.bl true, H, I, rfl, q⟩
  cases its with
  | nil => simp at l1
  | cons w ws =>
    cases its2 with
    | nil => simp
    | cons _ _ => simp at l2
theorem o2_ne2 : O2 S k N sc .own (fun X => rO X (compareOp .NotEq)) neD2 := by
  intro X c F H x y d e Q wf bx be w
  have gen : (neD d e).wp (EP1 S.B .own F H Q) → rO X (compareOp .NotEq) x y H Q := fun w => o2_ne X c F H x y d e Q wf bx be w
  unfold neD2 at w
  split at w
  · obtain ⟨a, xs, rfl, _, ha, qa⟩ := bx
    obtain ⟨b, ys, rfl, _, hb, qb⟩ := be
    cases qa
    cases qb
    exact .of (op_neL (by have := c.hu; omega)) ⟨a, b, _, _, rfl, rfl, ha, hb, w F _ H (.refl wf) res_bl⟩
  · exact gen w
variable {e a b : Expr} {fe fa fb : EF} {m m1 m2 : Md} {x : Str} {p pos : Pos}
theorem n_isa2 {T : String} {φ : D → Bool} {p2 : Pos} (L : IsaLem T φ) (hv : bootBuiltins x = some (.type T)) (hm : S.B.mg "isinstance" = none) (hmx : S.B.mg x = none) (he : EJ S k N sc e m fe) (hx : x ≠ "__name__" := by decide) (hdb : Ndb x := by rfl) (hgx : sc.lookup x = some .globalImplicit := by rfl)
    (hg : sc.lookup ("isinstance" : Str) = some .globalImplicit := by rfl) (hs : ∀ env : Env, starEach [e, .Name x p2] env = (false, eval e env) :: starEach [.Name x p2] env := by intro _; rfl) (hpl : ∀ env : Env, (backTo pos (starEach [.Name x p2] env)).any (·.1) = false := by intro _; rfl) :
    EJ S k N sc (.Call (.Name "isinstance" p) [e, .Name x p2] [] pos) .own (op1 (isaD2 φ) fe) := ej_isa2 L hv hx hdb hgx hmx hg hm he hs hpl
end
end Pv

namespace Pv
open PySem PySem.Spec PyProof.Rows L2
theorem sw_cellD {a b : Expr} {gs : List Comprehension} {scope : Scope} {pos py : Pos} {y : Str} {l : Nat} {env : Env} (hy : env.scope.names.lookup y = some .cell) : swapsWith (.DictComp a b gs scope pos) (some (.Name y py)) l env = pure false := by
  have ky : env.kindOf y = some .cell := hy
  unfold swapsWith
  simp only [ky]
  have : (env.blockKind == .function && (some NameKind.cell == some NameKind.local)) = false := by
    cases env.blockKind == .function <;> rfl
  rw [this]; rfl
section
variable {S : Sx} {k : Nat} {N : List Str} {sc : Names} {ret : Md} {a b : Expr} {gs : List Comprehension} {scope : Scope} {f : EF} {pos spos : Pos} {i : Nat} {y : Str} {py : Pos}
theorem sj_setDcC (hkd : S.kd i = .sh ∨ S.kd i = .ow) (hi6 : S.six ≠ some i) (hN : N[i]? = some y) (hyl : sc.lookup y = some .cell) (hfn : sc.lookup (".0" : Str) = none) (he : EJ S k N sc (.DictComp a b gs scope pos) .own f) : SJ S k N sc ret (.Assign [.Name y py] (.DictComp a b gs scope pos) spos) (sSet i f) := fun X c F0 H0 F ρ σ H R D w => by
  have e1 : X.env.scope.names.lookup y = some .cell := by rw [c.sc]; exact hyl
  refine .of (ps_set (i := i) c.nd (by rw [c.hN]; exact hN) (by unfold L2.Loc; exact .inr e1) pe_r (sw_cellD e1) (.inl (c.fn hfn y))) ?_
  refine he X c F0 H0 F ρ σ H R _ ?_
  exact hkd.elim (fun z => set_sh z hi6 R w) fun z => set_ow z hi6 R w
theorem n_setDcC (i : Nat) (he : EJ S k N sc (.DictComp a b gs scope pos) .own f) (hkd : S.kd i = .sh ∨ S.kd i = .ow := by first | exact .inl rfl | exact .inr rfl) (hi6 : sixIs S i = false := by rfl) (hN : N[i]? = some y := by rfl) (hyl : sc.lookup y = some .cell := by rfl) (hfn : sc.lookup (".0" : Str) = none := by rfl) : SJ S k N sc ret (.Assign [.Name y py] (.DictComp a b gs scope pos) spos) (sSet i f) :=
  sj_setDcC hkd (sixIs_ne hi6) hN hyl hfn he
end
end Pv

namespace Pv
open PySem PySem.Spec PyProof.Rows L2
abbrev iL (xs : List Int) : List D := xs.map .int
abbrev tI (xs : List Int) : D := .tuple (iL xs)
abbrev lI (xs : List Int) : D := .list (iL xs)
theorem forGo_fold {α β : Type} {g : GF} {b : SF} (enc : α → D) (st : β → Ev) (step : β → α → β) (ok : Nat → β → Prop) (h : ∀ n s a, ok (n + 1) s → ok n (step s a) ∧ ((g (enc a) (st s)).bind fun ρ1 => b ρ1) = .ret (.nx, st (step s a))) : ∀ (xs : List α) (s : β), ok xs.length s → forGo g b (xs.map enc) (st s) = .ret (.nx, st (xs.foldl step s)) ∧ ok 0 (xs.foldl step s)
  | [], s, hs => ⟨rfl, hs⟩
  | a :: xs, s, hs => by
    obtain ⟨h1, h2⟩ := h xs.length s a hs
    have ih := forGo_fold enc st step ok h xs _ h1
    refine ⟨?_, ih.2⟩
    show (g (enc a) (st s)).bind (fun ρ1 => (b ρ1).bind _) = _
    rw [← Tr.bind_assoc, h2]
    exact ih.1
theorem lcGo_filter {α : Type} {g : GF} {t : TF} {f : EF} {ρ : Ev} (enc : α → D) (p : α → Bool) (out : α → D) : ∀ xs : List α, (∀ a ∈ xs, ((g (enc a) ρ).bind fun ρ1 => (t ρ1).bind fun b => if b then (f ρ1).bind fun y => .ret (some y) else .ret none) = .ret (if p a then some (out a) else none)) → lcGo g t f ρ (xs.map enc) = .ret ((xs.filter p).map out)
  | [], _ => rfl
  | a :: xs, h => by
    have ih := lcGo_filter enc p out xs fun b hb => h b (List.mem_cons_of_mem _ hb)
    have ha := h a (List.mem_cons_self ..)
    have e : lcGo g t f ρ ((a :: xs).map enc) = (((g (enc a) ρ).bind fun ρ1 => (t ρ1).bind fun b => if b then (f ρ1).bind fun y => .ret (some y) else .ret none).bind fun o => match o with
      | some y => (lcGo g t f ρ (xs.map enc)).bind fun q => .ret (y :: q)
      | none => lcGo g t f ρ (xs.map enc)) := by
      rw [Tr.bind_assoc]
      show (g (enc a) ρ).bind _ = _
      congr 1
      funext ρ1
      rw [Tr.bind_assoc]
      congr 1
      funext b
      cases b with
      | false => rfl
      | true =>
        show (f ρ1).bind _ = ((f ρ1).bind _).bind _
        rw [Tr.bind_assoc]; rfl
    rw [e, ha]
    cases hp : p a
    · simp [hp, ih]
    · simp [hp, ih]
theorem seq_nx {f g : SF} {ρ ρ' : Ev} (h : f ρ = .ret (.nx, ρ')) : sSeq f g ρ = g ρ' := by unfold sSeq; rw [h]; rfl
theorem seq_rt {f g : SF} {ρ ρ' : Ev} {d : D} (h : f ρ = .ret (.rt d, ρ')) : sSeq f g ρ = .ret (.rt d, ρ') := by unfold sSeq; rw [h]; rfl
theorem for_eq {src : Ev → Tr (List D)} {g : GF} {b : SF} {ρ : Ev} {ds : List D} (h : src ρ = .ret ds) : sFor src g b ρ = forGo g b ds ρ := by unfold sFor; rw [h]; rfl
theorem set_eq {i : Nat} {f : EF} {ρ : Ev} {d : D} (h : f ρ = .ret d) : sSet i f ρ = .ret (.nx, ρ.set i (some d)) := by unfold sSet; rw [h]; rfl
theorem ret_eq {f : EF} {ρ : Ev} {d : D} (h : f ρ = .ret d) : sRet f ρ = .ret (.rt d, ρ) := by unfold sRet; rw [h]; rfl
theorem if_yes {t : TF} {f g : SF} {ρ : Ev} (h : t ρ = .ret true) : sIf t f g ρ = f ρ := by unfold sIf; rw [h]; rfl
theorem if_no {t : TF} {f g : SF} {ρ : Ev} (h : t ρ = .ret false) : sIf t f g ρ = g ρ := by unfold sIf; rw [h]; rfl
theorem lc_eq {src : Ev → Tr (List D)} {vs : List Nat} {g : GF} {t : TF} {f : EF} {ρ : Ev} {ds out : List D} (h : src ρ = .ret ds) (h2 : lcGo g t f (wipeA ρ vs) ds = .ret out) (h3 : out.length ≤ lim) : eLc src vs g t f ρ = .ret (.list out) := by
  unfold eLc
  rw [h, Tr.ret_bind, h2, Tr.ret_bind, need_pos h3]
theorem runF_rt {n : Nat} {hs : Bool} {g : SF} {ds : List D} {d : D} {ρ : Ev} (h : g (ev0 n hs ds) = .ret (.rt d, ρ)) : runF n hs g ds = .ret d := by unfold runF; rw [h]; rfl
theorem call1_eq {Φ : List D → Tr D} {f : EF} {ρ : Ev} {d e : D} (h : f ρ = .ret d) (h2 : Φ [d] = .ret e) : eCall Φ (aCons f aNil) ρ = .ret e := by unfold eCall aCons aNil; rw [h]; exact h2
theorem call2_eq {Φ : List D → Tr D} {f g : EF} {ρ : Ev} {d d2 e : D} (h : f ρ = .ret d) (h1 : g ρ = .ret d2) (h2 : Φ [d, d2] = .ret e) : eCall Φ (aCons f (aCons g aNil)) ρ = .ret e := by
  unfold eCall aCons aNil
  rw [h, Tr.ret_bind, h1]; exact h2
theorem op2_eq {φ : D → D → Tr D} {f g : EF} {ρ : Ev} {d d2 e : D} (h : f ρ = .ret d) (h1 : g ρ = .ret d2) (h2 : φ d d2 = .ret e) : op2 φ f g ρ = .ret e := by unfold op2; rw [h, Tr.ret_bind, h1]; exact h2
end Pv

namespace Pv
open PySem PySem.Spec PyProof.Rows L2

@[simp] theorem isFlat_int (i : Int) : isFlat (.int i) = true := rfl
@[simp] theorem isKey_int (i : Int) : isKey (.int i) = true := rfl
@[simp] theorem eqv_int (i j : Int) : PyData.eqv (.int i) (.int j) = decide (i = j) := by
  show (i == j) = _
  by_cases h : i = j <;> simp [h]
theorem canLay_iL : ∀ xs : List Int, PyData.canLayAll0 (iL xs) = true
  | [] => rfl
  | x :: xs => by
    show PyData.canLayAll0 (.int x :: iL xs) = true
    rw [PyData.canLayAll0, canLay_iL xs]; rfl
theorem depth_iL : ∀ xs : List Int, PyData.depthAll (iL xs) = 0
  | [] => rfl
  | x :: xs => by
    show PyData.depthAll (.int x :: iL xs) = 0
    rw [PyData.depthAll, depth_iL xs]; rfl
@[simp] theorem shp_lI (xs : List Int) : shp (lI xs) = true := by
  show ((PyData.list (iL xs)).canLay0 && decide ((PyData.list (iL xs)).depth ≤ 64)) = true
  rw [PyData.canLay0, PyData.depth, canLay_iL, depth_iL]; rfl
@[simp] theorem shp_tI (xs : List Int) : shp (tI xs) = true := by
  show ((PyData.tuple (iL xs)).canLay0 && decide ((PyData.tuple (iL xs)).depth ≤ 64)) = true
  rw [PyData.canLay0, PyData.depth, canLay_iL, depth_iL]; rfl
@[simp] theorem shp_int (i : Int) : shp (.int i) = true := rfl
@[simp] theorem okSort_iL (xs : List Int) : okSort (iL xs) = true := by
  have : (iL xs).all isIntD = true := by
    rw [List.all_eq_true]
    intro d hd
    obtain ⟨i, _, rfl⟩ := List.mem_map.mp hd
    rfl
  unfold okSort
  rw [this]; rfl
/-- insertion on whole numbers -/
def insI (a : Int) : List Int → List Int
  | [] => [a]
  | b :: r => if a ≤ b then a :: b :: r else b :: insI a r
def isortI : List Int → List Int
  | [] => []
  | a :: r => insI a (isortI r)
theorem leO_int (a b : Int) : leO (.int a) (.int b) = decide (a ≤ b) := by
  have h := congrFun (congrFun (PySem.W.dataLe_int (β := Int) id) a) b
  exact h
theorem insD_int (a : Int) : ∀ xs : List Int, insD (.int a) (iL xs) = iL (insI a xs)
  | [] => rfl
  | b :: xs => by
    show (if leO (.int a) (.int b) = true then _ else _) = iL (if a ≤ b then _ else _)
    rw [leO_int]
    by_cases h : a ≤ b
    · rw [if_pos (decide_eq_true h), if_pos h]; rfl
    · rw [if_neg (by simpa using h), if_neg h, insD_int a xs]; rfl
theorem isortD_int : ∀ xs : List Int, isortD (iL xs) = iL (isortI xs)
  | [] => rfl
  | a :: xs => by
    show insD (.int a) (isortD (iL xs)) = _
    rw [isortD_int xs, insD_int]; rfl
theorem insI_perm (a : Int) : ∀ xs : List Int, (insI a xs).Perm (a :: xs)
  | [] => List.Perm.refl _
  | b :: xs => by
    unfold insI
    split
    · exact List.Perm.refl _
    · exact ((insI_perm a xs).cons b).trans (List.Perm.swap a b xs)
theorem isortI_perm : ∀ xs : List Int, (isortI xs).Perm xs
  | [] => List.Perm.refl _
  | a :: xs => (insI_perm a _).trans ((isortI_perm xs).cons a)
theorem sortD_int {xs : List Int} (h : xs.length ≤ lim) : sortD (lI xs) = .ret (lI (isortI xs)) := by
  show need (shp (lI xs) = true ∧ okSort (iL xs) = true ∧ (iL xs).length ≤ lim) (Tr.ret (PyData.list (isortD (iL xs)))) = _
  rw [need_pos ⟨shp_lI xs, okSort_iL xs, by simpa using h⟩, isortD_int]
/-- x in xs -/
theorem inB_int (x : Int) (xs : List Int) : inB (.int x) (lI xs) = .ret (decide (x ∈ xs)) := by
  show need (shp (.int x) = true ∧ shp (lI xs) = true) (.ret ((iL xs).any fun z => PyData.eqv z (.int x))) = _
  rw [need_pos ⟨rfl, shp_lI xs⟩, List.any_map]
  congr 1
  rw [Bool.eq_iff_iff]
  simp [List.any_eq_true]
theorem eqv_iL : ∀ xs ys : List Int, PyData.eqvAll (iL xs) (iL ys) = decide (xs = ys)
  | [], [] => rfl
  | [], _ :: _ => rfl
  | _ :: _, [] => rfl
  | x :: xs, y :: ys => by
    show (PyData.eqv (.int x) (.int y) && PyData.eqvAll (iL xs) (iL ys)) = _
    rw [eqv_int, eqv_iL, Bool.eq_iff_iff]
    simp
theorem neD_lI (xs ys : List Int) : neD (lI xs) (lI ys) = .ret (.bool (!decide (xs = ys))) := by
  show need (shp (lI xs) = true ∧ shp (lI ys) = true) (Tr.ret (PyData.bool (!PyData.eqv (lI xs) (lI ys)))) = _
  rw [need_pos ⟨shp_lI xs, shp_lI ys⟩]
  show _ = Tr.ret (PyData.bool (!decide (xs = ys)))
  rw [← eqv_iL]; rfl
theorem eqD_lI (xs ys : List Int) : eqD (lI xs) (lI ys) = .ret (.bool (decide (xs = ys))) := by
  show need (shp (lI xs) = true ∧ shp (lI ys) = true) (Tr.ret (PyData.bool (PyData.eqv (lI xs) (lI ys)))) = _
  rw [need_pos ⟨shp_lI xs, shp_lI ys⟩]
  show _ = Tr.ret (PyData.bool (decide (xs = ys)))
  rw [← eqv_iL]; rfl

abbrev Al := List (Int × Bool)
def encA (al : Al) : List (D × D) := al.map fun p => (.int p.1, .bool p.2)
def getA : Al → Int → Option Bool
  | [], _ => none
  | p :: r, x => if p.1 = x then some p.2 else getA r x
def putA (al : Al) (x : Int) (v : Bool) : Al := if (al.any fun p => decide (p.1 = x)) = true then al.map (fun p => if p.1 = x then (p.1, v) else p) else al ++ [(x, v)]
theorem findD_enc (x : Int) : ∀ al : Al, findD (encA al) (.int x) = (getA al x).map .bool
  | [] => rfl
  | p :: r => by
    unfold findD
    show Option.map (·.2) (List.find? _ ((.int p.1, .bool p.2) :: encA r)) = _
    rw [List.find?_cons]
    simp only [eqv_int, getA]
    by_cases h : p.1 = x
    · rw [if_pos h]; simp [h]
    · rw [if_neg h]
      simp only [h, decide_false]
      exact findD_enc x r
theorem sameK_enc (x : Int) : ∀ al : Al, sameK (encA al) (.int x) = true
  | [] => rfl
  | _ :: _ => rfl
@[simp] theorem lookD_enc (al : Al) (x : Int) : lookD (encA al) (.int x) = .ret ((getA al x).map .bool) := by
  unfold lookD
  rw [need_pos ⟨rfl, sameK_enc x al⟩, findD_enc]
theorem putD_enc (al : Al) (x : Int) (v : Bool) : putD (encA al) (.int x) (.bool v) = encA (putA al x v) := by
  unfold putD putA
  have e : ((encA al).any fun p => PyData.eqv p.1 (.int x)) = al.any fun p => decide (p.1 = x) := by
    unfold encA
    rw [List.any_map]
    congr 1
  rw [e]
  split
  · unfold encA
    rw [List.map_map, List.map_map]
    apply List.map_congr_left
    intro p _
    show (if PyData.eqv (.int p.1) (.int x) = true then _ else _) = (fun q : Int × Bool => (PyData.int q.1, PyData.bool q.2)) (if p.1 = x then (p.1, v) else p)
    rw [eqv_int]
    by_cases h : p.1 = x <;> simp [h]
  · unfold encA; simp
theorem encA_len (al : Al) : (encA al).length = al.length := by simp [encA]
theorem setD_enc {al : Al} {x : Int} {v : Bool} (h : al.length < lim) : setD (.dict (encA al)) (.int x) (.bool v) = .ret (.dict (encA (putA al x v))) := by
  show need (isKey (.int x) = true ∧ sameK (encA al) (.int x) = true ∧ (encA al).length < lim) (Tr.ret (PyData.dict (putD (encA al) (.int x) (.bool v)))) = _
  rw [need_pos ⟨rfl, sameK_enc x al, by rw [encA_len]; exact h⟩, putD_enc]
@[simp] theorem get2_enc (al : Al) (x : Int) (v : Bool) : get2D (.dict (encA al)) (.int x) (.bool v) = .ret (.bool ((getA al x).getD v)) := by
  simp only [get2D, getO, lookD_enc, Tr.ret_bind, isFlat_int, true_or, need_pos]
  cases getA al x <;> rfl
theorem keys_enc (al : Al) : (encA al).map (·.1) = iL (al.map (·.1)) := by
  unfold encA
  rw [List.map_map]
  show _ = List.map PyData.int (List.map (fun p => p.1) al)
  rw [List.map_map]; rfl
theorem putA_get (al : Al) (x : Int) (v : Bool) (y : Int) : getA (putA al x v) y = if x = y then some v else getA al y := by
  unfold putA
  split
  · rename_i h
    induction al with
    | nil => cases h
    | cons p r ih =>
      simp only [List.map_cons, getA]
      by_cases hp : p.1 = x
      · rw [if_pos hp]
        by_cases hy : x = y
        · subst hy; simp [hp]
        · simp only [hp, if_neg hy]
          have rest : ∀ r : Al, getA (r.map fun p => if p.1 = x then (p.1, v) else p) y = getA r y := fun r => by
            induction r with
            | nil => rfl
            | cons q r ih =>
              simp only [List.map_cons, getA]
              by_cases hq : q.1 = x
              · simp only [hq, if_true, if_neg hy, ih]
              · simp only [if_neg hq, ih]
          exact rest r
      · rw [if_neg hp]
        simp only [List.any_cons, hp, decide_false, Bool.false_or] at h
        by_cases hy : p.1 = y
        · have : x ≠ y := fun z => hp (hy.trans z.symm)
          simp [hy, this]
        · simp only [if_neg hy]; exact ih h
  · rename_i h
    induction al with
    | nil => simp [getA]
    | cons p r ih =>
      simp only [List.any_cons, Bool.or_eq_true, not_or, decide_eq_true_eq] at h
      simp only [List.cons_append, getA]
      by_cases hy : p.1 = y
      · have : x ≠ y := fun z => h.1 (hy.trans z.symm)
        simp [hy, this]
      · simp only [if_neg hy]; exact ih h.2
theorem putA_keys (al : Al) (x : Int) (v : Bool) : (putA al x v).map (·.1) = if x ∈ al.map (·.1) then al.map (·.1) else al.map (·.1) ++ [x] := by
  unfold putA
  have e : (al.any fun p => decide (p.1 = x)) = true ↔ x ∈ al.map (·.1) := by
    rw [List.any_eq_true]
    simp [List.mem_map]
  by_cases h : x ∈ al.map (·.1)
  · rw [if_pos (e.mpr h), if_pos h, List.map_map]
    apply List.map_congr_left
    intro p _
    show (if p.1 = x then (p.1, v) else p).1 = p.1
    split <;> rfl
  · rw [if_neg (fun z => h (e.mp z)), if_neg h]; simp
theorem getA_mem : ∀ (al : Al) (x : Int), (getA al x).isSome = true ↔ x ∈ al.map (·.1)
  | [], _ => by simp [getA]
  | p :: r, x => by
    simp only [getA, List.map_cons, List.mem_cons]
    by_cases h : p.1 = x
    · simp [h]
    · rw [if_neg h, getA_mem r x]
      constructor
      · exact .inr
      · rintro (z | z)
        · exact absurd z.symm h
        · exact z
/-- a loop that may answer -/
theorem forGo_find {α : Type} {g : GF} {b : SF} (enc : α → D) (inv : Ev → Prop) (f : α → Option D) : ∀ (xs : List α) (ρ : Ev), (∀ ρ a, inv ρ → a ∈ xs → match f a with
    | some d => ∃ ρ', ((g (enc a) ρ).bind fun ρ1 => b ρ1) = .ret (.rt d, ρ')
    | none => ∃ ρ', inv ρ' ∧ ((g (enc a) ρ).bind fun ρ1 => b ρ1) = .ret (.nx, ρ')) → inv ρ → match xs.findSome? f with
    | some d => ∃ ρ', forGo g b (xs.map enc) ρ = .ret (.rt d, ρ')
    | none => ∃ ρ', inv ρ' ∧ forGo g b (xs.map enc) ρ = .ret (.nx, ρ')
  | [], ρ, _, hi => ⟨ρ, hi, rfl⟩
  | a :: xs, ρ, h, hi => by
    have ha := h ρ a hi (List.mem_cons_self ..)
    have e : forGo g b ((a :: xs).map enc) ρ = ((g (enc a) ρ).bind fun ρ1 => b ρ1).bind fun r => match r with
      | (.nx, ρ2) => forGo g b (xs.map enc) ρ2
      | (.ct, ρ2) => forGo g b (xs.map enc) ρ2
      | (.bk, ρ2) => .ret (.nx, ρ2)
      | (.rt v, ρ2) => .ret (.rt v, ρ2) := by rw [Tr.bind_assoc]; rfl
    rw [List.findSome?_cons, e]
    cases hf : f a with
    | some d =>
      rw [hf] at ha
      obtain ⟨ρ', q⟩ := ha
      simp only
      exact ⟨ρ', by rw [q]; rfl⟩
    | none =>
      rw [hf] at ha
      obtain ⟨ρ', i2, q⟩ := ha
      simp only
      rw [q]
      exact forGo_find enc inv f xs ρ' (fun ρ b hi hb => h ρ b hi (List.mem_cons_of_mem _ hb)) i2
/-- a loop that only goes through -/
theorem forGo_all {α : Type} {g : GF} {b : SF} (enc : α → D) (inv : List α → Ev → Prop) (all : List α) : ∀ (xs done : List α) (ρ : Ev), all = done ++ xs → (∀ ρ a done rest, all = done ++ a :: rest → inv done ρ → ∃ ρ', inv (done ++ [a]) ρ' ∧ ((g (enc a) ρ).bind fun ρ1 => b ρ1) = .ret (.nx, ρ')) → inv done ρ → ∃ ρ', inv all ρ' ∧ forGo g b (xs.map enc) ρ = .ret (.nx, ρ')
  | [], done, ρ, e, _, hi => ⟨ρ, by rw [e, List.append_nil]; exact hi, rfl⟩
  | a :: xs, done, ρ, e, h, hi => by
    obtain ⟨ρ', i2, q⟩ := h ρ a done xs e hi
    obtain ⟨ρ2, i3, q2⟩ := forGo_all enc inv all xs (done ++ [a]) ρ' (by rw [e, List.append_assoc]; rfl) h i2
    refine ⟨ρ2, i3, ?_⟩
    show (g (enc a) ρ).bind (fun ρ1 => (b ρ1).bind _) = _
    rw [← Tr.bind_assoc, q]
    exact q2
theorem cut_nat (xs : List Int) (i j : Nat) : cutD (iL xs) (some (i : Int)) (some (j : Int)) = iL ((xs.drop (min i xs.length)).take (min j xs.length - min i xs.length)) := by
  unfold cutD
  rw [HT.sIx_nat, HT.sIx_nat, List.length_map]
  show _ = List.map PyData.int _
  rw [List.map_take, List.map_drop]
theorem atI_at (xs : List D) (i : Nat) (h : i < xs.length) : atI xs (i : Int) = xs[i]? := by
  unfold atI ixN
  rw [if_pos (by omega), if_pos (by omega)]
  simp
theorem atI_end (xs : List D) (h : xs ≠ []) : atI xs (-1) = xs.getLast? := by
  have hp := List.length_pos_iff.mpr h
  unfold atI ixN
  rw [if_neg (by omega), if_pos (by omega)]
  show xs[((-1 : Int) + (xs.length : Nat)).toNat]? = _
  rw [List.getLast?_eq_getElem?]
  congr 1
  omega
theorem itR1_eq {g : Ev → Tr (List D)} {ρ : Ev} {j : Int} (h : g ρ = .ret [.int j]) (h1 : -4611686018427387904 ≤ j) (h2 : j < 4611686018427387904) : itR1 g ρ = .ret (rangeL 0 j.toNat) := by
  unfold itR1
  rw [h]
  exact need_pos ⟨h1, h2⟩
theorem itR2_eq {g : Ev → Tr (List D)} {ρ : Ev} {i j : Int} (h : g ρ = .ret [.int i, .int j]) (h1 : -4611686018427387904 ≤ i) (h2 : i < 4611686018427387904) (h3 : -4611686018427387904 ≤ j) (h4 : j < 4611686018427387904) : itR2 g ρ = .ret (rangeL i (j - i).toNat) := by
  unfold itR2
  rw [h]
  exact need_pos ⟨h1, h2, h3, h4⟩
theorem tof_eq {f : EF} {ρ : Ev} {b : Bool} (h : f ρ = .ret (.bool b)) : tOf f ρ = .ret b := by
  show (f ρ).bind bl = _
  rw [h]; rfl
theorem tru_eq {f : EF} {ρ : Ev} {b : Bool} (h : f ρ = .ret (.bool b)) : tTru f ρ = .ret b := by
  show (f ρ).bind truB = _
  rw [h]; rfl
end Pv

namespace Pv
open PySem PySem.Spec PyProof.Rows L2

/-- x does what t tells, its answers as R says -/
structure RefG {α β : Type} (x : Tr β) (t : Tr α) (R : α → β → Prop) : Prop where
  run : ∀ Q : β → Prop, t.wp (fun a => ∀ b, R a b → Q b) → x.wp Q
def IsE {α : Type} (e : α → D) : α → D → Prop := fun a d => d = e a
abbrev RefE {α : Type} (x : Tr D) (t : Tr α) (e : α → D) : Prop := RefG x t (IsE e)
abbrev RefB (x : Tr Bool) (t : Tr Bool) : Prop := RefG x t (fun a b => b = a)
/-- outcomes: answers -/
def Rv {α : Type} (e : α → D) : α → Fl × Ev → Prop := fun a r => ∃ ρ, r = (.rt (e a), ρ)
/-- outcomes: goes on -/
def Rnx {σ : Type} (inv : σ → Ev → Prop) : σ → Fl × Ev → Prop := fun s r => ∃ ρ, r = (.nx, ρ) ∧ inv s ρ
inductive Fo (R σ : Type) where
  | nx (s : σ) | rt (r : R) | bk (s : σ) | ct (s : σ)
inductive Lo (R σ : Type) where
  | nx (s : σ) | rt (r : R)
def RFo {R σ : Type} (e : R → D) (inv : σ → Ev → Prop) : Fo R σ → Fl × Ev → Prop
  | .nx s, r => ∃ ρ, r = (.nx, ρ) ∧ inv s ρ
  | .rt a, r => ∃ ρ, r = (.rt (e a), ρ)
  | .bk s, r => ∃ ρ, r = (.bk, ρ) ∧ inv s ρ
  | .ct s, r => ∃ ρ, r = (.ct, ρ) ∧ inv s ρ
section
variable {α β γ δ : Type} {R : α → β → Prop} {S : γ → δ → Prop}
theorem rret {x : Tr β} {b : β} {a : α} (h : x = .ret b) (r : R a b) : RefG x (.ret a) R := .mk fun Q q => by rw [h]; exact q b r
theorem rretE {x : Tr D} {a : α} {e : α → D} (h : x = .ret (e a)) : RefE x (.ret a) e := rret h rfl
theorem rretB {x : Tr Bool} {a : Bool} (h : x = .ret a) : RefB x (.ret a) := rret h rfl
theorem rfail {x : Tr β} : RefG x (.fail : Tr α) R := .mk fun Q q => q.elim
theorem rneed {x : Tr β} {t : Tr α} {p : Prop} [Decidable p] (h : p → RefG x t R) : RefG x (need p t) R := .mk fun Q q => (h (wp_need.mp q).1).run Q (wp_need.mp q).2
theorem rneedX {x : Tr β} {t : Tr α} {p q : Prop} [Decidable p] [Decidable q] (i : p → q) (h : RefG x t R) : RefG (need q x) (need p t) R := rneed fun hp => by rw [need_pos (i hp)]; exact h
theorem rneedT {x : Tr β} {t : Tr α} {q : Prop} [Decidable q] (i : q) (h : RefG x t R) : RefG (need q x) t R := by rw [need_pos i]; exact h
theorem rbind {x : Tr β} {t : Tr α} {f : β → Tr δ} {u : α → Tr γ} (h : RefG x t R) (k : ∀ a b, R a b → RefG (f b) (u a) S) : RefG (x.bind f) (t.bind u) S := .mk fun Q q =>
  Tr.wp_bind.mpr (h.run _ (Tr.wp_mono (fun a ha b r => (k a b r).run Q ha) (Tr.wp_bind.mp q)))
theorem rbindE {x : Tr D} {t : Tr α} {e : α → D} {f : D → Tr δ} {u : α → Tr γ} (h : RefE x t e) (k : ∀ a, RefG (f (e a)) (u a) S) : RefG (x.bind f) (t.bind u) S := rbind h fun a b r => by cases r; exact k a
theorem rpure {x : Tr β} {b : β} {f : β → Tr δ} {t : Tr γ} (h : x = .ret b) (k : RefG (f b) t S) : RefG (x.bind f) t S := by rw [h]; exact k
theorem rite {c : Bool} {x y : Tr β} {t u : Tr α} (h : RefG x t R) (k : RefG y u R) : RefG (if c then x else y) (if c then t else u) R := by cases c; exact k; exact h
theorem RefG.mono {x : Tr β} {t : Tr α} {R' : α → β → Prop} (h : RefG x t R) (i : ∀ a b, R a b → R' a b) : RefG x t R' := .mk fun Q q => h.run Q (Tr.wp_mono (fun a ha b r => ha b (i a b r)) q)
theorem RefG.of_eq {x : Tr β} {t u : Tr α} (h : RefG x t R) (e : u = t) : RefG x u R := e ▸ h
theorem RefG.of_x {x y : Tr β} {t : Tr α} (h : RefG x t R) (e : y = x) : RefG y t R := e ▸ h
end
def eT {α : Type} (e : α → D) (xs : List α) : D := .tuple (xs.map e)
def eL {α : Type} (e : α → D) (xs : List α) : D := .list (xs.map e)
def eP {α β : Type} (e : α → D) (f : β → D) (p : α × β) : D := .tuple [e p.1, f p.2]
def eP3 {α β γ : Type} (e : α → D) (f : β → D) (g : γ → D) (p : α × β × γ) : D := .tuple [e p.1, f p.2.1, g p.2.2]
def eP4 {α β γ δ : Type} (e : α → D) (f : β → D) (g : γ → D) (h : δ → D) (p : α × β × γ × δ) : D := .tuple [e p.1, f p.2.1, g p.2.2.1, h p.2.2.2]
def eP5 {α β γ δ ε : Type} (e : α → D) (f : β → D) (g : γ → D) (h : δ → D) (k : ε → D) (p : α × β × γ × δ × ε) : D := .tuple [e p.1, f p.2.1, g p.2.2.1, h p.2.2.2.1, k p.2.2.2.2]
def eO {α : Type} (e : α → D) : Option α → D
  | none => .none
  | some a => e a
def eU : Unit → D := fun _ => .none
def eM {κ α : Type} (ek : κ → D) (ev : α → D) (m : List (κ × α)) : D := .dict (m.map fun p => (ek p.1, ev p.2))
def eX (d : D) : D := d
class GoodE {α : Type} (e : α → D) (n : outParam Nat) : Prop where
  can : ∀ a, (e a).canLay0 = true
  dep : ∀ a, (e a).depth ≤ n
class EqE {α : Type} [DecidableEq α] (e : α → D) : Prop where
  eqv : ∀ a b, PyData.eqv (e a) (e b) = decide (a = b)
class NnE {α : Type} (e : α → D) : Prop where
  nn : ∀ a, isNon (e a) = false
instance : GoodE PyData.int 0 := ⟨fun _ => rfl, fun _ => Nat.le_refl 0⟩
instance : GoodE PyData.bool 0 := ⟨fun _ => rfl, fun _ => Nat.le_refl 0⟩
section
variable {α β γ δ ε : Type} {e : α → D} {f : β → D} {g : γ → D} {h : δ → D} {k : ε → D} {n m l j i : Nat}
theorem canAll [GoodE e n] : ∀ xs : List α, PyData.canLayAll0 (xs.map e) = true
  | [] => rfl
  | x :: xs => by rw [List.map_cons, PyData.canLayAll0, canAll xs, GoodE.can x]; rfl
theorem depAll [GoodE e n] : ∀ xs : List α, PyData.depthAll (xs.map e) ≤ n
  | [] => Nat.zero_le _
  | x :: xs => by rw [List.map_cons, PyData.depthAll]; exact Nat.max_le.mpr ⟨GoodE.dep x, depAll xs⟩
instance [GoodE e n] : GoodE (eT e) (n + 1) := ⟨fun xs => by unfold eT; rw [PyData.canLay0]; exact canAll xs, fun xs => by
  unfold eT; rw [PyData.depth]; exact Nat.succ_le_succ (depAll xs)⟩
instance [GoodE e n] : GoodE (eL e) (n + 1) := ⟨fun xs => by unfold eL; rw [PyData.canLay0]; exact canAll xs, fun xs => by
  unfold eL; rw [PyData.depth]; exact Nat.succ_le_succ (depAll xs)⟩
theorem can_cons {d : D} {ds : List D} (a : d.canLay0 = true) (b : PyData.canLayAll0 ds = true) : PyData.canLayAll0 (d :: ds) = true := by rw [PyData.canLayAll0, a, b]; rfl
theorem dep_cons {d : D} {ds : List D} {n m : Nat} (a : d.depth ≤ n) (b : PyData.depthAll ds ≤ m) : PyData.depthAll (d :: ds) ≤ max n m := by rw [PyData.depthAll]; omega
theorem can_tup {ds : List D} (b : PyData.canLayAll0 ds = true) : (PyData.tuple ds).canLay0 = true := by rw [PyData.canLay0]; exact b
theorem dep_tup {ds : List D} {n : Nat} (b : PyData.depthAll ds ≤ n) : (PyData.tuple ds).depth ≤ n + 1 := by rw [PyData.depth]; omega
instance [GoodE e n] [GoodE f m] : GoodE (eP e f) (max n (max m 0) + 1) := ⟨fun p => can_tup (can_cons (GoodE.can _) (can_cons (GoodE.can _) rfl)), fun p => dep_tup (dep_cons (GoodE.dep _) (dep_cons (GoodE.dep _) (Nat.le_refl 0)))⟩
instance [GoodE e n] [GoodE f m] [GoodE g l] : GoodE (eP3 e f g) (max n (max m (max l 0)) + 1) := ⟨fun p => can_tup (can_cons (GoodE.can _) (can_cons (GoodE.can _) (can_cons (GoodE.can _) rfl))), fun p => dep_tup (dep_cons (GoodE.dep _) (dep_cons (GoodE.dep _) (dep_cons (GoodE.dep _) (Nat.le_refl 0))))⟩
instance [GoodE e n] [GoodE f m] [GoodE g l] [GoodE h j] : GoodE (eP4 e f g h) (max n (max m (max l (max j 0))) + 1) := ⟨fun p => can_tup (can_cons (GoodE.can _) (can_cons (GoodE.can _) (can_cons (GoodE.can _) (can_cons (GoodE.can _) rfl)))), fun p => dep_tup (dep_cons (GoodE.dep _) (dep_cons (GoodE.dep _) (dep_cons (GoodE.dep _) (dep_cons (GoodE.dep _) (Nat.le_refl 0)))))⟩
instance [GoodE e n] [GoodE f m] [GoodE g l] [GoodE h j] [GoodE k i] : GoodE (eP5 e f g h k) (max n (max m (max l (max j (max i 0)))) + 1) := ⟨fun p => can_tup (can_cons (GoodE.can _) (can_cons (GoodE.can _) (can_cons (GoodE.can _) (can_cons (GoodE.can _) (can_cons (GoodE.can _) rfl))))), fun p => dep_tup (dep_cons (GoodE.dep _) (dep_cons (GoodE.dep _) (dep_cons (GoodE.dep _) (dep_cons (GoodE.dep _) (dep_cons (GoodE.dep _) (Nat.le_refl 0))))))⟩
instance [GoodE e n] : GoodE (eO e) n := ⟨fun o => match o with | none => rfl | some a => GoodE.can (e := e) a, fun o => match o with | none => Nat.zero_le _ | some a => GoodE.dep (e := e) a⟩
theorem shpE [GoodE e n] (a : α) (h : n ≤ 64 := by decide) : shp (e a) = true := by
  show ((e a).canLay0 && decide ((e a).depth ≤ 64)) = true
  rw [GoodE.can a, decide_eq_true (Nat.le_trans (GoodE.dep a) h)]; rfl
instance : EqE PyData.int := ⟨eqv_int⟩
instance : EqE PyData.bool := ⟨fun a b => by cases a <;> cases b <;> rfl⟩
instance : EqE PyData.str := ⟨fun a b => by show (a == b) = _; by_cases h : a = b <;> simp [h]⟩
variable [DecidableEq α] [DecidableEq β] [DecidableEq γ] [DecidableEq δ] [DecidableEq ε]
theorem eqvAll [EqE e] : ∀ a b : List α, PyData.eqvAll (a.map e) (b.map e) = decide (a = b)
  | [], [] => rfl
  | [], _ :: _ => rfl
  | _ :: _, [] => rfl
  | x :: a, y :: b => by
    show (PyData.eqv (e x) (e y) && PyData.eqvAll (a.map e) (b.map e)) = _
    rw [EqE.eqv, eqvAll a b, Bool.eq_iff_iff]; simp
instance [EqE e] : EqE (eT e) := ⟨fun a b => eqvAll a b⟩
instance [EqE e] : EqE (eL e) := ⟨fun a b => eqvAll a b⟩
instance [EqE e] [EqE f] : EqE (eP e f) := ⟨fun p q => by
  show (PyData.eqv (e p.1) (e q.1) && (PyData.eqv (f p.2) (f q.2) && true)) = _
  rw [EqE.eqv, EqE.eqv, Bool.eq_iff_iff]; simp [Prod.ext_iff]⟩
instance [EqE e] [EqE f] [EqE g] : EqE (eP3 e f g) := ⟨fun p q => by
  show (PyData.eqv (e p.1) (e q.1) && (PyData.eqv (f p.2.1) (f q.2.1) && (PyData.eqv (g p.2.2) (g q.2.2) && true))) = _
  rw [EqE.eqv, EqE.eqv, EqE.eqv, Bool.eq_iff_iff]; simp [Prod.ext_iff]⟩
instance [EqE e] [EqE f] [EqE g] [EqE h] : EqE (eP4 e f g h) := ⟨fun p q => by
  show (PyData.eqv (e p.1) (e q.1) && (PyData.eqv (f p.2.1) (f q.2.1) && (PyData.eqv (g p.2.2.1) (g q.2.2.1) && (PyData.eqv (h p.2.2.2) (h q.2.2.2) && true)))) = _
  rw [EqE.eqv, EqE.eqv, EqE.eqv, EqE.eqv, Bool.eq_iff_iff]; simp [Prod.ext_iff]⟩
instance [EqE e] [EqE f] [EqE g] [EqE h] [EqE k] : EqE (eP5 e f g h k) := ⟨fun p q => by
  show (PyData.eqv (e p.1) (e q.1) && (PyData.eqv (f p.2.1) (f q.2.1) && (PyData.eqv (g p.2.2.1) (g q.2.2.1) && (PyData.eqv (h p.2.2.2.1) (h q.2.2.2.1) && (PyData.eqv (k p.2.2.2.2) (k q.2.2.2.2) && true))))) = _
  rw [EqE.eqv, EqE.eqv, EqE.eqv, EqE.eqv, EqE.eqv, Bool.eq_iff_iff]; simp [Prod.ext_iff]⟩
end
instance : NnE PyData.int := ⟨fun _ => rfl⟩
instance : NnE PyData.bool := ⟨fun _ => rfl⟩
instance : NnE PyData.str := ⟨fun _ => rfl⟩
instance {α : Type} {e : α → D} : NnE (eT e) := ⟨fun _ => rfl⟩
instance {α : Type} {e : α → D} : NnE (eL e) := ⟨fun _ => rfl⟩
instance {α β : Type} {e : α → D} {f : β → D} : NnE (eP e f) := ⟨fun _ => rfl⟩
instance {α β γ : Type} {e : α → D} {f : β → D} {g : γ → D} : NnE (eP3 e f g) := ⟨fun _ => rfl⟩
theorem eqv_none {d : D} (h : isNon d = false) : PyData.eqv .none d = false ∧ PyData.eqv d .none = false := by cases d <;> first | (cases h; done) | exact ⟨rfl, rfl⟩
instance {α : Type} {e : α → D} [DecidableEq α] [EqE e] [NnE e] : EqE (eO e) := ⟨fun a b => by
  cases a <;> cases b
  · rfl
  · show PyData.eqv .none (e _) = _; rw [(eqv_none (NnE.nn _)).1]; rfl
  · show PyData.eqv (e _) .none = _; rw [(eqv_none (NnE.nn _)).2]; rfl
  · show PyData.eqv (e _) (e _) = _; rw [EqE.eqv]; simp⟩
end Pv

namespace Pv
open PySem PySem.Spec PyProof.Rows L2

theorem asE {α : Type} {x : Tr D} (e : α → D) (v : α) (h : x = .ret (e v)) : x = .ret (e v) := h
def eqT {α : Type} [DecidableEq α] (a b : α) : Bool := decide (a = b)
def memT {α : Type} [DecidableEq α] (a : α) (xs : List α) : Bool := decide (a ∈ xs)
@[simp] theorem eqT_def {α : Type} [DecidableEq α] (a b : α) : eqT a b = decide (a = b) := rfl
@[simp] theorem memT_def {α : Type} [DecidableEq α] (a : α) (xs : List α) : memT a xs = decide (a ∈ xs) := rfl
theorem rtoX {α : Type} {x : Tr D} {t : Tr α} {e : α → D} (h : RefE x t e) : RefE x (t.bind fun a => .ret (e a)) eX := .mk fun Q q => h.run Q (Tr.wp_mono (fun a ha b r => by cases r; exact ha _ rfl) (Tr.wp_bind.mp q))
theorem ix_P0 {α β : Type} {e : α → D} {f : β → D} (p : α × β) : idxD (eP e f p) (.int 0) = .ret (e p.1) := rfl
theorem ix_P1 {α β : Type} {e : α → D} {f : β → D} (p : α × β) : idxD (eP e f p) (.int 1) = .ret (f p.2) := rfl
theorem ix_P3_0 {α β γ : Type} {e : α → D} {f : β → D} {g : γ → D} (p : α × β × γ) : idxD (eP3 e f g p) (.int 0) = .ret (e p.1) := rfl
theorem ix_P3_1 {α β γ : Type} {e : α → D} {f : β → D} {g : γ → D} (p : α × β × γ) : idxD (eP3 e f g p) (.int 1) = .ret (f p.2.1) := rfl
theorem ix_P3_2 {α β γ : Type} {e : α → D} {f : β → D} {g : γ → D} (p : α × β × γ) : idxD (eP3 e f g p) (.int 2) = .ret (g p.2.2) := rfl
theorem isX_none (d : D) : isD d .none = .ret (.bool (isNon d)) := by cases d <;> rfl
theorem isNotX_none (d : D) : isNotD d .none = .ret (.bool (!isNon d)) := by cases d <;> rfl
theorem isX_b (a b : Bool) : isD (.bool a) (.bool b) = .ret (.bool (eqT a b)) := rfl
theorem isNotX_b (a b : Bool) : isNotD (.bool a) (.bool b) = .ret (.bool (!eqT a b)) := rfl
theorem pc {ρ : Ev} (d : D) : cn d ρ = .ret d := rfl
theorem neg_I (a : Int) : negD (.int a) = .ret (.int (-a)) := rfl
theorem add_I (a b : Int) : addD (.int a) (.int b) = .ret (.int (a + b)) := rfl
theorem sub_I (a b : Int) : subD (.int a) (.int b) = .ret (.int (a - b)) := rfl
theorem lt_I (a b : Int) : ltD (.int a) (.int b) = .ret (.bool (decide (a < b))) := rfl
theorem le_I (a b : Int) : leD (.int a) (.int b) = .ret (.bool (decide (a ≤ b))) := rfl
theorem gt_I (a b : Int) : gtD (.int a) (.int b) = .ret (.bool (decide (b < a))) := rfl
theorem ge_I (a b : Int) : geD (.int a) (.int b) = .ret (.bool (decide (b ≤ a))) := rfl
theorem eq_I (a b : Int) : eqD (.int a) (.int b) = .ret (.bool (decide (a = b))) := rfl
theorem ne_I (a b : Int) : neD (.int a) (.int b) = .ret (.bool (!decide (a = b))) := rfl
theorem tru_I (a : Int) : truB (.int a) = .ret (a != 0) := rfl
theorem tru_B (a : Bool) : truB (.bool a) = .ret a := rfl
theorem tru_L {α : Type} {ea : α → D} (xs : List α) : truB (eL ea xs) = .ret (!xs.isEmpty) := by cases xs <;> rfl
theorem tru_T {α : Type} {ea : α → D} (xs : List α) : truB (eT ea xs) = .ret (!xs.isEmpty) := by cases xs <;> rfl
section
variable {α β γ σ τ : Type} {R : γ → D → Prop} {ρ ρ' ρ1 : Ev} {f g k : EF} {x y z d : D} {φ ψ : D → D → Tr D} {φ1 : D → Tr D} {ta : Tr α} {tb : Tr β} {ea : α → D} {eb : β → D}
theorem pv (i : Nat) {d : D} (h : ρ[i]? = some (some d)) : vr i ρ = .ret d := by unfold vr; rw [h]
theorem op1_eq (h : f ρ = .ret x) (h2 : φ1 x = .ret y) : op1 φ1 f ρ = .ret y := by unfold op1; rw [h]; exact h2
theorem op3_eq {φ3 : D → D → D → Tr D} {d : D} (h : f ρ = .ret x) (h1 : g ρ = .ret y) (h2 : k ρ = .ret z) (h3 : φ3 x y z = .ret d) : op3 φ3 f g k ρ = .ret d := by unfold op3; rw [h, Tr.ret_bind, h1, Tr.ret_bind, h2]; exact h3
theorem rop1p {t : Tr γ} (h : f ρ = .ret x) (k : RefG (φ1 x) t R) : RefG (op1 φ1 f ρ) t R := by unfold op1; rw [h]; exact k
theorem rop1e {u : α → Tr γ} (h : RefE (f ρ) ta ea) (k : ∀ a, RefG (φ1 (ea a)) (u a) R) : RefG (op1 φ1 f ρ) (ta.bind u) R := rbindE h k
theorem rop2pp {t : Tr γ} (hf : f ρ = .ret x) (hg : g ρ = .ret y) (h : RefG (φ x y) t R) : RefG (op2 φ f g ρ) t R := by unfold op2; rw [hf, Tr.ret_bind, hg]; exact h
theorem rop2pe {u : β → Tr γ} (hf : f ρ = .ret x) (hg : RefE (g ρ) tb eb) (h : ∀ b, RefG (φ x (eb b)) (u b) R) : RefG (op2 φ f g ρ) (tb.bind u) R := by unfold op2; rw [hf, Tr.ret_bind]; exact rbindE hg h
theorem rop2ep {u : α → Tr γ} (hf : RefE (f ρ) ta ea) (hg : g ρ = .ret y) (h : ∀ a, RefG (φ (ea a) y) (u a) R) : RefG (op2 φ f g ρ) (ta.bind u) R := rbindE hf fun a => by rw [hg]; exact h a
theorem rop2ee {u : α → β → Tr γ} (hf : RefE (f ρ) ta ea) (hg : RefE (g ρ) tb eb) (h : ∀ a b, RefG (φ (ea a) (eb b)) (u a b) R) : RefG (op2 φ f g ρ) (ta.bind fun a => tb.bind fun b => u a b) R := rbindE hf fun a => rbindE hg fun b => h a b
theorem rop3p {φ3 : D → D → D → Tr D} {t : Tr γ} (h : f ρ = .ret x) (h1 : g ρ = .ret y) (h2 : k ρ = .ret z) (h3 : RefG (φ3 x y z) t R) : RefG (op3 φ3 f g k ρ) t R := by unfold op3; rw [h, Tr.ret_bind, h1, Tr.ret_bind, h2]; exact h3
theorem rtof {t : Tr Bool} (h : RefE (f ρ) t PyData.bool) : RefB (tOf f ρ) t := .mk fun Q q => by
  unfold tOf; rw [Tr.wp_bind]
  exact h.run _ (Tr.wp_mono (fun b hb d e => by cases e; exact hb b rfl) q)
theorem ptru {b : Bool} (h : f ρ = .ret x) (h2 : truB x = .ret b) : tTru f ρ = .ret b := by unfold tTru; rw [h]; exact h2
theorem rtru {u : α → Bool} (h : RefE (f ρ) ta ea) (h2 : ∀ a, truB (ea a) = .ret (u a)) : RefB (tTru f ρ) (ta.bind fun a => .ret (u a)) := rbindE h fun a => rretB (h2 a)
variable {s t : TF} {a b : Bool} {ts tt : Tr Bool}
theorem ptnot (h : s ρ = .ret a) : tNot s ρ = .ret (!a) := by unfold tNot; rw [h]; rfl
theorem rtnot (h : RefB (s ρ) ts) : RefB (tNot s ρ) (ts.bind fun a => .ret (!a)) := rbind h fun a b e => by cases e; exact rretB rfl
theorem ptand (h : s ρ = .ret a) (k : t ρ = .ret b) : tAnd s t ρ = .ret (a && b) := by unfold tAnd; rw [h, Tr.ret_bind]; cases a; rfl; exact k
theorem rtandp (h : s ρ = .ret a) (k : RefB (t ρ) tt) : RefB (tAnd s t ρ) (if a then tt else .ret false) := by
  unfold tAnd; rw [h, Tr.ret_bind]; cases a; exact rretB rfl; exact k
theorem rtande (h : RefB (s ρ) ts) (k : RefB (t ρ) tt) : RefB (tAnd s t ρ) (ts.bind fun a => if a then tt else .ret false) := rbind h fun a b e => by cases e; cases a; exact rretB rfl; exact k
theorem ptor (h : s ρ = .ret a) (k : t ρ = .ret b) : tOr s t ρ = .ret (a || b) := by unfold tOr; rw [h, Tr.ret_bind]; cases a; exact k; rfl
theorem rtorp (h : s ρ = .ret a) (k : RefB (t ρ) tt) : RefB (tOr s t ρ) (if a then .ret true else tt) := by
  unfold tOr; rw [h, Tr.ret_bind]; cases a; exact k; exact rretB rfl
theorem rtore (h : RefB (s ρ) ts) (k : RefB (t ρ) tt) : RefB (tOr s t ρ) (ts.bind fun a => if a then .ret true else tt) := rbind h fun a b e => by cases e; cases a; exact k; exact rretB rfl
theorem penot (h : f ρ = .ret (.bool a)) : eNot f ρ = .ret (.bool (!a)) := by unfold eNot; rw [h]; rfl
theorem peand (h : f ρ = .ret (.bool a)) (k : g ρ = .ret (.bool b)) : eAnd f g ρ = .ret (.bool (a && b)) := by unfold eAnd; rw [h]; cases a; rfl; exact k
theorem peor (h : f ρ = .ret (.bool a)) (k : g ρ = .ret (.bool b)) : eOr f g ρ = .ret (.bool (a || b)) := by unfold eOr; rw [h]; cases a; exact k; rfl
theorem rblE {u : Bool → Tr γ} {w : Bool → Tr D} (h : RefE (f ρ) ts PyData.bool) (k : ∀ a, RefG (w a) (u a) R) : RefG (((f ρ).bind bl).bind w) (ts.bind u) R := by
  rw [Tr.bind_assoc]; exact rbindE h k
theorem renot (h : RefE (f ρ) ts PyData.bool) : RefE (eNot f ρ) (ts.bind fun a => .ret (!a)) PyData.bool := rblE h fun a => rretE rfl
theorem reandp (h : f ρ = .ret (.bool a)) (k : RefE (g ρ) tt PyData.bool) : RefE (eAnd f g ρ) (if a then tt else .ret false) PyData.bool := by
  unfold eAnd; rw [h]; cases a; exact rretE rfl; exact k
theorem reande (h : RefE (f ρ) ts PyData.bool) (k : RefE (g ρ) tt PyData.bool) : RefE (eAnd f g ρ) (ts.bind fun a => if a then tt else .ret false) PyData.bool := rblE h fun a => by cases a; exact rretE rfl; exact k
theorem reorp (h : f ρ = .ret (.bool a)) (k : RefE (g ρ) tt PyData.bool) : RefE (eOr f g ρ) (if a then .ret true else tt) PyData.bool := by
  unfold eOr; rw [h]; cases a; exact k; exact rretE rfl
theorem reore (h : RefE (f ρ) ts PyData.bool) (k : RefE (g ρ) tt PyData.bool) : RefE (eOr f g ρ) (ts.bind fun a => if a then .ret true else tt) PyData.bool := rblE h fun a => by cases a; exact k; exact rretE rfl
theorem peif {v w : α} (h : s ρ = .ret a) (hf : f ρ = .ret (ea v)) (hg : g ρ = .ret (ea w)) : eIf s f g ρ = .ret (ea (if a then v else w)) := by unfold eIf; rw [h]; cases a; exact hg; exact hf
theorem reifp {t u : Tr γ} (h : s ρ = .ret a) (hf : RefG (f ρ) t R) (hg : RefG (g ρ) u R) : RefG (eIf s f g ρ) (if a then t else u) R := by unfold eIf; rw [h]; cases a; exact hg; exact hf
theorem reife {t u : Tr γ} (h : RefB (s ρ) ts) (hf : RefG (f ρ) t R) (hg : RefG (g ρ) u R) : RefG (eIf s f g ρ) (ts.bind fun a => if a then t else u) R := rbind h fun a b e => by cases e; cases a; exact hg; exact hf
theorem pchain (hf : f ρ = .ret x) (hg : g ρ = .ret y) (hk : k ρ = .ret z) (h1 : φ x y = .ret (.bool a)) (h2 : ψ y z = .ret (.bool b)) : chain φ ψ f g k ρ = .ret (.bool (a && b)) := by
  unfold chain; rw [hf, Tr.ret_bind, hg, Tr.ret_bind, h1]; cases a
  · rfl
  · show (k ρ).bind _ = _; rw [hk]; exact h2
theorem rchain (hf : f ρ = .ret x) (hg : g ρ = .ret y) (h1 : φ x y = .ret (.bool a)) (hk : RefE (k ρ) tb eb) {u : β → Tr Bool} (h2 : ∀ b, RefE (ψ y (eb b)) (u b) PyData.bool) : RefE (chain φ ψ f g k ρ) (if a then tb.bind u else .ret false) PyData.bool := by
  unfold chain; rw [hf, Tr.ret_bind, hg, Tr.ret_bind, h1]; cases a
  · exact rretE rfl
  · exact rbindE hk h2
theorem rchaine {u : α → Tr Bool} (hf : RefE (f ρ) ta ea) (h : ∀ a, RefE (chain φ ψ (cn (ea a)) g k ρ) (u a) PyData.bool) : RefE (chain φ ψ f g k ρ) (ta.bind u) PyData.bool := rbindE hf h
theorem rchaing {κ : Type} {tc : Tr κ} {ec : κ → D} {u1 : α → β → Bool} {u2 : β → κ → Bool} (hf : RefE (f ρ) ta ea) (hg : RefE (g ρ) tb eb) (h1 : ∀ a b, φ (ea a) (eb b) = .ret (.bool (u1 a b))) (hk : RefE (k ρ) tc ec) (h2 : ∀ b c, ψ (eb b) (ec c) = .ret (.bool (u2 b c))) : RefE (chain φ ψ f g k ρ) (ta.bind fun a => tb.bind fun b => if u1 a b then tc.bind fun c => .ret (u2 b c) else .ret false) PyData.bool :=
  rbindE hf fun a => rbindE hg fun b => by
    rw [h1]
    show RefG (if u1 a b then _ else _) _ _
    cases u1 a b
    · exact rretE rfl
    · exact rbindE hk fun c => rretE (h2 b c)
theorem at_nil : aNil ρ = .ret (([] : List α).map ea) := rfl
theorem at_cons {p : AF} {v : α} {vs : List α} (h : f ρ = .ret (ea v)) (k : p ρ = .ret (vs.map ea)) : aCons f p ρ = .ret ((v :: vs).map ea) := by unfold aCons; rw [h, Tr.ret_bind, k]; rfl
theorem at_star {p : AF} {ws vs : List α} (h : f ρ = .ret x) (hx : seqD x = .ret (ws.map ea)) (k : p ρ = .ret (vs.map ea)) : aStar f p ρ = .ret ((ws ++ vs).map ea) := by unfold aStar; rw [h, Tr.ret_bind, hx, Tr.ret_bind, k, List.map_append]; rfl
theorem ac_nil : aNil ρ = .ret [] := rfl
theorem ac_cons {p : AF} {ds : List D} (h : f ρ = .ret d) (k : p ρ = .ret ds) : aCons f p ρ = .ret (d :: ds) := by unfold aCons; rw [h, Tr.ret_bind, k]; rfl
theorem pcall {Φ : List D → Tr D} {p : AF} {ds : List D} (h : p ρ = .ret ds) (k : Φ ds = .ret d) : eCall Φ p ρ = .ret d := by unfold eCall; rw [h]; exact k
theorem rcall {Φ : List D → Tr D} {p : AF} {ds : List D} {t : Tr γ} (h : p ρ = .ret ds) (k : RefG (Φ ds) t R) : RefG (eCall Φ p ρ) t R := by unfold eCall; rw [h]; exact k
theorem rcallc {Φ : List D → Tr D} {p : AF} {t : Tr γ} (k : RefG ((p ρ).bind Φ) t R) : RefG (eCall Φ p ρ) t R := k
theorem rac {δ : Type} {S : γ → δ → Prop} {p : AF} {K : List D → Tr δ} {u : α → Tr γ} (h : RefE (f ρ) ta ea) (k : ∀ v, RefG ((p ρ).bind fun ds => K (ea v :: ds)) (u v) S) : RefG ((aCons f p ρ).bind K) (ta.bind u) S := by
  unfold aCons; rw [Tr.bind_assoc]
  exact rbindE h fun v => by rw [Tr.bind_assoc]; exact k v
theorem racp {δ : Type} {S : γ → δ → Prop} {p : AF} {K : List D → Tr δ} {t : Tr γ} (h : f ρ = .ret d) (k : RefG ((p ρ).bind fun ds => K (d :: ds)) t S) : RefG ((aCons f p ρ).bind K) t S := by
  unfold aCons; rw [h, Tr.ret_bind, Tr.bind_assoc]; exact k
theorem ranil {δ : Type} {S : γ → δ → Prop} {K : List D → Tr δ} {t : Tr γ} (k : RefG (K []) t S) : RefG ((aNil ρ).bind K) t S := k
theorem ptup {p : AF} {ds : List D} (h : p ρ = .ret ds) (hl : ds.length ≤ lim) : eTup p ρ = .ret (.tuple ds) := by unfold eTup; rw [h, Tr.ret_bind, need_pos hl]
theorem plst {p : AF} {ds : List D} (h : p ρ = .ret ds) (hl : ds.length ≤ lim) : eLst p ρ = .ret (.list ds) := by unfold eLst; rw [h, Tr.ret_bind, need_pos hl]
theorem rtupS {p : AF} {vs : List α} (h : p ρ = .ret (vs.map ea)) : RefE (eTup p ρ) (need (vs.length ≤ lim) (.ret vs)) (eT ea) := by
  unfold eTup; rw [h, Tr.ret_bind]; exact rneedX (fun q => by rw [List.length_map]; exact q) (rretE rfl)
theorem rlstS {p : AF} {vs : List α} (h : p ρ = .ret (vs.map ea)) : RefE (eLst p ρ) (need (vs.length ≤ lim) (.ret vs)) (eL ea) := by
  unfold eLst; rw [h, Tr.ret_bind]; exact rneedX (fun q => by rw [List.length_map]; exact q) (rretE rfl)
theorem rtupc {p : AF} {t : Tr γ} (k : RefG ((p ρ).bind fun ds => need (ds.length ≤ lim) (.ret (.tuple ds))) t R) : RefG (eTup p ρ) t R := k
theorem rlstc {p : AF} {t : Tr γ} (k : RefG ((p ρ).bind fun ds => need (ds.length ≤ lim) (.ret (.list ds))) t R) : RefG (eLst p ρ) t R := k
theorem rdisp {ds : List D} {w : List D → D} {v : α} (hl : ds.length ≤ lim) (h : w ds = ea v) : RefE ((fun ds => need (ds.length ≤ lim) (Tr.ret (w ds))) ds) (.ret v) ea := by
  show RefE (need _ _) _ _
  rw [need_pos hl]; exact rretE (by rw [h])
theorem racs {δ : Type} {S : γ → δ → Prop} {p : AF} {K : List D → Tr δ} {u : List D → Tr γ} (h : f ρ = .ret d) (k : ∀ ws, RefG ((p ρ).bind fun ds => K (ws ++ ds)) (u ws) S) : RefG ((aStar f p ρ).bind K) ((seqD d).bind u) S := by
  unfold aStar; rw [h, Tr.ret_bind, Tr.bind_assoc]
  exact rbind (R := fun a b => b = a) (.mk fun Q q => Tr.wp_mono (fun a ha => ha a rfl) q) fun a b e => by cases e; rw [Tr.bind_assoc]; exact k a
def intOf : D → Tr Int
  | .int i => .ret i
  | _ => .fail
theorem rXb {x : Tr D} {t : Tr D} (h : RefE x t eX) : RefE x (t.bind bl) PyData.bool := .mk fun Q q => h.run Q (Tr.wp_mono (fun d hd y e => by
  cases e; cases d <;> first | exact hd.elim | exact hd _ rfl) (Tr.wp_bind.mp q))
theorem rXi {x : Tr D} {t : Tr D} (h : RefE x t eX) : RefE x (t.bind intOf) PyData.int := .mk fun Q q => h.run Q (Tr.wp_mono (fun d hd y e => by
  cases e; cases d <;> first | exact hd.elim | exact hd _ rfl) (Tr.wp_bind.mp q))
theorem rXpb {x : Tr D} {d : D} (h : x = .ret d) : RefE x (bl d) PyData.bool := .mk fun Q q => by
  rw [h]; cases d <;> first | exact q.elim | exact q _ rfl
theorem rXpi {x : Tr D} {d : D} (h : x = .ret d) : RefE x (intOf d) PyData.int := .mk fun Q q => by
  rw [h]; cases d <;> first | exact q.elim | exact q _ rfl
def cutA {α : Type} (xs : List α) (lo hi : Option Int) : List α := (xs.drop (HT.sIx xs.length 0 lo)).take (HT.sIx xs.length xs.length hi - HT.sIx xs.length 0 lo)
theorem cut_map (xs : List α) (lo hi : Option Int) : cutD (xs.map ea) lo hi = (cutA xs lo hi).map ea := by unfold cutD cutA; rw [List.length_map, List.map_take, List.map_drop]
theorem sl_T (xs : List α) (lo hi : Option Int) : sliceD (eT ea xs) lo hi = .ret (eT ea (cutA xs lo hi)) := by
  show Tr.ret (PyData.tuple (cutD (xs.map ea) lo hi)) = _; rw [cut_map]; rfl
theorem sl_L (xs : List α) (lo hi : Option Int) : sliceD (eL ea xs) lo hi = .ret (eL ea (cutA xs lo hi)) := by
  show Tr.ret (PyData.list (cutD (xs.map ea) lo hi)) = _; rw [cut_map]; rfl
theorem po_none : noPart ρ = .ret none := rfl
theorem po_some {i : Int} (h : f ρ = .ret (.int i)) : part f ρ = .ret (some i) := by unfold part; rw [h]; rfl
theorem pslc {lo hi : PF} {l h : Option Int} (e1 : f ρ = .ret x) (e2 : lo ρ = .ret l) (e3 : hi ρ = .ret h) (q : sliceD x l h = .ret y) : slc f lo hi ρ = .ret y := by unfold slc; rw [e1, Tr.ret_bind, e2, Tr.ret_bind, e3]; exact q
theorem rslcp {lo hi : PF} {l h : Option Int} {t : Tr γ} (e1 : f ρ = .ret x) (e2 : lo ρ = .ret l) (e3 : hi ρ = .ret h) (q : RefG (sliceD x l h) t R) : RefG (slc f lo hi ρ) t R := by unfold slc; rw [e1, Tr.ret_bind, e2, Tr.ret_bind, e3]; exact q
theorem rslce {lo hi : PF} {u : α → Tr γ} (e1 : RefE (f ρ) ta ea) (q : ∀ a, RefG (slc (cn (ea a)) lo hi ρ) (u a) R) : RefG (slc f lo hi ρ) (ta.bind u) R := rbindE e1 q
def OkO (e : Int → D) : Option Int → Option Int → Prop := fun a b => b = a
theorem rpo {t : Tr Int} (h : RefE (f ρ) t PyData.int) : RefG (part f ρ) (t.bind fun i => .ret (some i)) (fun a b => b = a) := rbindE h fun i => rret rfl rfl
theorem rslc2 {lo hi : PF} {tl th : Tr (Option Int)} {u : Option Int → Option Int → Tr γ} (e1 : f ρ = .ret x) (e2 : RefG (lo ρ) tl (fun a b => b = a)) (e3 : RefG (hi ρ) th (fun a b => b = a)) (q : ∀ l h, RefG (sliceD x l h) (u l h) R) : RefG (slc f lo hi ρ) (tl.bind fun l => th.bind fun h => u l h) R := by
  unfold slc; rw [e1, Tr.ret_bind]
  exact rbind e2 fun l l' e => by cases e; exact rbind e3 fun h h' e => by cases e; exact q l h
theorem rev_T (xs : List α) : revD (eT ea xs) = .ret (eT ea xs.reverse) := by show Tr.ret (PyData.tuple (xs.map ea).reverse) = _; rw [← List.map_reverse]; rfl
theorem rev_L (xs : List α) : revD (eL ea xs) = .ret (eL ea xs.reverse) := by show Tr.ret (PyData.list (xs.map ea).reverse) = _; rw [← List.map_reverse]; rfl
theorem atI_map (xs : List α) (i : Int) : atI (xs.map ea) i = (atI xs i).map ea := by
  unfold atI; rw [List.length_map]
  cases ixN xs.length i with
  | none => rfl
  | some j => show (xs.map ea)[j]? = _; rw [List.getElem?_map]; rfl
def ofO {α : Type} : Option α → Tr α
  | some a => .ret a
  | none => .fail
/-- xs[i] -/
def getT {α : Type} (xs : List α) (i : Int) : Tr α := ofO (atI xs i)
theorem ix_T (xs : List α) (i : Int) : RefE (idxD (eT ea xs) (.int i)) (getT xs i) ea := by
  show RefE (match atI (xs.map ea) i with | some d => Tr.ret d | none => .fail) _ _
  rw [atI_map]; unfold getT
  cases atI xs i with
  | none => exact rfail
  | some v => exact rretE rfl
theorem ix_L (xs : List α) (i : Int) : RefE (idxD (eL ea xs) (.int i)) (getT xs i) ea := by
  show RefE (match atI (xs.map ea) i with | some d => Tr.ret d | none => .fail) _ _
  rw [atI_map]; unfold getT
  cases atI xs i with
  | none => exact rfail
  | some v => exact rretE rfl
theorem cat_T (xs ys : List α) : RefE (addD (eT ea xs) (eT ea ys)) (need (xs.length + ys.length ≤ lim) (.ret (xs ++ ys))) (eT ea) := by
  show RefE (need ((xs.map ea).length + (ys.map ea).length ≤ lim) (Tr.ret (PyData.tuple (xs.map ea ++ ys.map ea)))) _ _
  rw [List.length_map, List.length_map, ← List.map_append]; exact rneedX id (rretE rfl)
theorem cat_L (xs ys : List α) : RefE (addD (eL ea xs) (eL ea ys)) (need (xs.length + ys.length ≤ lim) (.ret (xs ++ ys))) (eL ea) := by
  show RefE (need ((xs.map ea).length + (ys.map ea).length ≤ lim) (Tr.ret (PyData.list (xs.map ea ++ ys.map ea)))) _ _
  rw [List.length_map, List.length_map, ← List.map_append]; exact rneedX id (rretE rfl)
theorem rep_L (xs : List α) (k : Int) : RefE (mulD (eL ea xs) (.int k)) (need (-(2 ^ 63) ≤ k ∧ k < 2 ^ 63 ∧ xs.length * k.toNat ≤ lim) (.ret (List.replicate k.toNat xs).flatten)) (eL ea) := by
  show RefE (need (-(2 ^ 63) ≤ k ∧ k < 2 ^ 63 ∧ (xs.map ea).length * k.toNat ≤ lim) (Tr.ret (PyData.list (List.replicate k.toNat (xs.map ea)).flatten))) _ _
  rw [List.length_map]; exact rneedX id (rretE (by unfold eL; congr 2; rw [List.map_flatten, List.map_replicate]))
theorem mul_I (i j : Int) : RefE (mulD (.int i) (.int j)) (need (small64 i ∨ small64 j) (.ret (i * j))) PyData.int := rneedX id (rretE rfl)
theorem fdiv_I (i j : Int) : RefE (fdivD (.int i) (.int j)) (need (0 < j ∧ j < 2 ^ 1000) (.ret (i / j))) PyData.int := rneedX id (rretE rfl)
theorem mod_I (i j : Int) : RefE (modD (.int i) (.int j)) (need (0 < j) (.ret (i % j))) PyData.int := rneedX id (rretE rfl)
theorem pow_I (i j : Int) : RefE (powD (.int i) (.int j)) (need (0 ≤ j ∧ j ≤ 1000000 ∧ i.natAbs < 2 ^ 64) (.ret (i ^ j.toNat))) PyData.int := rneedX id (rretE rfl)
theorem shl_I (i j : Int) : RefE (shlD (.int i) (.int j)) (need (0 ≤ j ∧ j ≤ 1000000 ∧ i.natAbs < 2 ^ 64) (.ret (i * 2 ^ j.toNat))) PyData.int := rneedX id (rretE rfl)
theorem fdiv_lit (i : Int) {j : Int} (h : 0 < j ∧ j < 2 ^ 1000) : fdivD (.int i) (.int j) = .ret (.int (i / j)) := need_pos h
theorem mod_lit (i : Int) {j : Int} (h : 0 < j) : modD (.int i) (.int j) = .ret (.int (i % j)) := need_pos h
theorem mul_litr (i : Int) {j : Int} (h : small64 j) : mulD (.int i) (.int j) = .ret (.int (i * j)) := need_pos (.inr h)
theorem mul_litl {i : Int} (j : Int) (h : small64 i) : mulD (.int i) (.int j) = .ret (.int (i * j)) := need_pos (.inl h)
variable {n : Nat} {m : Nat}
theorem eqD_sh {d e : D} (h : shp d = true) (k : shp e = true) : eqD d e = .ret (.bool (PyData.eqv d e)) := by
  cases d <;> cases e <;> first | exact need_pos ⟨h, k⟩ | (show Tr.ret (PyData.bool (decide (_ = _))) = Tr.ret (PyData.bool (_ == _)); congr 2; exact (Bool.beq_eq_decide_eq _ _).symm) | skip
  · rename_i i j; show Tr.ret (PyData.bool (decide (i = j))) = _; rw [eqv_int]
  · rename_i i j; show Tr.ret (PyData.bool (decide (i = j))) = _; rw [EqE.eqv]
theorem neD_sh {d e : D} (h : shp d = true) (k : shp e = true) : neD d e = .ret (.bool (!PyData.eqv d e)) := by
  cases d <;> cases e <;> first | exact need_pos ⟨h, k⟩ | skip
  · rename_i i j; show Tr.ret (PyData.bool (!decide (i = j))) = _; rw [eqv_int]
  · rename_i i j; show Tr.ret (PyData.bool (!decide (i = j))) = _; rw [EqE.eqv]
theorem eq_ty [DecidableEq α] [GoodE ea n] [EqE ea] (a b : α) (h : n ≤ 64 := by decide) : eqD (ea a) (ea b) = .ret (.bool (eqT a b)) := by rw [eqD_sh (shpE a h) (shpE b h), EqE.eqv]; rfl
theorem ne_ty [DecidableEq α] [GoodE ea n] [EqE ea] (a b : α) (h : n ≤ 64 := by decide) : neD (ea a) (ea b) = .ret (.bool (!eqT a b)) := by rw [neD_sh (shpE a h) (shpE b h), EqE.eqv]; rfl
theorem any_map [DecidableEq α] [EqE ea] (xs : List α) (v : α) : ((xs.map ea).any fun z => PyData.eqv z (ea v)) = decide (v ∈ xs) := by
  rw [List.any_map, Bool.eq_iff_iff]
  simp [List.any_eq_true, EqE.eqv]
theorem inB_L [DecidableEq α] [GoodE ea n] [EqE ea] (v : α) (xs : List α) (h : n + 1 ≤ 64 := by decide) : inB (ea v) (eL ea xs) = .ret (decide (v ∈ xs)) := by
  show need (shp (ea v) = true ∧ shp (eL ea xs) = true) (.ret ((xs.map ea).any fun z => PyData.eqv z (ea v))) = _
  rw [need_pos ⟨shpE v (by omega), shpE (e := eL ea) xs h⟩, any_map]
theorem inB_T [DecidableEq α] [GoodE ea n] [EqE ea] (v : α) (xs : List α) (h : n + 1 ≤ 64 := by decide) : inB (ea v) (eT ea xs) = .ret (decide (v ∈ xs)) := by
  show need (shp (ea v) = true ∧ shp (eT ea xs) = true) (.ret ((xs.map ea).any fun z => PyData.eqv z (ea v))) = _
  rw [need_pos ⟨shpE v (by omega), shpE (e := eT ea) xs h⟩, any_map]
theorem in_L [DecidableEq α] [GoodE ea n] [EqE ea] (v : α) (xs : List α) (h : n + 1 ≤ 64 := by decide) : inD (ea v) (eL ea xs) = .ret (.bool (memT v xs)) := by unfold inD; rw [inB_L v xs h]; rfl
theorem in_T [DecidableEq α] [GoodE ea n] [EqE ea] (v : α) (xs : List α) (h : n + 1 ≤ 64 := by decide) : inD (ea v) (eT ea xs) = .ret (.bool (memT v xs)) := by unfold inD; rw [inB_T v xs h]; rfl
theorem notIn_L [DecidableEq α] [GoodE ea n] [EqE ea] (v : α) (xs : List α) (h : n + 1 ≤ 64 := by decide) : notInD (ea v) (eL ea xs) = .ret (.bool (!memT v xs)) := by unfold notInD; rw [inB_L v xs h]; rfl
theorem notIn_T [DecidableEq α] [GoodE ea n] [EqE ea] (v : α) (xs : List α) (h : n + 1 ≤ 64 := by decide) : notInD (ea v) (eT ea xs) = .ret (.bool (!memT v xs)) := by unfold notInD; rw [inB_T v xs h]; rfl
theorem is_O [NnE ea] (o : Option α) : isD (eO ea o) .none = .ret (.bool o.isNone) := by
  cases o with
  | none => rfl
  | some v => show isD (ea v) .none = _; have h := NnE.nn (e := ea) v; cases q : ea v <;> rw [q] at h <;> first | (cases h; done) | rfl
theorem isNot_O [NnE ea] (o : Option α) : isNotD (eO ea o) .none = .ret (.bool (!o.isNone)) := by
  cases o with
  | none => rfl
  | some v => show isNotD (ea v) .none = _; have h := NnE.nn (e := ea) v; cases q : ea v <;> rw [q] at h <;> first | (cases h; done) | rfl
def eqXT (d e : D) : Tr Bool := need (shp d = true ∧ shp e = true) (.ret (PyData.eqv d e))
theorem eqX (d e : D) : RefE (eqD d e) (eqXT d e) PyData.bool := rneed fun h => rretE (eqD_sh h.1 h.2)
def neXT (d e : D) : Tr Bool := need (shp d = true ∧ shp e = true) (.ret (!PyData.eqv d e))
theorem neX (d e : D) : RefE (neD d e) (neXT d e) PyData.bool := rneed fun h => rretE (neD_sh h.1 h.2)
theorem eqS (a b : Str) : eqD (.str a) (.str b) = .ret (.bool (eqT a b)) := rfl
theorem neS (a b : Str) : neD (.str a) (.str b) = .ret (.bool (!eqT a b)) := rfl
theorem lt_TI (a b : List Int) : ltD (eT PyData.int a) (eT PyData.int b) = .ret (.bool (HT.lexLt a b)) := by
  show (match intsOf (a.map .int), intsOf (b.map .int) with | some ns, some ms => Tr.ret (PyData.bool (HT.lexLt ns ms)) | _, _ => .fail) = _
  rw [intsOf_map, intsOf_map]
def inXT (d c : D) : Tr Bool := inB d c
theorem inX (d c : D) : RefE (inD d c) (inXT d c) PyData.bool := .mk fun Q q => by
  unfold inD; rw [Tr.wp_bind]; exact Tr.wp_mono (fun b hb => hb _ rfl) q
theorem notInX (d c : D) : RefE (notInD d c) ((inXT d c).bind fun b => .ret (!b)) PyData.bool := .mk fun Q q => by
  unfold notInD; rw [Tr.wp_bind]; exact Tr.wp_mono (fun b hb => hb _ rfl) (Tr.wp_bind.mp q)
def isaT (φ : D → Bool) (d : D) : Tr Bool := need (d.canLay0 = true) (.ret (φ d))
theorem isaX (φ : D → Bool) (d : D) : RefE (isaD φ d) (isaT φ d) PyData.bool := rneedX id (rretE rfl)
theorem isaE {φ : D → Bool} [GoodE ea n] (a : α) : isaD φ (ea a) = .ret (.bool (φ (ea a))) := need_pos (GoodE.can a)
theorem rtofX {f : EF} {ρ : Ev} {t : Tr D} (h : RefE (f ρ) t eX) : RefB (tOf f ρ) (t.bind bl) := .mk fun Q q => by
  unfold tOf; rw [Tr.wp_bind]
  exact h.run _ (Tr.wp_mono (fun b hb d e => by cases e; exact Tr.wp_mono (fun c hc => hc _ rfl) hb) (Tr.wp_bind.mp q))
theorem rtruX {f : EF} {ρ : Ev} {t : Tr D} (h : RefE (f ρ) t eX) : RefB (tTru f ρ) (t.bind truB) := .mk fun Q q => by
  unfold tTru; rw [Tr.wp_bind]
  exact h.run _ (Tr.wp_mono (fun b hb d e => by cases e; exact Tr.wp_mono (fun c hc => hc _ rfl) hb) (Tr.wp_bind.mp q))
theorem rtofp {f : EF} {ρ : Ev} {x : D} (h : f ρ = .ret x) : RefB (tOf f ρ) (bl x) := .mk fun Q q => by
  unfold tOf; rw [h]; exact Tr.wp_mono (fun c hc => hc _ rfl) q
theorem rtrup {f : EF} {ρ : Ev} {x : D} (h : f ρ = .ret x) : RefB (tTru f ρ) (truB x) := .mk fun Q q => by
  unfold tTru; rw [h]; exact Tr.wp_mono (fun c hc => hc _ rfl) q
theorem rpt {x : Tr D} {e : α → D} {v : α} (h : x = .ret (e v)) : RefE x (.ret v) e := rretE h
theorem len_T (xs : List α) : fn1 lenD [eT ea xs] = .ret (.int (xs.length : Nat)) := by show Tr.ret (PyData.int ((xs.map ea).length : Nat)) = _; rw [List.length_map]
theorem len_L (xs : List α) : fn1 lenD [eL ea xs] = .ret (.int (xs.length : Nat)) := by show Tr.ret (PyData.int ((xs.map ea).length : Nat)) = _; rw [List.length_map]
theorem len_M {ek : α → D} {ev : β → D} (xs : List (α × β)) : fn1 lenD [eM ek ev xs] = .ret (.int (xs.length : Nat)) := by show Tr.ret (PyData.int ((xs.map _).length : Nat)) = _; rw [List.length_map]
theorem tup_L (xs : List α) : fn1 tupleD [eL ea xs] = .ret (eT ea xs) := rfl
theorem tup_T (xs : List α) : fn1 tupleD [eT ea xs] = .ret (eT ea xs) := rfl
theorem lst_L (xs : List α) : fn1 listD [eL ea xs] = .ret (eL ea xs) := rfl
theorem lst_T (xs : List α) : fn1 listD [eT ea xs] = .ret (eL ea xs) := rfl
def b2i (b : Bool) : Int := if b then 1 else 0
theorem int_I (i : Int) : fn1 intD [.int i] = .ret (.int i) := rfl
theorem int_B (b : Bool) : fn1 intD [.bool b] = .ret (.int (b2i b)) := rfl
def absI (i : Int) : Int := if i < 0 then -i else i
theorem abs_I (i : Int) : fn1 absD [.int i] = .ret (.int (absI i)) := rfl
def max2 (i j : Int) : Int := if j > i then j else i
def min2 (i j : Int) : Int := if j < i then j else i
theorem max_I (i j : Int) : fn2 max2D [.int i, .int j] = .ret (.int (max2 i j)) := rfl
theorem min_I (i j : Int) : fn2 min2D [.int i, .int j] = .ret (.int (min2 i j)) := rfl
theorem bools_map : ∀ bs : List Bool, boolsOf (bs.map .bool) = some bs
  | [] => rfl
  | b :: bs => by simp only [List.map_cons, boolsOf, bools_map bs]; rfl
theorem any_B (bs : List Bool) : fn1 anyD [eL PyData.bool bs] = .ret (.bool (bs.any id)) := by show (match boolsOf (bs.map .bool) with | some bs => Tr.ret (PyData.bool (bs.any id)) | none => .fail) = _; rw [bools_map]
theorem all_B (bs : List Bool) : fn1 allD [eL PyData.bool bs] = .ret (.bool (bs.all id)) := by show (match boolsOf (bs.map .bool) with | some bs => Tr.ret (PyData.bool (bs.all id)) | none => .fail) = _; rw [bools_map]
theorem sum_I (ns : List Int) : fn1 sumD [eL PyData.int ns] = .ret (.int ns.sum) := by show (match intsOf (ns.map .int) with | some ns => Tr.ret (PyData.int ns.sum) | none => .fail) = _; rw [intsOf_map]
@[irreducible] def reprT (d : D) : Tr Str := need (okShow d) (.ret d.shown)
theorem repr_T (d : D) : RefE (fn1 reprD [d]) (reprT d) PyData.str := by unfold reprT; exact rneedX id (rretE rfl)
@[irreducible] def pickT (m : Int) : Tr Int := need (m < 2 ^ 1000) (.draw m .ret)
theorem pick_T (m : Int) : RefE (pickF [.int m]) (pickT m) PyData.int := by
  unfold pickT pickF
  exact rneedX id (.mk fun Q q r h0 h1 => q r h0 h1 _ rfl)
theorem rX {x : Tr D} : RefE x x eX := .mk fun Q q => Tr.wp_mono (fun d hd => hd d rfl) q
end
end Pv

namespace Pv
open PySem PySem.Spec PyProof.Rows L2

def forS {α σ : Type} (f : σ → α → Tr σ) : List α → σ → Tr σ
  | [], s => .ret s
  | a :: xs, s => (f s a).bind fun s' => forS f xs s'
def forF {α σ R : Type} (f : σ → α → Tr (Fo R σ)) : List α → σ → Tr (Lo R σ)
  | [], s => .ret (.nx s)
  | a :: xs, s => (f s a).bind fun o => match o with
    | .nx s' => forF f xs s'
    | .ct s' => forF f xs s'
    | .bk s' => .ret (.nx s')
    | .rt r => .ret (.rt r)
def Lo.on {R σ β : Type} (o : Lo R σ) (u : σ → β) (w : R → β) : β := match o with
  | .nx s => u s
  | .rt r => w r
@[simp] theorem Lo.on_nx {R σ β : Type} (s : σ) (u : σ → β) (w : R → β) : (Lo.nx s : Lo R σ).on u w = u s := rfl
@[simp] theorem Lo.on_rt {R σ β : Type} (r : R) (u : σ → β) (w : R → β) : (Lo.rt r : Lo R σ).on u w = w r := rfl
def whileS {σ : Type} (c : σ → Tr Bool) (f : σ → Tr σ) : Nat → σ → Tr σ
  | 0, _ => .fail
  | n + 1, s => (c s).bind fun b => if b then (f s).bind fun s' => whileS c f n s' else .ret s
def whileF {σ R : Type} (c : σ → Tr Bool) (f : σ → Tr (Fo R σ)) : Nat → σ → Tr (Lo R σ)
  | 0, _ => .fail
  | n + 1, s => (c s).bind fun b => if b then (f s).bind fun o => match o with
      | .nx s' => whileF c f n s'
      | .ct s' => whileF c f n s'
      | .bk s' => .ret (.nx s')
      | .rt r => .ret (.rt r)
    else .ret (.nx s)
def lcT {α β : Type} (p : α → Tr Bool) (m : α → Tr β) : List α → Tr (List β)
  | [] => .ret []
  | a :: xs => (p a).bind fun b => if b then (m a).bind fun y => (lcT p m xs).bind fun r => .ret (y :: r) else lcT p m xs
section
variable {α β γ σ τ : Type} {R : γ → Fl × Ev → Prop} {ρ ρ' ρ1 : Ev} {f : EF} {x y d : D} {ta : Tr α} {ea : α → D} {eb : β → D} {i : Nat} {g rest : SF} {t : Tr γ}
theorem rend {s : γ} (h : R s (.nx, ρ)) : RefG (sPass ρ) (.ret s) R := rret rfl h
theorem rpass (h : RefG (rest ρ) t R) : RefG (sSeq sPass rest ρ) t R := h
theorem seq_assoc (f g h : SF) (ρ : Ev) : sSeq (sSeq f g) h ρ = sSeq f (sSeq g h) ρ := by
  show ((f ρ).bind _).bind _ = _
  rw [Tr.bind_assoc]
  show _ = (f ρ).bind _
  congr 1
  funext r
  obtain ⟨fl, ρ'⟩ := r
  cases fl <;> rfl
theorem rassoc {f g h : SF} (k : RefG (sSeq f (sSeq g h) ρ) t R) : RefG (sSeq (sSeq f g) h ρ) t R := k.of_x (seq_assoc f g h ρ)
theorem rsetp {v : D} (h : f ρ = .ret v) (e : ρ.set i (some v) = ρ') (k : RefG (rest ρ') t R) : RefG (sSeq (sSet i f) rest ρ) t R := by rw [seq_nx (set_eq h), e]; exact k
theorem rset {u : α → Tr γ} (ρ' : α → Ev) (h : RefE (f ρ) ta ea) (e : ∀ v, ρ.set i (some (ea v)) = ρ' v) (k : ∀ v, RefG (rest (ρ' v)) (u v) R) : RefG (sSeq (sSet i f) rest ρ) (ta.bind u) R := by
  unfold sSeq sSet; rw [Tr.bind_assoc]
  exact rbindE h fun v => by show RefG (rest _) _ _; rw [e]; exact k v
theorem rretp {v : α} {w : γ} (h : f ρ = .ret (ea v)) (k : R w (.rt (ea v), ρ)) : RefG (sSeq (sRet f) rest ρ) (.ret w) R := by rw [seq_rt (ret_eq h)]; exact rret rfl k
theorem rrete {u : α → γ} (h : RefE (f ρ) ta ea) (k : ∀ v, R (u v) (.rt (ea v), ρ)) : RefG (sSeq (sRet f) rest ρ) (ta.bind fun v => .ret (u v)) R := by
  unfold sSeq sRet; rw [Tr.bind_assoc]
  exact rbindE h fun v => rret rfl (k v)
theorem rretv (h : RefE (f ρ) ta ea) : RefG (sSeq (sRet f) rest ρ) ta (Rv ea) := by
  have := rrete (rest := rest) (u := fun v => v) (R := Rv ea) h fun v => ⟨ρ, rfl⟩
  rwa [Tr.bind_ret] at this
theorem rretn {w : γ} (k : R w (.rt .none, ρ)) : RefG (sSeq sRetN rest ρ) (.ret w) R := by rw [seq_rt (show sRetN ρ = .ret (.rt .none, ρ) from rfl)]; exact rret rfl k
theorem rretO {v : α} {w : γ} (h : ρ[i]? = some (some (ea v))) (k : R w (.rt (ea v), ρ)) : RefG (sSeq (sRetO i) rest ρ) (.ret w) R := by
  rw [seq_rt (show sRetO i ρ = .ret (.rt (ea v), ρ) by unfold sRetO; rw [pv i h]; rfl)]; exact rret rfl k
theorem rbrk {w : γ} (k : R w (.bk, ρ)) : RefG (sSeq sBreak rest ρ) (.ret w) R := rret rfl k
theorem rcnt {w : γ} (k : R w (.ct, ρ)) : RefG (sSeq sCont rest ρ) (.ret w) R := rret rfl k
variable {c : TF} {A B : SF} {b : Bool} {tc : Tr Bool} {tA tB : Tr γ}
theorem if_seq (h : c ρ = .ret b) : sSeq (sIf c A B) rest ρ = if b then sSeq A rest ρ else sSeq B rest ρ := by
  unfold sSeq sIf; rw [h, Tr.ret_bind]; cases b <;> rfl
theorem rifp (h : c ρ = .ret b) (hA : RefG (sSeq A rest ρ) tA R) (hB : RefG (sSeq B rest ρ) tB R) : RefG (sSeq (sIf c A B) rest ρ) (if b then tA else tB) R := by
  rw [if_seq h]; exact rite hA hB
theorem rife (h : RefB (c ρ) tc) (hA : RefG (sSeq A rest ρ) tA R) (hB : RefG (sSeq B rest ρ) tB R) : RefG (sSeq (sIf c A B) rest ρ) (tc.bind fun b => if b then tA else tB) R := by
  unfold sSeq sIf; rw [Tr.bind_assoc]
  exact rbind h fun b b' e => by
    cases e; cases b
    · exact hB
    · exact hA
theorem rjoin {F : SF} {ts : Tr σ} {u : σ → Tr γ} (inv : σ → Ev → Prop) (h : RefG (F ρ) ts (Rnx inv)) (k : ∀ s ρ, inv s ρ → RefG (rest ρ) (u s) R) : RefG (sSeq F rest ρ) (ts.bind u) R :=
  rbind h fun s r hr => by obtain ⟨ρ', rfl, q⟩ := hr; exact k s ρ' q
theorem rifj {tA tB : Tr σ} (inv : σ → Ev → Prop) (h : c ρ = .ret b) (hA : RefG (A ρ) tA (Rnx inv)) (hB : RefG (B ρ) tB (Rnx inv)) : RefG (sIf c A B ρ) (if b then tA else tB) (Rnx inv) := by
  unfold sIf; rw [h, Tr.ret_bind]; exact rite hA hB
theorem rifje {tA tB : Tr σ} (inv : σ → Ev → Prop) (h : RefB (c ρ) tc) (hA : RefG (A ρ) tA (Rnx inv)) (hB : RefG (B ρ) tB (Rnx inv)) : RefG (sIf c A B ρ) (tc.bind fun b => if b then tA else tB) (Rnx inv) :=
  rbind h fun b b' e => by cases e; exact rite hA hB
theorem rappp {xs : List α} {v : α} (ho : ρ[i]? = some (some (eL ea xs))) (h : f ρ = .ret (ea v)) (e : ρ.set i (some (eL ea (xs ++ [v]))) = ρ') (k : RefG (rest ρ') t R) : RefG (sSeq (sApp i f) rest ρ) (need (xs.length < lim) t) R := rneed fun hl => by
  have ow : ownL i ρ = .ret (xs.map ea) := by unfold ownL; rw [ho]; rfl
  have h1 : sApp i f ρ = .ret (.nx, ρ') := by
    unfold sApp; rw [ow, Tr.ret_bind, h, Tr.ret_bind, need_pos (by rw [List.length_map]; exact hl), ← e]
    unfold eL; rw [List.map_append]; rfl
  rw [seq_nx h1]; exact k
theorem rappe {xs : List α} {ta : Tr α} {u : α → Tr γ} (ρ' : α → Ev) (ho : ρ[i]? = some (some (eL ea xs))) (h : RefE (f ρ) ta ea) (e : ∀ v, ρ.set i (some (eL ea (xs ++ [v]))) = ρ' v) (k : ∀ v, RefG (rest (ρ' v)) (u v) R) : RefG (sSeq (sApp i f) rest ρ) (ta.bind fun v => need (xs.length < lim) (u v)) R := by
  have ow : ownL i ρ = .ret (xs.map ea) := by unfold ownL; rw [ho]; rfl
  unfold sSeq sApp; rw [ow, Tr.ret_bind, Tr.bind_assoc]
  refine rbindE h fun v => rneed fun hl => ?_
  rw [need_pos (by rw [List.length_map]; exact hl)]
  show RefG (rest (ρ.set i (some (.list (xs.map ea ++ [ea v]))))) _ _
  have : PyData.list (xs.map ea ++ [ea v]) = eL ea (xs ++ [v]) := by unfold eL; rw [List.map_append]; rfl
  rw [this, e]; exact k v
theorem rextp {xs ys : List α} (ho : ρ[i]? = some (some (eL ea xs))) (h : f ρ = .ret (eL ea ys)) (e : ρ.set i (some (eL ea (xs ++ ys))) = ρ') (k : RefG (rest ρ') t R) : RefG (sSeq (sExt i f) rest ρ) (need (xs.length + ys.length ≤ lim) t) R := rneed fun hl => by
  have ow : ownL i ρ = .ret (xs.map ea) := by unfold ownL; rw [ho]; rfl
  have h1 : sExt i f ρ = .ret (.nx, ρ') := by
    unfold sExt; rw [ow, Tr.ret_bind, h, Tr.ret_bind]
    show need ((xs.map ea).length + (ys.map ea).length ≤ lim) _ = _
    rw [need_pos (by rw [List.length_map, List.length_map]; exact hl), ← e]
    unfold eL; rw [List.map_append]
  rw [seq_nx h1]; exact k
theorem rexte {xs : List α} {ta : Tr (List α)} {u : List α → Tr γ} (ρ' : List α → Ev) (ho : ρ[i]? = some (some (eL ea xs))) (h : RefE (f ρ) ta (eL ea)) (e : ∀ ys, ρ.set i (some (eL ea (xs ++ ys))) = ρ' ys) (k : ∀ ys, RefG (rest (ρ' ys)) (u ys) R) : RefG (sSeq (sExt i f) rest ρ) (ta.bind fun ys => need (xs.length + ys.length ≤ lim) (u ys)) R := by
  have ow : ownL i ρ = .ret (xs.map ea) := by unfold ownL; rw [ho]; rfl
  unfold sSeq sExt; rw [ow, Tr.ret_bind, Tr.bind_assoc]
  refine rbindE h fun ys => rneed fun hl => ?_
  show RefG ((need ((xs.map ea).length + (ys.map ea).length ≤ lim) _).bind _) _ _
  rw [need_pos (by rw [List.length_map, List.length_map]; exact hl)]
  show RefG (rest (ρ.set i (some (.list (xs.map ea ++ ys.map ea))))) _ _
  have : PyData.list (xs.map ea ++ ys.map ea) = eL ea (xs ++ ys) := by unfold eL; rw [List.map_append]
  rw [this, e]; exact k ys
def popT {α : Type} (xs : List α) : Tr (α × List α) := match xs[xs.length - 1]? with
  | some a => .ret (a, xs.dropLast)
  | none => .fail
theorem pop_map (xs : List α) : RefG (popD (xs.map ea)) (popT xs) (fun a b => b = (ea a.1, a.2.map ea)) := by
  unfold popD popT
  rw [List.length_map, List.getElem?_map]
  cases xs[xs.length - 1]? with
  | none => exact rfail
  | some v => exact rret (by rw [← List.map_dropLast]; rfl) rfl
theorem rpop {gg : GF} {xs : List α} {u : α × List α → Tr γ} (ρ' : α × List α → Ev) (ho : ρ[i]? = some (some (eL ea xs))) (e : ∀ r : α × List α, gg (ea r.1) (ρ.set i (some (eL ea r.2))) = .ret (ρ' r)) (k : ∀ r, RefG (rest (ρ' r)) (u r) R) : RefG (sSeq (sPop gg i) rest ρ) ((popT xs).bind u) R := by
  have ow : ownL i ρ = .ret (xs.map ea) := by unfold ownL; rw [ho]; rfl
  unfold sSeq sPop; rw [ow, Tr.ret_bind, Tr.bind_assoc]
  refine rbind (pop_map xs) fun r r' hr => ?_
  subst hr
  show RefG (((gg (ea r.1) (ρ.set i (some (eL ea r.2)))).bind _).bind _) _ _
  rw [e]; exact k r
theorem rpop0 {xs : List α} {u : α × List α → Tr γ} (ρ' : α × List α → Ev) (ho : ρ[i]? = some (some (eL ea xs))) (e : ∀ r : α × List α, ρ.set i (some (eL ea r.2)) = ρ' r) (k : ∀ r, RefG (rest (ρ' r)) (u r) R) : RefG (sSeq (sPop0 i) rest ρ) ((popT xs).bind u) R := by
  have ow : ownL i ρ = .ret (xs.map ea) := by unfold ownL; rw [ho]; rfl
  unfold sSeq sPop0; rw [ow, Tr.ret_bind, Tr.bind_assoc]
  refine rbind (pop_map xs) fun r r' hr => ?_
  subst hr
  show RefG (rest (ρ.set i (some (eL ea r.2)))) _ _
  rw [e]; exact k r
def setT {α : Type} (xs : List α) (j : Int) (v : α) : Tr (List α) := match ixN xs.length j with
  | some n => .ret (xs.set n v)
  | none => .fail
theorem set_map (xs : List α) (j : Int) (v : α) : RefE (setD (eL ea xs) (.int j) (ea v)) (setT xs j v) (eL ea) := by
  show RefE (match ixN (xs.map ea).length j with | some n => Tr.ret (PyData.list ((xs.map ea).set n (ea v))) | none => .fail) _ _
  rw [List.length_map]; unfold setT
  cases ixN xs.length j with
  | none => exact rfail
  | some n => exact rretE (by show Tr.ret (PyData.list ((xs.map ea).set n (ea v))) = _; rw [← List.map_set]; rfl)
/-- c[j] = v, all known -/
theorem rsetI {fj fv : EF} {c : D} {ec : τ → D} {tc : Tr τ} {u : τ → Tr γ} (ρ' : τ → Ev) (hm : mutD c = true) (ho : ρ[i]? = some (some c)) (hv : fv ρ = .ret x) (hj : fj ρ = .ret y) (hs : RefE (setD c y x) tc ec) (e : ∀ v, ρ.set i (some (ec v)) = ρ' v) (k : ∀ v, RefG (rest (ρ' v)) (u v) R) : RefG (sSeq (sSetI i fj fv) rest ρ) (tc.bind u) R := by
  have ow : ownC i ρ = .ret c := by unfold ownC; rw [ho]; show (if mutD c then _ else _) = _; rw [hm]; rfl
  unfold sSeq sSetI; rw [hv, Tr.ret_bind, ow, Tr.ret_bind, hj, Tr.ret_bind, Tr.bind_assoc]
  exact rbindE hs fun v => by show RefG (rest _) _ _; rw [e]; exact k v
/-- c[j] = v, v by a run -/
theorem rsetIe {fj fv : EF} {c : D} {ec : τ → D} {ev : β → D} {tv : Tr β} {tc : β → Tr τ} {u : β → τ → Tr γ} (ρ' : β → τ → Ev) (hm : mutD c = true) (ho : ρ[i]? = some (some c)) (hv : RefE (fv ρ) tv ev) (hj : fj ρ = .ret y) (hs : ∀ a, RefE (setD c y (ev a)) (tc a) ec) (e : ∀ a v, ρ.set i (some (ec v)) = ρ' a v) (k : ∀ a v, RefG (rest (ρ' a v)) (u a v) R) : RefG (sSeq (sSetI i fj fv) rest ρ) (tv.bind fun a => (tc a).bind fun v => u a v) R := by
  have ow : ownC i ρ = .ret c := by unfold ownC; rw [ho]; show (if mutD c then _ else _) = _; rw [hm]; rfl
  unfold sSeq sSetI; rw [Tr.bind_assoc]
  refine rbindE hv fun a => ?_
  show RefG (((ownC i ρ).bind _).bind _) _ _
  rw [ow, Tr.ret_bind, hj, Tr.ret_bind, Tr.bind_assoc]
  exact rbindE (hs a) fun v => by show RefG (rest _) _ _; rw [e]; exact k a v
/-- c[j] = v, v and j by runs -/
theorem rsetIee {fj fv : EF} {c : D} {ec : τ → D} {ev : β → D} {tv : Tr β} {ej : α → D} {tj : Tr α} {tc : β → α → Tr τ} {u : β → α → τ → Tr γ} (ρ' : β → α → τ → Ev) (hm : mutD c = true) (ho : ρ[i]? = some (some c)) (hv : RefE (fv ρ) tv ev) (hj : RefE (fj ρ) tj ej) (hs : ∀ a b, RefE (setD c (ej b) (ev a)) (tc a b) ec) (e : ∀ a b v, ρ.set i (some (ec v)) = ρ' a b v) (k : ∀ a b v, RefG (rest (ρ' a b v)) (u a b v) R) : RefG (sSeq (sSetI i fj fv) rest ρ) (tv.bind fun a => tj.bind fun b => (tc a b).bind fun v => u a b v) R := by
  have ow : ownC i ρ = .ret c := by unfold ownC; rw [ho]; show (if mutD c then _ else _) = _; rw [hm]; rfl
  unfold sSeq sSetI; rw [Tr.bind_assoc]
  refine rbindE hv fun a => ?_
  show RefG (((ownC i ρ).bind _).bind _) _ _
  rw [ow, Tr.ret_bind, Tr.bind_assoc]
  refine rbindE hj fun b => ?_
  rw [Tr.bind_assoc]
  exact rbindE (hs a b) fun v => by show RefG (rest _) _ _; rw [e]; exact k a b v
theorem rmove {j : Nat} {v : D} (h : ρ[j]? = some (some v)) (e : (ρ.set j none).set i (some v) = ρ') (k : RefG (rest ρ') t R) : RefG (sSeq (sMove i j) rest ρ) t R := by
  rw [seq_nx (show sMove i j ρ = .ret (.nx, ρ') by unfold sMove; rw [pv j h, Tr.ret_bind, e])]; exact k
theorem rparp {is : List Nat} {p : AF} {ds : List D} (h : p ρ = .ret ds) (e : setAll is ds ρ = ρ') (k : RefG (rest ρ') t R) : RefG (sSeq (sPar is p) rest ρ) t R := by
  rw [seq_nx (show sPar is p ρ = .ret (.nx, ρ') by unfold sPar; rw [h, Tr.ret_bind, e])]; exact k
theorem rparc {is : List Nat} {p : AF} (k : RefG ((p ρ).bind fun ds => rest (setAll is ds ρ)) t R) : RefG (sSeq (sPar is p) rest ρ) t R := by
  unfold sSeq sPar; rw [Tr.bind_assoc]; exact k
theorem ranilr {K : List D → Tr (Fl × Ev)} (e : K [] = rest ρ') (k : RefG (rest ρ') t R) : RefG ((aNil ρ).bind K) t R := by show RefG (K []) t R; rw [e]; exact k
theorem rasgp {gg : GF} {v : D} (h : f ρ = .ret v) (e : gg v ρ = .ret ρ') (k : RefG (rest ρ') t R) : RefG (sSeq (sAsg gg f) rest ρ) t R := by
  rw [seq_nx (show sAsg gg f ρ = .ret (.nx, ρ') by unfold sAsg; rw [h, Tr.ret_bind, e]; rfl)]; exact k
theorem rasge {gg : GF} {u : α → Tr γ} (ρ' : α → Ev) (h : RefE (f ρ) ta ea) (e : ∀ v, gg (ea v) ρ = .ret (ρ' v)) (k : ∀ v, RefG (rest (ρ' v)) (u v) R) : RefG (sSeq (sAsg gg f) rest ρ) (ta.bind u) R := by
  unfold sSeq sAsg; rw [Tr.bind_assoc]
  exact rbindE h fun v => by rw [e]; exact k v
theorem rdrope {u : α → Tr γ} (h : RefE (f ρ) ta ea) (k : ∀ v, RefG (rest ρ) (u v) R) : RefG (sSeq (sDrop f) rest ρ) (ta.bind u) R := by
  unfold sSeq sDrop; rw [Tr.bind_assoc]
  exact rbindE h fun v => k v
theorem ref_forS {gg : GF} {bd : SF} {body : σ → α → Tr σ} (inv : σ → Ev → Prop) (hb : ∀ s a ρ, inv s ρ → RefG ((gg (ea a) ρ).bind bd) (body s a) (Rnx inv)) : ∀ (xs : List α) (s : σ) (ρ : Ev), inv s ρ → RefG (forGo gg bd (xs.map ea) ρ) (forS body xs s) (Rnx inv)
  | [], s, ρ, h => rret rfl ⟨ρ, rfl, h⟩
  | a :: xs, s, ρ, h => by
    show RefG ((gg (ea a) ρ).bind fun ρ1 => (bd ρ1).bind _) _ _
    rw [← Tr.bind_assoc]
    refine rbind (hb s a ρ h) fun s' r hr => ?_
    obtain ⟨ρ2, rfl, h2⟩ := hr
    exact ref_forS inv hb xs s' ρ2 h2
theorem rforp {src : Ev → Tr (List D)} {gg : GF} {bd : SF} {xs : List α} {body : σ → α → Tr σ} {u : σ → Tr γ} (inv : σ → Ev → Prop) (s0 : σ) (hs : src ρ = .ret (xs.map ea)) (h0 : inv s0 ρ) (hb : ∀ s a ρ, inv s ρ → RefG ((gg (ea a) ρ).bind bd) (body s a) (Rnx inv)) (hk : ∀ s ρ, inv s ρ → RefG (rest ρ) (u s) R) :
    RefG (sSeq (sFor src gg bd) rest ρ) ((forS body xs s0).bind u) R := by
  unfold sSeq; rw [for_eq hs]
  exact rbind (ref_forS inv hb xs s0 ρ h0) fun s r hr => by obtain ⟨ρ', rfl, q⟩ := hr; exact hk s ρ' q
theorem rfore {src : Ev → Tr (List D)} {gg : GF} {bd : SF} {txs : Tr (List α)} {body : σ → α → Tr σ} {u : σ → Tr γ} (inv : σ → Ev → Prop) (s0 : σ) (hs : RefG (src ρ) txs (fun xs ds => ds = xs.map ea)) (h0 : inv s0 ρ) (hb : ∀ s a ρ, inv s ρ → RefG ((gg (ea a) ρ).bind bd) (body s a) (Rnx inv)) (hk : ∀ s ρ, inv s ρ → RefG (rest ρ) (u s) R) :
    RefG (sSeq (sFor src gg bd) rest ρ) (txs.bind fun xs => (forS body xs s0).bind u) R := by
  unfold sSeq sFor; rw [Tr.bind_assoc]
  refine rbind hs fun xs ds e => ?_
  subst e
  exact rbind (ref_forS inv hb xs s0 ρ h0) fun s r hr => by obtain ⟨ρ', rfl, q⟩ := hr; exact hk s ρ' q
def RLo {R σ : Type} (e : R → D) (inv : σ → Ev → Prop) : Lo R σ → Fl × Ev → Prop
  | .nx s, r => ∃ ρ, r = (.nx, ρ) ∧ inv s ρ
  | .rt a, r => ∃ ρ, r = (.rt (e a), ρ)
theorem ref_forF {T : Type} {er : T → D} {gg : GF} {bd : SF} {body : σ → α → Tr (Fo T σ)} (inv : σ → Ev → Prop) (hb : ∀ s a ρ, inv s ρ → RefG ((gg (ea a) ρ).bind bd) (body s a) (RFo er inv)) : ∀ (xs : List α) (s : σ) (ρ : Ev), inv s ρ → RefG (forGo gg bd (xs.map ea) ρ) (forF body xs s) (RLo er inv)
  | [], s, ρ, h => rret rfl ⟨ρ, rfl, h⟩
  | a :: xs, s, ρ, h => by
    show RefG ((gg (ea a) ρ).bind fun ρ1 => (bd ρ1).bind _) _ _
    rw [← Tr.bind_assoc]
    refine rbind (hb s a ρ h) fun o r hr => ?_
    cases o with
    | nx s' => obtain ⟨ρ2, rfl, h2⟩ := hr; exact ref_forF inv hb xs s' ρ2 h2
    | ct s' => obtain ⟨ρ2, rfl, h2⟩ := hr; exact ref_forF inv hb xs s' ρ2 h2
    | bk s' => obtain ⟨ρ2, rfl, h2⟩ := hr; exact rret rfl ⟨ρ2, rfl, h2⟩
    | rt v => obtain ⟨ρ2, rfl⟩ := hr; exact rret rfl ⟨ρ2, rfl⟩
theorem rforFp {T : Type} {er : T → D} {src : Ev → Tr (List D)} {gg : GF} {bd : SF} {xs : List α} {body : σ → α → Tr (Fo T σ)} {u : σ → Tr γ} {w : T → Tr γ} (inv : σ → Ev → Prop) (s0 : σ) (hs : src ρ = .ret (xs.map ea)) (h0 : inv s0 ρ) (hb : ∀ s a ρ, inv s ρ → RefG ((gg (ea a) ρ).bind bd) (body s a) (RFo er inv)) (hk : ∀ s ρ, inv s ρ → RefG (rest ρ) (u s) R)
    (hr : ∀ v ρ, RefG (Tr.ret (Fl.rt (er v), ρ)) (w v) R) : RefG (sSeq (sFor src gg bd) rest ρ) ((forF body xs s0).bind fun o => o.on u w) R := by
  unfold sSeq; rw [for_eq hs]
  refine rbind (ref_forF inv hb xs s0 ρ h0) fun o r q => ?_
  cases o with
  | nx s => obtain ⟨ρ', rfl, q⟩ := q; exact hk s ρ' q
  | rt v => obtain ⟨ρ', rfl⟩ := q; exact hr v ρ'
theorem rforFe {T : Type} {er : T → D} {src : Ev → Tr (List D)} {gg : GF} {bd : SF} {txs : Tr (List α)} {body : σ → α → Tr (Fo T σ)} {u : σ → Tr γ} {w : T → Tr γ} (inv : σ → Ev → Prop) (s0 : σ) (hs : RefG (src ρ) txs (fun xs ds => ds = xs.map ea)) (h0 : inv s0 ρ) (hb : ∀ s a ρ, inv s ρ → RefG ((gg (ea a) ρ).bind bd) (body s a) (RFo er inv)) (hk : ∀ s ρ, inv s ρ → RefG (rest ρ) (u s) R)
    (hr : ∀ v ρ, RefG (Tr.ret (Fl.rt (er v), ρ)) (w v) R) : RefG (sSeq (sFor src gg bd) rest ρ) (txs.bind fun xs => (forF body xs s0).bind fun o => o.on u w) R := by
  unfold sSeq sFor; rw [Tr.bind_assoc]
  refine rbind hs fun xs ds e => ?_
  subst e
  refine rbind (ref_forF inv hb xs s0 ρ h0) fun o r q => ?_
  cases o with
  | nx s => obtain ⟨ρ', rfl, q⟩ := q; exact hk s ρ' q
  | rt v => obtain ⟨ρ', rfl⟩ := q; exact hr v ρ'
theorem hrv {T : Type} {er : T → D} (v : T) (ρ : Ev) : RefG (Tr.ret (Fl.rt (er v), ρ)) (.ret v) (Rv er) := rret rfl ⟨ρ, rfl⟩
theorem hrF {T : Type} {er : T → D} {inv : σ → Ev → Prop} (v : T) (ρ : Ev) : RefG (Tr.ret (Fl.rt (er v), ρ)) (.ret (Fo.rt v)) (RFo er inv) := rret rfl ⟨ρ, rfl⟩
theorem ref_whileS {c : TF} {bd : SF} {cond : σ → Tr Bool} {body : σ → Tr σ} (inv : σ → Ev → Prop) (hc : ∀ s ρ, inv s ρ → RefB (c ρ) (cond s)) (hb : ∀ s ρ, inv s ρ → RefG (bd ρ) (body s) (Rnx inv)) : ∀ (n : Nat) (s : σ) (ρ : Ev), inv s ρ → RefG (sWhile n c bd ρ) (whileS cond body n s) (Rnx inv)
  | 0, s, ρ, h => rfail
  | n + 1, s, ρ, h => by
    refine rbind (hc s ρ h) fun b b' e => ?_
    cases e
    cases b with
    | false => exact rret rfl ⟨ρ, rfl, h⟩
    | true => exact rbind (hb s ρ h) fun s' r hr => by obtain ⟨ρ2, rfl, h2⟩ := hr; exact ref_whileS inv hc hb n s' ρ2 h2
theorem rwhile {c : TF} {bd : SF} {cond : σ → Tr Bool} {body : σ → Tr σ} {u : σ → Tr γ} {n : Nat} (inv : σ → Ev → Prop) (s0 : σ) (h0 : inv s0 ρ) (hc : ∀ s ρ, inv s ρ → RefB (c ρ) (cond s)) (hb : ∀ s ρ, inv s ρ → RefG (bd ρ) (body s) (Rnx inv)) (hk : ∀ s ρ, inv s ρ → RefG (rest ρ) (u s) R) :
    RefG (sSeq (sWhile n c bd) rest ρ) ((whileS cond body n s0).bind u) R :=
  rbind (ref_whileS inv hc hb n s0 ρ h0) fun s r hr => by obtain ⟨ρ', rfl, q⟩ := hr; exact hk s ρ' q
theorem ref_whileF {T : Type} {er : T → D} {c : TF} {bd : SF} {cond : σ → Tr Bool} {body : σ → Tr (Fo T σ)} (inv : σ → Ev → Prop) (hc : ∀ s ρ, inv s ρ → RefB (c ρ) (cond s)) (hb : ∀ s ρ, inv s ρ → RefG (bd ρ) (body s) (RFo er inv)) : ∀ (n : Nat) (s : σ) (ρ : Ev), inv s ρ → RefG (sWhile n c bd ρ) (whileF cond body n s) (RLo er inv)
  | 0, s, ρ, h => rfail
  | n + 1, s, ρ, h => by
    refine rbind (hc s ρ h) fun b b' e => ?_
    cases e
    cases b with
    | false => exact rret rfl ⟨ρ, rfl, h⟩
    | true =>
      refine rbind (hb s ρ h) fun o r hr => ?_
      cases o with
      | nx s' => obtain ⟨ρ2, rfl, h2⟩ := hr; exact ref_whileF inv hc hb n s' ρ2 h2
      | ct s' => obtain ⟨ρ2, rfl, h2⟩ := hr; exact ref_whileF inv hc hb n s' ρ2 h2
      | bk s' => obtain ⟨ρ2, rfl, h2⟩ := hr; exact rret rfl ⟨ρ2, rfl, h2⟩
      | rt v => obtain ⟨ρ2, rfl⟩ := hr; exact rret rfl ⟨ρ2, rfl⟩
theorem rwhileF {T : Type} {er : T → D} {c : TF} {bd : SF} {cond : σ → Tr Bool} {body : σ → Tr (Fo T σ)} {u : σ → Tr γ} {w : T → Tr γ} {n : Nat} (inv : σ → Ev → Prop) (s0 : σ) (h0 : inv s0 ρ) (hc : ∀ s ρ, inv s ρ → RefB (c ρ) (cond s)) (hb : ∀ s ρ, inv s ρ → RefG (bd ρ) (body s) (RFo er inv)) (hk : ∀ s ρ, inv s ρ → RefG (rest ρ) (u s) R)
    (hr : ∀ v ρ, RefG (Tr.ret (Fl.rt (er v), ρ)) (w v) R) : RefG (sSeq (sWhile n c bd) rest ρ) ((whileF cond body n s0).bind fun o => o.on u w) R := by
  refine rbind (ref_whileF inv hc hb n s0 ρ h0) fun o r q => ?_
  cases o with
  | nx s => obtain ⟨ρ', rfl, q⟩ := q; exact hk s ρ' q
  | rt v => obtain ⟨ρ', rfl⟩ := q; exact hr v ρ'
end
section
variable {α β : Type} {ea : α → D} {ef : β → D} {src : Ev → Tr (List D)} {vs : List Nat} {gg : GF} {c : TF} {f : EF} {ρ ρw : Ev} {p : α → Bool} {m : α → β} {xs : List α} {tp : α → Tr Bool} {tm : α → Tr β} {txs : Tr (List α)}
theorem ref_lc (ρ1 : α → Ev) (hg : ∀ a, gg (ea a) ρw = .ret (ρ1 a)) (ht : ∀ a, RefB (c (ρ1 a)) (tp a)) (hf : ∀ a, RefE (f (ρ1 a)) (tm a) ef) : ∀ xs : List α, RefG (lcGo gg c f ρw (xs.map ea)) (lcT tp tm xs) (fun ys ds => ds = ys.map ef)
  | [] => rret rfl rfl
  | a :: xs => by
    show RefG ((gg (ea a) ρw).bind _) _ _
    rw [hg, Tr.ret_bind]
    refine rbind (ht a) fun b b' e => ?_
    cases e
    cases b with
    | false => exact ref_lc ρ1 hg ht hf xs
    | true => exact rbindE (hf a) fun y => rbind (ref_lc ρ1 hg ht hf xs) fun r ds e => rret rfl (by subst e; rfl)
theorem need_len {ys : List β} : RefE (need ((ys.map ef).length ≤ lim) (.ret (.list (ys.map ef)))) (need (ys.length ≤ lim) (.ret ys)) (eL ef) := by
  rw [List.length_map]; exact rneedX id (rretE rfl)
theorem rlcpe (ρ1 : α → Ev) (hs : src ρ = .ret (xs.map ea)) (hw : wipeA ρ vs = ρw) (hg : ∀ a, gg (ea a) ρw = .ret (ρ1 a)) (ht : ∀ a, RefB (c (ρ1 a)) (tp a)) (hf : ∀ a, RefE (f (ρ1 a)) (tm a) ef) : RefE (eLc src vs gg c f ρ) ((lcT tp tm xs).bind fun ys => need (ys.length ≤ lim) (.ret ys)) (eL ef) := by
  unfold eLc; rw [hs, Tr.ret_bind, hw]
  exact rbind (ref_lc ρ1 hg ht hf xs) fun ys ds e => by subst e; exact need_len
theorem rlcee (ρ1 : α → Ev) (hs : RefG (src ρ) txs (fun xs ds => ds = xs.map ea)) (hw : wipeA ρ vs = ρw) (hg : ∀ a, gg (ea a) ρw = .ret (ρ1 a)) (ht : ∀ a, RefB (c (ρ1 a)) (tp a)) (hf : ∀ a, RefE (f (ρ1 a)) (tm a) ef) : RefE (eLc src vs gg c f ρ) (txs.bind fun xs => (lcT tp tm xs).bind fun ys => need (ys.length ≤ lim) (.ret ys)) (eL ef) := by
  unfold eLc; rw [hw]
  exact rbind hs fun xs ds e => by subst e; exact rbind (ref_lc ρ1 hg ht hf xs) fun ys ds e => by subst e; exact need_len
theorem lc_pure (ρ1 : α → Ev) (hg : ∀ a, gg (ea a) ρw = .ret (ρ1 a)) (ht : ∀ a, c (ρ1 a) = .ret (p a)) (hf : ∀ a, f (ρ1 a) = .ret (ef (m a))) : ∀ xs : List α, lcGo gg c f ρw (xs.map ea) = .ret (((xs.filter p).map m).map ef)
  | [] => rfl
  | a :: xs => by
    show (gg (ea a) ρw).bind _ = _
    rw [hg, Tr.ret_bind, ht, Tr.ret_bind, List.filter_cons, lc_pure ρ1 hg ht hf xs]
    cases p a with
    | false => rfl
    | true => rw [if_pos rfl, hf]; rfl
theorem rlcpp (ρ1 : α → Ev) (hs : src ρ = .ret (xs.map ea)) (hw : wipeA ρ vs = ρw) (hg : ∀ a, gg (ea a) ρw = .ret (ρ1 a)) (ht : ∀ a, c (ρ1 a) = .ret (p a)) (hf : ∀ a, f (ρ1 a) = .ret (ef (m a))) : RefE (eLc src vs gg c f ρ) (need (((xs.filter p).map m).length ≤ lim) (.ret ((xs.filter p).map m))) (eL ef) := by
  unfold eLc; rw [hs, Tr.ret_bind, hw, lc_pure ρ1 hg ht hf xs, Tr.ret_bind]
  exact need_len
theorem rlcpm (ρ1 : α → Ev) (hs : src ρ = .ret (xs.map ea)) (hw : wipeA ρ vs = ρw) (hg : ∀ a, gg (ea a) ρw = .ret (ρ1 a)) (hf : ∀ a, f (ρ1 a) = .ret (ef (m a))) : RefE (eLc src vs gg tYesF f ρ) (need (xs.length ≤ lim) (.ret (xs.map m))) (eL ef) := by
  unfold eLc; rw [hs, Tr.ret_bind, hw, lc_pure (p := fun _ => true) ρ1 hg (fun _ => rfl) hf xs, Tr.ret_bind]
  have e : xs.filter (fun _ => true) = xs := by simp
  rw [e]
  exact (need_len (ef := ef) (ys := xs.map m)).of_eq (by rw [List.length_map])
theorem rlcep (ρ1 : α → Ev) (hs : RefG (src ρ) txs (fun xs ds => ds = xs.map ea)) (hw : wipeA ρ vs = ρw) (hg : ∀ a, gg (ea a) ρw = .ret (ρ1 a)) (ht : ∀ a, c (ρ1 a) = .ret (p a)) (hf : ∀ a, f (ρ1 a) = .ret (ef (m a))) : RefE (eLc src vs gg c f ρ) (txs.bind fun xs => need (((xs.filter p).map m).length ≤ lim) (.ret ((xs.filter p).map m))) (eL ef) := by
  unfold eLc; rw [hw]
  exact rbind hs fun xs ds e => by subst e; rw [lc_pure ρ1 hg ht hf xs, Tr.ret_bind]; exact need_len
theorem rlcem (ρ1 : α → Ev) (hs : RefG (src ρ) txs (fun xs ds => ds = xs.map ea)) (hw : wipeA ρ vs = ρw) (hg : ∀ a, gg (ea a) ρw = .ret (ρ1 a)) (hf : ∀ a, f (ρ1 a) = .ret (ef (m a))) : RefE (eLc src vs gg tYesF f ρ) (txs.bind fun xs => need (xs.length ≤ lim) (.ret (xs.map m))) (eL ef) := by
  unfold eLc; rw [hw]
  exact rbind hs fun xs ds e => by
    subst e
    rw [lc_pure (p := fun _ => true) ρ1 hg (fun _ => rfl) hf xs, Tr.ret_bind]
    have e : xs.filter (fun _ => true) = xs := by simp
    rw [e]
    exact (need_len (ef := ef) (ys := xs.map m)).of_eq (by rw [List.length_map])
theorem yesB {ρ : Ev} : RefB (tYesF ρ) (.ret true) := rretB rfl
theorem sv_L {f : EF} (h : f ρ = .ret (eL ea xs)) : itV f ρ = .ret (xs.map ea) := by unfold itV; rw [h]; rfl
theorem sv_T {f : EF} (h : f ρ = .ret (eT ea xs)) : itV f ρ = .ret (xs.map ea) := by unfold itV; rw [h]; rfl
theorem sve_L {f : EF} (h : RefE (f ρ) txs (eL ea)) : RefG (itV f ρ) txs (fun xs ds => ds = xs.map ea) := .mk fun Q q => by
  unfold itV; rw [Tr.wp_bind]; exact h.run _ (Tr.wp_mono (fun a ha b e => by cases e; exact ha _ rfl) q)
theorem sve_T {f : EF} (h : RefE (f ρ) txs (eT ea)) : RefG (itV f ρ) txs (fun xs ds => ds = xs.map ea) := .mk fun Q q => by
  unfold itV; rw [Tr.wp_bind]; exact h.run _ (Tr.wp_mono (fun a ha b e => by cases e; exact ha _ rfl) q)
theorem map_eX : ∀ xs : List D, xs.map eX = xs
  | [] => rfl
  | x :: xs => by rw [List.map_cons, map_eX xs]; rfl
theorem svX {f : EF} {x : D} (h : f ρ = .ret x) : RefG (itV f ρ) (seqOf x) (fun (xs : List D) ds => ds = xs.map eX) := .mk fun Q q => by
  unfold itV; rw [h]; exact Tr.wp_mono (fun a ha => ha a ((map_eX a).symm)) q
theorem svXe {f : EF} {t : Tr D} (h : RefE (f ρ) t eX) : RefG (itV f ρ) (t.bind seqOf) (fun (xs : List D) ds => ds = xs.map eX) := .mk fun Q q => by
  unfold itV; rw [Tr.wp_bind]
  exact h.run _ (Tr.wp_mono (fun d hd y e => by cases e; exact Tr.wp_mono (fun a ha => ha a ((map_eX a).symm)) hd) (Tr.wp_bind.mp q))
def rangeI (lo hi : Int) : List Int := (List.range (hi - lo).toNat).map fun i => lo + (i : Nat)
@[irreducible] def rangeT (lo hi : Int) : Tr (List Int) := need (-4611686018427387904 ≤ lo ∧ lo < 4611686018427387904 ∧ -4611686018427387904 ≤ hi ∧ hi < 4611686018427387904) (.ret (rangeI lo hi))
theorem rangeL_I (lo hi : Int) : rangeL lo (hi - lo).toNat = (rangeI lo hi).map .int := by unfold rangeL rangeI; rw [List.map_map]; rfl
theorem sr1 {g : AF} {hi : Int} (h : g ρ = .ret [.int hi]) : RefG (itR1 g ρ) (rangeT 0 hi) (fun xs ds => ds = xs.map .int) := by unfold rangeT; exact rneed fun q => rret ((itR1_eq h q.2.2.1 q.2.2.2).trans (by rw [← rangeL_I, Int.sub_zero])) rfl
theorem sr1l {g : AF} {hi : Int} (h : g ρ = .ret [.int hi]) (b : -4611686018427387904 ≤ hi ∧ hi < 4611686018427387904) : itR1 g ρ = .ret ((rangeI 0 hi).map .int) := (itR1_eq h b.1 b.2).trans (by rw [← rangeL_I, Int.sub_zero])
theorem sr2 {g : AF} {lo hi : Int} (h : g ρ = .ret [.int lo, .int hi]) : RefG (itR2 g ρ) (rangeT lo hi) (fun xs ds => ds = xs.map .int) := by unfold rangeT; exact rneed fun q => rret ((itR2_eq h q.1 q.2.1 q.2.2.1 q.2.2.2).trans (by rw [← rangeL_I])) rfl
theorem sr1e {f : EF} {t : Tr Int} (h : RefE (f ρ) t PyData.int) : RefG (itR1 (aCons f aNil) ρ) (t.bind fun hi => rangeT 0 hi) (fun xs ds => ds = xs.map .int) := by
  unfold itR1
  rw [show aCons f aNil ρ = (f ρ).bind fun d => .ret [d] from rfl, Tr.bind_assoc]
  unfold rangeT
  exact rbindE h fun hi => rneed fun q => rret ((need_pos (x := Tr.ret (rangeL 0 hi.toNat)) (p := -4611686018427387904 ≤ hi ∧ hi < 4611686018427387904) ⟨q.2.2.1, q.2.2.2⟩).trans (by rw [← rangeL_I, Int.sub_zero])) rfl
def enumI {α : Type} : Nat → List α → List (Int × α)
  | _, [] => []
  | i, a :: xs => ((i : Int), a) :: enumI (i + 1) xs
theorem enum_map : ∀ (i : Nat) (xs : List α), pairsE i (xs.map ea) = (enumI i xs).map (eP PyData.int ea)
  | _, [] => rfl
  | i, a :: xs => by
    show PyData.tuple [.int (i : Nat), ea a] :: pairsE (i + 1) (xs.map ea) = _
    rw [enum_map (i + 1) xs]; rfl
theorem se_L {f : EF} (h : f ρ = .ret (eL ea xs)) : itE f ρ = .ret ((enumI 0 xs).map (eP PyData.int ea)) := by unfold itE; rw [h, ← enum_map]; rfl
theorem se_T {f : EF} (h : f ρ = .ret (eT ea xs)) : itE f ρ = .ret ((enumI 0 xs).map (eP PyData.int ea)) := by unfold itE; rw [h, ← enum_map]; rfl
theorem see {f : EF} {w : List α → D} (hw : ∀ xs, seqOf (w xs) = .ret (xs.map ea)) (h : RefE (f ρ) txs w) : RefG (itE f ρ) (txs.bind fun xs => .ret (enumI 0 xs)) (fun xs ds => ds = xs.map (eP PyData.int ea)) := by
  unfold itE; rw [Tr.bind_assoc]; exact rbindE h fun xs => by rw [hw]; exact rret (by rw [Tr.ret_bind, enum_map]) rfl
theorem zip_map {ys : List β} : zip2D (xs.map ea) (ys.map ef) = (xs.zip ys).map (eP ea ef) := by
  induction xs generalizing ys with
  | nil => cases ys <;> rfl
  | cons x xs ih => cases ys with
    | nil => rfl
    | cons y ys =>
      show PyData.tuple [ea x, ef y] :: zip2D (xs.map ea) (ys.map ef) = _
      rw [ih]; rfl
theorem sz2 {f g : EF} {ys : List β} {x y : D} (h : f ρ = .ret x) (k : g ρ = .ret y) (hx : seqOf x = .ret (xs.map ea)) (hy : seqOf y = .ret (ys.map ef)) : itZ2 f g ρ = .ret ((xs.zip ys).map (eP ea ef)) := by
  unfold itZ2; rw [h, Tr.ret_bind, k, Tr.ret_bind, hx, Tr.ret_bind, hy, ← zip_map]; rfl
theorem sz2pe {f g : EF} {tys : Tr (List β)} {x : D} {w : List β → D} (h : f ρ = .ret x) (k : RefE (g ρ) tys w) (hx : seqOf x = .ret (xs.map ea)) (hy : ∀ ys, seqOf (w ys) = .ret (ys.map ef)) : RefG (itZ2 f g ρ) (tys.bind fun ys => .ret (xs.zip ys)) (fun zs ds => ds = zs.map (eP ea ef)) := by
  unfold itZ2; rw [h, Tr.ret_bind]
  exact rbindE k fun ys => by rw [hx, Tr.ret_bind, hy]; exact rret (by rw [Tr.ret_bind, zip_map]) rfl
theorem sz2ee {f g : EF} {tys : Tr (List β)} {v : List α → D} {w : List β → D} (h : RefE (f ρ) txs v) (k : RefE (g ρ) tys w) (hx : ∀ xs, seqOf (v xs) = .ret (xs.map ea)) (hy : ∀ ys, seqOf (w ys) = .ret (ys.map ef)) : RefG (itZ2 f g ρ) (txs.bind fun xs => tys.bind fun ys => .ret (xs.zip ys)) (fun zs ds => ds = zs.map (eP ea ef)) := by
  unfold itZ2
  exact rbindE h fun xs => rbindE k fun ys => by rw [hx, Tr.ret_bind, hy]; exact rret (by rw [Tr.ret_bind, zip_map]) rfl
theorem sz2ep {f g : EF} {ys : List β} {y : D} {v : List α → D} (h : RefE (f ρ) txs v) (k : g ρ = .ret y) (hx : ∀ xs, seqOf (v xs) = .ret (xs.map ea)) (hy : seqOf y = .ret (ys.map ef)) : RefG (itZ2 f g ρ) (txs.bind fun xs => .ret (xs.zip ys)) (fun zs ds => ds = zs.map (eP ea ef)) := by
  unfold itZ2
  exact rbindE h fun xs => by rw [k, Tr.ret_bind, hx, Tr.ret_bind, hy]; exact rret (by rw [Tr.ret_bind, zip_map]) rfl
theorem sq_L (xs : List α) : seqOf (eL ea xs) = .ret (xs.map ea) := rfl
theorem sq_T (xs : List α) : seqOf (eT ea xs) = .ret (xs.map ea) := rfl
theorem sqd_L (xs : List α) : seqD (eL ea xs) = .ret (xs.map ea) := rfl
theorem sqd_T (xs : List α) : seqD (eT ea xs) = .ret (xs.map ea) := rfl
theorem sk_M {ek : α → D} {ev : β → D} {i : Nat} {m : List (α × β)} (h : ρ[i]? = some (some (eM ek ev m))) : itK i ρ = .ret ((m.map (·.1)).map ek) := by
  unfold itK; rw [pv i h]
  show Tr.ret ((m.map _).map _) = _
  rw [List.map_map, List.map_map]; rfl
end
class KeyE {κ : Type} [DecidableEq κ] (e : κ → D) (fl : outParam Bool) : Prop where
  key : ∀ k, isKey (e k) = true
  flat : ∀ k, isFlat (e k) = fl
  eqv : ∀ a b, PyData.eqv (e a) (e b) = decide (a = b)
instance : KeyE PyData.int true := ⟨fun _ => rfl, fun _ => rfl, EqE.eqv⟩
instance : KeyE PyData.str true := ⟨fun _ => rfl, fun _ => rfl, EqE.eqv⟩
theorem all_flat {α : Type} [DecidableEq α] {e : α → D} [KeyE e true] (xs : List α) : (xs.map e).all isFlat = true := by
  rw [List.all_map, List.all_eq_true]; intro x _; exact KeyE.flat x
instance {α : Type} [DecidableEq α] {e : α → D} [KeyE e true] [EqE e] : KeyE (eT e) false := ⟨fun k => all_flat k, fun _ => rfl, EqE.eqv⟩
instance {α β : Type} [DecidableEq α] [DecidableEq β] {e : α → D} {f : β → D} [KeyE e true] [KeyE f true] [EqE e] [EqE f] : KeyE (eP e f) false := ⟨fun p => by
  show [e p.1, f p.2].all isFlat = true
  simp [KeyE.flat], fun _ => rfl, EqE.eqv⟩
def getK {κ α : Type} [DecidableEq κ] : List (κ × α) → κ → Option α
  | [], _ => none
  | p :: r, k => if p.1 = k then some p.2 else getK r k
def putM {κ α : Type} [DecidableEq κ] (m : List (κ × α)) (k : κ) (v : α) : List (κ × α) := if (m.any fun p => decide (p.1 = k)) = true then m.map (fun p => if p.1 = k then (p.1, v) else p) else m ++ [(k, v)]
section
variable {κ α γ : Type} [DecidableEq κ] {ek : κ → D} {ev : α → D} {ρ : Ev}
abbrev encM (ek : κ → D) (ev : α → D) (m : List (κ × α)) : List (D × D) := m.map fun p => (ek p.1, ev p.2)
theorem find_M {fl : Bool} [KeyE ek fl] (k : κ) : ∀ m : List (κ × α), findD (encM ek ev m) (ek k) = (getK m k).map ev
  | [] => rfl
  | p :: r => by
    unfold findD
    show Option.map (·.2) (List.find? _ ((ek p.1, ev p.2) :: encM ek ev r)) = _
    rw [List.find?_cons]
    simp only [KeyE.eqv, getK]
    by_cases h : p.1 = k
    · rw [if_pos h]; simp [h]
    · rw [if_neg h]
      simp only [h, decide_false]
      exact find_M k r
theorem same_M {fl : Bool} [KeyE ek fl] (k : κ) : ∀ m : List (κ × α), sameK (encM ek ev m) (ek k) = true
  | [] => rfl
  | p :: _ => by show (isFlat (ek p.1) == isFlat (ek k)) = true; rw [KeyE.flat, KeyE.flat]; simp
theorem look_M {fl : Bool} [KeyE ek fl] (m : List (κ × α)) (k : κ) : lookD (encM ek ev m) (ek k) = .ret ((getK m k).map ev) := by
  unfold lookD; rw [need_pos ⟨KeyE.key k, same_M k m⟩, find_M]
theorem inB_M {fl : Bool} [KeyE ek fl] (k : κ) (m : List (κ × α)) : inB (ek k) (eM ek ev m) = .ret (getK m k).isSome := by
  show (lookD (encM ek ev m) (ek k)).bind _ = _
  rw [look_M]; cases getK m k <;> rfl
theorem in_M {fl : Bool} [KeyE ek fl] (k : κ) (m : List (κ × α)) : inD (ek k) (eM ek ev m) = .ret (.bool (getK m k).isSome) := by unfold inD; rw [inB_M]; rfl
theorem notIn_M {fl : Bool} [KeyE ek fl] (k : κ) (m : List (κ × α)) : notInD (ek k) (eM ek ev m) = .ret (.bool (!(getK m k).isSome)) := by unfold notInD; rw [inB_M]; rfl
theorem ix_M {fl : Bool} [KeyE ek fl] (m : List (κ × α)) (k : κ) : RefE (idxD (eM ek ev m) (ek k)) (ofO (getK m k)) ev := by
  have e : idxD (eM ek ev m) (ek k) = (lookD (encM ek ev m) (ek k)).bind fun o => match o with | some v => .ret v | none => .fail := by
    unfold eM idxD
    rfl
  rw [e, look_M]
  cases getK m k with
  | none => exact rfail
  | some v => exact rretE rfl
theorem get2_M {fl : Bool} [KeyE ek fl] (m : List (κ × α)) (k : κ) (v : α) : RefE (get2D (eM ek ev m) (ek k) (ev v)) (need (fl = true ∨ m.isEmpty = false) (.ret ((getK m k).getD v))) ev := by
  show RefE ((getO (encM ek ev m) (ek k)).bind _) _ _
  unfold getO; rw [look_M, Tr.ret_bind, KeyE.flat]
  refine rneed fun h => ?_
  rw [need_pos (by rcases h with h | h; exact .inl h; right; cases m; cases h; rfl)]
  cases getK m k <;> exact rretE rfl
theorem get2_Mf {ek : κ → D} [KeyE ek true] (m : List (κ × α)) (k : κ) (v : α) : get2D (eM ek ev m) (ek k) (ev v) = .ret (ev ((getK m k).getD v)) := by
  show (getO (encM ek ev m) (ek k)).bind _ = _
  unfold getO; rw [look_M, Tr.ret_bind, KeyE.flat, need_pos (.inl rfl)]
  cases getK m k <;> rfl
theorem get1_Mf {ek : κ → D} [KeyE ek true] (m : List (κ × α)) (k : κ) : get1D (eM ek ev m) (ek k) = .ret (eO ev (getK m k)) := by
  show (getO (encM ek ev m) (ek k)).bind _ = _
  unfold getO; rw [look_M, Tr.ret_bind, KeyE.flat, need_pos (.inl rfl)]
  cases getK m k <;> rfl
theorem putD_M {fl : Bool} [KeyE ek fl] (m : List (κ × α)) (k : κ) (v : α) : putD (encM ek ev m) (ek k) (ev v) = encM ek ev (putM m k v) := by
  unfold putD putM
  have e : ((encM ek ev m).any fun p => PyData.eqv p.1 (ek k)) = m.any fun p => decide (p.1 = k) := by
    unfold encM; rw [List.any_map]; congr 1; funext p; exact KeyE.eqv p.1 k
  rw [e]
  split
  · unfold encM
    rw [List.map_map, List.map_map]
    apply List.map_congr_left
    intro p _
    show (if PyData.eqv (ek p.1) (ek k) = true then _ else _) = (fun q : κ × α => (ek q.1, ev q.2)) (if p.1 = k then (p.1, v) else p)
    rw [KeyE.eqv]
    by_cases h : p.1 = k <;> simp [h]
  · unfold encM; simp
theorem set_M {fl : Bool} [KeyE ek fl] (m : List (κ × α)) (k : κ) (v : α) : RefE (setD (eM ek ev m) (ek k) (ev v)) (need (m.length < lim) (.ret (putM m k v))) (eM ek ev) := by
  show RefE (need (isKey (ek k) = true ∧ sameK (encM ek ev m) (ek k) = true ∧ (encM ek ev m).length < lim) (Tr.ret (PyData.dict (putD (encM ek ev m) (ek k) (ev v))))) _ _
  refine rneedX (fun h => ⟨KeyE.key k, same_M k m, by unfold encM; rw [List.length_map]; exact h⟩) (rretE ?_)
  rw [putD_M]; rfl
end
class SortE {α : Type} (e : α → D) (le : outParam (α → α → Bool)) : Prop where
  ok : ∀ xs : List α, okSort (xs.map e) = true
  le : ∀ a b, leO (e a) (e b) = le a b
def insT {α : Type} (le : α → α → Bool) (a : α) : List α → List α
  | [] => [a]
  | b :: r => if le a b then a :: b :: r else b :: insT le a r
def sortT {α : Type} (le : α → α → Bool) : List α → List α
  | [] => []
  | a :: r => insT le a (sortT le r)
abbrev leI : Int → Int → Bool := fun a b => decide (a ≤ b)
instance : SortE PyData.int leI := ⟨okSort_iL, leO_int⟩
section
variable {α : Type} {e : α → D} {le : α → α → Bool} [SortE e le] {n : Nat} [GoodE e n]
theorem ins_T (a : α) : ∀ xs : List α, insD (e a) (xs.map e) = (insT le a xs).map e
  | [] => rfl
  | b :: xs => by
    show (if leO (e a) (e b) = true then _ else _) = (if le a b = true then _ else _ : List α).map e
    rw [SortE.le (le := le)]
    cases le a b with
    | true => rfl
    | false => rw [if_neg (by simp), if_neg (by simp), ins_T a xs]; rfl
theorem isort_T : ∀ xs : List α, isortD (xs.map e) = (sortT le xs).map e
  | [] => rfl
  | a :: xs => by
    show insD (e a) (isortD (xs.map e)) = _
    rw [isort_T xs, ins_T]; rfl
theorem sort_L (xs : List α) (h : n + 1 ≤ 64 := by decide) : RefE (fn1 sortD [eL e xs]) (need (xs.length ≤ lim) (.ret (sortT le xs))) (eL e) := by
  show RefE (need (shp (eL e xs) = true ∧ okSort (xs.map e) = true ∧ (xs.map e).length ≤ lim) (Tr.ret (PyData.list (isortD (xs.map e))))) _ _
  refine rneedX (fun q => ⟨shpE (e := eL e) xs h, SortE.ok xs, by rw [List.length_map]; exact q⟩) (rretE ?_)
  rw [isort_T (le := le)]; rfl
theorem insT_perm (le : α → α → Bool) (a : α) : ∀ xs : List α, (insT le a xs).Perm (a :: xs)
  | [] => List.Perm.refl _
  | b :: xs => by
    unfold insT
    split
    · exact List.Perm.refl _
    · exact ((insT_perm le a xs).cons b).trans (List.Perm.swap a b xs)
theorem sortT_perm (le : α → α → Bool) : ∀ xs : List α, (sortT le xs).Perm xs
  | [] => List.Perm.refl _
  | a :: xs => (insT_perm le a _).trans ((sortT_perm le xs).cons a)
end
section
variable {γ : Type} {e : γ → D} {t : Tr γ} {n : Nat} {hs : Bool} {g : SF} {ds : List D} {ρ0 : Ev}
theorem rrun (h0 : ev0 n hs ds = ρ0) (h : RefG (g ρ0) t (Rv e)) : RefE (runF n hs g ds) t e := .mk fun Q q => by
  unfold runF; rw [h0, Tr.wp_bind]
  exact h.run _ (Tr.wp_mono (fun a ha r ⟨ρ, hr⟩ => by subst hr; exact ha _ rfl) q)
end
end Pv

namespace Pv
open PySem PySem.Spec PyProof.Rows L2

section
variable {α β σ R : Type}
theorem wb {x : Tr α} {f : α → Tr β} {Q : β → Prop} (h : x.wp fun a => (f a).wp Q) : (x.bind f).wp Q := Tr.wp_bind.mpr h
theorem wm {x : Tr α} {P Q : α → Prop} (h : x.wp P) (i : ∀ a, P a → Q a) : x.wp Q := Tr.wp_mono i h
theorem wbm {x : Tr α} {f : α → Tr β} {P : α → Prop} {Q : β → Prop} (h : x.wp P) (i : ∀ a, P a → (f a).wp Q) : (x.bind f).wp Q := wb (wm h i)
theorem wr {x : Tr α} {f : α → Tr β} {a : α} {Q : β → Prop} (h : x = .ret a) (i : (f a).wp Q) : (x.bind f).wp Q := by rw [h]; exact i
theorem wn {p : Prop} [Decidable p] {x : Tr α} {Q : α → Prop} (h : p) (i : x.wp Q) : (need p x).wp Q := wp_need.mpr ⟨h, i⟩
theorem wnb {p : Prop} [Decidable p] {x : Tr α} {f : α → Tr β} {Q : β → Prop} (h : p) (i : (x.bind f).wp Q) : ((need p x).bind f).wp Q := by rw [need_pos h]; exact i
theorem wpick {m : Int} {Q : Int → Prop} (h : m ≤ 1000) (q : ∀ r : Int, 0 ≤ r → r < max 1 m → Q r) : (pickT m).wp Q := by
  unfold pickT
  exact wn (Int.lt_of_le_of_lt h (Int.lt_of_lt_of_le (show (1000 : Int) < 2 ^ 64 by decide) small_pow)) fun r h0 h1 => q r h0 h1
theorem wpickB {m : Int} {Q : Int → Prop} (h : m ≤ 2 ^ 64) (q : ∀ r : Int, 0 ≤ r → r < max 1 m → Q r) : (pickT m).wp Q := by
  unfold pickT
  refine wn (Int.lt_of_le_of_lt h ?_) fun r h0 h1 => q r h0 h1
  have : (2 ^ 64 : Nat) < 2 ^ 1000 := Nat.pow_lt_pow_right (by decide) (by decide)
  exact_mod_cast this
theorem wrange {lo hi : Int} {Q : List Int → Prop} (h1 : -4611686018427387904 ≤ lo) (h2 : lo < 4611686018427387904) (h3 : -4611686018427387904 ≤ hi) (h4 : hi < 4611686018427387904) (q : Q (rangeI lo hi)) : (rangeT lo hi).wp Q := by unfold rangeT; exact wn ⟨h1, h2, h3, h4⟩ q
theorem rangeT_eq {lo hi : Int} (h1 : -4611686018427387904 ≤ lo) (h2 : lo < 4611686018427387904) (h3 : -4611686018427387904 ≤ hi) (h4 : hi < 4611686018427387904) : rangeT lo hi = .ret (rangeI lo hi) := by unfold rangeT; exact need_pos ⟨h1, h2, h3, h4⟩
theorem getT_eq {xs : List α} {i : Nat} (h : i < xs.length) : getT xs (i : Int) = .ret xs[i] := by
  have : atI xs (i : Int) = some xs[i] := by
    unfold atI ixN
    rw [if_pos (by omega), if_pos (by omega)]
    simp
  unfold getT; rw [this]; rfl
theorem getT_int {xs : List α} {i : Int} (h0 : 0 ≤ i) (h : i.toNat < xs.length) : getT xs i = .ret xs[i.toNat] := by
  have := getT_eq h
  have e : ((i.toNat : Nat) : Int) = i := by omega
  rwa [e] at this
theorem getT_last {xs : List α} (h : xs ≠ []) : getT xs (-1) = .ret (xs.getLast h) := by
  have hp := List.length_pos_iff.mpr h
  have : atI xs (-1) = some (xs.getLast h) := by
    unfold atI ixN
    rw [if_neg (by omega), if_pos (by omega)]
    show xs[((-1 : Int) + (xs.length : Nat)).toNat]? = _
    have : ((-1 : Int) + (xs.length : Nat)).toNat = xs.length - 1 := by omega
    rw [this, ← List.getLast?_eq_getElem?, List.getLast?_eq_some_getLast h]
  unfold getT; rw [this]; rfl
/-- an invariant over the items gone through -/
theorem wforI {f : σ → α → Tr σ} {xs : List α} {s0 : σ} (inv : List α → σ → Prop) {Q : σ → Prop} (h0 : inv [] s0) (hb : ∀ done a rest s, xs = done ++ a :: rest → inv done s → (f s a).wp fun s' => inv (done ++ [a]) s') (hq : ∀ s, inv xs s → Q s) : (forS f xs s0).wp Q := by
  have go : ∀ (ys done : List α) (s : σ), xs = done ++ ys → inv done s → (forS f ys s).wp fun s' => inv xs s' := by
    intro ys
    induction ys with
    | nil => intro done s e h; rw [List.append_nil] at e; rw [e]; exact h
    | cons a ys ih =>
      intro done s e h
      exact wb (wm (hb done a ys s e h) fun s' h' => ih (done ++ [a]) s' (by rw [e, List.append_assoc]; rfl) h')
  exact wm (go xs [] s0 rfl h0) hq
theorem forS_eq {f : σ → α → Tr σ} {g : σ → α → σ} (inv : List α → σ → Prop) {xs : List α} {s0 : σ} (h0 : inv [] s0) (hb : ∀ done a rest s, xs = done ++ a :: rest → inv done s → f s a = .ret (g s a) ∧ inv (done ++ [a]) (g s a)) : forS f xs s0 = .ret (xs.foldl g s0) ∧ inv xs (xs.foldl g s0) := by
  have go : ∀ (ys done : List α) (s : σ), xs = done ++ ys → inv done s → forS f ys s = .ret (ys.foldl g s) ∧ inv xs (ys.foldl g s) := by
    intro ys
    induction ys with
    | nil => intro done s e h; rw [List.append_nil] at e; rw [e]; exact ⟨rfl, h⟩
    | cons a ys ih =>
      intro done s e h
      obtain ⟨h1, h2⟩ := hb done a ys s e h
      have := ih (done ++ [a]) (g s a) (by rw [e, List.append_assoc]; rfl) h2
      refine ⟨?_, this.2⟩
      show (f s a).bind _ = _
      rw [h1]; exact this.1
  exact go xs [] s0 rfl h0
theorem forS_pure {f : σ → α → Tr σ} {g : σ → α → σ} {xs : List α} {s0 : σ} (hb : ∀ s a, a ∈ xs → f s a = .ret (g s a)) : forS f xs s0 = .ret (xs.foldl g s0) := by
  induction xs generalizing s0 with
  | nil => rfl
  | cons a xs ih =>
    show (f s0 a).bind _ = _
    rw [hb s0 a List.mem_cons_self]
    exact ih fun s b hm => hb s b (List.mem_cons_of_mem _ hm)
theorem wforF {f : σ → α → Tr (Fo R σ)} {xs : List α} {s0 : σ} (inv : List α → σ → Prop) {Q : Lo R σ → Prop} (h0 : inv [] s0)
    (hb : ∀ done a rest s, xs = done ++ a :: rest → inv done s → (f s a).wp fun o => match o with
      | .nx s' => inv (done ++ [a]) s'
      | .ct s' => inv (done ++ [a]) s'
      | .bk s' => Q (.nx s')
      | .rt r => Q (.rt r)) (hq : ∀ s, inv xs s → Q (.nx s)) : (forF f xs s0).wp Q := by
  have go : ∀ (ys done : List α) (s : σ), xs = done ++ ys → inv done s → (forF f ys s).wp Q := by
    intro ys
    induction ys with
    | nil => intro done s e h; rw [List.append_nil] at e; rw [e] at hq; exact hq s h
    | cons a ys ih =>
      intro done s e h
      refine wb (wm (hb done a ys s e h) fun o h' => ?_)
      cases o with
      | nx s' => exact ih (done ++ [a]) s' (by rw [e, List.append_assoc]; rfl) h'
      | ct s' => exact ih (done ++ [a]) s' (by rw [e, List.append_assoc]; rfl) h'
      | bk s' => exact h'
      | rt r => exact h'
  exact go xs [] s0 rfl h0
/-- a loop that goes through, its state of no matter -/
theorem wforU {f : Unit → α → Tr (Fo R Unit)} {xs : List α} {Q : Lo R Unit → Prop} (hb : ∀ a, a ∈ xs → (f () a).wp fun o => o = .nx ()) (hq : Q (.nx ())) : (forF f xs ()).wp Q :=
  wforF (fun _ _ => True) trivial (fun done a rest s e _ => wm (hb a (by rw [e]; simp)) fun o h => by subst h; trivial) fun _ _ => hq
/-- comprehensions -/
theorem lcT_eq {p : α → Tr Bool} {m : α → Tr β} {q : α → Bool} {g : α → β} : ∀ {xs : List α}, (∀ a, a ∈ xs → p a = .ret (q a)) → (∀ a, a ∈ xs → q a = true → m a = .ret (g a)) → lcT p m xs = .ret ((xs.filter q).map g)
  | [], _, _ => rfl
  | a :: xs, hp, hm => by
    have ih := lcT_eq (xs := xs) (fun b hb => hp b (List.mem_cons_of_mem _ hb)) fun b hb => hm b (List.mem_cons_of_mem _ hb)
    show (p a).bind _ = _
    rw [hp a List.mem_cons_self, Tr.ret_bind, ih, List.filter_cons]
    cases e : q a with
    | false => rfl
    | true => rw [if_pos rfl, hm a List.mem_cons_self e]; rfl
theorem wlcT {p : α → Tr Bool} {m : α → Tr β} {P : β → Prop} : ∀ {xs : List α} {Q : List β → Prop}, (∀ a, a ∈ xs → p a = .ret true) → (∀ a, a ∈ xs → (m a).wp P) → (∀ ys : List β, ys.length = xs.length → (∀ y, y ∈ ys → P y) → Q ys) → (lcT p m xs).wp Q
  | [], Q, _, _, hq => hq [] rfl fun y hy => by cases hy
  | a :: xs, Q, hp, hm, hq => by
    show ((p a).bind _).wp Q
    rw [hp a List.mem_cons_self, Tr.ret_bind, if_pos rfl]
    refine wb (wm (hm a List.mem_cons_self) fun y hy => wb ?_)
    refine wlcT (fun b hb => hp b (List.mem_cons_of_mem _ hb)) (fun b hb => hm b (List.mem_cons_of_mem _ hb)) fun ys hl hP => ?_
    refine hq (y :: ys) (by rw [List.length_cons, List.length_cons, hl]) fun z hz => ?_
    rcases List.mem_cons.mp hz with rfl | hz
    · exact hy
    · exact hP z hz
end
theorem reprT_eq {d : D} (h : okShow d) : reprT d = .ret d.shown := by unfold reprT; exact need_pos h
theorem mem_rangeI {lo hi x : Int} : x ∈ rangeI lo hi ↔ lo ≤ x ∧ x < hi := by
  unfold rangeI
  rw [List.mem_map]
  constructor
  · rintro ⟨i, hi, rfl⟩
    have := List.mem_range.mp hi
    omega
  · rintro ⟨h1, h2⟩
    exact ⟨(x - lo).toNat, List.mem_range.mpr (by omega), by omega⟩
theorem rangeI_len (lo hi : Int) : (rangeI lo hi).length = (hi - lo).toNat := by simp [rangeI]
end Pv

namespace Pv
open PySem PySem.Spec PyProof.Rows L2
theorem lim_val0 : lim = 16777216 := rfl
theorem eraseIdx_map0 {α β : Type} (f : α → β) : ∀ (xs : List α) (n : Nat), (xs.map f).eraseIdx n = (xs.eraseIdx n).map f
  | [], _ => rfl
  | _ :: _, 0 => rfl
  | x :: xs, n + 1 => by
    show f x :: (xs.map f).eraseIdx n = f x :: (xs.eraseIdx n).map f
    rw [eraseIdx_map0 f xs n]
theorem perm_erase0 {α : Type} : ∀ (xs : List α) (n : Nat) (h : n < xs.length), (xs[n] :: xs.eraseIdx n).Perm xs
  | x :: xs, 0, _ => List.Perm.refl _
  | x :: xs, n + 1, h => by
    have h' : n < xs.length := by simpa using h
    exact (List.Perm.swap x (xs[n]) _).trans ((perm_erase0 xs n h').cons x)
theorem pickT_iff {m : Int} {Q : Int → Prop} : (pickT m).wp Q ↔ (m < 2 ^ 1000 ∧ ∀ r : Int, 0 ≤ r → r < max 1 m → Q r) := by unfold pickT; exact wp_need

section
variable {α β γ κ : Type} {ea : α → D} {ef : β → D} {ρ ρw : Ev} {f : EF}
theorem rtoO {x : Tr D} {t : Tr α} {e : α → D} (h : RefE x t e) : RefE x (t.bind fun a => .ret (some a)) (eO e) := .mk fun Q q => h.run Q (Tr.wp_mono (fun a ha b r => by cases r; exact ha _ rfl) (Tr.wp_bind.mp q))
theorem rlstR {src : Ev → Tr (List D)} {t : Tr (List Int)} (h : RefG (src ρ) t (fun xs ds => ds = xs.map .int)) : RefE (eLstR src ρ) (t.bind fun xs => need (xs.length ≤ lim) (.ret xs)) (eL PyData.int) := by
  unfold eLstR
  exact rbind h fun xs ds e => by subst e; exact need_len
theorem rlstRp {src : Ev → Tr (List D)} {xs : List Int} (h : src ρ = .ret (xs.map .int)) : RefE (eLstR src ρ) (need (xs.length ≤ lim) (.ret xs)) (eL PyData.int) := by
  unfold eLstR
  rw [h]; exact need_len
theorem rtupR {src : Ev → Tr (List D)} {t : Tr (List Int)} (h : RefG (src ρ) t (fun xs ds => ds = xs.map .int)) : RefE (eTupR src ρ) (t.bind fun xs => need (xs.length ≤ lim) (.ret xs)) (eT PyData.int) := by
  unfold eTupR
  refine rbind h fun xs ds e => ?_
  subst e
  rw [List.length_map]; exact rneedX id (rretE rfl)
theorem rtupRp {src : Ev → Tr (List D)} {xs : List Int} (h : src ρ = .ret (xs.map .int)) : RefE (eTupR src ρ) (need (xs.length ≤ lim) (.ret xs)) (eT PyData.int) := by
  unfold eTupR
  rw [h]
  show RefE (need _ _) _ _
  rw [List.length_map]; exact rneedX id (rretE rfl)
theorem sr2k {g : AF} {t : Tr (List Int)} (h : RefG ((g ρ).bind fun ds => itR2 (fun _ => .ret ds) ρ) t (fun xs ds => ds = xs.map .int)) : RefG (itR2 g ρ) t (fun xs ds => ds = xs.map .int) := h
theorem sr2c (lo hi : Int) : RefG (itR2 (fun _ => .ret [.int lo, .int hi]) ρ) (rangeT lo hi) (fun xs ds => ds = xs.map .int) := sr2 rfl
def leE {α : Type} (e : α → D) (a b : α) : Bool := leO (e a) (e b)
theorem insE (e : α → D) (a : α) : ∀ xs : List α, insD (e a) (xs.map e) = (insT (leE e) a xs).map e
  | [] => rfl
  | b :: xs => by
    show (if leO (e a) (e b) = true then _ else _) = (if leE e a b = true then _ else _ : List α).map e
    unfold leE
    cases leO (e a) (e b) with
    | true => rfl
    | false => rw [if_neg (by simp), if_neg (by simp), insE e a xs]; rfl
theorem isortE (e : α → D) : ∀ xs : List α, isortD (xs.map e) = (sortT (leE e) xs).map e
  | [] => rfl
  | a :: xs => by
    show insD (e a) (isortD (xs.map e)) = _
    rw [isortE e xs, insE]; rfl
def okSrt {α : Type} (e : α → D) (xs : List α) : Bool := okSort (xs.map e)
theorem sort2_L {n : Nat} [GoodE ea n] (xs : List α) (h : n + 1 ≤ 64 := by decide) : RefE (fn1 sortD2 [eL ea xs]) (need (okSrt ea xs = true ∧ xs.length ≤ lim) (.ret (sortT (leE ea) xs))) (eL ea) := by
  show RefE (need (shp (eL ea xs) = true ∧ okSort (xs.map ea) = true ∧ (xs.map ea).length ≤ lim) (Tr.ret (PyData.list (isortD (xs.map ea))))) _ _
  refine rneedX (fun q => ⟨shpE (e := eL ea) xs h, q.1, by rw [List.length_map]; exact q.2⟩) (rretE ?_)
  rw [isortE]; rfl
theorem sort2_T {n : Nat} [GoodE ea n] (xs : List α) (h : n + 1 ≤ 64 := by decide) : RefE (fn1 sortD2 [eT ea xs]) (need (okSrt ea xs = true ∧ xs.length ≤ lim) (.ret (sortT (leE ea) xs))) (eL ea) := by
  show RefE (need (shp (eL ea xs) = true ∧ okSort (xs.map ea) = true ∧ (xs.map ea).length ≤ lim) (Tr.ret (PyData.list (isortD (xs.map ea))))) _ _
  refine rneedX (fun q => ⟨shpE (e := eL ea) xs h, q.1, by rw [List.length_map]; exact q.2⟩) (rretE ?_)
  rw [isortE]; rfl
theorem keysM {ek : α → D} {ev : β → D} (m : List (α × β)) : (m.map fun p => (ek p.1, ev p.2)).map (·.1) = (m.map (·.1)).map ek := by rw [List.map_map, List.map_map]; rfl
theorem sort2_M {n : Nat} {ev : β → D} [GoodE ea n] (m : List (α × β)) (h : n + 1 ≤ 64 := by decide) : RefE (fn1 sortD2 [eM ea ev m]) (need (okSrt ea (m.map (·.1)) = true ∧ m.length ≤ lim) (.ret (sortT (leE ea) (m.map (·.1))))) (eL ea) := by
  show RefE (need (shp (.list ((m.map fun p => (ea p.1, ev p.2)).map (·.1))) = true ∧ okSort ((m.map fun p => (ea p.1, ev p.2)).map (·.1)) = true ∧ (m.map fun p => (ea p.1, ev p.2)).length ≤ lim) (Tr.ret (PyData.list (isortD ((m.map fun p => (ea p.1, ev p.2)).map (·.1)))))) _ _
  rw [keysM, List.length_map]
  refine rneedX (fun q => ⟨shpE (e := eL ea) (List.map (fun p : α × β => p.1) m) h, q.1, q.2⟩) (rretE ?_)
  rw [isortE]; rfl
theorem leE_int (a b : Int) : leE PyData.int a b = decide (a ≤ b) := leO_int a b
theorem okSrt_int (xs : List Int) : okSrt PyData.int xs = true := okSort_iL xs
theorem tup2_L (xs : List α) : fn1 tupleD2 [eL ea xs] = .ret (eT ea xs) := rfl
theorem tup2_T (xs : List α) : fn1 tupleD2 [eT ea xs] = .ret (eT ea xs) := rfl
theorem tup2_M {ev : β → D} (m : List (α × β)) : RefE (fn1 tupleD2 [eM ea ev m]) (need (m.length ≤ lim) (.ret (m.map (·.1)))) (eT ea) := by
  show RefE (need ((m.map fun p => (ea p.1, ev p.2)).length ≤ lim) (Tr.ret (PyData.tuple ((m.map fun p => (ea p.1, ev p.2)).map (·.1))))) _ _
  rw [keysM, List.length_map]; exact rneedX id (rretE rfl)
def dcT [DecidableEq κ] (p : α → Tr Bool) (mk : α → Tr κ) (mv : α → Tr γ) : List α → List (κ × γ) → Tr (List (κ × γ))
  | [], acc => .ret acc
  | a :: xs, acc => (p a).bind fun b => if b then (mk a).bind fun k => (mv a).bind fun v => need (acc.length < lim) (dcT p mk mv xs (putM acc k v)) else dcT p mk mv xs acc
variable {src : Ev → Tr (List D)} {vs : List Nat} {gg : GF} {c : TF} {fk fv : EF} {tp : α → Tr Bool} {tk : α → Tr κ} {tv : α → Tr γ} {txs : Tr (List α)} {ek : κ → D} {ev : γ → D}
theorem ref_dc [DecidableEq κ] {fl : Bool} [KeyE ek fl] (ρ1 : α → Ev) (hg : ∀ a, gg (ea a) ρw = .ret (ρ1 a)) (ht : ∀ a, RefB (c (ρ1 a)) (tp a)) (hk : ∀ a, RefE (fk (ρ1 a)) (tk a) ek) (hv : ∀ a, RefE (fv (ρ1 a)) (tv a) ev) : ∀ (xs : List α) (acc : List (κ × γ)), RefG (dcGo gg c fk fv ρw (xs.map ea) (encM ek ev acc)) (dcT tp tk tv xs acc) (fun m kvs => kvs = encM ek ev m)
  | [], acc => rret rfl rfl
  | a :: xs, acc => by
    show RefG ((gg (ea a) ρw).bind _) _ _
    rw [hg, Tr.ret_bind]
    refine rbind (ht a) fun b b' e => ?_
    cases e
    cases b with
    | false => exact ref_dc ρ1 hg ht hk hv xs acc
    | true =>
      refine rbindE (hk a) fun k => rbindE (hv a) fun v => rneedX (fun h => ⟨KeyE.key k, same_M k acc, by unfold encM; rw [List.length_map]; exact h⟩) ?_
      rw [putD_M]
      exact ref_dc ρ1 hg ht hk hv xs _
theorem rdce [DecidableEq κ] {fl : Bool} [KeyE ek fl] (ρ1 : α → Ev) (hs : RefG (src ρ) txs (fun xs ds => ds = xs.map ea)) (hw : wipeA ρ vs = ρw) (hg : ∀ a, gg (ea a) ρw = .ret (ρ1 a)) (ht : ∀ a, RefB (c (ρ1 a)) (tp a)) (hk : ∀ a, RefE (fk (ρ1 a)) (tk a) ek) (hv : ∀ a, RefE (fv (ρ1 a)) (tv a) ev) : RefE (eDc src vs gg c fk fv ρ) (txs.bind fun xs => dcT tp tk tv xs []) (eM ek ev) := by
  unfold eDc; rw [hw]
  refine rbind hs fun xs ds e => ?_
  subst e
  have h := ref_dc (ek := ek) (ev := ev) ρ1 hg ht hk hv xs []
  refine .mk fun Q q => ?_
  rw [Tr.wp_bind]
  exact h.run _ (Tr.wp_mono (fun m hm kvs ek => by subst ek; exact hm _ rfl) q)
theorem rdcp [DecidableEq κ] {fl : Bool} [KeyE ek fl] {xs : List α} (ρ1 : α → Ev) (hs : src ρ = .ret (xs.map ea)) (hw : wipeA ρ vs = ρw) (hg : ∀ a, gg (ea a) ρw = .ret (ρ1 a)) (ht : ∀ a, RefB (c (ρ1 a)) (tp a)) (hk : ∀ a, RefE (fk (ρ1 a)) (tk a) ek) (hv : ∀ a, RefE (fv (ρ1 a)) (tv a) ev) : RefE (eDc src vs gg c fk fv ρ) (dcT tp tk tv xs []) (eM ek ev) := by
  have := rdce (txs := .ret xs) (ek := ek) (ev := ev) ρ1 (rret hs rfl) hw hg ht hk hv
  exact this
def drainT : Nat → List α → Tr (List α)
  | 0, _ => .ret []
  | n + 1, xs => (pickT (xs.length : Int)).bind fun (r : Int) => match xs[r.toNat]? with
    | some y => (drainT n (xs.eraseIdx r.toNat)).bind fun ys => .ret (y :: ys)
    | none => .fail
theorem ref_dr {i : Nat} {fi : EF} {ei : β → D} (hg : ∀ (ρ : Ev) (b : β) (xs : List α), ρ[i]? = some (some (eL ea xs)) → ∃ ρ1, gg (ei b) (wipeA ρ vs) = .ret ρ1 ∧ RefE (fi ρ1) (pickT (xs.length : Int)) PyData.int) : ∀ (bs : List β) (xs : List α) (ρ : Ev), ρ[i]? = some (some (eL ea xs)) → xs.length ≤ 1000 → RefG (drGo i vs gg fi (bs.map ei) ρ) (drainT bs.length xs) (fun ys ds => ds = ys.map ea)
  | [], xs, ρ, _, _ => rret rfl rfl
  | b :: bs, xs, ρ, h, hl => by
    obtain ⟨ρ1, h1, h2⟩ := hg ρ b xs h
    show RefG ((gg (ei b) (wipeA ρ vs)).bind _) _ _
    rw [h1, Tr.ret_bind]
    refine .mk fun Q q => ?_
    refine (rbindE (S := fun ys ds => ds = ys.map ea) (u := fun (r : Int) => need (0 ≤ r ∧ r < 2 ^ 63) (match xs[r.toNat]? with
      | some y => (drainT bs.length (xs.eraseIdx r.toNat)).bind fun ys => .ret (y :: ys)
      | none => .fail)) h2 fun r => ?_).run Q ?_
    · have ow : ownL i ρ = .ret (xs.map ea) := by unfold ownL; rw [h]; rfl
      rw [ow, Tr.ret_bind]
      show RefG ((need (0 ≤ r ∧ r < 2 ^ 63) (match (xs.map ea)[r.toNat]? with | some y => Tr.ret (y, (xs.map ea).eraseIdx r.toNat) | none => .fail)).bind _) _ _
      rw [List.getElem?_map]
      refine rneed fun hr => ?_
      rw [need_pos hr]
      cases hy : xs[r.toNat]? with
      | none => exact rfail
      | some y =>
        have hi : i < ρ.length := (List.getElem?_eq_some_iff.mp h).1
        have er : (xs.map ea).eraseIdx r.toNat = (xs.eraseIdx r.toNat).map ea := eraseIdx_map0 ea xs r.toNat
        show RefG ((drGo i vs gg fi (bs.map ei) (ρ.set i (some (.list ((xs.map ea).eraseIdx r.toNat))))).bind _) _ _
        rw [er]
        exact rbind (ref_dr hg bs (xs.eraseIdx r.toNat) _ (by rw [List.getElem?_set_self hi]; rfl) (Nat.le_trans (List.length_eraseIdx_le _ _) hl)) fun ys ds e => rret (by subst e; rfl) rfl
    · have q' : ((pickT (xs.length : Int)).bind fun (r : Int) => match xs[r.toNat]? with
        | some y => (drainT bs.length (xs.eraseIdx r.toNat)).bind fun ys => .ret (y :: ys)
        | none => .fail).wp (fun a => ∀ b, b = a.map ea → Q b) := q
      have hb : ∀ r : Int, r < max 1 (xs.length : Int) → r < 2 ^ 63 := fun r hr => by omega
      rw [Tr.wp_bind, pickT_iff] at q' ⊢
      exact ⟨q'.1, fun r r0 r1 => wp_need.mpr ⟨⟨r0, hb r r1⟩, q'.2 r r0 r1⟩⟩
theorem drainT_len : ∀ (n : Nat) (xs : List α) {Q : List α → Prop}, (drainT n xs).wp Q → (drainT n xs).wp fun ys => ys.length = n ∧ Q ys
  | 0, xs, Q, h => ⟨rfl, h⟩
  | n + 1, xs, Q, h => by
    refine Tr.wp_bind.mpr (Tr.wp_mono (fun (r : Int) hr => ?_) (Tr.wp_bind.mp h))
    cases hy : xs[r.toNat]? with
    | none => rw [hy] at hr; exact hr.elim
    | some y =>
      rw [hy] at hr
      have := drainT_len n (xs.eraseIdx r.toNat) (Tr.wp_bind.mp hr)
      exact Tr.wp_bind.mpr (Tr.wp_mono (fun ys h2 => ⟨by rw [List.length_cons, h2.1], h2.2⟩) this)
/-- return [x.pop(_law_pick(source, len(x))) for lap in range(len(x))] -/
theorem rdrain {i : Nat} {fi : EF} {rest : SF} {xs : List α} {γ : Type} {R : γ → Fl × Ev → Prop} (k : List α → γ) (ho : ρ[i]? = some (some (eL ea xs))) (hs : RefG (src ρ) (rangeT 0 (xs.length : Int)) (fun xs ds => ds = xs.map .int))
    (hg : ∀ (ρ : Ev) (b : Int) (xs : List α), ρ[i]? = some (some (eL ea xs)) → ∃ ρ1, gg (.int b) (wipeA ρ vs) = .ret ρ1 ∧ RefE (fi ρ1) (pickT (xs.length : Int)) PyData.int) (hk : ∀ ys ρ', R (k ys) (.rt (eL ea ys), ρ')) :
    RefG (sSeq (sDrain i src vs gg fi) rest ρ) (need (xs.length ≤ 1000) ((drainT xs.length xs).bind fun ys => .ret (k ys))) R := rneed fun hl => by
  have hlim := lim_val0
  have hr : rangeT 0 (xs.length : Int) = .ret (rangeI 0 (xs.length : Int)) := rangeT_eq (by decide) (by decide) (by omega) (by omega)
  rw [hr] at hs
  refine .mk fun Q q => ?_
  unfold sSeq sDrain
  rw [Tr.wp_bind, Tr.wp_bind]
  refine hs.run _ fun ds e => ?_
  subst e
  rw [Tr.wp_bind]
  have h := ref_dr (ei := PyData.int) hg (rangeI 0 (xs.length : Int)) xs ρ ho hl
  rw [rangeI_len, Int.sub_zero, Int.toNat_natCast] at h
  refine h.run _ (Tr.wp_mono (fun ys hys ds e => ?_) (drainT_len _ _ (Tr.wp_bind.mp q)))
  subst e
  refine wp_need.mpr ⟨by rw [List.length_map]; omega, ?_⟩
  exact hys.2 _ (hk ys ρ)
/-- what a drain gives: the same items in some order -/
theorem drainT_wp : ∀ (n : Nat) (xs : List α), n = xs.length → xs.length ≤ 1000 → (drainT n xs).wp fun ys => ys.Perm xs
  | 0, xs, h, _ => by
    cases xs with
    | nil => exact List.Perm.refl _
    | cons x xs => cases h
  | n + 1, xs, h, hl => by
    refine Tr.wp_bind.mpr (wpick (by omega) fun r r0 r1 => ?_)
    have hr : r.toNat < xs.length := by omega
    show (match xs[r.toNat]? with | some y => (drainT n (xs.eraseIdx r.toNat)).bind fun ys => Tr.ret (y :: ys) | none => .fail).wp _
    rw [List.getElem?_eq_getElem hr]
    refine Tr.wp_bind.mpr (Tr.wp_mono (fun ys hp => ?_) (drainT_wp n (xs.eraseIdx r.toNat) (by rw [List.length_eraseIdx_of_lt hr]; omega) (Nat.le_trans (List.length_eraseIdx_le _ _) hl)))
    exact (hp.cons _).trans (perm_erase0 _ _ hr)
end
theorem drain_at {ρ : Ev} {i j : Nat} {x : Option (Option D)} {v : Option D} (h : ρ[i]? = x) (hij : j ≠ i) : ((wipeA ρ [j]).set j v)[i]? = x := by
  show ((ρ.set j none).set j v)[i]? = x
  rw [List.set_set, List.getElem?_set_ne hij]; exact h
theorem rnever {γ : Type} {R : γ → Fl × Ev → Prop} {rest : SF} {ρ : Ev} : RefG (sSeq sNever rest ρ) (.fail : Tr γ) R := rfail
structure W {α : Type} (t : Tr α) (Q : α → Prop) : Prop where
  run : t.wp Q
section
variable {α β σ R : Type}
theorem W.ret {a : α} {Q : α → Prop} (q : Q a) : W (.ret a) Q := ⟨q⟩
theorem W.bind {x : Tr α} {f : α → Tr β} {Q : β → Prop} (h : W x fun a => W (f a) Q) : W (x.bind f) Q := ⟨Tr.wp_bind.mpr (Tr.wp_mono (fun a ha => ha.run) h.run)⟩
theorem W.mono {x : Tr α} {P Q : α → Prop} (h : W x P) (i : ∀ a, P a → Q a) : W x Q := ⟨Tr.wp_mono i h.run⟩
theorem W.then {x : Tr α} {f : α → Tr β} {P : α → Prop} {Q : β → Prop} (h : W x P) (i : ∀ a, P a → W (f a) Q) : W (x.bind f) Q := W.bind (h.mono i)
theorem W.need {p : Prop} [Decidable p] {x : Tr α} {Q : α → Prop} (h : p) (i : W x Q) : W (Pv.need p x) Q := ⟨wp_need.mpr ⟨h, i.run⟩⟩
theorem W.eq {x : Tr α} {a : α} {Q : α → Prop} (h : x = .ret a) (q : Q a) : W x Q := ⟨by rw [h]; exact q⟩
theorem W.eqb {x : Tr α} {a : α} {f : α → Tr β} {Q : β → Prop} (h : x = .ret a) (i : W (f a) Q) : W (x.bind f) Q := by rw [h]; exact i
theorem W.pick {m : Int} {Q : Int → Prop} (h : m ≤ 1000) (q : ∀ r : Int, 0 ≤ r → r < max 1 m → Q r) : W (pickT m) Q := ⟨wpick h q⟩
theorem W.pickB {m : Int} {Q : Int → Prop} (h : m ≤ 2 ^ 64) (q : ∀ r : Int, 0 ≤ r → r < max 1 m → Q r) : W (pickT m) Q := ⟨wpickB h q⟩
theorem W.pickN {m : Nat} {Q : Int → Prop} (h : m ≤ 1000) (q : ∀ r : Nat, r < max 1 m → Q (r : Int)) : W (pickT (m : Int)) Q := .pick (by omega) fun r r0 r1 => by
  have e : r = ((r.toNat : Nat) : Int) := by omega
  rw [e]; exact q _ (by omega)
theorem W.drain {xs : List α} (h : xs.length ≤ 1000) : W (drainT xs.length xs) fun ys => ys.Perm xs := ⟨drainT_wp _ _ rfl h⟩
theorem W.forI {f : σ → α → Tr σ} {xs : List α} {s0 : σ} (inv : List α → σ → Prop) {Q : σ → Prop} (h0 : inv [] s0) (hb : ∀ done a rest s, xs = done ++ a :: rest → inv done s → W (f s a) fun s' => inv (done ++ [a]) s') (hq : ∀ s, inv xs s → Q s) : W (forS f xs s0) Q :=
  ⟨wforI inv h0 (fun d a r s e h => (hb d a r s e h).run) hq⟩
theorem W.forF {f : σ → α → Tr (Fo R σ)} {xs : List α} {s0 : σ} (inv : List α → σ → Prop) {Q : Lo R σ → Prop} (h0 : inv [] s0)
    (hb : ∀ done a rest s, xs = done ++ a :: rest → inv done s → W (f s a) fun o => match o with
      | .nx s' => inv (done ++ [a]) s'
      | .ct s' => inv (done ++ [a]) s'
      | .bk s' => Q (.nx s')
      | .rt r => Q (.rt r)) (hq : ∀ s, inv xs s → Q (.nx s)) : W (Pv.forF f xs s0) Q := ⟨wforF inv h0 (fun d a r s e h => (hb d a r s e h).run) hq⟩
theorem W.forU {f : Unit → α → Tr (Fo R Unit)} {xs : List α} {Q : Lo R Unit → Prop} (hb : ∀ a, a ∈ xs → W (f () a) fun o => o = .nx ()) (hq : Q (.nx ())) : W (Pv.forF f xs ()) Q := ⟨wforU (fun a h => (hb a h).run) hq⟩
theorem W.lcT {p : α → Tr Bool} {m : α → Tr β} {P : β → Prop} {xs : List α} {Q : List β → Prop} (h1 : ∀ a, a ∈ xs → p a = .ret true) (h2 : ∀ a, a ∈ xs → W (m a) P) (h3 : ∀ ys : List β, ys.length = xs.length → (∀ y, y ∈ ys → P y) → Q ys) : W (Pv.lcT p m xs) Q := ⟨wlcT h1 (fun a h => (h2 a h).run) h3⟩
theorem W.ite {c : Bool} {x y : Tr α} {Q : α → Prop} (h1 : c = true → W x Q) (h2 : c = false → W y Q) : W (if c then x else y) Q := by
  cases c
  · exact h2 rfl
  · exact h1 rfl
end
def isRet {α : Type} [DecidableEq α] : Tr α → α → Bool
  | .ret b, a => decide (b = a)
  | _, _ => false
theorem isRet_ok {α : Type} [DecidableEq α] {t : Tr α} {a : α} (h : isRet t a = true) : t = .ret a := by
  cases t with
  | ret b => rw [of_decide_eq_true h]
  | fail => cases h
  | draw m k => cases h
def getR {α : Type} (d : α) : Tr α → α
  | .ret b => b
  | _ => d
end Pv

namespace Pv
open PySem PySem.Spec PyProof.Rows L2
structure Sz (d : D) (w : Nat) : Prop where
  sm : smallI d = true
  wt : d.weight ≤ w
theorem Sz.le {d : D} {w v : Nat} (h : Sz d w) (l : w ≤ v) : Sz d v := ⟨h.sm, Nat.le_trans h.wt l⟩
theorem sz_int {i : Int} (h : i.natAbs < 1024) : Sz (.int i) 10 := by
  refine ⟨?_, ?_⟩
  · simp only [smallI, decide_eq_true_eq]
    exact Nat.lt_of_lt_of_le h (by decide)
  · by_cases z : (i == 0) = true
    · simp only [PyData.weight]; rw [if_pos z]; omega
    · simp only [PyData.weight]; rw [if_neg z]
      have z0 : i.natAbs ≠ 0 := fun e => z (by have : i = 0 := by omega
                                               rw [this]; rfl)
      have := (Nat.log2_lt (k := 10) z0).mpr (by omega)
      omega
theorem sz_bool (b : Bool) : Sz (.bool b) 0 := ⟨rfl, by simp only [PyData.weight]; omega⟩
theorem sz_none : Sz .none 0 := ⟨rfl, by simp only [PyData.weight]; omega⟩
theorem sz_all {ds : List D} {w : Nat} (h : ∀ d ∈ ds, Sz d w) : smallAll ds = true ∧ PyData.weightAll ds ≤ ds.length * (w + 1) := by
  induction ds with
  | nil => exact ⟨rfl, by simp [PyData.weightAll]⟩
  | cons d ds ih =>
    have h1 := h d List.mem_cons_self
    have h2 := ih fun x hx => h x (List.mem_cons_of_mem _ hx)
    refine ⟨?_, ?_⟩
    · simp only [smallAll, Bool.and_eq_true]; exact ⟨h1.sm, h2.1⟩
    · simp only [PyData.weightAll, List.length_cons, Nat.succ_mul]
      have := h1.wt; have := h2.2; omega
theorem sz_tup {ds : List D} {w : Nat} (h : ∀ d ∈ ds, Sz d w) : Sz (.tuple ds) (ds.length * (w + 1)) := by
  have := sz_all h
  exact ⟨by simp only [smallI]; exact this.1, by simp only [PyData.weight]; exact this.2⟩
theorem sz_list {ds : List D} {w : Nat} (h : ∀ d ∈ ds, Sz d w) : Sz (.list ds) (ds.length * (w + 1)) := by
  have := sz_all h
  exact ⟨by simp only [smallI]; exact this.1, by simp only [PyData.weight]; exact this.2⟩
section
variable {α β : Type} {e : α → D} {f : β → D}
theorem sz_eT {xs : List α} {w : Nat} (h : ∀ x ∈ xs, Sz (e x) w) : Sz (eT e xs) (xs.length * (w + 1)) := by
  have := sz_tup (ds := xs.map e) (w := w) fun d hd => by obtain ⟨x, hx, rfl⟩ := List.mem_map.mp hd; exact h x hx
  rwa [List.length_map] at this
theorem sz_eL {xs : List α} {w : Nat} (h : ∀ x ∈ xs, Sz (e x) w) : Sz (eL e xs) (xs.length * (w + 1)) := by
  have := sz_list (ds := xs.map e) (w := w) fun d hd => by obtain ⟨x, hx, rfl⟩ := List.mem_map.mp hd; exact h x hx
  rwa [List.length_map] at this
theorem sz_eP {p : α × β} {w : Nat} (h1 : Sz (e p.1) w) (h2 : Sz (f p.2) w) : Sz (eP e f p) (2 * (w + 1)) := sz_tup (ds := [e p.1, f p.2]) fun d hd => by
  rcases List.mem_cons.mp hd with rfl | hd
  · exact h1
  · rcases List.mem_cons.mp hd with rfl | hd
    · exact h2
    · cases hd
theorem sz_eO {o : Option α} {w : Nat} (h : ∀ x, o = some x → Sz (e x) w) : Sz (eO e o) w := by
  cases o with
  | none => exact sz_none.le (Nat.zero_le _)
  | some x => exact h x rfl
theorem okShow_sz {d : D} {w : Nat} (h : Sz d w) (hs : shp d = true) (l : w ≤ 1048576) : okShow d := ⟨hs, .inl (by
  unfold cheap
  rw [h.sm, Bool.true_and, decide_eq_true_eq]
  exact Nat.le_trans h.wt (Nat.le_trans l (by decide)))⟩
theorem okShow_szE {n : Nat} [GoodE e n] {a : α} {w : Nat} (h : Sz (e a) w) (l : w ≤ 1048576) (hn : n ≤ 64 := by decide) : okShow (e a) := okShow_sz h (shpE (e := e) a hn) l
end
theorem shp_of {d : D} {n : Nat} (c : d.canLay0 = true) (h : d.depth ≤ n) (l : n ≤ 64 := by decide) : shp d = true := by
  show (d.canLay0 && decide (d.depth ≤ 64)) = true
  rw [c, decide_eq_true (Nat.le_trans h l)]; rfl
theorem can_lst {ds : List D} (b : PyData.canLayAll0 ds = true) : (PyData.list ds).canLay0 = true := by rw [PyData.canLay0]; exact b
theorem dep_lst {ds : List D} {n : Nat} (b : PyData.depthAll ds ≤ n) : (PyData.list ds).depth ≤ n + 1 := by rw [PyData.depth]; omega
theorem neT_self {α : Type} [DecidableEq α] (a : α) : (!eqT a a) = false := by rw [eqT_def, decide_eq_true rfl]; rfl
theorem eqT_self {α : Type} [DecidableEq α] (a : α) : eqT a a = true := decide_eq_true rfl
theorem W.skip {α : Type} {c : Bool} {x y : Tr α} {Q : α → Prop} (h : c = false) (k : W y Q) : W (if c then x else y) Q := by rw [h]; exact k
theorem W.take {α : Type} {c : Bool} {x y : Tr α} {Q : α → Prop} (h : c = true) (k : W x Q) : W (if c then x else y) Q := by rw [h]; exact k
theorem memT_pos {α : Type} [DecidableEq α] {a : α} {s : List α} (h : a ∈ s) : memT a s = true := by unfold memT; exact decide_eq_true h
theorem memT_neg {α : Type} [DecidableEq α] {a : α} {s : List α} (h : ¬ a ∈ s) : memT a s = false := by unfold memT; exact decide_eq_false h
section
variable {α κ γ : Type} [DecidableEq κ]
/-- each once, in the order of first meeting -/
def addK (s : List κ) (k : κ) : List κ := if k ∈ s then s else s ++ [k]
def ddup (ks : List κ) : List κ := ks.foldl addK []
theorem putM_keys (m : List (κ × γ)) (k : κ) (v : γ) : (putM m k v).map (·.1) = addK (m.map (·.1)) k := by
  unfold putM addK
  have e : (m.any fun p => decide (p.1 = k)) = decide (k ∈ m.map (·.1)) := by
    rw [Bool.eq_iff_iff, List.any_eq_true, decide_eq_true_eq, List.mem_map]
    constructor
    · rintro ⟨p, hp, h⟩; exact ⟨p, hp, of_decide_eq_true h⟩
    · rintro ⟨p, hp, h⟩; exact ⟨p, hp, decide_eq_true h⟩
  rw [e]
  by_cases h : k ∈ m.map (·.1)
  · rw [if_pos (decide_eq_true h), if_pos h, List.map_map]
    refine List.map_congr_left fun p _ => ?_
    show (if p.1 = k then (p.1, v) else p).1 = p.1
    split <;> rfl
  · rw [if_neg (by rw [decide_eq_true_eq]; exact h), if_neg h, List.map_append]; rfl
theorem putM_len (m : List (κ × γ)) (k : κ) (v : γ) : (putM m k v).length ≤ m.length + 1 := by
  unfold putM; split
  · rw [List.length_map]; omega
  · rw [List.length_append]; simp
theorem addK_mem {s : List κ} {k x : κ} : x ∈ addK s k ↔ x ∈ s ∨ x = k := by
  unfold addK; split
  · next h => exact ⟨.inl, fun h' => h'.elim id fun e => e ▸ h⟩
  · rw [List.mem_append, List.mem_singleton]
theorem addK_len (s : List κ) (k : κ) : (addK s k).length ≤ s.length + 1 := by
  unfold addK; split
  · omega
  · rw [List.length_append]; simp
theorem addK_nodup {s : List κ} {k : κ} (h : s.Nodup) : (addK s k).Nodup := by
  unfold addK; split
  · exact h
  · next hk =>
    rw [List.nodup_append]
    exact ⟨h, by simp, fun a ha b hb => by rw [List.mem_singleton] at hb; rintro rfl; exact hk (hb ▸ ha)⟩
theorem foldK_mem {x : κ} : ∀ (ks s : List κ), x ∈ ks.foldl addK s ↔ x ∈ s ∨ x ∈ ks
  | [], s => by simp
  | k :: ks, s => by
    show x ∈ ks.foldl addK (addK s k) ↔ _
    rw [foldK_mem ks, addK_mem, List.mem_cons, or_assoc]
theorem foldK_len : ∀ (ks s : List κ), (ks.foldl addK s).length ≤ s.length + ks.length
  | [], s => Nat.le_refl _
  | k :: ks, s => by
    have := foldK_len ks (addK s k)
    have := addK_len s k
    rw [List.length_cons]
    show (ks.foldl addK (addK s k)).length ≤ _
    omega
theorem foldK_nodup : ∀ (ks s : List κ), s.Nodup → (ks.foldl addK s).Nodup
  | [], s, h => h
  | k :: ks, s, h => foldK_nodup ks _ (addK_nodup h)
theorem ddup_mem {ks : List κ} {x : κ} : x ∈ ddup ks ↔ x ∈ ks := by unfold ddup; rw [foldK_mem]; simp
theorem ddup_len (ks : List κ) : (ddup ks).length ≤ ks.length := by have := foldK_len ks []; simpa [ddup] using this
theorem ddup_nodup (ks : List κ) : (ddup ks).Nodup := foldK_nodup ks [] List.nodup_nil
theorem dcT_eq {p : α → Tr Bool} {mk : α → Tr κ} {mv : α → Tr γ} {k : α → κ} {v : α → γ} : ∀ {xs : List α} {acc : List (κ × γ)}, (∀ a ∈ xs, p a = .ret true) → (∀ a ∈ xs, mk a = .ret (k a)) → (∀ a ∈ xs, mv a = .ret (v a)) → acc.length + xs.length ≤ lim → dcT p mk mv xs acc = .ret (xs.foldl (fun m a => putM m (k a) (v a)) acc)
  | [], _, _, _, _, _ => rfl
  | a :: xs, acc, hp, hk, hv, hl => by
    rw [List.length_cons] at hl
    show ((p a).bind _) = _
    rw [hp a List.mem_cons_self, Tr.ret_bind, if_pos rfl, hk a List.mem_cons_self, Tr.ret_bind, hv a List.mem_cons_self, Tr.ret_bind, need_pos (by omega)]
    have := putM_len acc (k a) (v a)
    exact dcT_eq (fun b hb => hp b (List.mem_cons_of_mem _ hb)) (fun b hb => hk b (List.mem_cons_of_mem _ hb)) (fun b hb => hv b (List.mem_cons_of_mem _ hb)) (by omega)
theorem foldM_keys (k : α → κ) (v : α → γ) : ∀ (xs : List α) (acc : List (κ × γ)), (xs.foldl (fun m a => putM m (k a) (v a)) acc).map (·.1) = (xs.map k).foldl addK (acc.map (·.1))
  | [], _ => rfl
  | a :: xs, acc => by
    show (xs.foldl (fun m a => putM m (k a) (v a)) (putM acc (k a) (v a))).map (·.1) = (xs.map k).foldl addK (addK (acc.map (·.1)) (k a))
    rw [foldM_keys k v xs, putM_keys]
/-- tuple({k: v for ..}) -/
theorem dc_keys {p : α → Tr Bool} {mk : α → Tr κ} {mv : α → Tr γ} {k : α → κ} {v : α → γ} {xs : List α} (hp : ∀ a ∈ xs, p a = .ret true) (hk : ∀ a ∈ xs, mk a = .ret (k a)) (hv : ∀ a ∈ xs, mv a = .ret (v a)) (hl : xs.length ≤ lim) : ∃ m, dcT p mk mv xs [] = .ret m ∧ m.map (·.1) = ddup (xs.map k) ∧ m.length ≤ xs.length := by
  refine ⟨_, dcT_eq hp hk hv (by simpa using hl), foldM_keys k v xs [], ?_⟩
  have := congrArg List.length (foldM_keys k v xs [])
  rw [List.length_map] at this
  rw [this]
  have := ddup_len (xs.map k)
  rwa [List.length_map] at this
end
end Pv

namespace Pv
open PySem PySem.Spec PyProof.Rows L2
theorem intsOf_I : ∀ xs : List Int, intsOf (xs.map PyData.int) = some xs
  | [] => rfl
  | x :: xs => by
    show (intsOf (xs.map PyData.int)).map (x :: ·) = _
    rw [intsOf_I xs]; rfl
theorem cnt_L (xs : List Int) (k : Int) : cntD (eL PyData.int xs) (.int k) = .ret (.int (xs.count k : Nat)) := by
  unfold cntD eL
  simp only [intsOf_I]
def un3 {β γ : Type} (u : β → β → β → Tr γ) : List β → Tr γ
  | [a, b, c] => u a b c
  | _ => .fail
section
variable {α β γ : Type} {ea : α → D} {ef : β → D} {ρ ρw : Ev} {i j l : Nat} {src : Ev → Tr (List D)} {vs : List Nat} {g : GF} {f : EF} {rest : SF} {R : γ → Fl × Ev → Prop}
theorem runp3 {txs : Tr (List α)} {tm : α → Tr β} {u : β → β → β → Tr γ} (ρ1 : α → Ev) (hs : RefG (src ρ) txs (fun xs ds => ds = xs.map ea)) (hw : wipeA ρ vs = ρw) (hg : ∀ a, g (ea a) ρw = .ret (ρ1 a)) (hf : ∀ a, RefE (f (ρ1 a)) (tm a) ef) (ρ' : β → β → β → Ev) (e : ∀ a b c, setAll [i, j, l] [ef a, ef b, ef c] ρ = ρ' a b c) (k : ∀ a b c, RefG (rest (ρ' a b c)) (u a b c) R) :
    RefG (sSeq (sUnp [i, j, l] src vs g f) rest ρ) ((txs.bind fun xs => lcT (fun _ => .ret true) tm xs).bind fun ys => un3 u ys) R := by
  unfold sSeq sUnp
  rw [Tr.bind_assoc, Tr.bind_assoc]
  refine rbind hs fun xs ds e1 => ?_
  subst e1
  rw [hw, Tr.bind_assoc]
  refine rbind (ref_lc ρ1 hg (fun a => yesB) hf xs) fun ys ds e1 => ?_
  subst e1
  rw [List.length_map]
  match ys with
  | [] => exact rfail
  | [_] => exact rfail
  | [_, _] => exact rfail
  | [a, b, c] =>
    rw [need_pos ⟨rfl, show 3 ≤ lim by decide⟩]
    show RefG (rest (setAll [i, j, l] [ef a, ef b, ef c] ρ)) (u a b c) R
    rw [e]; exact k a b c
  | _ :: _ :: _ :: _ :: _ => exact rfail
end
def maxT : List Int → Tr Int
  | [] => .fail
  | x :: r => .ret (r.foldl max x)
def minT : List Int → Tr Int
  | [] => .fail
  | x :: r => .ret (r.foldl min x)
theorem allInt : ∀ xs : List Int, (xs.map PyData.int).all isIntD = true
  | [] => rfl
  | _ :: xs => allInt xs
theorem okAlike_I (xs : List Int) : okAlike (xs.map PyData.int) = true := by
  unfold okAlike; rw [allInt]; rfl
theorem max_L (xs : List Int) : RefE (fn1 maxD1 [eL PyData.int xs]) (maxT xs) PyData.int := by
  cases xs with
  | nil => exact rfail
  | cons x r =>
    show RefE (need (shp (eL PyData.int (x :: r)) = true ∧ okAlike ((x :: r).map PyData.int) = true) (.ret (PySem.W.maxD (.int x) (r.map .int)))) _ _
    rw [need_pos ⟨shpE (e := eL PyData.int) _, okAlike_I _⟩, PySem.W.maxD_ints]
    exact rretE rfl
theorem min_L (xs : List Int) : RefE (fn1 minD1 [eL PyData.int xs]) (minT xs) PyData.int := by
  cases xs with
  | nil => exact rfail
  | cons x r =>
    show RefE (need (shp (eL PyData.int (x :: r)) = true ∧ okAlike ((x :: r).map PyData.int) = true) (.ret (PySem.W.minD (.int x) (r.map .int)))) _ _
    rw [need_pos ⟨shpE (e := eL PyData.int) _, okAlike_I _⟩, PySem.W.minD_ints]
    exact rretE rfl
end Pv

namespace Pv
open PySem PySem.Spec PyProof.Rows L2
section
variable {κ γ α β : Type} [DecidableEq κ] {ek : κ → D} {ev : γ → D} {ea : α → D} {ρ : Ev}
def mergeM (m ps : List (κ × γ)) : List (κ × γ) := ps.foldl (fun a p => putM a p.1 p.2) m
theorem mergeD_M {fl : Bool} [KeyE ek fl] : ∀ (ps m : List (κ × γ)), mergeD (encM ek ev m) (encM ek ev ps) = encM ek ev (mergeM m ps)
  | [], m => rfl
  | p :: ps, m => by
    show mergeD (putD (encM ek ev m) (ek p.1) (ev p.2)) (encM ek ev ps) = _
    rw [putD_M, mergeD_M ps]; rfl
theorem mergeM_len : ∀ (ps m : List (κ × γ)), (mergeM m ps).length ≤ m.length + ps.length
  | [], m => Nat.le_refl _
  | p :: ps, m => by
    have := mergeM_len ps (putM m p.1 p.2)
    have := putM_len m p.1 p.2
    show (mergeM (putM m p.1 p.2) ps).length ≤ _
    rw [List.length_cons]; omega
theorem mergeM_keys : ∀ (ps m : List (κ × γ)), (mergeM m ps).map (·.1) = (ps.map (·.1)).foldl addK (m.map (·.1))
  | [], _ => rfl
  | p :: ps, m => by
    show (mergeM (putM m p.1 p.2) ps).map (·.1) = (ps.map (·.1)).foldl addK (addK (m.map (·.1)) p.1)
    rw [mergeM_keys ps, putM_keys]
theorem tupFlat_K [KeyE ek false] (k : κ) : tupFlat (ek k) = true := by
  have h1 := KeyE.key (e := ek) k
  have h2 := KeyE.flat (e := ek) k
  revert h1 h2
  cases ek k with
  | tuple ds => intro h1 _; exact h1
  | int _ => intro _ h2; exact absurd (show true = false from h2) (by decide)
  | str _ => intro _ h2; exact absurd (show true = false from h2) (by decide)
  | none => intro h1 _; exact absurd (show false = true from h1) (by decide)
  | bool _ => intro h1 _; exact absurd (show false = true from h1) (by decide)
  | list _ => intro h1 _; exact absurd (show false = true from h1) (by decide)
  | dict _ => intro h1 _; exact absurd (show false = true from h1) (by decide)
theorem tupFlat_M [KeyE ek false] : ∀ m : List (κ × γ), (encM ek ev m).all (fun p => tupFlat p.1) = true
  | [] => rfl
  | p :: m => by
    show (tupFlat (ek p.1) && (encM ek ev m).all (fun p => tupFlat p.1)) = true
    rw [tupFlat_K, tupFlat_M m]; rfl
theorem flat_M [KeyE ek true] : ∀ m : List (κ × γ), (encM ek ev m).all (fun p => isFlat p.1) = true
  | [] => rfl
  | p :: m => by
    show (isFlat (ek p.1) && (encM ek ev m).all (fun p => isFlat p.1)) = true
    rw [KeyE.flat, flat_M m]; rfl
theorem ap_nil : RefG (aPairs [] ρ) (.ret ([] : List (κ × γ))) (fun ps ds => ds = encM ek ev ps) := rret rfl rfl
theorem ap_cons {f g : EF} {r : List (EF × EF)} {tk : Tr κ} {tv : Tr γ} {t : Tr (List (κ × γ))} (hk : RefE (f ρ) tk ek) (hv : RefE (g ρ) tv ev) (h : RefG (aPairs r ρ) t (fun ps ds => ds = encM ek ev ps)) : RefG (aPairs ((f, g) :: r) ρ) (tk.bind fun k => tv.bind fun v => t.bind fun ps => .ret ((k, v) :: ps)) (fun ps ds => ds = encM ek ev ps) :=
  rbindE hk fun k => rbindE hv fun v => rbind h fun ps ds e => rret (by subst e; rfl) rfl
theorem rdispT [KeyE ek false] {r : List (EF × EF)} {t : Tr (List (κ × γ))} (h : RefG (aPairs r ρ) t (fun ps ds => ds = encM ek ev ps)) : RefE (eDispT r ρ) (t.bind fun ps => need (ps.isEmpty = false ∧ ps.length ≤ 15) (.ret (mergeM [] ps))) (eM ek ev) := by
  unfold eDispT
  refine rbind h fun ps ds e => ?_
  subst e
  refine rneedX (fun q => ⟨tupFlat_M ps, by cases ps <;> first | exact q.1 | rfl, by rw [List.length_map]; exact q.2⟩) (rretE ?_)
  have := mergeD_M (ek := ek) (ev := ev) ps []
  show Tr.ret (PyData.dict (mergeD (encM ek ev []) (encM ek ev ps))) = _
  rw [this]; rfl
theorem pairs_M : ∀ xs : List (κ × γ), pairsD (xs.map (eP ek ev)) = some (encM ek ev xs)
  | [] => rfl
  | p :: xs => by
    show (pairsD (xs.map (eP ek ev))).map ((ek p.1, ev p.2) :: ·) = _
    rw [pairs_M xs]; rfl
theorem dict_L {fl : Bool} [KeyE ek fl] (xs : List (κ × γ)) : RefE (fn1 dictLD [eL (eP ek ev) xs]) (need (xs.length ≤ lim) (.ret (mergeM [] xs))) (eM ek ev) := by
  show RefE (match pairsD (xs.map (eP ek ev)) with | some ps => need _ _ | none => .fail) _ _
  rw [pairs_M]
  refine rneedX (fun q => ⟨?_, by rw [List.length_map]; exact q⟩) (rretE ?_)
  · cases fl with
    | true => exact .inl (flat_M xs)
    | false => exact .inr (tupFlat_M xs)
  · have := mergeD_M (ek := ek) (ev := ev) xs []
    show Tr.ret (PyData.dict (mergeD (encM ek ev []) (encM ek ev xs))) = _
    rw [this]; rfl
end
section
variable {γ δ : Type} {ev : γ → D} {ρ : Ev} {i : Nat} {f : EF} {rest : SF} {R : δ → Fl × Ev → Prop}
def updOkT (m m2 : List (List Int × γ)) : Bool := !m2.isEmpty && (!m.isEmpty || decide ((m2.map fun p => hashT p.1).Nodup))
theorem intKeys_M : ∀ m : List (List Int × γ), intKeys (encM (eT PyData.int) ev m) = some (m.map (·.1))
  | [] => rfl
  | p :: m => by
    show (match intsOf (p.1.map PyData.int), intKeys (encM (eT PyData.int) ev m) with | some is, some js => some (is :: js) | _, _ => none) = _
    rw [intsOf_I, intKeys_M m]; rfl
theorem updOk_M (m m2 : List (List Int × γ)) : updOk (encM (eT PyData.int) ev m) (encM (eT PyData.int) ev m2) = updOkT m m2 := by
  unfold updOk updOkT hashOkD
  rw [tupFlat_M, tupFlat_M, intKeys_M, Bool.true_and, Bool.and_true]
  have e1 : (encM (eT PyData.int) ev m2).isEmpty = m2.isEmpty := by cases m2 <;> rfl
  have e2 : (encM (eT PyData.int) ev m).isEmpty = m.isEmpty := by cases m <;> rfl
  rw [e1, e2]
  have e3 : (m2.map (·.1)).map hashT = m2.map fun p => hashT p.1 := by rw [List.map_map]; rfl
  show (!m2.isEmpty && (!m.isEmpty || decide (((m2.map (·.1)).map hashT).Nodup))) = _
  rw [e3]
theorem rupd {m : List (List Int × γ)} {ta : Tr (List (List Int × γ))} {u : List (List Int × γ) → Tr δ} (ρ' : List (List Int × γ) → Ev) (ho : ρ[i]? = some (some (eM (eT PyData.int) ev m))) (h : RefE (f ρ) ta (eM (eT PyData.int) ev)) (e : ∀ v, ρ.set i (some (eM (eT PyData.int) ev v)) = ρ' v) (k : ∀ v, RefG (rest (ρ' v)) (u v) R) :
    RefG (sSeq (sUpd i f) rest ρ) (ta.bind fun m2 => need (updOkT m m2 = true ∧ m.length + m2.length ≤ lim) (u (mergeM m m2))) R := by
  have ow : ownC i ρ = .ret (eM (eT PyData.int) ev m) := by unfold ownC; rw [ho]; rfl
  unfold sSeq sUpd
  rw [ow, Tr.ret_bind, Tr.bind_assoc]
  refine rbindE h fun m2 => ?_
  show RefG (((need (updOk (encM (eT PyData.int) ev m) (encM (eT PyData.int) ev m2) = true ∧ (encM (eT PyData.int) ev m).length + (encM (eT PyData.int) ev m2).length ≤ lim) (.ret (PyData.dict (mergeD (encM (eT PyData.int) ev m) (encM (eT PyData.int) ev m2))))).bind _).bind _) _ _
  rw [updOk_M, List.length_map, List.length_map, mergeD_M]
  refine rneed fun q => ?_
  rw [need_pos q]
  show RefG (rest (ρ.set i (some (eM (eT PyData.int) ev (mergeM m m2))))) _ _
  rw [e]; exact k _
end
section
variable {α : Type} {ea : α → D} {n : Nat}
def minE (e : α → D) : List α → Tr α
  | [] => .fail
  | x :: r => need (okAlike ((x :: r).map e) = true) (.ret (r.foldl (fun a y => if PySem.W.dataLt (e y) (e a) then y else a) x))
theorem minD_map (e : α → D) : ∀ (r : List α) (x : α), PySem.W.minD (e x) (r.map e) = e (r.foldl (fun a y => if PySem.W.dataLt (e y) (e a) then y else a) x)
  | [], _ => rfl
  | y :: r, x => by
    show PySem.W.minD (if PySem.W.dataLt (e y) (e x) then e y else e x) (r.map e) = e (r.foldl _ (if PySem.W.dataLt (e y) (e x) then y else x))
    cases PySem.W.dataLt (e y) (e x)
    · exact minD_map e r x
    · exact minD_map e r y
theorem min_E_L [GoodE ea n] (xs : List α) (h : n + 1 ≤ 64 := by decide) : RefE (fn1 minD1 [eL ea xs]) (minE ea xs) ea := by
  cases xs with
  | nil => exact rfail
  | cons x r =>
    show RefE (need (shp (eL ea (x :: r)) = true ∧ okAlike ((x :: r).map ea) = true) (.ret (PySem.W.minD (ea x) (r.map ea)))) _ _
    refine rneedX (fun q => ⟨shpE (e := eL ea) _ h, q⟩) (rretE ?_)
    rw [minD_map]
theorem min_E_T [GoodE ea n] (xs : List α) (h : n + 1 ≤ 64 := by decide) : RefE (fn1 minD1 [eT ea xs]) (minE ea xs) ea := by
  cases xs with
  | nil => exact rfail
  | cons x r =>
    show RefE (need (shp (eL ea (x :: r)) = true ∧ okAlike ((x :: r).map ea) = true) (.ret (PySem.W.minD (ea x) (r.map ea)))) _ _
    refine rneedX (fun q => ⟨shpE (e := eL ea) _ h, q⟩) (rretE ?_)
    rw [minD_map]
theorem max_T (xs : List Int) : RefE (fn1 maxD1 [eT PyData.int xs]) (maxT xs) PyData.int := by
  cases xs with
  | nil => exact rfail
  | cons x r =>
    show RefE (need (shp (eL PyData.int (x :: r)) = true ∧ okAlike ((x :: r).map PyData.int) = true) (.ret (PySem.W.maxD (.int x) (r.map .int)))) _ _
    rw [need_pos ⟨shpE (e := eL PyData.int) _, okAlike_I _⟩, PySem.W.maxD_ints]
    exact rretE rfl
end
end Pv

namespace Pv
open PySem PySem.Spec PyProof.Rows L2
section
variable {α β γ δ : Type} {ea : α → D} {ef : β → D} {eg : γ → D} {ρ : Ev}
def zip3T (xs : List α) (ys : List β) (zs : List γ) : List (α × β × γ) := List.zip xs (List.zip ys zs)
theorem zip2_mapE {xs : List α} {ys : List β} : zip2D (xs.map ea) (ys.map ef) = (List.zip xs ys).map (eP ea ef) := zip_map
theorem zip3_mapE : ∀ {xs : List α} {ys : List β} {zs : List γ}, zip3D (xs.map ea) (ys.map ef) (zs.map eg) = (zip3T xs ys zs).map (eP3 ea ef eg)
  | [], _, _ => by cases ‹List β› <;> cases ‹List γ› <;> rfl
  | _ :: _, [], _ => rfl
  | _ :: _, _ :: _, [] => rfl
  | x :: xs, y :: ys, z :: zs => by
    show PyData.tuple [ea x, ef y, eg z] :: zip3D (xs.map ea) (ys.map ef) (zs.map eg) = _
    rw [zip3_mapE (xs := xs)]; rfl
theorem mapX : ∀ ds : List D, ds.map eX = ds
  | [] => rfl
  | d :: ds => by rw [List.map_cons, mapX ds]; rfl
theorem rseqD {σ τ : Type} {S : σ → τ → Prop} {d : D} {K : List D → Tr τ} {u : List D → Tr σ} (h : ∀ ws : List D, RefG (K (ws.map eX)) (u ws) S) : RefG ((seqOf d).bind K) ((seqOf d).bind u) S := .mk fun Q q =>
  Tr.wp_bind.mpr (Tr.wp_mono (fun ws hw => by have := (h ws).run Q hw; rwa [mapX] at this) (Tr.wp_bind.mp q))
theorem rz2 {σ : Type} {R : σ → List D → Prop} {f g : EF} {t : Tr σ} (h : RefG ((f ρ).bind fun x => (g ρ).bind fun y => (seqOf x).bind fun xs => (seqOf y).bind fun ys => .ret (zip2D xs ys)) t R) : RefG (itZ2 f g ρ) t R := h
theorem rz3 {σ : Type} {R : σ → List D → Prop} {f g k : EF} {t : Tr σ} (h : RefG ((f ρ).bind fun x => (g ρ).bind fun y => (k ρ).bind fun z => (seqOf x).bind fun xs => (seqOf y).bind fun ys => (seqOf z).bind fun zs => .ret (zip3D xs ys zs)) t R) : RefG (itZ3 f g k ρ) t R := h
end
def un2 {β γ : Type} (u : β → β → Tr γ) : List β → Tr γ
  | [a, b] => u a b
  | _ => .fail
def tupOf : D → Tr (List D)
  | .tuple ds => .ret ds
  | _ => .fail
section
variable {α γ : Type} {ea : α → D} {ρ : Ev} {f : EF} {gg : GF} {rest : SF} {R : γ → Fl × Ev → Prop}
theorem rasgl2 {xs : List α} {u : α → α → Tr γ} (ρ' : α → α → Ev) (h : f ρ = .ret (eT ea xs)) (e : ∀ a b, gg (.tuple [ea a, ea b]) ρ = .ret (ρ' a b)) (k : ∀ a b, RefG (rest (ρ' a b)) (u a b) R) : RefG (sSeq (sAsg gg f) rest ρ) (un2 u xs) R :=
  match xs, h with
  | [], _ => rfail
  | [_], _ => rfail
  | [a, b], h => rasgp h (e a b) (k a b)
  | _ :: _ :: _ :: _, _ => rfail
theorem rasgl3 {xs : List α} {u : α → α → α → Tr γ} (ρ' : α → α → α → Ev) (h : f ρ = .ret (eT ea xs)) (e : ∀ a b c, gg (.tuple [ea a, ea b, ea c]) ρ = .ret (ρ' a b c)) (k : ∀ a b c, RefG (rest (ρ' a b c)) (u a b c) R) : RefG (sSeq (sAsg gg f) rest ρ) (un3 u xs) R :=
  match xs, h with
  | [], _ => rfail
  | [_], _ => rfail
  | [_, _], _ => rfail
  | [a, b, c], h => rasgp h (e a b c) (k a b c)
  | _ :: _ :: _ :: _ :: _, _ => rfail
theorem rasgle2 {ta : Tr (List α)} {u : α → α → Tr γ} (ρ' : α → α → Ev) (h : RefE (f ρ) ta (eT ea)) (e : ∀ a b, gg (.tuple [ea a, ea b]) ρ = .ret (ρ' a b)) (k : ∀ a b, RefG (rest (ρ' a b)) (u a b) R) : RefG (sSeq (sAsg gg f) rest ρ) (ta.bind fun xs => un2 u xs) R := by
  unfold sSeq sAsg; rw [Tr.bind_assoc]
  refine rbindE h fun xs => ?_
  have := rasgl2 (f := fun _ => .ret (eT ea xs)) (rest := rest) (gg := gg) (ρ := ρ) (R := R) ρ' rfl e k
  unfold sSeq sAsg at this; rwa [Tr.bind_assoc, Tr.ret_bind] at this
theorem rasgle3 {ta : Tr (List α)} {u : α → α → α → Tr γ} (ρ' : α → α → α → Ev) (h : RefE (f ρ) ta (eT ea)) (e : ∀ a b c, gg (.tuple [ea a, ea b, ea c]) ρ = .ret (ρ' a b c)) (k : ∀ a b c, RefG (rest (ρ' a b c)) (u a b c) R) : RefG (sSeq (sAsg gg f) rest ρ) (ta.bind fun xs => un3 u xs) R := by
  unfold sSeq sAsg; rw [Tr.bind_assoc]
  refine rbindE h fun xs => ?_
  have := rasgl3 (f := fun _ => .ret (eT ea xs)) (rest := rest) (gg := gg) (ρ := ρ) (R := R) ρ' rfl e k
  unfold sSeq sAsg at this; rwa [Tr.bind_assoc, Tr.ret_bind] at this
theorem rasgX2 {d : D} {u : D → D → Tr γ} (ρ' : D → D → Ev) (h : f ρ = .ret d) (e : ∀ a b, gg (.tuple [a, b]) ρ = .ret (ρ' a b)) (k : ∀ a b, RefG (rest (ρ' a b)) (u a b) R) : RefG (sSeq (sAsg gg f) rest ρ) ((tupOf d).bind fun xs => un2 u xs) R := by
  cases d with
  | tuple ds =>
    match ds, h with
    | [], _ => exact rfail
    | [_], _ => exact rfail
    | [a, b], h => exact rasgp h (e a b) (k a b)
    | _ :: _ :: _ :: _, _ => exact rfail
  | _ => exact rfail
end
end Pv

namespace Pv
open PySem PySem.Spec PyProof.Rows L2
@[irreducible] def reprT2 (d : D) : Tr Str := need (okShow d ∨ okShowT d) (.ret d.shown)
theorem repr_T2 (d : D) : RefE (fn1 reprD2 [d]) (reprT2 d) PyData.str := by unfold reprT2; exact rneedX id (rretE rfl)
theorem reprT2_eq {d : D} (h : okShow d ∨ okShowT d) : reprT2 d = .ret d.shown := by unfold reprT2; exact need_pos h
def isaT2 (φ : D → Bool) (d : D) : Tr Bool := need (d.canLay0 = true ∨ canT d = true) (.ret (φ d))
theorem isaX2 (φ : D → Bool) (d : D) : RefE (isaD2 φ d) (isaT2 φ d) PyData.bool := rneedX id (rretE rfl)
theorem isaE2 {α : Type} {ea : α → D} {n : Nat} {φ : D → Bool} [GoodE ea n] (a : α) : isaD2 φ (ea a) = .ret (.bool (φ (ea a))) := need_pos (.inl (GoodE.can a))
theorem ne_nilL {α β : Type} {ea : α → D} {eb : β → D} (xs : List α) : neD2 (eL ea xs) (eL eb []) = .ret (.bool (!xs.isEmpty)) := by
  cases xs with
  | nil =>
    show need (shp (PyData.list []) = true ∧ shp (PyData.list []) = true) (Tr.ret (PyData.bool (!PyData.eqv (.list []) (.list [])))) = _
    exact need_pos ⟨by decide, by decide⟩
  | cons x xs => rfl
structure Ok (d : D) (k w : Nat) : Prop where
  dep : d.depth ≤ k
  sh : d.showable = true
  lv : d.leavesShort 24 = true
  wt : d.weight ≤ w
theorem Ok.le {d : D} {k w k' w' : Nat} (h : Ok d k w) (hk : k ≤ k') (hw : w ≤ w') : Ok d k' w' := ⟨Nat.le_trans h.dep hk, h.sh, h.lv, Nat.le_trans h.wt hw⟩
theorem ok_int {i : Int} (h : i.natAbs < 10 ^ 22) : Ok (.int i) 0 80 := by
  have hl : i.natAbs ≠ 0 → i.natAbs.log2 < 79 := fun z => (Nat.log2_lt z).mpr (Nat.lt_of_lt_of_le h (by decide))
  refine ⟨Nat.le_refl 0, ?_, ?_, ?_⟩
  · simp only [PyData.showable, decide_eq_true_eq]
    by_cases z : i.natAbs = 0
    · rw [z]; decide
    · have := hl z; omega
  · simp only [PyData.leavesShort, decide_eq_true_eq]
    have e := int_text_length_le10 (k := 22) (by decide) h
    show (Str.ofString (toString i)).length ≤ 24
    rw [str_len]; omega
  · simp only [PyData.weight]
    by_cases z : (i == 0) = true
    · rw [if_pos z]; omega
    · rw [if_neg z]
      have : i.natAbs ≠ 0 := fun e => z (by have : i = 0 := by omega
                                            rw [this]; rfl)
      have := hl this; omega
theorem ok_none : Ok .none 0 0 := ⟨Nat.le_refl 0, rfl, rfl, Nat.le_refl 0⟩
theorem ok_bool (b : Bool) : Ok (.bool b) 0 0 := ⟨Nat.le_refl 0, rfl, rfl, Nat.le_refl 0⟩
theorem ok_all {ds : List D} {k w : Nat} (h : ∀ d ∈ ds, Ok d k w) : PyData.depthAll ds ≤ k ∧ PyData.showableAll ds = true ∧ PyData.leavesShortAll 24 ds = true ∧ PyData.weightAll ds ≤ ds.length * (w + 1) := by
  induction ds with
  | nil => exact ⟨Nat.zero_le _, rfl, rfl, by simp [PyData.weightAll]⟩
  | cons d ds ih =>
    have h1 := h d List.mem_cons_self
    obtain ⟨i1, i2, i3, i4⟩ := ih fun x hx => h x (List.mem_cons_of_mem _ hx)
    refine ⟨?_, ?_, ?_, ?_⟩
    · rw [PyData.depthAll]; exact Nat.max_le.mpr ⟨h1.dep, i1⟩
    · simp only [PyData.showableAll, Bool.and_eq_true]; exact ⟨h1.sh, i2⟩
    · simp only [PyData.leavesShortAll, Bool.and_eq_true]; exact ⟨h1.lv, i3⟩
    · simp only [PyData.weightAll, List.length_cons, Nat.succ_mul]
      have := h1.wt; omega
theorem ok_tup {ds : List D} {k w : Nat} (h : ∀ d ∈ ds, Ok d k w) : Ok (.tuple ds) (k + 1) (ds.length * (w + 1)) := by
  obtain ⟨i1, i2, i3, i4⟩ := ok_all h
  refine ⟨?_, ?_, ?_, ?_⟩
  · rw [PyData.depth]; omega
  · simp only [PyData.showable]; exact i2
  · simp only [PyData.leavesShort]; exact i3
  · simp only [PyData.weight]; exact i4
theorem ok_list {ds : List D} {k w : Nat} (h : ∀ d ∈ ds, Ok d k w) : Ok (.list ds) (k + 1) (ds.length * (w + 1)) := by
  obtain ⟨i1, i2, i3, i4⟩ := ok_all h
  refine ⟨?_, ?_, ?_, ?_⟩
  · rw [PyData.depth]; omega
  · simp only [PyData.showable]; exact i2
  · simp only [PyData.leavesShort]; exact i3
  · simp only [PyData.weight]; exact i4
theorem Ok.len {d : D} {k w : Nat} (h : Ok d k w) (hw : w ≤ 600000) : d.shown.length ≤ lim := by
  have := PyData.shown_le 24 (by decide) d h.lv
  have := h.wt
  have := lim_val0
  omega
theorem Ok.show {d : D} {k w : Nat} (h : Ok d k w) (c : d.canLay0 = true) (hk : k ≤ 64) (hw : w ≤ 600000) : okShow d := ⟨by
  show (d.canLay0 && decide (d.depth ≤ 64)) = true
  rw [c, decide_eq_true (Nat.le_trans h.dep hk)]; rfl, .inr ⟨h.sh, h.len hw⟩⟩
theorem Ok.showT {d : D} {k w : Nat} (h : Ok d k w) (t : isTD d = true) (c : canT d = true) (hk : k ≤ 64) (hw : w ≤ 600000) : okShowT d := ⟨⟨t, c⟩, Nat.le_trans h.dep hk, h.sh, h.len hw⟩
end Pv

namespace Pv
open PySem PySem.Spec PyProof.Rows L2
def topS (i : Nat) : Stmt := PySem.Challenge.pw_allbysteps_k90_full_papers_judged.main.body.getD i (.Pass ⟨0, 0, 0, 0⟩)
abbrev st_order_places : Stmt := topS 1
abbrev st_orders_told : Stmt := topS 2
abbrev st_orders_ascending : Stmt := topS 4
abbrev st_least_lacking : Stmt := topS 5
abbrev st_is_letter_order : Stmt := topS 6
abbrev st_judge_full : Stmt := topS 7
abbrev st_block_row : Stmt := topS 9
abbrev st_told_full_row : Stmt := topS 10
abbrev st__law_source : Stmt := topS 12
abbrev st__law_pick : Stmt := topS 13
abbrev st__law_of : Stmt := topS 14
abbrev st__law_mixed : Stmt := topS 15
abbrev st__law_orders : Stmt := topS 16
abbrev st__law_windows : Stmt := topS 17
abbrev st__law_told : Stmt := topS 18
abbrev st__law_row : Stmt := topS 19
abbrev st__law_near : Stmt := topS 20
abbrev st__law_fault : Stmt := topS 21
abbrev st_law : Stmt := topS 22
structure Bt (B : Bx) : Prop where
  z_abs : B.mg "abs" = none
  z_all : B.mg "all" = none
  z_bool : B.mg "bool" = none
  z_int : B.mg "int" = none
  z_isinstance : B.mg "isinstance" = none
  z_len : B.mg "len" = none
  z_list : B.mg "list" = none
  z_max : B.mg "max" = none
  z_min : B.mg "min" = none
  z_range : B.mg "range" = none
  z_repr : B.mg "repr" = none
  z_sorted : B.mg "sorted" = none
  z_str : B.mg "str" = none
  z_tuple : B.mg "tuple" = none
  f_order_places : ∃ f fd, B.mg "order_places" = some (.ref f) ∧ Fun B.K "order_places" "order_places" st_order_places f fd
  f_orders_told : ∃ f fd, B.mg "orders_told" = some (.ref f) ∧ Fun B.K "orders_told" "orders_told" st_orders_told f fd
  f_orders_ascending : ∃ f fd, B.mg "orders_ascending" = some (.ref f) ∧ Fun B.K "orders_ascending" "orders_ascending" st_orders_ascending f fd
  f_least_lacking : ∃ f fd, B.mg "least_lacking" = some (.ref f) ∧ Fun B.K "least_lacking" "least_lacking" st_least_lacking f fd
  f_is_letter_order : ∃ f fd, B.mg "is_letter_order" = some (.ref f) ∧ Fun B.K "is_letter_order" "is_letter_order" st_is_letter_order f fd
  f_judge_full : ∃ f fd, B.mg "judge_full" = some (.ref f) ∧ Fun B.K "judge_full" "judge_full" st_judge_full f fd
  f_block_row : ∃ f fd, B.mg "block_row" = some (.ref f) ∧ Fun B.K "block_row" "block_row" st_block_row f fd
  f_told_full_row : ∃ f fd, B.mg "told_full_row" = some (.ref f) ∧ Fun B.K "told_full_row" "told_full_row" st_told_full_row f fd
  f__law_source : ∃ f fd, B.mg "_law_source" = some (.ref f) ∧ Fun B.K "_law_source" "_law_source" st__law_source f fd
  f__law_pick : ∃ f fd, B.mg "_law_pick" = some (.ref f) ∧ Fun B.K "_law_pick" "_law_pick" st__law_pick f fd
  f__law_of : ∃ f fd, B.mg "_law_of" = some (.ref f) ∧ Fun B.K "_law_of" "_law_of" st__law_of f fd
  f__law_mixed : ∃ f fd, B.mg "_law_mixed" = some (.ref f) ∧ Fun B.K "_law_mixed" "_law_mixed" st__law_mixed f fd
  f__law_orders : ∃ f fd, B.mg "_law_orders" = some (.ref f) ∧ Fun B.K "_law_orders" "_law_orders" st__law_orders f fd
  f__law_windows : ∃ f fd, B.mg "_law_windows" = some (.ref f) ∧ Fun B.K "_law_windows" "_law_windows" st__law_windows f fd
  f__law_told : ∃ f fd, B.mg "_law_told" = some (.ref f) ∧ Fun B.K "_law_told" "_law_told" st__law_told f fd
  f__law_row : ∃ f fd, B.mg "_law_row" = some (.ref f) ∧ Fun B.K "_law_row" "_law_row" st__law_row f fd
  f__law_near : ∃ f fd, B.mg "_law_near" = some (.ref f) ∧ Fun B.K "_law_near" "_law_near" st__law_near f fd
  f__law_fault : ∃ f fd, B.mg "_law_fault" = some (.ref f) ∧ Fun B.K "_law_fault" "_law_fault" st__law_fault f fd
  f_law : ∃ f fd, B.mg "law" = some (.ref f) ∧ Fun B.K "law" "law" st_law f fd
def fuel : Nat := 1000000
theorem vw_or1 {X : Cx} {σ : L2.St} {H : Hp} {a : Expr} {pos : Pos} {c : Bool} (ha : VT X σ H a c) : VW X σ H (.BoolOp .Or [a] pos) c := ⟨_, pw_or1 pt_r, ha⟩
theorem vw_or {X : Cx} {σ : L2.St} {H : Hp} {a b : Expr} {pos : Pos} {rest : List Expr} {c d : Bool} (ha : VT X σ H a c) (hb : VW X σ H (.BoolOp .Or (b :: rest) pos) d) : VW X σ H (.BoolOp .Or (a :: b :: rest) pos) (c || d) := by
  obtain ⟨t, p, w⟩ := hb
  refine ⟨_, pw_or pt_r p, fun Q q => ha _ ?_⟩
  cases c with
  | true => exact q
  | false => exact w _ q
theorem sc__law_pick : FnScope ["source", "many", "left", "mixed"] ["source", "many"] (defScope st__law_pick) := ⟨rfl, rfl, rfl, by decide +kernel, rfl, by decide +kernel, by decide +kernel⟩
theorem rd_pick {B : Bx} {A L : Addr} {k : Nat} {ret : Md} (hB : B.src = some (A, L)) (hret : ret ≠ .bor) (zm : B.mg "max" = none) (zl : B.mg "len" = none) (zi : B.mg "int" = none) :
    ∀ X, Ctx ⟨B, fun _ => .sh, none⟩ k ["source", "many", "left", "mixed"] (defScope st__law_pick).names X → ∀ (F : Addr → Prop) (H : Hp) (vs : List V) (ds : List D) (Q : VK), vs.length = 2 → Args1 B true F H vs ds → Wf B F H → (pickF ds).wp (EP1 B ret F H Q) →
      rB X (defBody st__law_pick) { nx := fun _ H' => Q .non H', rt := Q } (L2.start ["source", "many", "left", "mixed"] vs) H := by
  intro X c F H vs ds Q hl ar wf hw
  obtain ⟨m, rfl, hm, q⟩ := pick_args hB ar hw
  have hu : X.A.units + 1 < cLine := by have := c.hu; omega
  have gl : Gl X "len" := gl_of c rfl
  have gi : Gl X "int" := gl_of c rfl
  have gm : Gl X "max" := gl_of c rfl
  have ml : X.mg "len" = none := mg_of c zl
  have mi : X.mg "int" = none := mg_of c zi
  have mm : X.mg "max" = none := mg_of c zm
  obtain ⟨cs, l, mx, t, a⟩ := At.of wf hB
  have fin : ∀ {cs l mx t H'} {r : Int}, At A L cs l mx t H H' → 0 ≤ r → r < max 1 m → Q (.int r) H' := fun {cs l mx t H' r} a h0 h1 => q r h0 h1 F _ H' (a.le wf hB) (by
    cases ret with
    | bor => exact absurd rfl hret
    | frz => exact .int _
    | own => exact res_int)
  refine vb_cons (.of (ps_while c.po pt_r pb_r) ⟨fun n σ' H' => ∃ cs l, n = cs.length ∧ σ' = [some (.ref A), some (.int m), none, none] ∧ At A L cs l mx t H H', ⟨_, cs, l, rfl, rfl, a⟩, ?_⟩)
  rintro n σ' H' ⟨cs, l, rfl, rfl, a⟩
  have hcl : ∀ p pos k, VE X [some (.ref A), some (.int m), none, none] H' (.Subscript (.Name "source" p) (.Constant (.str "cells") k p) pos) (.ref L) := fun p pos k => ve_sub hu (ven c 0 rfl) a.a src_v1
  refine (vw_and (vt_gt (ven c 1 rfl)) (vw_and (vt_lt (ve_sub hu (ven c 0 rfl) a.a src_v2)) (vw_and1 (vt_gt (ve_len gl ml rfl (ve_sub hu (ven c 0 rfl) a.a src_v1) a.lst))))).vt _ ?_
  cases hc : (decide (1 < m) && (decide (l < 2) && decide ((0 : Int) < ((cs.map V.int).length : Nat)))) with
  | true =>
    rw [if_pos rfl]
    simp only [Bool.and_eq_true, decide_eq_true_eq, List.length_map] at hc
    have hcs : cs ≠ [] := fun z => by rw [z] at hc; simp at hc
    refine ⟨fun σ2 H2 => ∃ l', σ2 = [some (.ref A), some (.int m), none, none] ∧ At A L cs.dropLast l' mx t H H2, fun σ2 H2 ⟨l', e1, e2⟩ => ⟨cs.dropLast.length, by rw [List.length_dropLast]; have := List.length_pos_iff.mpr hcs; omega, cs.dropLast, l', rfl, e1, e2⟩, ?_⟩
    have hlast := List.getLast_mem hcs
    refine vb_cons (.of (ps_dput hu pe_r pe_str (pe_bm0 PySem.F.plainAttrs_list PySem.F.slot_list_pop PySem.F.type_list_pop mt_pop pe_r rfl rfl) rfl) ?_)
    refine ve_sub hu (ven c 0 rfl) a.a src_v1 _ ⟨.inl ⟨rfl, _, SqL.of a.lst⟩, L, cs.map V.int, .int (cs.getLast hcs), rfl, rfl, a.lst, ?_, ?_⟩
    · rw [List.length_map, List.getElem?_map, ← List.getLast?_eq_getElem?, List.getLast?_eq_getLast hcs]; rfl
    · have a2 := a.pop
      have v0 : ∀ p, VE X [some (.ref A), some (.int m), none, none] (upd H' L (.lst (cs.map V.int).dropLast)) (.Name "source" p) (.ref A) := fun p => ven c 0 rfl
      refine v0 _ _ ⟨A, _, rfl, .inl ⟨_, .inr "left", a2.a, rfl, show 4 < sizeLine by decide, rfl⟩, ?_⟩
      exact vb_nil ⟨_, rfl, a2.left (a.all _ hlast)⟩
  | false =>
    rw [if_neg Bool.false_ne_true]
    refine vb_cons (vset c 2 (ve_sub hu (ven c 0 rfl) a.a src_v2) ?_)
    have hmax : ∀ {σ2 : L2.St} {H2 : Hp}, σ2[1]? = some (some (.int m)) → ∀ p pos k kp pm, VE X σ2 H2 (.Call (.Name "max" p) [.Constant (.int 1) k kp, .Name "many" pm] [] pos) (.int (if m > 1 then m else 1)) := fun {σ2 H2} h2 p pos k kp pm =>
      ve_max2 gm mm c.calm rfl rfl rfl ve_int (ven c 1 h2)
    have p0 : 0 < (if m > 1 then m else 1) := by split <;> omega
    have p1 : (if m > 1 then m else 1) < 2 ^ 1000 := by
      split
      · exact hm
      · exact Int.lt_of_lt_of_le (show (1 : Int) < 2 ^ 64 by decide) small_pow
    have pm : (if m > 1 then m else 1) ≤ max 1 m := by split <;> omega
    refine vb_cons (vs_if (vw_or (vt_lt (ven c 1 rfl)) (vw_or1 (vt_gt (ven c 2 rfl)))).vt (fun h => ?_) (fun h => vb_nil ?_))
    · refine vb_cons (vs_put hu rfl (ve_fdiv (ven c 2 rfl) (hmax rfl _ _ _ _ _) p0 p1) (ven c 0 rfl) a.a (show 4 < 100 by decide) ?_)
      have hd : 0 ≤ l / (if m > 1 then m else 1) := Int.ediv_nonneg a.l0 (Int.le_of_lt p0)
      refine vb_cons (vs_ret (ve_mod (ve_int1 gi mi rfl (ven c 2 rfl)) (hmax rfl _ _ _ _ _) p0) ?_)
      exact fin (a.left hd) (Int.emod_nonneg _ (by omega)) (Int.lt_of_lt_of_le (Int.emod_lt_of_pos l p0) pm)
    · simp only [Bool.or_eq_false_iff, decide_eq_false_iff_not] at h
      have hm2 : 2 ≤ m := by omega
      refine vb_cons (vs_put hu rfl (ve_add (ve_sub hu (ven c 0 rfl) a.a src_v4) ve_int) (ven c 0 rfl) a.a (show 4 < 100 by decide) ?_)
      have a2 := a.turn (x := t + 1) (by have := a.t0; omega)
      refine vb_cons (vset c 3 (ve_mod (ve_int1 gi mi rfl (ve_add (ve_sub hu (ven c 0 rfl) a2.a src_v3) (ve_mul (ve_sub hu (ven c 0 rfl) a2.a src_v4) ve_int (.inr (by decide))))) ve_int (by decide)) ?_)
      have h1 := Int.emod_nonneg (mx + (t + 1) * 104729) (show (998244353 : Int) ≠ 0 by decide)
      have h2 := Int.emod_lt_of_pos (mx + (t + 1) * 104729) (show (0 : Int) < 998244353 by decide)
      refine vb_cons (vset c 3 (ve_mod (ve_int1 gi mi rfl (ve_add (ve_mul (ven c 3 rfl) (ven c 3 rfl) (.inl ⟨by omega, by omega⟩)) (ve_mul (ve_sub hu (ven c 0 rfl) a2.a src_v4) ve_int (.inr (by decide))))) ve_int (by decide)) ?_)
      have g1 := Int.emod_nonneg ((mx + (t + 1) * 104729) % 998244353 * ((mx + (t + 1) * 104729) % 998244353) + (t + 1) * 17) (show (2147483647 : Int) ≠ 0 by decide)
      have g2 := Int.emod_lt_of_pos ((mx + (t + 1) * 104729) % 998244353 * ((mx + (t + 1) * 104729) % 998244353) + (t + 1) * 17) (show (0 : Int) < 2147483647 by decide)
      refine vb_cons (vs_put hu rfl (ven c 3 rfl) (ven c 0 rfl) a2.a (show 4 < 100 by decide) ?_)
      have a3 := a2.mixed (x := ((mx + (t + 1) * 104729) % 998244353 * ((mx + (t + 1) * 104729) % 998244353) + (t + 1) * 17) % 2147483647) ⟨g1, by omega⟩
      refine vb_cons (vs_ret (ve_mod (ve_int1 gi mi rfl (ve_fdiv (ven c 3 rfl) ve_int (by decide) (Int.lt_of_lt_of_le (show (16 : Int) < 2 ^ 64 by decide) small_pow))) (ven c 1 rfl) (by omega)) ?_)
      exact fin a3 (Int.emod_nonneg _ (by omega)) (by have := Int.emod_lt_of_pos ((((mx + (t + 1) * 104729) % 998244353 * ((mx + (t + 1) * 104729) % 998244353) + (t + 1) * 17) % 2147483647) / 16) (show 0 < m by omega); omega)
theorem sc__law_source : FnScope ["script", "mixed", "cell"] ["script"] (defScope st__law_source) := ⟨rfl, rfl, rfl, by decide +kernel, rfl, by decide +kernel, by decide +kernel⟩
theorem rd_src {B : Bx} {k : Nat} (zi : B.mg "int" = none) (za : B.mg "abs" = none) :
    ∀ X, Ctx ⟨B, fun _ => .sh, none⟩ k ["script", "mixed", "cell"] (defScope st__law_source).names X → ∀ (H : Hp) (vs : List V) (Q : VK), vs.length = 1 → spSrc B.K vs H Q →
      rB X (defBody st__law_source) { nx := fun _ H' => Q .non H', rt := Q } (L2.start ["script", "mixed", "cell"] vs) H := by
  intro X c H vs Q hl hsp
  obtain ⟨a, ns, rfl, sq, hlen, q⟩ := hsp
  have gi : Gl X "int" := gl_of c rfl
  have mi : X.mg "int" = none := mg_of c zi
  have ma : X.mg "abs" = none := mg_of c za
  have sqX : SqL X.K H a (ns.map V.int) := by rw [c.K]; exact sq
  have pv : ∀ p, PE X (.Name "script" p) (tVar 0) := fun p => pe_var (i := 0) (by rw [c.hN]; rfl) (.inl (by rw [c.sc]; rfl)) (by decide) (by decide)
  refine vb_cons (vset c 1 ve_int ?_)
  refine vb_cons (.of (ps_for c.po c.calm (pi_list (pv _)) (pg_name (i := 2) c.nd (by rw [c.hN]; rfl) (.inl (by rw [c.sc]; rfl)) (.inr (by rw [c.sc]; rfl))) pb_r fun _ => rfl) ?_)
  refine ⟨.ref a, rfl, a, rfl, ⟨_, sqX⟩, fun i m σ' H' => m = ns.length - i ∧ i ≤ ns.length ∧ H' = H ∧ ∃ v o, 0 ≤ v ∧ v < 2 ^ 40 ∧ σ' = [some (.ref a), some (.int v), o], ⟨_, rfl, Nat.zero_le _, rfl, 11, none, by decide, by decide, rfl⟩, ?_⟩
  rintro i m σ' H' ⟨rfl, hi, rfl, v, o, h0, h1, rfl⟩
  by_cases hlt : i < ns.length
  · refine .inr ⟨⟨_, .int ns[i], sqX, by rw [List.getElem?_map, List.getElem?_eq_getElem hlt]; rfl⟩, fun σ2 H2 => H2 = H' ∧ ∃ v o, 0 ≤ v ∧ v < 2 ^ 40 ∧ σ2 = [some (.ref a), some (.int v), o], fun σ2 H2 h2 => ⟨ns.length - (i + 1), by omega, rfl, hlt, h2⟩, fun x H2 y => ?_⟩
    obtain ⟨rfl, y⟩ := y
    have ex : x = .int ns[i] := by
      have e := y _ sqX
      rw [List.getElem?_map, List.getElem?_eq_getElem hlt] at e
      exact (Option.some.inj e).symm
    subst ex
    refine vb_cons (vset c 1 (ve_mod (ve_int1 gi mi rfl (ve_add (ve_add (ve_mul (ven c 1 rfl) ve_int (.inr (by decide))) (ve_mul (ven c 2 rfl) ve_int (.inr (by decide)))) ve_int)) ve_int (by decide)) ?_)
    refine vb_nil ⟨rfl, _, _, Int.emod_nonneg _ (by decide), ?_, rfl⟩
    have := Int.emod_lt_of_pos (v * 69069 + ns[i] * 31 + 5) (show (0 : Int) < 2147483629 by decide)
    omega
  · refine .inl ⟨⟨_, sqX, by rw [List.length_map]; omega⟩, ?_⟩
    refine vb_cons (.of (ps_ret (pe_disp (pps_cons pe_str (pe_revL (pe_lc (own := [("cell", 2)]) c.calm c.nd (pi_list (pv _)) (blk_ok c (by decide +kernel)) pg_all pts_all pe_all (fun _ => rfl))) (pps_cons pe_str pe_int (pps_cons pe_str pe_r (pps_cons pe_str pe_int pps_nil)))) rfl rfl (by simp) (by decide))) ?_)
    intro p hp
    have sqP : SqL X.K (upd H' p (.dK [])) a (ns.map V.int) := by
      have nep : ∀ {u}, H' a = some u → a ≠ p := fun e z => by rw [z, hp] at e; cases e
      rcases sqX with (h | ⟨ob, h⟩) | h
      · exact .inl (.inl (by rw [upd_ne (nep h)]; exact h))
      · exact .inl (.inr ⟨ob, by rw [upd_ne (nep h)]; exact h⟩)
      · exact .inr h
    generalize eP : upd H' p (.dK []) = HP at sqP ⊢
    have hPp : HP p = some (.dK []) := by rw [← eP]; exact upd_same
    have hPo : ∀ b ob, H' b = some ob → HP b = some ob := fun b ob hb => by
      have : b ≠ p := fun z => by rw [z, hp] at hb; cases hb
      rw [← eP, upd_ne this]; exact hb
    refine ⟨.ref a, rfl, a, rfl, ⟨_, sqP⟩, fun dd hdd => ?_⟩
    have nea : ∀ {u}, HP a = some u → a ≠ dd := fun e z => by rw [z, hdd] at e; cases e
    have sq2 : ∀ xs, SqL X.K (upd HP dd (.lst xs)) a (ns.map V.int) := fun xs => by
      rcases sqP with (h | ⟨ob, h⟩) | h
      · exact .inl (.inl (by rw [upd_ne (nea h)]; exact h))
      · exact .inl (.inr ⟨ob, by rw [upd_ne (nea h)]; exact h⟩)
      · exact .inr h
    refine ⟨fun i m H2 => m = ns.length - i ∧ i ≤ ns.length ∧ H2 = upd HP dd (.lst ((ns.take i).map fun n => V.int (if n < 0 then -n else n))), ⟨_, rfl, Nat.zero_le _, rfl⟩, ?_⟩
    rintro i m H2 ⟨rfl, hi, rfl⟩
    by_cases hlt : i < ns.length
    · refine .inr ⟨⟨_, .int ns[i], sq2 _, by rw [List.getElem?_map, List.getElem?_eq_getElem hlt]; rfl⟩, fun H3 => H3 = upd HP dd (.lst ((ns.take (i + 1)).map fun n => V.int (if n < 0 then -n else n))), fun H3 h3 => ⟨ns.length - (i + 1), by omega, rfl, hlt, h3⟩, fun x H3 y => ?_⟩
      obtain ⟨rfl, y⟩ := y
      have ex : x = .int ns[i] := by
        have e := y _ (sq2 _)
        rw [List.getElem?_map, List.getElem?_eq_getElem hlt] at e
        exact (Option.some.inj e).symm
      subst ex
      intro s Hb C cl fp
      refine vgn (blk_ctx c (blkG_k (N := ["script", "mixed", "cell"]) (own := [("cell", 2)]) (by decide +kernel)) s Hb C cl fp) 2 ⟨rfl, fun s Hb C cl fp => ⟨_, pts_nil, ?_⟩⟩
      refine vyes ?_
      rw [if_pos rfl]
      intro s Hb C cl fp
      refine vabs (blk_ctx c (blkG_k (N := ["script", "mixed", "cell"]) (own := [("cell", 2)]) (by decide +kernel)) s Hb C cl fp) za (fun cb => ven cb 2 rfl) ⟨_, upd_same, ?_, ?_⟩
      · rw [List.length_map, List.length_take, ← lim_eq]
        have : lim = 16777216 := rfl
        omega
      · rw [upd_upd, List.take_add_one, List.getElem?_eq_getElem hlt, List.map_append]
        rfl
    · have e : i = ns.length := by omega
      subst e
      refine .inl ⟨⟨_, sq2 _, by rw [List.length_map]; omega⟩, ?_⟩
      rw [List.take_length]
      generalize hcs : (ns.map fun n => if n < 0 then -n else n) = cs
      have ecs : (ns.map fun n => V.int (if n < 0 then -n else n)) = cs.map V.int := by rw [← hcs, List.map_map]; rfl
      rw [ecs]
      have hcs0 : ∀ c ∈ cs, 0 ≤ c := fun c hc => by
        rw [← hcs] at hc
        obtain ⟨n, _, rfl⟩ := List.mem_map.mp hc
        split <;> omega
      have lcs : cs.length ≤ 1000 := by rw [← hcs, List.length_map]; exact hlen
      have npd : p ≠ dd := fun z => by rw [← z, hPp] at hdd; cases hdd
      refine ⟨dd, cs.map V.int, rfl, SqL.of upd_same, fun L hL => ?_⟩
      have nLd : L ≠ dd := fun z => by rw [z, upd_same] at hL; cases hL
      have nLp : L ≠ p := fun z => by rw [z, upd_ne npd, hPp] at hL; cases hL
      have v1 : ∀ pp, VE X [some (.ref a), some (.int v), o] (upd (upd HP dd (.lst (cs.map V.int))) L (.lst (cs.map V.int).reverse)) (.Name "mixed" pp) (.int v) := fun pp => ven c 1 rfl
      refine v1 _ _ ⟨by rw [upd_ne (Ne.symm nLp), upd_ne npd]; exact hPp, [(.inr "cells", .ref L), (.inr "left", .int 1), (.inr "mixed", .int v), (.inr "turn", .int 0)], rfl, show 4 ≤ 15 by decide, ?_⟩
      refine q p L _ ⟨cs.reverse, 1, v, 0, ?_, ?_, ?_, ?_, by decide, h0, h1, by decide⟩ fun b ob hb => ?_
      · rw [upd_same]; rfl
      · rw [upd_ne nLp, upd_same, List.map_reverse]
      · intro c hc; exact hcs0 c (List.mem_reverse.mp hc)
      · rw [List.length_reverse]; exact lcs
      · have npb : b ≠ p := fun z => by rw [z, hp] at hb; cases hb
        have e1 := hPo b ob hb
        have nd : b ≠ dd := fun z => by rw [z, hdd] at e1; cases e1
        have e2 : (upd HP dd (.lst (cs.map V.int))) b = some ob := by rw [upd_ne nd]; exact e1
        have nLb : b ≠ L := fun z => by rw [z, hL] at e2; cases e2
        rw [upd_ne npb, upd_ne nLb]; exact e2
abbrev F__law_pick : List D → Tr D := pickF
theorem D__law_pick {B : Bx} (b : Bt B) (hsrc : ∃ A L, B.src = some (A, L)) : DefIn B 1 "_law_pick" 2 .own true F__law_pick := by
  obtain ⟨A, L, h⟩ := hsrc
  exact def_by (ps := ["source", "many"]) b.f__law_pick (fun _ _ _ _ _ _ us hl => match us, hl with | [_, _], _ => rfl) sc__law_pick (rd_pick h (by intro z; cases z) b.z_max b.z_len b.z_int)
theorem D_src {B : Bx} (b : Bt B) : SrcIn B 1 "_law_source" := src_in b.f__law_source (fun _ _ _ _ _ _ us hl => match us, hl with | [_], _ => rfl) sc__law_source (rd_src b.z_int b.z_abs)

theorem sc_order_places : FnScope ["n", "row", "some", "i", "window"] ["n", "row"] (defScope st_order_places) := ⟨rfl, rfl, rfl, by decide +kernel, rfl, by decide +kernel, by decide +kernel⟩
def kd_order_places : Nat → Kd := fun i => match i with
  | _ => .sh
def g_order_places : SF :=
  (sSeq (sSet 2 (eLc (itR1 (aCons (op2 addD (op2 subD (eCall (fn1 lenD) (aCons (vr 1) aNil)) (vr 0)) (cn (.int 1))) aNil)) [3] (gN 3) tYesF (eTup (aCons (vr 3) (aCons (slc (vr 1) (part (vr 3)) (part (op2 addD (vr 3) (vr 0)))) aNil)))))
  (sSeq (sRet (eLc (itV (vr 2)) [3, 4] (gT (gsCons (gN 3) (gsCons (gN 4) gsNil))) (tOf (op2 eqD (eCall (fn1 sortD2) (aCons (vr 4) aNil)) (eLstR (itR1 (aCons (vr 0) aNil))))) (eTup (aCons (vr 3) (aCons (vr 4) aNil)))))
  sPass))
theorem J_order_places {B : Bx} (b : Bt B) : BJ ⟨B, kd_order_places, none⟩ 0 ["n", "row", "some", "i", "window"] (defScope st_order_places).names .own (defBody st_order_places) g_order_places :=
  (bj_cons (n_setLc 2 [("i", 3)] (n_r1 b.z_range (n_ac (EJ.frz (ej_bin o2_add (ej_bin o2_sub (n_blt br_len bo_len b.z_len (n_pc (n_sh 1) pj_nil)) (n_sh 0)) ej_int)) aj_nil)) (n_g 3) tsj_nil (EJ.frz (ej_tup (n_ac (n_sh 3) (n_ac (EJ.frz (ej_slice (n_sh 1) (oj_some (n_sh 3)) (oj_some (ej_bin o2_add (n_sh 3) (n_sh 0))))) aj_nil)))))
  (bj_cons (sj_ret (n_lc [("i", 3), ("window", 4)] (ij_val (EJ.bor (n_sh 2))) (n_gt (n_gc (n_g 3) (n_gc (n_g 4) gsj_nil)) (glen_cons (glen_cons glen_nil))) (tsj_one (n_tcmp o2_eq (n_blt br_sorted2 bo_sorted b.z_sorted (n_pc (n_sh 4) pj_nil)) (n_lstR1 b.z_list b.z_range (n_sh 0)))) (EJ.frz (ej_tup (n_ac (n_sh 3) (n_ac (n_sh 4) aj_nil))))))
  bj_nil))
@[irreducible] def F_order_places : List D → Tr D := runF 5 false g_order_places
theorem D_order_places {B : Bx} (b : Bt B) : DefIn B 1 "order_places" 2 .own false F_order_places := by
  unfold F_order_places
  exact def_in b.f_order_places (fun _ _ _ _ _ _ us hl => match us, hl with | [_, _], _ => rfl) sc_order_places rfl (by intro z; cases z) (J_order_places b)

theorem sc_orders_told : FnScope ["n", "row", "place", "order"] ["n", "row"] (defScope st_orders_told) := ⟨rfl, rfl, rfl, by decide +kernel, rfl, by decide +kernel, by decide +kernel⟩
def kd_orders_told : Nat → Kd := fun i => match i with
  | _ => .sh
def g_orders_told : SF :=
  (sSeq (sRet (eCall (fn1 tupleD2) (aCons (eDc (itV (eCall F_order_places (aCons (vr 0) (aCons (vr 1) aNil)))) [2, 3] (gT (gsCons (gN 2) (gsCons (gN 3) gsNil))) tYesF (vr 3) (cn (.bool true))) aNil)))
  sPass)
theorem J_orders_told {B : Bx} (b : Bt B) (d_order_places : DefIn B 1 "order_places" 2 .own false F_order_places) : BJ ⟨B, kd_orders_told, none⟩ 1 ["n", "row", "place", "order"] (defScope st_orders_told).names .own (defBody st_orders_told) g_orders_told :=
  (bj_cons (sj_ret (n_typ br_tuple2 bo_tuple b.z_tuple (n_pc (n_dc [("place", 2), ("order", 3)] (ij_val (EJ.bor (n_call d_order_places (n_ac (n_sh 0) (n_ac (n_sh 1) aj_nil)) (alen_cons (alen_cons alen_nil))))) (n_gt (n_gc (n_g 2) (n_gc (n_g 3) gsj_nil)) (glen_cons (glen_cons glen_nil))) tsj_nil (n_sh 3) (EJ.frz ej_bl)) pj_nil)))
  bj_nil)
@[irreducible] def F_orders_told : List D → Tr D := runF 4 false g_orders_told
theorem D_orders_told {B : Bx} (b : Bt B) : DefIn B 2 "orders_told" 2 .own false F_orders_told := by
  unfold F_orders_told
  exact def_in b.f_orders_told (fun _ _ _ _ _ _ us hl => match us, hl with | [_, _], _ => rfl) sc_orders_told rfl (by intro z; cases z) (J_orders_told b (D_order_places b))

theorem sc_orders_ascending : FnScope ["n", "found", "lap", "late", "order", "x"] ["n"] (defScope st_orders_ascending) := ⟨rfl, rfl, rfl, by decide +kernel, rfl, by decide +kernel, by decide +kernel⟩
def kd_orders_ascending : Nat → Kd := fun i => match i with
  | 3 => .ow
  | _ => .sh
def g_orders_ascending : SF :=
  (sSeq (sSet 1 (eLst (aCons (eTup aNil) aNil)))
  (sSeq (sFor (itR1 (aCons (vr 0) aNil)) (gN 2)
  (sSeq (sSet 3 (eLst aNil))
  (sSeq (sFor (itV (vr 1)) (gN 4)
  (sSeq (sExt 3 (eLc (itR1 (aCons (vr 0) aNil)) [5] (gN 5) (tOf (op2 notInD (vr 5) (vr 4))) (eTup (aStar (vr 4) (aCons (vr 5) aNil)))))
  sPass))
  (sSeq (sSet 1 (eCall (fn1 listD) (aCons (vr 3) aNil)))
  sPass))))
  (sSeq (sRet (vr 1))
  sPass)))
theorem J_orders_ascending {B : Bx} (b : Bt B) : BJ ⟨B, kd_orders_ascending, none⟩ 0 ["n", "found", "lap", "late", "order", "x"] (defScope st_orders_ascending).names .frz (defBody st_orders_ascending) g_orders_ascending :=
  (bj_cons (n_set 1 (EJ.frz (ej_lst (n_ac (EJ.frz (ej_tup aj_nil)) aj_nil))))
  (bj_cons (n_for (n_r1 b.z_range (n_ac (n_sh 0) aj_nil)) (n_g 2)
  (bj_cons (n_setO 3 (ej_lst aj_nil))
  (bj_cons (n_for (ij_val (n_sh 1)) (n_g 4)
  (bj_cons (n_ext 3 (n_lc [("x", 5)] (n_r1 b.z_range (n_ac (n_sh 0) aj_nil)) (n_g 5) (tsj_one (n_tcmp o2_notIn (n_sh 5) (n_sh 4))) (EJ.frz (ej_tup (aj_star (n_sh 4) (n_ac (n_sh 5) aj_nil))))))
  bj_nil))
  (bj_cons (n_set 1 (EJ.frz (n_typ br_list bo_list b.z_list (n_pc (n_bo 3) pj_nil))))
  bj_nil))))
  (bj_cons (sj_ret (n_sh 1))
  bj_nil)))
@[irreducible] def F_orders_ascending : List D → Tr D := runF 6 false g_orders_ascending
theorem D_orders_ascending {B : Bx} (b : Bt B) : DefIn B 1 "orders_ascending" 1 .frz false F_orders_ascending := by
  unfold F_orders_ascending
  exact def_in b.f_orders_ascending (fun _ _ _ _ _ _ us hl => match us, hl with | [_], _ => rfl) sc_orders_ascending rfl (by intro z; cases z) (J_orders_ascending b)

theorem sc_least_lacking : FnScope ["n", "row", "known", "some", "order"] ["n", "row"] (defScope st_least_lacking) := ⟨rfl, rfl, rfl, by decide +kernel, rfl, by decide +kernel, by decide +kernel⟩
def kd_least_lacking : Nat → Kd := fun i => match i with
  | _ => .sh
def g_least_lacking : SF :=
  (sSeq (sSet 2 (eDc (itV (eCall F_orders_told (aCons (vr 0) (aCons (vr 1) aNil)))) [4] (gN 4) tYesF (vr 4) (cn (.bool true))))
  (sSeq (sSet 3 (eLc (itV (eCall F_orders_ascending (aCons (vr 0) aNil))) [4] (gN 4) (tOf (op2 notInD (vr 4) (vr 2))) (vr 4)))
  (sSeq (sRet (eIf (tOf (op2 neD (vr 3) (eLst aNil))) (op2 idxD (vr 3) (cn (.int 0))) (cn .none)))
  sPass)))
theorem J_least_lacking {B : Bx} (b : Bt B) (d_orders_told : DefIn B 2 "orders_told" 2 .own false F_orders_told) (d_orders_ascending : DefIn B 1 "orders_ascending" 1 .frz false F_orders_ascending) : BJ ⟨B, kd_least_lacking, none⟩ 2 ["n", "row", "known", "some", "order"] (defScope st_least_lacking).names .frz (defBody st_least_lacking) g_least_lacking :=
  (bj_cons (n_setDcC 2 (n_dc [("order", 4)] (ij_val (EJ.bor (n_call d_orders_told (n_ac (n_sh 0) (n_ac (n_sh 1) aj_nil)) (alen_cons (alen_cons alen_nil))))) (n_g 4) tsj_nil (n_sh 4) (EJ.frz ej_bl)))
  (bj_cons (n_setLc 3 [("order", 4)] (ij_val (EJ.bor (n_call d_orders_ascending (n_ac (n_sh 0) aj_nil) (alen_cons alen_nil)))) (n_g 4) (tsj_one (n_tcmp o2_notIn (n_sh 4) (n_sh 2))) (n_sh 4))
  (bj_cons (sj_ret (ej_if (n_tcmp o2_ne (n_sh 3) (ej_lst aj_nil)) (n_idx (n_sh 3) ej_int) (EJ.frz ej_non)))
  bj_nil)))
@[irreducible] def F_least_lacking : List D → Tr D := runF 5 false g_least_lacking
theorem D_least_lacking {B : Bx} (b : Bt B) : DefIn B 3 "least_lacking" 2 .frz false F_least_lacking := by
  unfold F_least_lacking
  exact def_in b.f_least_lacking (fun _ _ _ _ _ _ us hl => match us, hl with | [_, _], _ => rfl) sc_least_lacking rfl (by intro z; cases z) (J_least_lacking b (D_orders_told b) (D_orders_ascending b))

theorem sc_is_letter_order : FnScope ["n", "value", "x"] ["n", "value"] (defScope st_is_letter_order) := ⟨rfl, rfl, rfl, by decide +kernel, rfl, by decide +kernel, by decide +kernel⟩
def kd_is_letter_order : Nat → Kd := fun i => match i with
  | _ => .sh
def g_is_letter_order : SF :=
  (sSeq (sIf (tOr (tNot (tTru (op1 (isaD PyData.isTuple) (vr 1)))) (tOf (op2 neD (eCall (fn1 lenD) (aCons (vr 1) aNil)) (vr 0))))
  (sSeq (sRet (cn (.bool false)))
  sPass)
  sPass)
  (sSeq (sIf (tNot (tTru (eCall (fn1 allD) (aCons (eLc (itV (vr 1)) [2] (gN 2) tYesF (eAnd (op1 (isaD PyData.isInt) (vr 2)) (eNot (op1 (isaD PyData.isBool) (vr 2))))) aNil))))
  (sSeq (sRet (cn (.bool false)))
  sPass)
  sPass)
  (sSeq (sRet (op2 eqD (eCall (fn1 sortD2) (aCons (vr 1) aNil)) (eLstR (itR1 (aCons (vr 0) aNil)))))
  sPass)))
theorem J_is_letter_order {B : Bx} (b : Bt B) : BJ ⟨B, kd_is_letter_order, none⟩ 0 ["n", "value", "x"] (defScope st_is_letter_order).names .own (defBody st_is_letter_order) g_is_letter_order :=
  (bj_cons (sj_if (WJ.tj (wj_or (tj_not (n_tru (n_isa (φ := PyData.isTuple) (fun r h => PySem.W.isinstance_tuple_data r h) bo_tuple b.z_isinstance b.z_tuple (n_sh 1)))) (wj_or1 (n_tcmp o2_ne (n_blt br_len bo_len b.z_len (n_pc (n_sh 1) pj_nil)) (n_sh 0)))))
  (bj_cons (sj_ret ej_bl)
  bj_nil)
  bj_nil)
  (bj_cons (sj_if (tj_not (n_tru (n_blt br_all bo_all b.z_all (n_pc (n_lc [("x", 2)] (ij_val (EJ.bor (n_sh 1))) (n_g 2) tsj_nil (EJ.frz (ej_and (n_isa (φ := PyData.isInt) (fun r h => PySem.W.isinstance_int_data r h) bo_int b.z_isinstance b.z_int (n_sh 2)) (ej_one (ej_not (n_isa (φ := PyData.isBool) (fun r h => PySem.W.isinstance_bool_data r h) bo_bool b.z_isinstance b.z_bool (n_sh 2))))))) pj_nil))))
  (bj_cons (sj_ret ej_bl)
  bj_nil)
  bj_nil)
  (bj_cons (sj_ret (n_cmp o2_eq (n_blt br_sorted2 bo_sorted b.z_sorted (n_pc (n_sh 1) pj_nil)) (n_lstR1 b.z_list b.z_range (n_sh 0))))
  bj_nil)))
@[irreducible] def F_is_letter_order : List D → Tr D := runF 3 false g_is_letter_order
theorem D_is_letter_order {B : Bx} (b : Bt B) : DefIn B 1 "is_letter_order" 2 .own false F_is_letter_order := by
  unfold F_is_letter_order
  exact def_in b.f_is_letter_order (fun _ _ _ _ _ _ us hl => match us, hl with | [_, _], _ => rfl) sc_is_letter_order rfl (by intro z; cases z) (J_is_letter_order b)

theorem sc_judge_full : FnScope ["n", "row", "value", "order", "places", "place"] ["n", "row", "value"] (defScope st_judge_full) := ⟨rfl, rfl, rfl, by decide +kernel, rfl, by decide +kernel, by decide +kernel⟩
def kd_judge_full : Nat → Kd := fun i => match i with
  | _ => .sh
def g_judge_full : SF :=
  (sSeq (sIf (tOr (tNot (tTru (op1 (isaD PyData.isTuple) (vr 2)))) (tOr (tOf (op2 eqD (vr 2) (eTup aNil))) (tNot (tTru (op1 (isaD PyData.isStr) (op2 idxD (vr 2) (cn (.int 0))))))))
  (sSeq (sRet (eTup (aCons (cn (.str "form")) aNil)))
  sPass)
  sPass)
  (sSeq (sIf (tOf (op2 eqD (vr 2) (eTup (aCons (cn (.str "full")) aNil))))
  (sSeq (sSet 3 (eCall F_least_lacking (aCons (vr 0) (aCons (vr 1) aNil))))
  (sSeq (sRet (eIf (tOf (op2 isNotD (vr 3) (cn .none))) (eTup (aCons (cn (.str "lacks")) (aCons (vr 3) aNil))) (cn .none)))
  sPass))
  sPass)
  (sSeq (sIf (tOr (tOf (op2 neD (op2 idxD (vr 2) (cn (.int 0))) (cn (.str "lacks")))) (tOr (tOf (op2 neD (eCall (fn1 lenD) (aCons (vr 2) aNil)) (cn (.int 2)))) (tNot (tTru (eCall F_is_letter_order (aCons (vr 0) (aCons (op2 idxD (vr 2) (cn (.int 1))) aNil)))))))
  (sSeq (sRet (eTup (aCons (cn (.str "form")) aNil)))
  sPass)
  sPass)
  (sSeq (sSet 4 (eLc (itV (eCall F_order_places (aCons (vr 0) (aCons (vr 1) aNil)))) [5, 3] (gT (gsCons (gN 5) (gsCons (gN 3) gsNil))) (tOf (op2 eqD (vr 3) (op2 idxD (vr 2) (cn (.int 1))))) (vr 5)))
  (sSeq (sRet (eIf (tOf (op2 neD (vr 4) (eLst aNil))) (eTup (aCons (cn (.str "there")) (aCons (op2 idxD (vr 4) (cn (.int 0))) aNil))) (cn .none)))
  sPass)))))
theorem J_judge_full {B : Bx} (b : Bt B) (d_least_lacking : DefIn B 3 "least_lacking" 2 .frz false F_least_lacking) (d_is_letter_order : DefIn B 1 "is_letter_order" 2 .own false F_is_letter_order) (d_order_places : DefIn B 1 "order_places" 2 .own false F_order_places) : BJ ⟨B, kd_judge_full, none⟩ 3 ["n", "row", "value", "order", "places", "place"] (defScope st_judge_full).names .own (defBody st_judge_full) g_judge_full :=
  (bj_cons (sj_if (WJ.tj (wj_or (tj_not (n_tru (n_isa (φ := PyData.isTuple) (fun r h => PySem.W.isinstance_tuple_data r h) bo_tuple b.z_isinstance b.z_tuple (n_sh 2)))) (wj_or (n_tcmp o2_eq (n_sh 2) (ej_tup aj_nil)) (wj_or1 (tj_not (n_tru (n_isa (φ := PyData.isStr) (fun r h => PySem.W.isinstance_str_data r h) bo_str b.z_isinstance b.z_str (n_idx (n_sh 2) ej_int))))))))
  (bj_cons (sj_ret (ej_tup (n_ac (EJ.frz ej_str) aj_nil)))
  bj_nil)
  bj_nil)
  (bj_cons (sj_if (n_tcmp o2_eq (n_sh 2) (ej_tup (n_ac (EJ.frz ej_str) aj_nil)))
  (bj_cons (n_set 3 (n_call d_least_lacking (n_ac (n_sh 0) (n_ac (n_sh 1) aj_nil)) (alen_cons (alen_cons alen_nil))))
  (bj_cons (sj_ret (ej_if (n_tcmp o2_isNot (n_sh 3) ej_non) (ej_tup (n_ac (EJ.frz ej_str) (n_ac (n_sh 3) aj_nil))) ej_non))
  bj_nil))
  bj_nil)
  (bj_cons (sj_if (WJ.tj (wj_or (n_tcmp o2_ne (n_idx (n_sh 2) ej_int) ej_str) (wj_or (n_tcmp o2_ne (n_blt br_len bo_len b.z_len (n_pc (n_sh 2) pj_nil)) ej_int) (wj_or1 (tj_not (n_tru (n_call d_is_letter_order (n_ac (n_sh 0) (n_ac (n_idx (n_sh 2) ej_int) aj_nil)) (alen_cons (alen_cons alen_nil)))))))))
  (bj_cons (sj_ret (ej_tup (n_ac (EJ.frz ej_str) aj_nil)))
  bj_nil)
  bj_nil)
  (bj_cons (n_setLc 4 [("place", 5), ("order", 3)] (ij_val (EJ.bor (n_call d_order_places (n_ac (n_sh 0) (n_ac (n_sh 1) aj_nil)) (alen_cons (alen_cons alen_nil))))) (n_gt (n_gc (n_g 5) (n_gc (n_g 3) gsj_nil)) (glen_cons (glen_cons glen_nil))) (tsj_one (n_tcmp o2_eq (n_sh 3) (n_idx (n_sh 2) ej_int))) (n_sh 5))
  (bj_cons (sj_ret (ej_if (n_tcmp o2_ne (n_sh 4) (ej_lst aj_nil)) (ej_tup (n_ac (EJ.frz ej_str) (n_ac (n_idx (n_sh 4) ej_int) aj_nil))) ej_non))
  bj_nil)))))
@[irreducible] def F_judge_full : List D → Tr D := runF 6 false g_judge_full
theorem D_judge_full {B : Bx} (b : Bt B) : DefIn B 4 "judge_full" 3 .own false F_judge_full := by
  unfold F_judge_full
  exact def_in b.f_judge_full (fun _ _ _ _ _ _ us hl => match us, hl with | [_, _, _], _ => rfl) sc_judge_full rfl (by intro z; cases z) (J_judge_full b (D_least_lacking b) (D_is_letter_order b) (D_order_places b))

theorem sc_block_row : FnScope ["blocks", "found", "block", "share"] ["blocks"] (defScope st_block_row) := ⟨rfl, rfl, rfl, by decide +kernel, rfl, by decide +kernel, by decide +kernel⟩
def kd_block_row : Nat → Kd := fun i => match i with
  | _ => .sh
def g_block_row : SF :=
  (sSeq (sSet 1 (eTup aNil))
  (sSeq (sFor (itV (vr 0)) (gN 2)
  (sSeq (sSet 3 (eCall (fn2 min2D) (aCons (eCall (fn1 lenD) (aCons (vr 1) aNil)) (aCons (eCall (fn1 lenD) (aCons (vr 2) aNil)) aNil))))
  (sSeq (sWhile fuel (tOf (op2 neD (slc (vr 1) (part (op2 subD (eCall (fn1 lenD) (aCons (vr 1) aNil)) (vr 3))) noPart) (slc (vr 2) noPart (part (vr 3)))))
  (sSeq (sSet 3 (op2 subD (vr 3) (cn (.int 1))))
  sPass))
  (sSeq (sSet 1 (op2 addD (vr 1) (slc (vr 2) (part (vr 3)) noPart)))
  sPass))))
  (sSeq (sRet (vr 1))
  sPass)))
theorem J_block_row {B : Bx} (b : Bt B) : BJ ⟨B, kd_block_row, none⟩ 0 ["blocks", "found", "block", "share"] (defScope st_block_row).names .frz (defBody st_block_row) g_block_row :=
  (bj_cons (n_set 1 (EJ.frz (ej_tup aj_nil)))
  (bj_cons (n_for (ij_val (n_sh 0)) (n_g 2)
  (bj_cons (n_set 3 (EJ.frz (n_blt br_min2 bo_min b.z_min (n_pc (n_blt br_len bo_len b.z_len (n_pc (n_sh 1) pj_nil)) (n_pc (n_blt br_len bo_len b.z_len (n_pc (n_sh 2) pj_nil)) pj_nil)))))
  (bj_cons (sj_while fuel (n_tcmp o2_ne (ej_slice (n_sh 1) (oj_some (ej_bin o2_sub (n_blt br_len bo_len b.z_len (n_pc (n_sh 1) pj_nil)) (n_sh 3))) oj_none) (ej_slice (n_sh 2) oj_none (oj_some (n_sh 3))))
  (bj_cons (n_set 3 (EJ.frz (ej_bin o2_sub (n_sh 3) ej_int)))
  bj_nil))
  (bj_cons (n_set 1 (EJ.frz (ej_bin o2_add (n_sh 1) (ej_slice (n_sh 2) (oj_some (n_sh 3)) oj_none))))
  bj_nil))))
  (bj_cons (sj_ret (n_sh 1))
  bj_nil)))
@[irreducible] def F_block_row : List D → Tr D := runF 4 false g_block_row
theorem D_block_row {B : Bx} (b : Bt B) : DefIn B 1 "block_row" 1 .frz false F_block_row := by
  unfold F_block_row
  exact def_in b.f_block_row (fun _ _ _ _ _ _ us hl => match us, hl with | [_], _ => rfl) sc_block_row rfl (by intro z; cases z) (J_block_row b)

theorem sc_told_full_row : FnScope ["n", "found", "size", "order"] ["n"] (defScope st_told_full_row) := ⟨rfl, rfl, rfl, by decide +kernel, rfl, by decide +kernel, by decide +kernel⟩
def kd_told_full_row : Nat → Kd := fun i => match i with
  | _ => .sh
def g_told_full_row : SF :=
  (sSeq (sSet 1 (eTup (aCons (cn (.int 0)) aNil)))
  (sSeq (sFor (itR2 (aCons (cn (.int 1)) (aCons (vr 0) aNil))) (gN 2)
  (sSeq (sSet 1 (eCall F_block_row (aCons (eLc (itV (eCall F_orders_told (aCons (vr 2) (aCons (vr 1) aNil)))) [3] (gN 3) tYesF (eTup (aStar (vr 3) (aCons (vr 2) (aStar (vr 3) aNil))))) aNil)))
  sPass))
  (sSeq (sRet (vr 1))
  sPass)))
theorem J_told_full_row {B : Bx} (b : Bt B) (d_block_row : DefIn B 1 "block_row" 1 .frz false F_block_row) (d_orders_told : DefIn B 2 "orders_told" 2 .own false F_orders_told) : BJ ⟨B, kd_told_full_row, none⟩ 2 ["n", "found", "size", "order"] (defScope st_told_full_row).names .frz (defBody st_told_full_row) g_told_full_row :=
  (bj_cons (n_set 1 (EJ.frz (ej_tup (n_ac (EJ.frz ej_int) aj_nil))))
  (bj_cons (n_for (n_r2 b.z_range (n_ac (EJ.frz ej_int) (n_ac (n_sh 0) aj_nil))) (n_g 2)
  (bj_cons (n_set 1 (n_call d_block_row (n_ac (EJ.frz (n_lc [("order", 3)] (ij_val (EJ.bor (n_call d_orders_told (n_ac (n_sh 2) (n_ac (n_sh 1) aj_nil)) (alen_cons (alen_cons alen_nil))))) (n_g 3) tsj_nil (EJ.frz (ej_tup (aj_star (n_sh 3) (n_ac (n_sh 2) (aj_star (n_sh 3) aj_nil))))))) aj_nil) (alen_cons alen_nil)))
  bj_nil))
  (bj_cons (sj_ret (n_sh 1))
  bj_nil)))
@[irreducible] def F_told_full_row : List D → Tr D := runF 4 false g_told_full_row
theorem D_told_full_row {B : Bx} (b : Bt B) : DefIn B 3 "told_full_row" 1 .frz false F_told_full_row := by
  unfold F_told_full_row
  exact def_in b.f_told_full_row (fun _ _ _ _ _ _ us hl => match us, hl with | [_], _ => rfl) sc_told_full_row rfl (by intro z; cases z) (J_told_full_row b (D_block_row b) (D_orders_told b))



theorem sc__law_of : FnScope ["source", "some"] ["source", "some"] (defScope st__law_of) := ⟨rfl, rfl, rfl, by decide +kernel, rfl, by decide +kernel, by decide +kernel⟩
def kd__law_of : Nat → Kd := fun i => match i with
  | _ => .sh
def g__law_of : SF :=
  (sSeq (sRet (op2 idxD (vr 1) (eCall F__law_pick (aCons (eCall (fn1 lenD) (aCons (vr 1) aNil)) aNil))))
  sPass)
theorem J__law_of {B : Bx} (b : Bt B) (hsrc : ∃ A L, B.src = some (A, L)) (d__law_pick : DefIn B 1 "_law_pick" 2 .own true F__law_pick) : BJ ⟨B, kd__law_of, some 0⟩ 1 ["source", "some"] (defScope st__law_of).names .frz (defBody st__law_of) g__law_of :=
  (bj_cons (sj_ret (n_idx (n_sh 1) (n_callS 0 d__law_pick hsrc (n_ac (EJ.frz (n_blt br_len bo_len b.z_len (n_pc (n_sh 1) pj_nil))) aj_nil) (alen_cons alen_nil))))
  bj_nil)
@[irreducible] def F__law_of : List D → Tr D := runF 2 true g__law_of
theorem D__law_of {B : Bx} (b : Bt B) (hsrc : ∃ A L, B.src = some (A, L)) : DefIn B 2 "_law_of" 2 .frz true F__law_of := by
  unfold F__law_of
  exact def_in b.f__law_of (fun _ _ _ _ _ _ us hl => match us, hl with | [_, _], _ => rfl) sc__law_of rfl (by intro z; cases z) (J__law_of b hsrc (D__law_pick b hsrc))

theorem sc__law_mixed : FnScope ["source", "things", "rest", "lap"] ["source", "things"] (defScope st__law_mixed) := ⟨rfl, rfl, rfl, by decide +kernel, rfl, by decide +kernel, by decide +kernel⟩
def kd__law_mixed : Nat → Kd := fun i => match i with
  | 2 => .ow
  | _ => .sh
def g__law_mixed : SF :=
  (sSeq (sSet 2 (eCall (fn1 listD) (aCons (vr 1) aNil)))
  (sSeq (sDrain 2 (itR1 (aCons (eCall (fn1 lenD) (aCons (vr 2) aNil)) aNil)) [3] (gN 3) (eCall F__law_pick (aCons (eCall (fn1 lenD) (aCons (vr 2) aNil)) aNil)))
  sPass))
theorem J__law_mixed {B : Bx} (b : Bt B) (hsrc : ∃ A L, B.src = some (A, L)) (d__law_pick : DefIn B 1 "_law_pick" 2 .own true F__law_pick) : BJ ⟨B, kd__law_mixed, some 0⟩ 1 ["source", "things", "rest", "lap"] (defScope st__law_mixed).names .own (defBody st__law_mixed) g__law_mixed :=
  (bj_cons (n_setO 2 (n_typ br_list bo_list b.z_list (n_pc (n_sh 1) pj_nil)))
  (bj_cons (n_drain 2 [("lap", 3)] (n_r1 b.z_range (n_ac (EJ.frz (n_blt br_len bo_len b.z_len (n_pc (n_bo 2) pj_nil))) aj_nil)) (n_g 3) (n_callS 0 d__law_pick hsrc (n_ac (EJ.frz (n_blt br_len bo_len b.z_len (n_pc (n_bo 2) pj_nil))) aj_nil) (alen_cons alen_nil)))
  bj_nil))
@[irreducible] def F__law_mixed : List D → Tr D := runF 4 true g__law_mixed
theorem D__law_mixed {B : Bx} (b : Bt B) (hsrc : ∃ A L, B.src = some (A, L)) : DefIn B 2 "_law_mixed" 2 .own true F__law_mixed := by
  unfold F__law_mixed
  exact def_in b.f__law_mixed (fun _ _ _ _ _ _ us hl => match us, hl with | [_, _], _ => rfl) sc__law_mixed rfl (by intro z; cases z) (J__law_mixed b hsrc (D__law_pick b hsrc))

theorem sc__law_orders : FnScope ["n", "found", "lap", "late", "row", "x"] ["n"] (defScope st__law_orders) := ⟨rfl, rfl, rfl, by decide +kernel, rfl, by decide +kernel, by decide +kernel⟩
def kd__law_orders : Nat → Kd := fun i => match i with
  | _ => .sh
def g__law_orders : SF :=
  (sSeq (sSet 1 (eLst (aCons (eTup aNil) aNil)))
  (sSeq (sFor (itR1 (aCons (vr 0) aNil)) (gN 2)
  (sSeq (sSet 3 (eLst aNil))
  (sSeq (sFor (itV (vr 1)) (gN 4)
  (sSeq (sSet 3 (op2 addD (vr 3) (eLc (itR1 (aCons (vr 0) aNil)) [5] (gN 5) (tOf (op2 notInD (vr 5) (vr 4))) (op2 addD (vr 4) (eTup (aCons (vr 5) aNil))))))
  sPass))
  (sSeq (sSet 1 (vr 3))
  sPass))))
  (sSeq (sRet (vr 1))
  sPass)))
theorem J__law_orders {B : Bx} (b : Bt B) : BJ ⟨B, kd__law_orders, none⟩ 0 ["n", "found", "lap", "late", "row", "x"] (defScope st__law_orders).names .frz (defBody st__law_orders) g__law_orders :=
  (bj_cons (n_set 1 (EJ.frz (ej_lst (n_ac (EJ.frz (ej_tup aj_nil)) aj_nil))))
  (bj_cons (n_for (n_r1 b.z_range (n_ac (n_sh 0) aj_nil)) (n_g 2)
  (bj_cons (n_set 3 (EJ.frz (ej_lst aj_nil)))
  (bj_cons (n_for (ij_val (n_sh 1)) (n_g 4)
  (bj_cons (n_set 3 (EJ.frz (ej_bin o2_add (n_sh 3) (n_lc [("x", 5)] (n_r1 b.z_range (n_ac (n_sh 0) aj_nil)) (n_g 5) (tsj_one (n_tcmp o2_notIn (n_sh 5) (n_sh 4))) (EJ.frz (ej_bin o2_add (n_sh 4) (ej_tup (n_ac (n_sh 5) aj_nil))))))))
  bj_nil))
  (bj_cons (n_set 1 (n_sh 3))
  bj_nil))))
  (bj_cons (sj_ret (n_sh 1))
  bj_nil)))
@[irreducible] def F__law_orders : List D → Tr D := runF 6 false g__law_orders
theorem D__law_orders {B : Bx} (b : Bt B) : DefIn B 1 "_law_orders" 1 .frz false F__law_orders := by
  unfold F__law_orders
  exact def_in b.f__law_orders (fun _ _ _ _ _ _ us hl => match us, hl with | [_], _ => rfl) sc__law_orders rfl (by intro z; cases z) (J__law_orders b)

theorem sc__law_windows : FnScope ["n", "row", "some", "i", "window"] ["n", "row"] (defScope st__law_windows) := ⟨rfl, rfl, rfl, by decide +kernel, rfl, by decide +kernel, by decide +kernel⟩
def kd__law_windows : Nat → Kd := fun i => match i with
  | _ => .sh
def g__law_windows : SF :=
  (sSeq (sSet 2 (eLc (itR1 (aCons (op2 addD (op2 subD (eCall (fn1 lenD) (aCons (vr 1) aNil)) (vr 0)) (cn (.int 1))) aNil)) [3] (gN 3) tYesF (eTup (aCons (vr 3) (aCons (slc (vr 1) (part (vr 3)) (part (op2 addD (vr 3) (vr 0)))) aNil)))))
  (sSeq (sRet (eLc (itV (vr 2)) [3, 4] (gT (gsCons (gN 3) (gsCons (gN 4) gsNil))) (tOf (op2 eqD (eCall (fn1 sortD2) (aCons (vr 4) aNil)) (eLstR (itR1 (aCons (vr 0) aNil))))) (eTup (aCons (vr 3) (aCons (vr 4) aNil)))))
  sPass))
theorem J__law_windows {B : Bx} (b : Bt B) : BJ ⟨B, kd__law_windows, none⟩ 0 ["n", "row", "some", "i", "window"] (defScope st__law_windows).names .own (defBody st__law_windows) g__law_windows :=
  (bj_cons (n_setLc 2 [("i", 3)] (n_r1 b.z_range (n_ac (EJ.frz (ej_bin o2_add (ej_bin o2_sub (n_blt br_len bo_len b.z_len (n_pc (n_sh 1) pj_nil)) (n_sh 0)) ej_int)) aj_nil)) (n_g 3) tsj_nil (EJ.frz (ej_tup (n_ac (n_sh 3) (n_ac (EJ.frz (ej_slice (n_sh 1) (oj_some (n_sh 3)) (oj_some (ej_bin o2_add (n_sh 3) (n_sh 0))))) aj_nil)))))
  (bj_cons (sj_ret (n_lc [("i", 3), ("window", 4)] (ij_val (EJ.bor (n_sh 2))) (n_gt (n_gc (n_g 3) (n_gc (n_g 4) gsj_nil)) (glen_cons (glen_cons glen_nil))) (tsj_one (n_tcmp o2_eq (n_blt br_sorted2 bo_sorted b.z_sorted (n_pc (n_sh 4) pj_nil)) (n_lstR1 b.z_list b.z_range (n_sh 0)))) (EJ.frz (ej_tup (n_ac (n_sh 3) (n_ac (n_sh 4) aj_nil))))))
  bj_nil))
@[irreducible] def F__law_windows : List D → Tr D := runF 5 false g__law_windows
theorem D__law_windows {B : Bx} (b : Bt B) : DefIn B 1 "_law_windows" 2 .own false F__law_windows := by
  unfold F__law_windows
  exact def_in b.f__law_windows (fun _ _ _ _ _ _ us hl => match us, hl with | [_, _], _ => rfl) sc__law_windows rfl (by intro z; cases z) (J__law_windows b)

theorem sc__law_told : FnScope ["n", "row", "found", "i", "window"] ["n", "row"] (defScope st__law_told) := ⟨rfl, rfl, rfl, by decide +kernel, rfl, by decide +kernel, by decide +kernel⟩
def kd__law_told : Nat → Kd := fun i => match i with
  | _ => .sh
def g__law_told : SF :=
  (sSeq (sSet 2 (eLst aNil))
  (sSeq (sFor (itV (eCall F__law_windows (aCons (vr 0) (aCons (vr 1) aNil)))) (gT (gsCons (gN 3) (gsCons (gN 4) gsNil)))
  (sSeq (sSet 2 (op2 addD (vr 2) (op2 mulD (eLst (aCons (vr 4) aNil)) (eCall (fn1 intD) (aCons (op2 notInD (vr 4) (vr 2)) aNil)))))
  sPass))
  (sSeq (sRet (vr 2))
  sPass)))
theorem J__law_told {B : Bx} (b : Bt B) (d__law_windows : DefIn B 1 "_law_windows" 2 .own false F__law_windows) : BJ ⟨B, kd__law_told, none⟩ 1 ["n", "row", "found", "i", "window"] (defScope st__law_told).names .frz (defBody st__law_told) g__law_told :=
  (bj_cons (n_set 2 (EJ.frz (ej_lst aj_nil)))
  (bj_cons (n_for (ij_val (EJ.frz (n_call d__law_windows (n_ac (n_sh 0) (n_ac (n_sh 1) aj_nil)) (alen_cons (alen_cons alen_nil))))) (n_gt (n_gc (n_g 3) (n_gc (n_g 4) gsj_nil)) (glen_cons (glen_cons glen_nil)))
  (bj_cons (n_set 2 (EJ.frz (ej_bin o2_add (n_sh 2) (ej_bin o2_mul (ej_lst (n_ac (n_sh 4) aj_nil)) (n_typ br_int bo_int b.z_int (n_pc (n_cmp o2_notIn (n_sh 4) (n_sh 2)) pj_nil))))))
  bj_nil))
  (bj_cons (sj_ret (n_sh 2))
  bj_nil)))
@[irreducible] def F__law_told : List D → Tr D := runF 5 false g__law_told
theorem D__law_told {B : Bx} (b : Bt B) : DefIn B 2 "_law_told" 2 .frz false F__law_told := by
  unfold F__law_told
  exact def_in b.f__law_told (fun _ _ _ _ _ _ us hl => match us, hl with | [_, _], _ => rfl) sc__law_told rfl (by intro z; cases z) (J__law_told b (D__law_windows b))

theorem sc__law_row : FnScope ["source", "n", "many", "row", "lap", "way"] ["source", "n", "many"] (defScope st__law_row) := ⟨rfl, rfl, rfl, by decide +kernel, rfl, by decide +kernel, by decide +kernel⟩
def kd__law_row : Nat → Kd := fun i => match i with
  | _ => .sh
def g__law_row : SF :=
  (sSeq (sSet 3 (eIf (tOf (op2 gtD (eCall F__law_pick (aCons (cn (.int 4)) aNil)) (cn (.int 0)))) (eCall (fn1 tupleD2) (aCons (eCall F__law_mixed (aCons (eLstR (itR1 (aCons (vr 1) aNil))) aNil)) aNil)) (eTup aNil)))
  (sSeq (sFor (itR1 (aCons (eCall F__law_pick (aCons (op2 addD (vr 2) (cn (.int 1))) aNil)) aNil)) (gN 4)
  (sSeq (sSet 5 (eCall F__law_pick (aCons (cn (.int 8)) aNil)))
  (sSeq (sIf (tOr (tOf (op2 ltD (eCall (fn1 lenD) (aCons (vr 3) aNil)) (vr 1))) (tOf (op2 eqD (vr 5) (cn (.int 0)))))
  (sSeq (sSet 3 (op2 addD (vr 3) (eTup (aCons (eCall F__law_pick (aCons (vr 1) aNil)) aNil))))
  sPass)
  (sSeq (sIf (tOr (tOf (op2 ltD (vr 5) (cn (.int 6)))) (tOf (op2 eqD (vr 1) (cn (.int 1)))))
  (sSeq (sSet 3 (op2 addD (vr 3) (eTup (aCons (op2 idxD (vr 3) (op2 subD (eCall (fn1 lenD) (aCons (vr 3) aNil)) (vr 1))) aNil))))
  sPass)
  (sSeq (sSet 3 (op2 addD (vr 3) (eTup (aCons (op2 idxD (vr 3) (op2 addD (op2 subD (eCall (fn1 lenD) (aCons (vr 3) aNil)) (vr 1)) (cn (.int 1)))) (aCons (op2 idxD (vr 3) (op2 subD (eCall (fn1 lenD) (aCons (vr 3) aNil)) (vr 1))) aNil)))))
  sPass))
  sPass))
  sPass)))
  (sSeq (sRet (vr 3))
  sPass)))
theorem J__law_row {B : Bx} (b : Bt B) (hsrc : ∃ A L, B.src = some (A, L)) (d__law_pick : DefIn B 1 "_law_pick" 2 .own true F__law_pick) (d__law_mixed : DefIn B 2 "_law_mixed" 2 .own true F__law_mixed) : BJ ⟨B, kd__law_row, some 0⟩ 2 ["source", "n", "many", "row", "lap", "way"] (defScope st__law_row).names .frz (defBody st__law_row) g__law_row :=
  (bj_cons (n_set 3 (EJ.frz (ej_if (n_tcmp o2_gt (n_callS 0 d__law_pick hsrc (n_ac (EJ.frz ej_int) aj_nil) (alen_cons alen_nil)) ej_int) (n_typ br_tuple2 bo_tuple b.z_tuple (n_pc (n_callS 0 d__law_mixed hsrc (n_ac (EJ.frz (n_lstR1 b.z_list b.z_range (n_sh 1))) aj_nil) (alen_cons alen_nil)) pj_nil)) (ej_tup aj_nil))))
  (bj_cons (n_for (n_r1 b.z_range (n_ac (EJ.frz (n_callS 0 d__law_pick hsrc (n_ac (EJ.frz (ej_bin o2_add (n_sh 2) ej_int)) aj_nil) (alen_cons alen_nil))) aj_nil)) (n_g 4)
  (bj_cons (n_set 5 (EJ.frz (n_callS 0 d__law_pick hsrc (n_ac (EJ.frz ej_int) aj_nil) (alen_cons alen_nil))))
  (bj_cons (sj_if (WJ.tj (wj_or (n_tcmp o2_lt (n_blt br_len bo_len b.z_len (n_pc (n_sh 3) pj_nil)) (n_sh 1)) (wj_or1 (n_tcmp o2_eq (n_sh 5) ej_int))))
  (bj_cons (n_set 3 (EJ.frz (ej_bin o2_add (n_sh 3) (ej_tup (n_ac (EJ.frz (n_callS 0 d__law_pick hsrc (n_ac (n_sh 1) aj_nil) (alen_cons alen_nil))) aj_nil)))))
  bj_nil)
  (bj_cons (sj_if (WJ.tj (wj_or (n_tcmp o2_lt (n_sh 5) ej_int) (wj_or1 (n_tcmp o2_eq (n_sh 1) ej_int))))
  (bj_cons (n_set 3 (EJ.frz (ej_bin o2_add (n_sh 3) (ej_tup (n_ac (n_idx (n_sh 3) (ej_bin o2_sub (n_blt br_len bo_len b.z_len (n_pc (n_sh 3) pj_nil)) (n_sh 1))) aj_nil)))))
  bj_nil)
  (bj_cons (n_set 3 (EJ.frz (ej_bin o2_add (n_sh 3) (ej_tup (n_ac (n_idx (n_sh 3) (ej_bin o2_add (ej_bin o2_sub (n_blt br_len bo_len b.z_len (n_pc (n_sh 3) pj_nil)) (n_sh 1)) ej_int)) (n_ac (n_idx (n_sh 3) (ej_bin o2_sub (n_blt br_len bo_len b.z_len (n_pc (n_sh 3) pj_nil)) (n_sh 1))) aj_nil))))))
  bj_nil))
  bj_nil))
  bj_nil)))
  (bj_cons (sj_ret (n_sh 3))
  bj_nil)))
@[irreducible] def F__law_row : List D → Tr D := runF 6 true g__law_row
theorem D__law_row {B : Bx} (b : Bt B) (hsrc : ∃ A L, B.src = some (A, L)) : DefIn B 3 "_law_row" 3 .frz true F__law_row := by
  unfold F__law_row
  exact def_in b.f__law_row (fun _ _ _ _ _ _ us hl => match us, hl with | [_, _, _], _ => rfl) sc__law_row rfl (by intro z; cases z) (J__law_row b hsrc (D__law_pick b hsrc) (D__law_mixed b hsrc))

theorem sc__law_near : FnScope ["source", "value", "odd", "k", "way"] ["source", "value", "odd"] (defScope st__law_near) := ⟨rfl, rfl, rfl, by decide +kernel, rfl, by decide +kernel, by decide +kernel⟩
def kd__law_near : Nat → Kd := fun i => match i with
  | _ => .sh
def g__law_near (F__law_near : List D → Tr D) : SF :=
  (sSeq (sIf (tAnd (tTru (op1 (isaD PyData.isInt) (vr 1))) (tAnd (tNot (tTru (op1 (isaD PyData.isBool) (vr 1)))) (tOf (op2 gtD (eCall F__law_pick (aCons (cn (.int 3)) aNil)) (cn (.int 0))))))
  (sSeq (sRet (op2 addD (vr 1) (eCall F__law_of (aCons (eLst (aCons (cn (.int 1)) (aCons (op1 negD (cn (.int 1))) (aCons (cn (.int 2)) aNil)))) aNil))))
  sPass)
  sPass)
  (sSeq (sIf (tOr (tNot (tTru (op1 (isaD PyData.isTuple) (vr 1)))) (tOr (tOf (op2 eqD (vr 1) (eTup aNil))) (tOf (op2 eqD (eCall F__law_pick (aCons (cn (.int 7)) aNil)) (cn (.int 0))))))
  (sSeq (sRet (eCall F__law_of (aCons (vr 2) aNil)))
  sPass)
  sPass)
  (sSeq (sPar [3, 4] (aCons (eCall F__law_pick (aCons (eCall (fn1 lenD) (aCons (vr 1) aNil)) aNil)) (aCons (eCall F__law_pick (aCons (cn (.int 6)) aNil)) aNil)))
  (sSeq (sIf (tOf (op2 ltD (vr 4) (cn (.int 4))))
  (sSeq (sRet (op2 addD (op2 addD (slc (vr 1) noPart (part (vr 3))) (eTup (aCons (eCall F__law_near (aCons (op2 idxD (vr 1) (vr 3)) (aCons (vr 2) aNil))) aNil))) (slc (vr 1) (part (op2 addD (vr 3) (cn (.int 1)))) noPart)))
  sPass)
  sPass)
  (sSeq (sRet (eCall F__law_of (aCons (eLst (aCons (op2 addD (slc (vr 1) noPart (part (vr 3))) (slc (vr 1) (part (op2 addD (vr 3) (cn (.int 1)))) noPart)) (aCons (op2 addD (slc (vr 1) noPart (part (op2 addD (vr 3) (cn (.int 1))))) (slc (vr 1) (part (vr 3)) noPart)) (aCons (op1 revD (vr 1)) (aCons (eCall (fn1 listD) (aCons (vr 1) aNil)) aNil))))) aNil)))
  sPass)))))
theorem J__law_near {B : Bx} (b : Bt B) (hsrc : ∃ A L, B.src = some (A, L)) {k : Nat} {F__law_near : List D → Tr D} (d__law_of : DefIn B k "_law_of" 2 .frz true F__law_of) (d__law_pick : DefIn B k "_law_pick" 2 .own true F__law_pick) (d__law_near : DefIn B k "_law_near" 3 .frz true F__law_near) : BJ ⟨B, kd__law_near, some 0⟩ k ["source", "value", "odd", "k", "way"] (defScope st__law_near).names .frz (defBody st__law_near) (g__law_near F__law_near) :=
  (bj_cons (sj_if (WJ.tj (wj_and (n_tru (n_isa (φ := PyData.isInt) (fun r h => PySem.W.isinstance_int_data r h) bo_int b.z_isinstance b.z_int (n_sh 1))) (wj_and (tj_not (n_tru (n_isa (φ := PyData.isBool) (fun r h => PySem.W.isinstance_bool_data r h) bo_bool b.z_isinstance b.z_bool (n_sh 1)))) (wj_and1 (n_tcmp o2_gt (n_callS 0 d__law_pick hsrc (n_ac (EJ.frz ej_int) aj_nil) (alen_cons alen_nil) (Nat.le_refl _)) ej_int)))))
  (bj_cons (sj_ret (EJ.frz (ej_bin o2_add (n_sh 1) (n_callS 0 d__law_of hsrc (n_ac (EJ.frz (ej_lst (n_ac (EJ.frz ej_int) (n_ac (EJ.frz (ej_neg ej_int)) (n_ac (EJ.frz ej_int) aj_nil))))) aj_nil) (alen_cons alen_nil) (Nat.le_refl _)))))
  bj_nil)
  bj_nil)
  (bj_cons (sj_if (WJ.tj (wj_or (tj_not (n_tru (n_isa (φ := PyData.isTuple) (fun r h => PySem.W.isinstance_tuple_data r h) bo_tuple b.z_isinstance b.z_tuple (n_sh 1)))) (wj_or (n_tcmp o2_eq (n_sh 1) (ej_tup aj_nil)) (wj_or1 (n_tcmp o2_eq (n_callS 0 d__law_pick hsrc (n_ac (EJ.frz ej_int) aj_nil) (alen_cons alen_nil) (Nat.le_refl _)) ej_int)))))
  (bj_cons (sj_ret (n_callS 0 d__law_of hsrc (n_ac (n_sh 2) aj_nil) (alen_cons alen_nil) (Nat.le_refl _)))
  bj_nil)
  bj_nil)
  (bj_cons (n_par2 (n_pc (EJ.frz (n_callS 0 d__law_pick hsrc (n_ac (EJ.frz (n_blt br_len bo_len b.z_len (n_pc (n_sh 1) pj_nil))) aj_nil) (alen_cons alen_nil) (Nat.le_refl _))) (n_pc (EJ.frz (n_callS 0 d__law_pick hsrc (n_ac (EJ.frz ej_int) aj_nil) (alen_cons alen_nil) (Nat.le_refl _))) pj_nil)))
  (bj_cons (sj_if (n_tcmp o2_lt (n_sh 4) ej_int)
  (bj_cons (sj_ret (EJ.frz (ej_bin o2_add (ej_bin o2_add (ej_slice (n_sh 1) oj_none (oj_some (n_sh 3))) (ej_tup (n_ac (n_callS 0 d__law_near hsrc (n_ac (n_idx (n_sh 1) (n_sh 3)) (n_ac (n_sh 2) aj_nil)) (alen_cons (alen_cons alen_nil)) (Nat.le_refl _)) aj_nil))) (ej_slice (n_sh 1) (oj_some (ej_bin o2_add (n_sh 3) ej_int)) oj_none))))
  bj_nil)
  bj_nil)
  (bj_cons (sj_ret (n_callS 0 d__law_of hsrc (n_ac (EJ.frz (ej_lst (n_ac (EJ.frz (ej_bin o2_add (ej_slice (n_sh 1) oj_none (oj_some (n_sh 3))) (ej_slice (n_sh 1) (oj_some (ej_bin o2_add (n_sh 3) ej_int)) oj_none))) (n_ac (EJ.frz (ej_bin o2_add (ej_slice (n_sh 1) oj_none (oj_some (ej_bin o2_add (n_sh 3) ej_int))) (ej_slice (n_sh 1) (oj_some (n_sh 3)) oj_none))) (n_ac (EJ.frz (ej_back (n_sh 1))) (n_ac (EJ.frz (n_typ br_list bo_list b.z_list (n_pc (n_sh 1) pj_nil))) aj_nil)))))) aj_nil) (alen_cons alen_nil) (Nat.le_refl _)))
  bj_nil)))))
def F__law_near : Nat → List D → Tr D
  | 0 => runF 5 true (fun _ => .fail)
  | n + 1 => runF 5 true (g__law_near (F__law_near n))
theorem D__law_near {B : Bx} (b : Bt B) (hsrc : ∃ A L, B.src = some (A, L)) : ∀ n, DefIn B (3 + n) "_law_near" 3 .frz true (F__law_near n)
  | 0 => def_in (kd := kd__law_near) (k := 2) b.f__law_near (fun _ _ _ _ _ _ us hl => match us, hl with | [_, _, _], _ => rfl) sc__law_near rfl (by intro z; cases z) (fun X c F0 H0 F ρ σ H R Q w => w.elim)
  | n + 1 => have D__law_near_n := D__law_near b hsrc n; def_in (k := 3 + n) b.f__law_near (fun _ _ _ _ _ _ us hl => match us, hl with | [_, _, _], _ => rfl) sc__law_near rfl (by intro z; cases z) (J__law_near b hsrc (((D__law_of b hsrc)).lift (by omega)) (((D__law_pick b hsrc)).lift (by omega)) D__law_near_n)

theorem sc__law_fault : FnScope ["n", "row", "value", "told", "lacking", "places", "order", "x", "i", "window"] ["n", "row", "value"] (defScope st__law_fault) := ⟨rfl, rfl, rfl, by decide +kernel, rfl, by decide +kernel, by decide +kernel⟩
def kd__law_fault : Nat → Kd := fun i => match i with
  | _ => .sh
def g__law_fault : SF :=
  (sSeq (sIf (tOr (tNot (tTru (op1 (isaD PyData.isTuple) (vr 2)))) (tOf (op2 notInD (eCall (fn1 reprD) (aCons (slc (vr 2) noPart (part (cn (.int 1)))) aNil)) (eTup (aCons (cn (.str "('full',)")) (aCons (cn (.str "('lacks',)")) aNil))))))
  (sSeq (sRet (eTup (aCons (cn (.str "form")) aNil)))
  sPass)
  sPass)
  (sSeq (sIf (tOf (op2 eqD (op2 idxD (vr 2) (cn (.int 0))) (cn (.str "full"))))
  (sSeq (sSet 3 (eCall F__law_told (aCons (vr 0) (aCons (vr 1) aNil))))
  (sSeq (sSet 4 (eLc (itV (eCall F__law_orders (aCons (vr 0) aNil))) [6] (gN 6) (tOf (op2 notInD (vr 6) (vr 3))) (vr 6)))
  (sSeq (sRet (eIf (tOf (op2 neD (eCall (fn1 lenD) (aCons (vr 2) aNil)) (cn (.int 1)))) (eTup (aCons (cn (.str "form")) aNil)) (eIf (tOf (op2 neD (vr 4) (eLst aNil))) (eTup (aCons (cn (.str "lacks")) (aCons (op2 idxD (vr 4) (cn (.int 0))) aNil))) (cn .none))))
  sPass)))
  sPass)
  (sSeq (sIf (tOr (tOf (op2 neD (eCall (fn1 lenD) (aCons (vr 2) aNil)) (cn (.int 2)))) (tNot (tTru (op1 (isaD PyData.isTuple) (op2 idxD (vr 2) (cn (.int 1)))))))
  (sSeq (sRet (eTup (aCons (cn (.str "form")) aNil)))
  sPass)
  sPass)
  (sSeq (sIf (tOf (op2 neD (eLc (itV (op2 idxD (vr 2) (cn (.int 1)))) [7] (gN 7) (tOr (tNot (tTru (op1 (isaD PyData.isInt) (vr 7)))) (tTru (op1 (isaD PyData.isBool) (vr 7)))) (vr 7)) (eLst aNil)))
  (sSeq (sRet (eTup (aCons (cn (.str "form")) aNil)))
  sPass)
  sPass)
  (sSeq (sIf (tOf (op2 neD (eCall (fn1 sortD2) (aCons (op2 idxD (vr 2) (cn (.int 1))) aNil)) (eLstR (itR1 (aCons (vr 0) aNil)))))
  (sSeq (sRet (eTup (aCons (cn (.str "form")) aNil)))
  sPass)
  sPass)
  (sSeq (sSet 5 (eLc (itV (eCall F__law_windows (aCons (vr 0) (aCons (vr 1) aNil)))) [8, 9] (gT (gsCons (gN 8) (gsCons (gN 9) gsNil))) (tOf (op2 eqD (vr 9) (op2 idxD (vr 2) (cn (.int 1))))) (vr 8)))
  (sSeq (sRet (eIf (tOf (op2 neD (vr 5) (eLst aNil))) (eTup (aCons (cn (.str "there")) (aCons (op2 idxD (vr 5) (cn (.int 0))) aNil))) (cn .none)))
  sPass)))))))
theorem J__law_fault {B : Bx} (b : Bt B) (d__law_told : DefIn B 2 "_law_told" 2 .frz false F__law_told) (d__law_windows : DefIn B 1 "_law_windows" 2 .own false F__law_windows) (d__law_orders : DefIn B 1 "_law_orders" 1 .frz false F__law_orders) : BJ ⟨B, kd__law_fault, none⟩ 2 ["n", "row", "value", "told", "lacking", "places", "order", "x", "i", "window"] (defScope st__law_fault).names .own (defBody st__law_fault) g__law_fault :=
  (bj_cons (sj_if (WJ.tj (wj_or (tj_not (n_tru (n_isa (φ := PyData.isTuple) (fun r h => PySem.W.isinstance_tuple_data r h) bo_tuple b.z_isinstance b.z_tuple (n_sh 2)))) (wj_or1 (n_tcmp o2_notIn (n_blt br_repr bo_repr b.z_repr (n_pc (ej_slice (n_sh 2) oj_none (oj_some ej_int)) pj_nil)) (ej_tup (n_ac (EJ.frz ej_str) (n_ac (EJ.frz ej_str) aj_nil)))))))
  (bj_cons (sj_ret (ej_tup (n_ac (EJ.frz ej_str) aj_nil)))
  bj_nil)
  bj_nil)
  (bj_cons (sj_if (n_tcmp o2_eq (n_idx (n_sh 2) ej_int) ej_str)
  (bj_cons (n_set 3 (n_call d__law_told (n_ac (n_sh 0) (n_ac (n_sh 1) aj_nil)) (alen_cons (alen_cons alen_nil))))
  (bj_cons (n_setLc 4 [("order", 6)] (ij_val (EJ.bor (n_call d__law_orders (n_ac (n_sh 0) aj_nil) (alen_cons alen_nil)))) (n_g 6) (tsj_one (n_tcmp o2_notIn (n_sh 6) (n_sh 3))) (n_sh 6))
  (bj_cons (sj_ret (ej_if (n_tcmp o2_ne (n_blt br_len bo_len b.z_len (n_pc (n_sh 2) pj_nil)) ej_int) (ej_tup (n_ac (EJ.frz ej_str) aj_nil)) (ej_if (n_tcmp o2_ne (n_sh 4) (ej_lst aj_nil)) (ej_tup (n_ac (EJ.frz ej_str) (n_ac (n_idx (n_sh 4) ej_int) aj_nil))) ej_non)))
  bj_nil)))
  bj_nil)
  (bj_cons (sj_if (WJ.tj (wj_or (n_tcmp o2_ne (n_blt br_len bo_len b.z_len (n_pc (n_sh 2) pj_nil)) ej_int) (wj_or1 (tj_not (n_tru (n_isa (φ := PyData.isTuple) (fun r h => PySem.W.isinstance_tuple_data r h) bo_tuple b.z_isinstance b.z_tuple (n_idx (n_sh 2) ej_int)))))))
  (bj_cons (sj_ret (ej_tup (n_ac (EJ.frz ej_str) aj_nil)))
  bj_nil)
  bj_nil)
  (bj_cons (sj_if (n_tcmp o2_ne (n_lc [("x", 7)] (ij_val (EJ.bor (n_idx (n_sh 2) ej_int))) (n_g 7) (tsj_one (WJ.tj (wj_or (tj_not (n_tru (n_isa (φ := PyData.isInt) (fun r h => PySem.W.isinstance_int_data r h) bo_int b.z_isinstance b.z_int (n_sh 7)))) (wj_or1 (n_tru (n_isa (φ := PyData.isBool) (fun r h => PySem.W.isinstance_bool_data r h) bo_bool b.z_isinstance b.z_bool (n_sh 7))))))) (n_sh 7)) (ej_lst aj_nil))
  (bj_cons (sj_ret (ej_tup (n_ac (EJ.frz ej_str) aj_nil)))
  bj_nil)
  bj_nil)
  (bj_cons (sj_if (n_tcmp o2_ne (n_blt br_sorted2 bo_sorted b.z_sorted (n_pc (n_idx (n_sh 2) ej_int) pj_nil)) (n_lstR1 b.z_list b.z_range (n_sh 0)))
  (bj_cons (sj_ret (ej_tup (n_ac (EJ.frz ej_str) aj_nil)))
  bj_nil)
  bj_nil)
  (bj_cons (n_setLc 5 [("i", 8), ("window", 9)] (ij_val (EJ.bor (n_call d__law_windows (n_ac (n_sh 0) (n_ac (n_sh 1) aj_nil)) (alen_cons (alen_cons alen_nil))))) (n_gt (n_gc (n_g 8) (n_gc (n_g 9) gsj_nil)) (glen_cons (glen_cons glen_nil))) (tsj_one (n_tcmp o2_eq (n_sh 9) (n_idx (n_sh 2) ej_int))) (n_sh 8))
  (bj_cons (sj_ret (ej_if (n_tcmp o2_ne (n_sh 5) (ej_lst aj_nil)) (ej_tup (n_ac (EJ.frz ej_str) (n_ac (n_idx (n_sh 5) ej_int) aj_nil))) ej_non))
  bj_nil)))))))
@[irreducible] def F__law_fault : List D → Tr D := runF 10 false g__law_fault
theorem D__law_fault {B : Bx} (b : Bt B) : DefIn B 3 "_law_fault" 3 .own false F__law_fault := by
  unfold F__law_fault
  exact def_in b.f__law_fault (fun _ _ _ _ _ _ us hl => match us, hl with | [_, _, _], _ => rfl) sc__law_fault rfl (by intro z; cases z) (J__law_fault b (D__law_told b) (D__law_windows b) (D__law_orders b))

theorem sc_law : FnScope ["script", "source", "odd", "lap", "n", "row", "k", "told", "kept", "lacking", "due", "order", "values", "value", "shown", "fault", "look"] ["script"] (defScope st_law) := ⟨rfl, rfl, rfl, by decide +kernel, rfl, by decide +kernel, by decide +kernel⟩
def kd_law : Nat → Kd := fun i => match i with
  | _ => .sh
def g_law : SF :=
  (sSeq (sSet 2 (eLst (aCons (cn .none) (aCons (cn (.bool true)) (aCons (cn (.int 0)) (aCons (cn (.int 1)) (aCons (op1 negD (cn (.int 1))) (aCons (cn (.str "full")) (aCons (cn (.str "lacks")) (aCons (eTup aNil) (aCons (eTup (aCons (cn (.int 0)) aNil)) (aCons (eTup (aCons (cn (.int 1)) (aCons (cn (.int 0)) aNil))) (aCons (eTup (aCons (cn (.int 0)) (aCons (cn (.int 1)) (aCons (cn (.int 2)) aNil)))) (aCons (eLst (aCons (cn (.int 0)) aNil)) (aCons (op2 powD (cn (.int 10)) (cn (.int 20))) aNil)))))))))))))))
  (sSeq (sFor (itR1 (aCons (cn (.int 4)) aNil)) (gN 3)
  (sSeq (sSet 4 (op2 addD (cn (.int 1)) (eCall F__law_pick (aCons (cn (.int 4)) aNil))))
  (sSeq (sSet 5 (eCall F__law_row (aCons (vr 4) (aCons (cn (.int 40)) aNil))))
  (sSeq (sIf (tOf (op2 eqD (eCall F__law_pick (aCons (cn (.int 2)) aNil)) (cn (.int 0))))
  (sSeq (sSet 5 (eCall F_told_full_row (aCons (vr 4) aNil)))
  (sSeq (sSet 6 (eCall F__law_pick (aCons (op2 mulD (cn (.int 2)) (eCall (fn1 lenD) (aCons (vr 5) aNil))) aNil)))
  (sSeq (sSet 5 (op2 addD (slc (vr 5) noPart (part (vr 6))) (slc (vr 5) (part (op2 addD (vr 6) (cn (.int 1)))) noPart)))
  sPass)))
  sPass)
  (sSeq (sPar [7, 8] (aCons (eCall F__law_told (aCons (vr 4) (aCons (vr 5) aNil))) (aCons (eCall (fn1 reprD) (aCons (vr 5) aNil)) aNil)))
  (sSeq (sSet 9 (eLc (itV (eCall F__law_orders (aCons (vr 4) aNil))) [11] (gN 11) (tOf (op2 notInD (vr 11) (vr 7))) (vr 11)))
  (sSeq (sSet 10 (eIf (tOf (op2 eqD (vr 9) (eLst aNil))) (eTup (aCons (cn (.str "full")) aNil)) (eTup (aCons (cn (.str "lacks")) (aCons (op2 idxD (vr 9) (op1 negD (cn (.int 1)))) aNil)))))
  (sSeq (sSet 11 (eCall F__law_of (aCons (eCall F__law_orders (aCons (vr 4) aNil)) aNil)))
  (sSeq (sSet 12 (eLst (aCons (vr 10) (aCons (eTup (aCons (cn (.str "full")) aNil)) (aCons (eTup (aCons (cn (.str "lacks")) (aCons (vr 11) aNil))) (aCons (eTup (aCons (cn (.str "lacks")) (aCons (op1 revD (vr 11)) aNil))) (aCons (eTup (aCons (cn (.str "lacks")) (aCons (slc (vr 11) (part (cn (.int 1))) noPart) aNil))) aNil)))))))
  (sSeq (sSet 12 (op2 addD (vr 12) (eLst (aCons (eTup (aCons (cn (.str "lacks")) (aCons (eCall (fn1 listD) (aCons (vr 11) aNil)) aNil))) (aCons (eTup (aCons (cn (.str "full")) (aCons (cn (.int 0)) aNil))) (aCons (eCall (fn1 listD) (aCons (vr 10) aNil)) (aCons (op2 addD (vr 10) (eTup (aCons (cn (.int 0)) aNil))) (aCons (op1 revD (vr 10)) (aCons (cn .none) (aCons (eTup aNil) (aCons (cn (.str "full")) aNil)))))))))))
  (sSeq (sSet 12 (op2 addD (vr 12) (eLst (aCons (eTup (aCons (cn (.str "lacks")) aNil)) (aCons (eTup (aCons (cn (.str "Full")) aNil)) aNil)))))
  (sSeq (sFor (itV (op2 addD (vr 12) (eLc (itR1 (aCons (cn (.int 8)) aNil)) [16] (gN 16) tYesF (eCall (F__law_near 8) (aCons (eCall F__law_of (aCons (slc (vr 12) noPart (part (cn (.int 3)))) aNil)) (aCons (vr 2) aNil)))))) (gN 13)
  (sSeq (sPar [14, 15] (aCons (eCall (fn1 reprD) (aCons (vr 13) aNil)) (aCons (eCall F__law_fault (aCons (vr 4) (aCons (vr 5) (aCons (vr 13) aNil)))) aNil)))
  (sSeq (sIf (tOr (tOf (op2 neD (eCall (fn1 reprD) (aCons (eCall F_judge_full (aCons (vr 4) (aCons (vr 5) (aCons (vr 13) aNil)))) aNil)) (eCall (fn1 reprD) (aCons (vr 15) aNil)))) (tOf (op2 neD (eCall (fn1 reprD) (aCons (vr 13) aNil)) (vr 14))))
  (sSeq (sRet (cn (.bool false)))
  sPass)
  sPass)
  (sSeq (sIf (tAnd (tOf (op2 isD (vr 15) (cn .none))) (tOf (op2 neD (op2 idxD (vr 13) (cn (.int 0))) (op2 idxD (vr 10) (cn (.int 0))))))
  (sSeq (sRet (cn (.bool false)))
  sPass)
  sPass)
  sPass))))
  (sSeq (sIf (tOf (op2 neD (eCall (fn1 reprD) (aCons (vr 5) aNil)) (vr 8)))
  (sSeq (sRet (cn (.bool false)))
  sPass)
  sPass)
  sPass)))))))))))))
  (sSeq (sRet (op2 eqD (eCall F_judge_full (aCons (cn (.int 3)) (aCons (eTup (aCons (cn (.int 0)) (aCons (cn (.int 1)) (aCons (cn (.int 2)) aNil)))) (aCons (eTup (aCons (cn (.str "lacks")) (aCons (eTup (aCons (cn (.int 0)) (aCons (cn (.int 1)) (aCons (cn (.int 2)) aNil)))) aNil))) aNil)))) (eTup (aCons (cn (.str "there")) (aCons (cn (.int 0)) aNil)))))
  sPass)))
theorem J_law {B : Bx} (b : Bt B) (hsrc : ∃ A L, B.src = some (A, L)) (d__law_row : DefIn B 3 "_law_row" 3 .frz true F__law_row) (d__law_of : DefIn B 2 "_law_of" 2 .frz true F__law_of) (d_judge_full : DefIn B 4 "judge_full" 3 .own false F_judge_full) (d__law_pick : DefIn B 1 "_law_pick" 2 .own true F__law_pick) (d_told_full_row : DefIn B 3 "told_full_row" 1 .frz false F_told_full_row) (d__law_told : DefIn B 2 "_law_told" 2 .frz false F__law_told) (d__law_orders : DefIn B 1 "_law_orders" 1 .frz false F__law_orders) (d__law_near : DefIn B 11 "_law_near" 3 .frz true (F__law_near 8)) (d__law_fault : DefIn B 3 "_law_fault" 3 .own false F__law_fault) : BJ ⟨B, kd_law, some 1⟩ 11 ["script", "source", "odd", "lap", "n", "row", "k", "told", "kept", "lacking", "due", "order", "values", "value", "shown", "fault", "look"] (defScope st_law).names .frz (defBody st_law).tail g_law :=
  (bj_cons (n_set 2 (EJ.frz (ej_lst (n_ac (EJ.frz ej_non) (n_ac (EJ.frz ej_bl) (n_ac (EJ.frz ej_int) (n_ac (EJ.frz ej_int) (n_ac (EJ.frz (ej_neg ej_int)) (n_ac (EJ.frz ej_str) (n_ac (EJ.frz ej_str) (n_ac (EJ.frz (ej_tup aj_nil)) (n_ac (EJ.frz (ej_tup (n_ac (EJ.frz ej_int) aj_nil))) (n_ac (EJ.frz (ej_tup (n_ac (EJ.frz ej_int) (n_ac (EJ.frz ej_int) aj_nil)))) (n_ac (EJ.frz (ej_tup (n_ac (EJ.frz ej_int) (n_ac (EJ.frz ej_int) (n_ac (EJ.frz ej_int) aj_nil))))) (n_ac (EJ.frz (ej_lst (n_ac (EJ.frz ej_int) aj_nil))) (n_ac (EJ.frz (ej_bin o2_pow ej_int ej_int)) aj_nil))))))))))))))))
  (bj_cons (n_for (n_r1 b.z_range (n_ac (EJ.frz ej_int) aj_nil)) (n_g 3)
  (bj_cons (n_set 4 (EJ.frz (ej_bin o2_add ej_int (n_callS 1 d__law_pick hsrc (n_ac (EJ.frz ej_int) aj_nil) (alen_cons alen_nil)))))
  (bj_cons (n_set 5 (n_callS 1 d__law_row hsrc (n_ac (n_sh 4) (n_ac (EJ.frz ej_int) aj_nil)) (alen_cons (alen_cons alen_nil))))
  (bj_cons (sj_if (n_tcmp o2_eq (n_callS 1 d__law_pick hsrc (n_ac (EJ.frz ej_int) aj_nil) (alen_cons alen_nil)) ej_int)
  (bj_cons (n_set 5 (n_call d_told_full_row (n_ac (n_sh 4) aj_nil) (alen_cons alen_nil)))
  (bj_cons (n_set 6 (EJ.frz (n_callS 1 d__law_pick hsrc (n_ac (EJ.frz (ej_bin o2_mul ej_int (n_blt br_len bo_len b.z_len (n_pc (n_sh 5) pj_nil)))) aj_nil) (alen_cons alen_nil))))
  (bj_cons (n_set 5 (EJ.frz (ej_bin o2_add (ej_slice (n_sh 5) oj_none (oj_some (n_sh 6))) (ej_slice (n_sh 5) (oj_some (ej_bin o2_add (n_sh 6) ej_int)) oj_none))))
  bj_nil)))
  bj_nil)
  (bj_cons (n_par2 (n_pc (n_call d__law_told (n_ac (n_sh 4) (n_ac (n_sh 5) aj_nil)) (alen_cons (alen_cons alen_nil))) (n_pc (EJ.frz (n_blt br_repr bo_repr b.z_repr (n_pc (n_sh 5) pj_nil))) pj_nil)))
  (bj_cons (n_setLc 9 [("order", 11)] (ij_val (EJ.bor (n_call d__law_orders (n_ac (n_sh 4) aj_nil) (alen_cons alen_nil)))) (n_g 11) (tsj_one (n_tcmp o2_notIn (n_sh 11) (n_sh 7))) (n_sh 11))
  (bj_cons (n_set 10 (EJ.frz (ej_if (n_tcmp o2_eq (n_sh 9) (ej_lst aj_nil)) (ej_tup (n_ac (EJ.frz ej_str) aj_nil)) (ej_tup (n_ac (EJ.frz ej_str) (n_ac (n_idx (n_sh 9) (ej_neg ej_int)) aj_nil))))))
  (bj_cons (n_set 11 (n_callS 1 d__law_of hsrc (n_ac (n_call d__law_orders (n_ac (n_sh 4) aj_nil) (alen_cons alen_nil)) aj_nil) (alen_cons alen_nil)))
  (bj_cons (n_set 12 (EJ.frz (ej_lst (n_ac (n_sh 10) (n_ac (EJ.frz (ej_tup (n_ac (EJ.frz ej_str) aj_nil))) (n_ac (EJ.frz (ej_tup (n_ac (EJ.frz ej_str) (n_ac (n_sh 11) aj_nil)))) (n_ac (EJ.frz (ej_tup (n_ac (EJ.frz ej_str) (n_ac (EJ.frz (ej_back (n_sh 11))) aj_nil)))) (n_ac (EJ.frz (ej_tup (n_ac (EJ.frz ej_str) (n_ac (EJ.frz (ej_slice (n_sh 11) (oj_some ej_int) oj_none)) aj_nil)))) aj_nil))))))))
  (bj_cons (n_set 12 (EJ.frz (ej_bin o2_add (n_sh 12) (ej_lst (n_ac (EJ.frz (ej_tup (n_ac (EJ.frz ej_str) (n_ac (EJ.frz (n_typ br_list bo_list b.z_list (n_pc (n_sh 11) pj_nil))) aj_nil)))) (n_ac (EJ.frz (ej_tup (n_ac (EJ.frz ej_str) (n_ac (EJ.frz ej_int) aj_nil)))) (n_ac (EJ.frz (n_typ br_list bo_list b.z_list (n_pc (n_sh 10) pj_nil))) (n_ac (EJ.frz (ej_bin o2_add (n_sh 10) (ej_tup (n_ac (EJ.frz ej_int) aj_nil)))) (n_ac (EJ.frz (ej_back (n_sh 10))) (n_ac (EJ.frz ej_non) (n_ac (EJ.frz (ej_tup aj_nil)) (n_ac (EJ.frz ej_str) aj_nil))))))))))))
  (bj_cons (n_set 12 (EJ.frz (ej_bin o2_add (n_sh 12) (ej_lst (n_ac (EJ.frz (ej_tup (n_ac (EJ.frz ej_str) aj_nil))) (n_ac (EJ.frz (ej_tup (n_ac (EJ.frz ej_str) aj_nil))) aj_nil))))))
  (bj_cons (n_for (ij_val (EJ.frz (ej_bin o2_add (n_sh 12) (n_lc [("look", 16)] (n_r1 b.z_range (n_ac (EJ.frz ej_int) aj_nil)) (n_g 16) tsj_nil (n_callS 1 d__law_near hsrc (n_ac (n_callS 1 d__law_of hsrc (n_ac (EJ.frz (ej_slice (n_sh 12) oj_none (oj_some ej_int))) aj_nil) (alen_cons alen_nil)) (n_ac (n_sh 2) aj_nil)) (alen_cons (alen_cons alen_nil))))))) (n_g 13)
  (bj_cons (n_par2 (n_pc (EJ.frz (n_blt br_repr bo_repr b.z_repr (n_pc (n_sh 13) pj_nil))) (n_pc (EJ.frz (n_call d__law_fault (n_ac (n_sh 4) (n_ac (n_sh 5) (n_ac (n_sh 13) aj_nil))) (alen_cons (alen_cons (alen_cons alen_nil))))) pj_nil)))
  (bj_cons (sj_if (WJ.tj (wj_or (n_tcmp o2_ne (n_blt br_repr bo_repr b.z_repr (n_pc (n_call d_judge_full (n_ac (n_sh 4) (n_ac (n_sh 5) (n_ac (n_sh 13) aj_nil))) (alen_cons (alen_cons (alen_cons alen_nil)))) pj_nil)) (n_blt br_repr bo_repr b.z_repr (n_pc (n_sh 15) pj_nil))) (wj_or1 (n_tcmp o2_ne (n_blt br_repr bo_repr b.z_repr (n_pc (n_sh 13) pj_nil)) (n_sh 14)))))
  (bj_cons (sj_ret (EJ.frz ej_bl))
  bj_nil)
  bj_nil)
  (bj_cons (sj_if (WJ.tj (wj_and (n_tcmp o2_is (n_sh 15) ej_non) (wj_and1 (n_tcmp o2_ne (n_idx (n_sh 13) ej_int) (n_idx (n_sh 10) ej_int)))))
  (bj_cons (sj_ret (EJ.frz ej_bl))
  bj_nil)
  bj_nil)
  bj_nil))))
  (bj_cons (sj_if (n_tcmp o2_ne (n_blt br_repr bo_repr b.z_repr (n_pc (n_sh 5) pj_nil)) (n_sh 8))
  (bj_cons (sj_ret (EJ.frz ej_bl))
  bj_nil)
  bj_nil)
  bj_nil)))))))))))))
  (bj_cons (sj_ret (EJ.frz (n_cmp o2_eq (n_call d_judge_full (n_ac (EJ.frz ej_int) (n_ac (EJ.frz (ej_tup (n_ac (EJ.frz ej_int) (n_ac (EJ.frz ej_int) (n_ac (EJ.frz ej_int) aj_nil))))) (n_ac (EJ.frz (ej_tup (n_ac (EJ.frz ej_str) (n_ac (EJ.frz (ej_tup (n_ac (EJ.frz ej_int) (n_ac (EJ.frz ej_int) (n_ac (EJ.frz ej_int) aj_nil))))) aj_nil)))) aj_nil))) (alen_cons (alen_cons (alen_cons alen_nil)))) (ej_tup (n_ac (EJ.frz ej_str) (n_ac (EJ.frz ej_int) aj_nil))))))
  bj_nil)))
def lawN : List Str := ["script", "source", "odd", "lap", "n", "row", "k", "told", "kept", "lacking", "due", "order", "values", "value", "shown", "fault", "look"]
def lawK : Nat := 11
theorem Bt.at {B : Bx} (b : Bt B) (A L : Addr) : Bt (B.at A L) := ⟨b.z_abs, b.z_all, b.z_bool, b.z_int, b.z_isinstance, b.z_len, b.z_list, b.z_max, b.z_min, b.z_range, b.z_repr, b.z_sorted, b.z_str, b.z_tuple, b.f_order_places, b.f_orders_told, b.f_orders_ascending, b.f_least_lacking, b.f_is_letter_order, b.f_judge_full, b.f_block_row, b.f_told_full_row, b.f__law_source, b.f__law_pick, b.f__law_of, b.f__law_mixed, b.f__law_orders, b.f__law_windows, b.f__law_told, b.f__law_row, b.f__law_near, b.f__law_fault, b.f_law⟩
theorem rd_law {B : Bx} (b : Bt B) (ok : LawHolds g_law lawN.length) : ∀ X, Ctx ⟨B, fun _ => .sh, none⟩ 11 lawN (defScope st_law).names X → ∀ (H : Hp) (vs : List V) (Q : VK), vs.length = 1 → spLaw B.K vs H Q → rB X (defBody st_law) { nx := fun _ H' => Q .non H', rt := Q } (L2.start lawN vs) H :=
  fun X c H vs Q hl hsp => law_first (rest := (defBody st_law).tail) (g := g_law) (kd := kd_law) c (D_src b) (by decide) rfl rfl rfl rfl rfl (by first | exact .inl rfl | exact .inr rfl) (by first | exact .inr rfl | exact .inl rfl) (fun A L => J_law (b.at A L) ⟨A, L, rfl⟩ (D__law_row (b.at A L) ⟨A, L, rfl⟩) (D__law_of (b.at A L) ⟨A, L, rfl⟩) (D_judge_full (b.at A L)) (D__law_pick (b.at A L) ⟨A, L, rfl⟩) (D_told_full_row (b.at A L)) (D__law_told (b.at A L)) (D__law_orders (b.at A L)) ((D__law_near (b.at A L) ⟨A, L, rfl⟩) 8) (D__law_fault (b.at A L))) ok hl hsp
theorem all_mk {l : PySem.W.OpenLaw} {w : World} {K : PySem.W.Frag} {h : Heap} {mg : Str → Option Value} {fa : Addr} (X : K.In h) (G : h.Ns mainGlobals mg) (hfa : mg "law" = some (.ref fa))
    {f0 f1 f2 f3 f4 f5 f6 f7 f8 f9 f10 f11 f12 f13 f14 f15 f16 f17 f18 : Addr} {od0 an0 od1 an1 od2 an2 od3 an3 od4 an4 od5 an5 od6 an6 od7 an7 od8 an8 od9 an9 od10 an10 od11 an11 od12 an12 od13 an13 od14 an14 od15 an15 od16 an16 od17 an17 od18 an18 : Option Addr} {sl0 sl1 sl2 sl3 sl4 sl5 sl6 sl7 sl8 sl9 sl10 sl11 sl12 sl13 sl14 sl15 sl16 sl17 sl18 : Array (Option Value)} {oc0 kV0 dc0 pm0 cd0 ct0 oc1 kV1 dc1 pm1 cd1 ct1 oc2 kV2 dc2 pm2 cd2 ct2 oc3 kV3 dc3 pm3 cd3 ct3 oc4 kV4 dc4 pm4 cd4 ct4 oc5 kV5 dc5 pm5 cd5 ct5 oc6 kV6 dc6 pm6 cd6 ct6 oc7 kV7 dc7 pm7 cd7 ct7 oc8 kV8 dc8 pm8 cd8 ct8 oc9 kV9 dc9 pm9 cd9 ct9 oc10 kV10 dc10 pm10 cd10 ct10 oc11 kV11 dc11 pm11 cd11 ct11 oc12 kV12 dc12 pm12 cd12 ct12 oc13 kV13 dc13 pm13 cd13 ct13 oc14 kV14 dc14 pm14 cd14 ct14 oc15 kV15 dc15 pm15 cd15 ct15 oc16 kV16 dc16 pm16 cd16 ct16 oc17 kV17 dc17 pm17 cd17 ct17 oc18 kV18 dc18 pm18 cd18 ct18 : Value}
    (a0 : PySem.W.nsIn K mainGlobals "order_places" = some (some (.ref f0))) (l0 : K.lookup f0 = some ⟨oc0, od0, .func (PySem.W.fnOf "order_places" "order_places" (defArgs st_order_places) (defBody st_order_places) (defScope st_order_places) .none kV0 dc0 pm0 an0 cd0 ct0), sl0⟩) (c0 : PySem.W.codeIn K cd0 "order_places" = true) (k0 : PySem.W.keepIn K (.ref f0) = true)
    (a1 : PySem.W.nsIn K mainGlobals "orders_told" = some (some (.ref f1))) (l1 : K.lookup f1 = some ⟨oc1, od1, .func (PySem.W.fnOf "orders_told" "orders_told" (defArgs st_orders_told) (defBody st_orders_told) (defScope st_orders_told) .none kV1 dc1 pm1 an1 cd1 ct1), sl1⟩) (c1 : PySem.W.codeIn K cd1 "orders_told" = true) (k1 : PySem.W.keepIn K (.ref f1) = true)
    (a2 : PySem.W.nsIn K mainGlobals "orders_ascending" = some (some (.ref f2))) (l2 : K.lookup f2 = some ⟨oc2, od2, .func (PySem.W.fnOf "orders_ascending" "orders_ascending" (defArgs st_orders_ascending) (defBody st_orders_ascending) (defScope st_orders_ascending) .none kV2 dc2 pm2 an2 cd2 ct2), sl2⟩) (c2 : PySem.W.codeIn K cd2 "orders_ascending" = true) (k2 : PySem.W.keepIn K (.ref f2) = true)
    (a3 : PySem.W.nsIn K mainGlobals "least_lacking" = some (some (.ref f3))) (l3 : K.lookup f3 = some ⟨oc3, od3, .func (PySem.W.fnOf "least_lacking" "least_lacking" (defArgs st_least_lacking) (defBody st_least_lacking) (defScope st_least_lacking) .none kV3 dc3 pm3 an3 cd3 ct3), sl3⟩) (c3 : PySem.W.codeIn K cd3 "least_lacking" = true) (k3 : PySem.W.keepIn K (.ref f3) = true)
    (a4 : PySem.W.nsIn K mainGlobals "is_letter_order" = some (some (.ref f4))) (l4 : K.lookup f4 = some ⟨oc4, od4, .func (PySem.W.fnOf "is_letter_order" "is_letter_order" (defArgs st_is_letter_order) (defBody st_is_letter_order) (defScope st_is_letter_order) .none kV4 dc4 pm4 an4 cd4 ct4), sl4⟩) (c4 : PySem.W.codeIn K cd4 "is_letter_order" = true) (k4 : PySem.W.keepIn K (.ref f4) = true)
    (a5 : PySem.W.nsIn K mainGlobals "judge_full" = some (some (.ref f5))) (l5 : K.lookup f5 = some ⟨oc5, od5, .func (PySem.W.fnOf "judge_full" "judge_full" (defArgs st_judge_full) (defBody st_judge_full) (defScope st_judge_full) .none kV5 dc5 pm5 an5 cd5 ct5), sl5⟩) (c5 : PySem.W.codeIn K cd5 "judge_full" = true) (k5 : PySem.W.keepIn K (.ref f5) = true)
    (a6 : PySem.W.nsIn K mainGlobals "block_row" = some (some (.ref f6))) (l6 : K.lookup f6 = some ⟨oc6, od6, .func (PySem.W.fnOf "block_row" "block_row" (defArgs st_block_row) (defBody st_block_row) (defScope st_block_row) .none kV6 dc6 pm6 an6 cd6 ct6), sl6⟩) (c6 : PySem.W.codeIn K cd6 "block_row" = true) (k6 : PySem.W.keepIn K (.ref f6) = true)
    (a7 : PySem.W.nsIn K mainGlobals "told_full_row" = some (some (.ref f7))) (l7 : K.lookup f7 = some ⟨oc7, od7, .func (PySem.W.fnOf "told_full_row" "told_full_row" (defArgs st_told_full_row) (defBody st_told_full_row) (defScope st_told_full_row) .none kV7 dc7 pm7 an7 cd7 ct7), sl7⟩) (c7 : PySem.W.codeIn K cd7 "told_full_row" = true) (k7 : PySem.W.keepIn K (.ref f7) = true)
    (a8 : PySem.W.nsIn K mainGlobals "_law_source" = some (some (.ref f8))) (l8 : K.lookup f8 = some ⟨oc8, od8, .func (PySem.W.fnOf "_law_source" "_law_source" (defArgs st__law_source) (defBody st__law_source) (defScope st__law_source) .none kV8 dc8 pm8 an8 cd8 ct8), sl8⟩) (c8 : PySem.W.codeIn K cd8 "_law_source" = true) (k8 : PySem.W.keepIn K (.ref f8) = true)
    (a9 : PySem.W.nsIn K mainGlobals "_law_pick" = some (some (.ref f9))) (l9 : K.lookup f9 = some ⟨oc9, od9, .func (PySem.W.fnOf "_law_pick" "_law_pick" (defArgs st__law_pick) (defBody st__law_pick) (defScope st__law_pick) .none kV9 dc9 pm9 an9 cd9 ct9), sl9⟩) (c9 : PySem.W.codeIn K cd9 "_law_pick" = true) (k9 : PySem.W.keepIn K (.ref f9) = true)
    (a10 : PySem.W.nsIn K mainGlobals "_law_of" = some (some (.ref f10))) (l10 : K.lookup f10 = some ⟨oc10, od10, .func (PySem.W.fnOf "_law_of" "_law_of" (defArgs st__law_of) (defBody st__law_of) (defScope st__law_of) .none kV10 dc10 pm10 an10 cd10 ct10), sl10⟩) (c10 : PySem.W.codeIn K cd10 "_law_of" = true) (k10 : PySem.W.keepIn K (.ref f10) = true)
    (a11 : PySem.W.nsIn K mainGlobals "_law_mixed" = some (some (.ref f11))) (l11 : K.lookup f11 = some ⟨oc11, od11, .func (PySem.W.fnOf "_law_mixed" "_law_mixed" (defArgs st__law_mixed) (defBody st__law_mixed) (defScope st__law_mixed) .none kV11 dc11 pm11 an11 cd11 ct11), sl11⟩) (c11 : PySem.W.codeIn K cd11 "_law_mixed" = true) (k11 : PySem.W.keepIn K (.ref f11) = true)
    (a12 : PySem.W.nsIn K mainGlobals "_law_orders" = some (some (.ref f12))) (l12 : K.lookup f12 = some ⟨oc12, od12, .func (PySem.W.fnOf "_law_orders" "_law_orders" (defArgs st__law_orders) (defBody st__law_orders) (defScope st__law_orders) .none kV12 dc12 pm12 an12 cd12 ct12), sl12⟩) (c12 : PySem.W.codeIn K cd12 "_law_orders" = true) (k12 : PySem.W.keepIn K (.ref f12) = true)
    (a13 : PySem.W.nsIn K mainGlobals "_law_windows" = some (some (.ref f13))) (l13 : K.lookup f13 = some ⟨oc13, od13, .func (PySem.W.fnOf "_law_windows" "_law_windows" (defArgs st__law_windows) (defBody st__law_windows) (defScope st__law_windows) .none kV13 dc13 pm13 an13 cd13 ct13), sl13⟩) (c13 : PySem.W.codeIn K cd13 "_law_windows" = true) (k13 : PySem.W.keepIn K (.ref f13) = true)
    (a14 : PySem.W.nsIn K mainGlobals "_law_told" = some (some (.ref f14))) (l14 : K.lookup f14 = some ⟨oc14, od14, .func (PySem.W.fnOf "_law_told" "_law_told" (defArgs st__law_told) (defBody st__law_told) (defScope st__law_told) .none kV14 dc14 pm14 an14 cd14 ct14), sl14⟩) (c14 : PySem.W.codeIn K cd14 "_law_told" = true) (k14 : PySem.W.keepIn K (.ref f14) = true)
    (a15 : PySem.W.nsIn K mainGlobals "_law_row" = some (some (.ref f15))) (l15 : K.lookup f15 = some ⟨oc15, od15, .func (PySem.W.fnOf "_law_row" "_law_row" (defArgs st__law_row) (defBody st__law_row) (defScope st__law_row) .none kV15 dc15 pm15 an15 cd15 ct15), sl15⟩) (c15 : PySem.W.codeIn K cd15 "_law_row" = true) (k15 : PySem.W.keepIn K (.ref f15) = true)
    (a16 : PySem.W.nsIn K mainGlobals "_law_near" = some (some (.ref f16))) (l16 : K.lookup f16 = some ⟨oc16, od16, .func (PySem.W.fnOf "_law_near" "_law_near" (defArgs st__law_near) (defBody st__law_near) (defScope st__law_near) .none kV16 dc16 pm16 an16 cd16 ct16), sl16⟩) (c16 : PySem.W.codeIn K cd16 "_law_near" = true) (k16 : PySem.W.keepIn K (.ref f16) = true)
    (a17 : PySem.W.nsIn K mainGlobals "_law_fault" = some (some (.ref f17))) (l17 : K.lookup f17 = some ⟨oc17, od17, .func (PySem.W.fnOf "_law_fault" "_law_fault" (defArgs st__law_fault) (defBody st__law_fault) (defScope st__law_fault) .none kV17 dc17 pm17 an17 cd17 ct17), sl17⟩) (c17 : PySem.W.codeIn K cd17 "_law_fault" = true) (k17 : PySem.W.keepIn K (.ref f17) = true)
    (a18 : PySem.W.nsIn K mainGlobals "law" = some (some (.ref f18))) (l18 : K.lookup f18 = some ⟨oc18, od18, .func (PySem.W.fnOf "law" "law" (defArgs st_law) (defBody st_law) (defScope st_law) .none kV18 dc18 pm18 an18 cd18 ct18), sl18⟩) (c18 : PySem.W.codeIn K cd18 "law" = true) (k18 : PySem.W.keepIn K (.ref f18) = true)
   
    (z0 : PySem.W.nsIn K mainGlobals "abs" = some none) (z1 : PySem.W.nsIn K mainGlobals "all" = some none) (z2 : PySem.W.nsIn K mainGlobals "bool" = some none) (z3 : PySem.W.nsIn K mainGlobals "int" = some none) (z4 : PySem.W.nsIn K mainGlobals "isinstance" = some none) (z5 : PySem.W.nsIn K mainGlobals "len" = some none) (z6 : PySem.W.nsIn K mainGlobals "list" = some none) (z7 : PySem.W.nsIn K mainGlobals "max" = some none) (z8 : PySem.W.nsIn K mainGlobals "min" = some none) (z9 : PySem.W.nsIn K mainGlobals "range" = some none) (z10 : PySem.W.nsIn K mainGlobals "repr" = some none) (z11 : PySem.W.nsIn K mainGlobals "sorted" = some none) (z12 : PySem.W.nsIn K mainGlobals "str" = some none) (z13 : PySem.W.nsIn K mainGlobals "tuple" = some none)  (ok : LawHolds g_law lawN.length) :
    ∃ fd : FuncData, (∀ (s : Shared) (v : Value), BindsTo s fd ⟨[v], []⟩ [("script", v)]) ∧ ∀ base : Heap, K.In base → base.Ns mainGlobals mg → FnH ⟨l.prog, w, K, mg, base, none⟩ 12 fa fd ["script"] (spLaw K) := by
  cases hfa.symm.trans (PySem.W.mg_of X G a18)
  refine ⟨_, fun s v => .of_eq (fd := PySem.W.fnOf "law" "law" (defArgs st_law) (defBody st_law) (defScope st_law) .none kV18 dc18 pm18 an18 cd18 ct18) rfl, fun base _ _ => ?_⟩
  exact fun_h (fun_mk l18 c18 k18) sc_law (rd_law ⟨PySem.W.mg_none_of X G z0, PySem.W.mg_none_of X G z1, PySem.W.mg_none_of X G z2, PySem.W.mg_none_of X G z3, PySem.W.mg_none_of X G z4, PySem.W.mg_none_of X G z5, PySem.W.mg_none_of X G z6, PySem.W.mg_none_of X G z7, PySem.W.mg_none_of X G z8, PySem.W.mg_none_of X G z9, PySem.W.mg_none_of X G z10, PySem.W.mg_none_of X G z11, PySem.W.mg_none_of X G z12, PySem.W.mg_none_of X G z13, ⟨_, _, PySem.W.mg_of X G a0, fun_mk l0 c0 k0⟩, ⟨_, _, PySem.W.mg_of X G a1, fun_mk l1 c1 k1⟩, ⟨_, _, PySem.W.mg_of X G a2, fun_mk l2 c2 k2⟩, ⟨_, _, PySem.W.mg_of X G a3, fun_mk l3 c3 k3⟩, ⟨_, _, PySem.W.mg_of X G a4, fun_mk l4 c4 k4⟩, ⟨_, _, PySem.W.mg_of X G a5, fun_mk l5 c5 k5⟩, ⟨_, _, PySem.W.mg_of X G a6, fun_mk l6 c6 k6⟩, ⟨_, _, PySem.W.mg_of X G a7, fun_mk l7 c7 k7⟩, ⟨_, _, PySem.W.mg_of X G a8, fun_mk l8 c8 k8⟩, ⟨_, _, PySem.W.mg_of X G a9, fun_mk l9 c9 k9⟩, ⟨_, _, PySem.W.mg_of X G a10, fun_mk l10 c10 k10⟩, ⟨_, _, PySem.W.mg_of X G a11, fun_mk l11 c11 k11⟩, ⟨_, _, PySem.W.mg_of X G a12, fun_mk l12 c12 k12⟩, ⟨_, _, PySem.W.mg_of X G a13, fun_mk l13 c13 k13⟩, ⟨_, _, PySem.W.mg_of X G a14, fun_mk l14 c14 k14⟩, ⟨_, _, PySem.W.mg_of X G a15, fun_mk l15 c15 k15⟩, ⟨_, _, PySem.W.mg_of X G a16, fun_mk l16 c16 k16⟩, ⟨_, _, PySem.W.mg_of X G a17, fun_mk l17 c17 k17⟩, ⟨_, _, PySem.W.mg_of X G a18, fun_mk l18 c18 k18⟩⟩ ok)
end Pv

set_option maxHeartbeats 4000000
namespace Pv
open PySem PySem.Spec PyProof.Rows L2
@[irreducible] def T_order_places (n_ : Int) (row_ : (List Int)) : Tr (List (Int × (List Int))) :=
  (((((rangeT 0 ((((row_).length : Int) - n_) + (1 : Int)))).bind fun v2 => (need ((v2).length ≤ lim) (.ret ((v2).map (fun (a1 : Int) => (a1, (cutA row_ (some a1) (some (a1 + n_)))))))))).bind fun some_3 => ((lcT (fun (a4 : (Int × (List Int))) => (((need (okSrt PyData.int a4.2 = true ∧ (a4.2).length ≤ lim) (.ret (sortT (leE PyData.int) a4.2)))).bind fun v6 => ((((rangeT 0 n_)).bind fun xs5 => need ((xs5).length ≤ lim) (.ret xs5))).bind fun v7 => .ret (eqT v6 v7))) (fun (a4 : (Int × (List Int))) => .ret (a4.1, a4.2)) some_3).bind fun v8 => need ((v8).length ≤ lim) (.ret v8)))
theorem R_order_places (n_ : Int) (row_ : (List Int)) : RefE (F_order_places [(PyData.int n_), (eT PyData.int row_)]) (T_order_places n_ row_) (eL (eP PyData.int (eT PyData.int))) := by
  unfold F_order_places T_order_places
  refine rrun (ρ0 := [some (PyData.int n_), some (eT PyData.int row_), none, none, none]) rfl ?_
  unfold g_order_places
  refine rset (ea := (eL (eP PyData.int (eT PyData.int)))) (fun some_3 => [some (PyData.int n_), some (eT PyData.int row_), some (eL (eP PyData.int (eT PyData.int)) some_3), none, none]) (rlcem (ea := PyData.int) (ef := (eP PyData.int (eT PyData.int))) (m := (fun (a1 : Int) => (a1, (cutA row_ (some a1) (some (a1 + n_)))))) (fun (a1 : Int) => [some (PyData.int n_), some (eT PyData.int row_), none, some (PyData.int a1), none]) (sr1 (hi := ((((row_).length : Int) - n_) + (1 : Int))) (ac_cons (op2_eq (e := (PyData.int ((((row_).length : Int) - n_) + (1 : Int)))) (op2_eq (e := (PyData.int (((row_).length : Int) - n_))) (pcall (d := (PyData.int ((row_).length : Int))) (ac_cons (pv (d := (eT PyData.int row_)) 1 rfl) ac_nil) (len_T (ea := PyData.int) row_)) (pv (d := (PyData.int n_)) 0 rfl) (sub_I ((row_).length : Int) n_)) (pc (.int 1)) (add_I (((row_).length : Int) - n_) (1 : Int))) ac_nil)) rfl (fun a1 => rfl) (fun a1 => (asE (eP PyData.int (eT PyData.int)) (a1, (cutA row_ (some a1) (some (a1 + n_)))) (ptup (ds := [(PyData.int a1), (eT PyData.int (cutA row_ (some a1) (some (a1 + n_))))]) (ac_cons (pv (d := (PyData.int a1)) 3 rfl) (ac_cons (pslc (pv (d := (eT PyData.int row_)) 1 rfl) (po_some (pv (d := (PyData.int a1)) 3 rfl)) (po_some (op2_eq (e := (PyData.int (a1 + n_))) (pv (d := (PyData.int a1)) 3 rfl) (pv (d := (PyData.int n_)) 0 rfl) (add_I a1 n_))) (sl_T (ea := PyData.int) row_ (some a1) (some (a1 + n_)))) ac_nil)) (show 2 ≤ lim by decide))))) (fun some_3 => rfl) (fun some_3 => ?_)
  exact rretv (rlcpe (ea := (eP PyData.int (eT PyData.int))) (ef := (eP PyData.int (eT PyData.int))) (xs := some_3) (fun (a4 : (Int × (List Int))) => [some (PyData.int n_), some (eT PyData.int row_), some (eL (eP PyData.int (eT PyData.int)) some_3), some (PyData.int a4.1), some (eT PyData.int a4.2)]) (sv_L (ea := (eP PyData.int (eT PyData.int))) (xs := some_3) (pv (d := (eL (eP PyData.int (eT PyData.int)) some_3)) 2 rfl)) rfl (fun a4 => rfl) (fun a4 => (rtof (rop2ee (rcall (ac_cons (pv (d := (eT PyData.int a4.2)) 4 rfl) ac_nil) (sort2_T (ea := PyData.int) a4.2)) (rlstR (sr1 (hi := n_) (ac_cons (pv (d := (PyData.int n_)) 0 rfl) ac_nil))) fun v6 v7 => (rretE (eq_ty (ea := (eL PyData.int)) v6 v7))))) (fun a4 => (rretE (asE (eP PyData.int (eT PyData.int)) (a4.1, a4.2) (ptup (ds := [(PyData.int a4.1), (eT PyData.int a4.2)]) (ac_cons (pv (d := (PyData.int a4.1)) 3 rfl) (ac_cons (pv (d := (eT PyData.int a4.2)) 4 rfl) ac_nil)) (show 2 ≤ lim by decide))))))
@[irreducible] def T_orders_told (n_ : Int) (row_ : (List Int)) : Tr (List (List Int)) :=
  (((((T_order_places n_ row_)).bind fun v10 => dcT (κ := (List Int)) (γ := Bool) (fun (a9 : (Int × (List Int))) => .ret true) (fun (a9 : (Int × (List Int))) => .ret a9.2) (fun (a9 : (Int × (List Int))) => .ret true) v10 [])).bind fun v11 => (need ((v11).length ≤ lim) (.ret ((v11).map (·.1)))))
theorem R_orders_told (n_ : Int) (row_ : (List Int)) : RefE (F_orders_told [(PyData.int n_), (eT PyData.int row_)]) (T_orders_told n_ row_) (eT (eT PyData.int)) := by
  unfold F_orders_told T_orders_told
  refine rrun (ρ0 := [some (PyData.int n_), some (eT PyData.int row_), none, none]) rfl ?_
  unfold g_orders_told
  exact rretv (rcallc (rac (rdce (ea := (eP PyData.int (eT PyData.int))) (ek := (eT PyData.int)) (ev := PyData.bool) (fun (a9 : (Int × (List Int))) => [some (PyData.int n_), some (eT PyData.int row_), some (PyData.int a9.1), some (eT PyData.int a9.2)]) (sve_L (ea := (eP PyData.int (eT PyData.int))) (rcall (ac_cons (pv (d := (PyData.int n_)) 0 rfl) (ac_cons (pv (d := (eT PyData.int row_)) 1 rfl) ac_nil)) (R_order_places n_ row_))) rfl (fun a9 => rfl) (fun a9 => yesB) (fun a9 => (rretE (e := (eT PyData.int)) (pv (d := (eT PyData.int a9.2)) 3 rfl))) (fun a9 => (rretE (e := PyData.bool) (pc (.bool true))))) fun v11 => (ranil (tup2_M (ea := (eT PyData.int)) (ev := PyData.bool) v11))))
@[irreducible] def T_orders_ascending (n_ : Int) : Tr (List (List Int)) :=
  (((rangeT 0 n_)).bind fun xs25 => (forS (fun (s12 : (List (List Int))) (a16 : Int) => ((forS (fun (s17 : (List (List Int))) (a19 : (List Int)) => (((((rangeT 0 n_)).bind fun v22 => ((lcT (fun (a20 : Int) => .ret (!memT a20 a19)) (fun (a20 : Int) => (need (((a19 ++ (a20 :: ([] : (List Int))))).length ≤ lim) (.ret (a19 ++ (a20 :: ([] : (List Int))))))) v22).bind fun v21 => need ((v21).length ≤ lim) (.ret v21)))).bind fun v23 => need ((s17).length + (v23).length ≤ lim) (.ret (s17 ++ v23)))) s12 ([] : (List (List Int)))).bind fun s17 => .ret s17)) xs25 ([([] : (List Int))] : (List (List Int)))).bind fun s12 => .ret s12)
theorem R_orders_ascending (n_ : Int) : RefE (F_orders_ascending [(PyData.int n_)]) (T_orders_ascending n_) (eL (eT PyData.int)) := by
  unfold F_orders_ascending T_orders_ascending
  refine rrun (ρ0 := [some (PyData.int n_), none, none, none, none, none]) rfl ?_
  unfold g_orders_ascending
  refine rsetp (v := (eL (eT PyData.int) ([([] : (List Int))] : (List (List Int))))) (ρ' := [some (PyData.int n_), some (eL (eT PyData.int) ([([] : (List Int))] : (List (List Int)))), none, none, none, none]) (asE (eL (eT PyData.int)) ([([] : (List Int))] : (List (List Int))) (plst (ds := [(eT PyData.int ([] : (List Int)))]) (ac_cons (asE (eT PyData.int) ([] : (List Int)) (ptup (ds := []) ac_nil (show 0 ≤ lim by decide))) ac_nil) (show 1 ≤ lim by decide))) rfl ?_
  refine rfore (ea := PyData.int) (σ := (List (List Int))) (fun (s12 : (List (List Int))) ρ => ∃ j13 j14 j15 : Option D, ρ = [some (PyData.int n_), some (eL (eT PyData.int) s12), j13, j14, j15, none]) ([([] : (List Int))] : (List (List Int))) (sr1 (hi := n_) (ac_cons (pv (d := (PyData.int n_)) 0 rfl) ac_nil)) ⟨_, _, _, rfl⟩ (fun s12 a16 ρ h => ?_) (fun s12 ρ h => ?_)
  · obtain ⟨j13, j14, j15, rfl⟩ := h
    refine rpure (b := [some (PyData.int n_), some (eL (eT PyData.int) s12), some (PyData.int a16), j14, j15, none]) rfl ?_
    refine rsetp (v := (eL (eT PyData.int) ([] : (List (List Int))))) (ρ' := [some (PyData.int n_), some (eL (eT PyData.int) s12), some (PyData.int a16), some (eL (eT PyData.int) ([] : (List (List Int)))), j15, none]) (asE (eL (eT PyData.int)) ([] : (List (List Int))) (plst (ds := []) ac_nil (show 0 ≤ lim by decide))) rfl ?_
    refine rforp (ea := (eT PyData.int)) (σ := (List (List Int))) (fun (s17 : (List (List Int))) ρ => ∃ j18 : Option D, ρ = [some (PyData.int n_), some (eL (eT PyData.int) s12), some (PyData.int a16), some (eL (eT PyData.int) s17), j18, none]) ([] : (List (List Int))) (sv_L (ea := (eT PyData.int)) (xs := s12) (pv (d := (eL (eT PyData.int) s12)) 1 rfl)) ⟨_, rfl⟩ (fun s17 a19 ρ h => ?_) (fun s17 ρ h => ?_)
    · obtain ⟨j18, rfl⟩ := h
      refine rpure (b := [some (PyData.int n_), some (eL (eT PyData.int) s12), some (PyData.int a16), some (eL (eT PyData.int) s17), some (eT PyData.int a19), none]) rfl ?_
      refine rexte (ea := (eT PyData.int)) (xs := s17) (fun v23 => [some (PyData.int n_), some (eL (eT PyData.int) s12), some (PyData.int a16), some (eL (eT PyData.int) (s17 ++ v23)), some (eT PyData.int a19), none]) rfl (rlcee (ea := PyData.int) (ef := (eT PyData.int)) (fun (a20 : Int) => [some (PyData.int n_), some (eL (eT PyData.int) s12), some (PyData.int a16), some (eL (eT PyData.int) s17), some (eT PyData.int a19), some (PyData.int a20)]) (sr1 (hi := n_) (ac_cons (pv (d := (PyData.int n_)) 0 rfl) ac_nil)) rfl (fun a20 => rfl) (fun a20 => (rretB (tof_eq (op2_eq (e := (PyData.bool (!memT a20 a19))) (pv (d := (PyData.int a20)) 5 rfl) (pv (d := (eT PyData.int a19)) 4 rfl) (notIn_T (ea := PyData.int) a20 a19))))) (fun a20 => (rtupS (ea := PyData.int) (at_star (ea := PyData.int) (pv (d := (eT PyData.int a19)) 4 rfl) (sqd_T (ea := PyData.int) a19) (at_cons (ea := PyData.int) (v := a20) (pv (d := (PyData.int a20)) 5 rfl) (at_nil (ea := PyData.int))))))) (fun v23 => rfl) (fun v23 => ?_)
      exact rend ⟨_, rfl, _, rfl⟩
    obtain ⟨j18, rfl⟩ := h
    refine rsetp (v := (eL (eT PyData.int) s17)) (ρ' := [some (PyData.int n_), some (eL (eT PyData.int) s17), some (PyData.int a16), some (eL (eT PyData.int) s17), j18, none]) (pcall (d := (eL (eT PyData.int) s17)) (ac_cons (pv (d := (eL (eT PyData.int) s17)) 3 rfl) ac_nil) (lst_L (ea := (eT PyData.int)) s17)) rfl ?_
    exact rend ⟨_, rfl, _, _, _, rfl⟩
  obtain ⟨j13, j14, j15, rfl⟩ := h
  exact rretp (ea := (eL (eT PyData.int))) (v := s12) (pv (d := (eL (eT PyData.int) s12)) 1 rfl) ⟨_, rfl⟩
@[irreducible] def T_least_lacking (n_ : Int) (row_ : (List Int)) : Tr (Option (List Int)) :=
  (((((T_orders_told n_ row_)).bind fun v27 => dcT (κ := (List Int)) (γ := Bool) (fun (a26 : (List Int)) => .ret true) (fun (a26 : (List Int)) => .ret a26) (fun (a26 : (List Int)) => .ret true) v27 [])).bind fun known_28 => (((((T_orders_ascending n_)).bind fun v30 => (need ((((v30).filter (fun (a29 : (List Int)) => (!(getK known_28 a29).isSome))).map (fun (a29 : (List Int)) => a29)).length ≤ lim) (.ret (((v30).filter (fun (a29 : (List Int)) => (!(getK known_28 a29).isSome))).map (fun (a29 : (List Int)) => a29)))))).bind fun some_31 => (if (!eqT some_31 ([] : (List (List Int)))) then (((getT some_31 (0 : Int))).bind fun v32 => .ret (some v32)) else .ret (none : (Option (List Int))))))
theorem R_least_lacking (n_ : Int) (row_ : (List Int)) : RefE (F_least_lacking [(PyData.int n_), (eT PyData.int row_)]) (T_least_lacking n_ row_) (eO (eT PyData.int)) := by
  unfold F_least_lacking T_least_lacking
  refine rrun (ρ0 := [some (PyData.int n_), some (eT PyData.int row_), none, none, none]) rfl ?_
  unfold g_least_lacking
  refine rset (ea := (eM (eT PyData.int) PyData.bool)) (fun known_28 => [some (PyData.int n_), some (eT PyData.int row_), some (eM (eT PyData.int) PyData.bool known_28), none, none]) (rdce (ea := (eT PyData.int)) (ek := (eT PyData.int)) (ev := PyData.bool) (fun (a26 : (List Int)) => [some (PyData.int n_), some (eT PyData.int row_), none, none, some (eT PyData.int a26)]) (sve_T (ea := (eT PyData.int)) (rcall (ac_cons (pv (d := (PyData.int n_)) 0 rfl) (ac_cons (pv (d := (eT PyData.int row_)) 1 rfl) ac_nil)) (R_orders_told n_ row_))) rfl (fun a26 => rfl) (fun a26 => yesB) (fun a26 => (rretE (e := (eT PyData.int)) (pv (d := (eT PyData.int a26)) 4 rfl))) (fun a26 => (rretE (e := PyData.bool) (pc (.bool true))))) (fun known_28 => rfl) (fun known_28 => ?_)
  refine rset (ea := (eL (eT PyData.int))) (fun some_31 => [some (PyData.int n_), some (eT PyData.int row_), some (eM (eT PyData.int) PyData.bool known_28), some (eL (eT PyData.int) some_31), none]) (rlcep (ea := (eT PyData.int)) (ef := (eT PyData.int)) (p := (fun (a29 : (List Int)) => (!(getK known_28 a29).isSome))) (m := (fun (a29 : (List Int)) => a29)) (fun (a29 : (List Int)) => [some (PyData.int n_), some (eT PyData.int row_), some (eM (eT PyData.int) PyData.bool known_28), none, some (eT PyData.int a29)]) (sve_L (ea := (eT PyData.int)) (rcall (ac_cons (pv (d := (PyData.int n_)) 0 rfl) ac_nil) (R_orders_ascending n_))) rfl (fun a29 => rfl) (fun a29 => (tof_eq (op2_eq (e := (PyData.bool (!(getK known_28 a29).isSome))) (pv (d := (eT PyData.int a29)) 4 rfl) (pv (d := (eM (eT PyData.int) PyData.bool known_28)) 2 rfl) (notIn_M (ek := (eT PyData.int)) a29 known_28)))) (fun a29 => (pv (d := (eT PyData.int a29)) 4 rfl))) (fun some_31 => rfl) (fun some_31 => ?_)
  exact rretv (reifp (tof_eq (op2_eq (e := (PyData.bool (!eqT some_31 ([] : (List (List Int)))))) (pv (d := (eL (eT PyData.int) some_31)) 3 rfl) (asE (eL (eT PyData.int)) ([] : (List (List Int))) (plst (ds := []) ac_nil (show 0 ≤ lim by decide))) (ne_ty (ea := (eL (eT PyData.int))) some_31 ([] : (List (List Int)))))) (rtoO (rop2pp (pv (d := (eL (eT PyData.int) some_31)) 3 rfl) (pc (.int 0)) (ix_L (ea := (eT PyData.int)) some_31 (0 : Int)))) (rretE (pc .none)))
@[irreducible] def T_is_letter_order (n_ : Int) (value_ : D) : Tr Bool :=
  (((((((((isaT PyData.isTuple value_)).bind fun v33 => .ret v33)).bind fun v34 => .ret (!v34))).bind fun v36 => if v36 then .ret true else (((lenD value_)).bind fun v35 => (neXT v35 (PyData.int n_))))).bind fun v50 => if v50 then .ret false else (((((((((((seqOf value_)).bind fun v41 => ((lcT (fun (a37 : D) => .ret true) (fun (a37 : D) => (((isaT PyData.isInt a37)).bind fun v39 => if v39 then (((isaT PyData.isBool a37)).bind fun v38 => .ret (!v38)) else .ret false)) v41).bind fun v40 => need ((v40).length ≤ lim) (.ret v40)))).bind fun v42 => .ret (List.all v42 id))).bind fun v43 => .ret v43)).bind fun v44 => .ret (!v44))).bind fun v49 => if v49 then .ret false else (((sortD2 value_)).bind fun v47 => ((((((rangeT 0 n_)).bind fun xs45 => need ((xs45).length ≤ lim) (.ret xs45))).bind fun v46 => .ret (eL PyData.int v46))).bind fun v48 => (eqXT v47 v48))))
theorem R_is_letter_order (n_ : Int) (value_ : D) : RefE (F_is_letter_order [(PyData.int n_), value_]) (T_is_letter_order n_ value_) PyData.bool := by
  unfold F_is_letter_order T_is_letter_order
  refine rrun (ρ0 := [some (PyData.int n_), some value_, none]) rfl ?_
  unfold g_is_letter_order
  refine rife (rtore (rtnot (rtru (rop1p (pv (d := value_) 1 rfl) (isaX PyData.isTuple value_)) fun v33 => (tru_B v33))) (rtof (rop2ep (rcall (ac_cons (pv (d := value_) 1 rfl) ac_nil) rX) (pv (d := (PyData.int n_)) 0 rfl) fun v35 => (neX v35 (PyData.int n_))))) ?_ ?_
  · refine rassoc ?_
    exact rretp (ea := PyData.bool) (v := false) (pc (.bool false)) ⟨_, rfl⟩
  · refine rpass ?_
    refine rife (rtnot (rtru (rcallc (rac (rlcee (ea := eX) (ef := PyData.bool) (fun (a37 : D) => [some (PyData.int n_), some value_, some a37]) (svX (pv (d := value_) 1 rfl)) rfl (fun a37 => rfl) (fun a37 => yesB) (fun a37 => (reande (rop1p (pv (d := a37) 2 rfl) (isaX PyData.isInt a37)) (renot (rop1p (pv (d := a37) 2 rfl) (isaX PyData.isBool a37)))))) fun v42 => (ranil (rretE (all_B v42))))) fun v43 => (tru_B v43))) ?_ ?_
    · refine rassoc ?_
      exact rretp (ea := PyData.bool) (v := false) (pc (.bool false)) ⟨_, rfl⟩
    · refine rpass ?_
      exact rretv (rop2ee (rcall (ac_cons (pv (d := value_) 1 rfl) ac_nil) rX) (rtoX (rlstR (sr1 (hi := n_) (ac_cons (pv (d := (PyData.int n_)) 0 rfl) ac_nil)))) fun v47 v48 => (eqX v47 v48))
@[irreducible] def T_judge_full (n_ : Int) (row_ : (List Int)) (value_ : D) : Tr D :=
  (((((((((isaT PyData.isTuple value_)).bind fun v51 => .ret v51)).bind fun v52 => .ret (!v52))).bind fun v57 => if v57 then .ret true else (((eqXT value_ (PyData.tuple []))).bind fun v56 => if v56 then .ret true else (((((((idxD value_ (PyData.int (0 : Int)))).bind fun v53 => (isaT PyData.isStr v53))).bind fun v54 => .ret v54)).bind fun v55 => .ret (!v55))))).bind fun v75 => if v75 then .ret (PyData.tuple [(PyData.str ("form" : Str))]) else (((eqXT value_ (PyData.tuple [(PyData.str ("full" : Str))]))).bind fun v74 => if v74 then (((T_least_lacking n_ row_)).bind fun order_58 => .ret (if (!(order_58).isNone) then (PyData.tuple [(PyData.str ("lacks" : Str)), (eO (eT PyData.int) order_58)]) else PyData.none)) else (((((((idxD value_ (PyData.int (0 : Int)))).bind fun v59 => (neXT v59 (PyData.str ("lacks" : Str))))).bind fun v65 => if v65 then .ret true else (((((lenD value_)).bind fun v60 => (neXT v60 (PyData.int (2 : Int))))).bind fun v64 => if v64 then .ret true else (((((((idxD value_ (PyData.int (1 : Int)))).bind fun v61 => (T_is_letter_order n_ v61))).bind fun v62 => .ret v62)).bind fun v63 => .ret (!v63))))).bind fun v73 => if v73 then .ret (PyData.tuple [(PyData.str ("form" : Str))]) else (((((T_order_places n_ row_)).bind fun v69 => ((lcT (fun (a66 : (Int × (List Int))) => (((idxD value_ (PyData.int (1 : Int)))).bind fun v67 => (eqXT (eT PyData.int a66.2) v67))) (fun (a66 : (Int × (List Int))) => .ret a66.1) v69).bind fun v68 => need ((v68).length ≤ lim) (.ret v68)))).bind fun places_70 => (if (!eqT places_70 ([] : (List Int))) then (((((getT places_70 (0 : Int))).bind fun v71 => .ret (PyData.int v71))).bind fun v72 => .ret (PyData.tuple [(PyData.str ("there" : Str)), v72])) else .ret PyData.none)))))
theorem R_judge_full (n_ : Int) (row_ : (List Int)) (value_ : D) : RefE (F_judge_full [(PyData.int n_), (eT PyData.int row_), value_]) (T_judge_full n_ row_ value_) eX := by
  unfold F_judge_full T_judge_full
  refine rrun (ρ0 := [some (PyData.int n_), some (eT PyData.int row_), some value_, none, none, none]) rfl ?_
  unfold g_judge_full
  refine rife (rtore (rtnot (rtru (rop1p (pv (d := value_) 2 rfl) (isaX PyData.isTuple value_)) fun v51 => (tru_B v51))) (rtore (rtof (rop2pp (pv (d := value_) 2 rfl) (ptup (ds := []) ac_nil (show 0 ≤ lim by decide)) (eqX value_ (PyData.tuple [])))) (rtnot (rtru (rop1e (rop2pp (pv (d := value_) 2 rfl) (pc (.int 0)) rX) fun v53 => (isaX PyData.isStr v53)) fun v54 => (tru_B v54))))) ?_ ?_
  · refine rassoc ?_
    exact rretp (ea := eX) (v := (PyData.tuple [(PyData.str ("form" : Str))])) (ptup (ds := [(PyData.str ("form" : Str))]) (ac_cons (pc (.str "form")) ac_nil) (show 1 ≤ lim by decide)) ⟨_, rfl⟩
  · refine rpass ?_
    refine rife (rtof (rop2pp (pv (d := value_) 2 rfl) (ptup (ds := [(PyData.str ("full" : Str))]) (ac_cons (pc (.str "full")) ac_nil) (show 1 ≤ lim by decide)) (eqX value_ (PyData.tuple [(PyData.str ("full" : Str))])))) ?_ ?_
    · refine rassoc ?_
      refine rset (ea := (eO (eT PyData.int))) (fun order_58 => [some (PyData.int n_), some (eT PyData.int row_), some value_, some (eO (eT PyData.int) order_58), none, none]) (rcall (ac_cons (pv (d := (PyData.int n_)) 0 rfl) (ac_cons (pv (d := (eT PyData.int row_)) 1 rfl) ac_nil)) (R_least_lacking n_ row_)) (fun order_58 => rfl) (fun order_58 => ?_)
      refine rassoc ?_
      exact rretp (ea := eX) (v := (if (!(order_58).isNone) then (PyData.tuple [(PyData.str ("lacks" : Str)), (eO (eT PyData.int) order_58)]) else PyData.none)) (peif (ea := eX) (v := (PyData.tuple [(PyData.str ("lacks" : Str)), (eO (eT PyData.int) order_58)])) (w := PyData.none) (tof_eq (op2_eq (e := (PyData.bool (!(order_58).isNone))) (pv (d := (eO (eT PyData.int) order_58)) 3 rfl) (pc .none) (isNot_O (ea := (eT PyData.int)) order_58))) (ptup (ds := [(PyData.str ("lacks" : Str)), (eO (eT PyData.int) order_58)]) (ac_cons (pc (.str "lacks")) (ac_cons (pv (d := (eO (eT PyData.int) order_58)) 3 rfl) ac_nil)) (show 2 ≤ lim by decide)) (pc .none)) ⟨_, rfl⟩
    · refine rpass ?_
      refine rife (rtore (rtof (rop2ep (rop2pp (pv (d := value_) 2 rfl) (pc (.int 0)) rX) (pc (.str "lacks")) fun v59 => (neX v59 (PyData.str ("lacks" : Str))))) (rtore (rtof (rop2ep (rcall (ac_cons (pv (d := value_) 2 rfl) ac_nil) rX) (pc (.int 2)) fun v60 => (neX v60 (PyData.int (2 : Int))))) (rtnot (rtru (rcallc (racp (pv (d := (PyData.int n_)) 0 rfl) (rac (rop2pp (pv (d := value_) 2 rfl) (pc (.int 1)) rX) fun v61 => (ranil (R_is_letter_order n_ v61))))) fun v62 => (tru_B v62))))) ?_ ?_
      · refine rassoc ?_
        exact rretp (ea := eX) (v := (PyData.tuple [(PyData.str ("form" : Str))])) (ptup (ds := [(PyData.str ("form" : Str))]) (ac_cons (pc (.str "form")) ac_nil) (show 1 ≤ lim by decide)) ⟨_, rfl⟩
      · refine rpass ?_
        refine rset (ea := (eL PyData.int)) (fun places_70 => [some (PyData.int n_), some (eT PyData.int row_), some value_, none, some (eL PyData.int places_70), none]) (rlcee (ea := (eP PyData.int (eT PyData.int))) (ef := PyData.int) (fun (a66 : (Int × (List Int))) => [some (PyData.int n_), some (eT PyData.int row_), some value_, some (eT PyData.int a66.2), none, some (PyData.int a66.1)]) (sve_L (ea := (eP PyData.int (eT PyData.int))) (rcall (ac_cons (pv (d := (PyData.int n_)) 0 rfl) (ac_cons (pv (d := (eT PyData.int row_)) 1 rfl) ac_nil)) (R_order_places n_ row_))) rfl (fun a66 => rfl) (fun a66 => (rtof (rop2pe (pv (d := (eT PyData.int a66.2)) 3 rfl) (rop2pp (pv (d := value_) 2 rfl) (pc (.int 1)) rX) fun v67 => (eqX (eT PyData.int a66.2) v67)))) (fun a66 => (rretE (pv (d := (PyData.int a66.1)) 5 rfl)))) (fun places_70 => rfl) (fun places_70 => ?_)
        exact rretv (reifp (tof_eq (op2_eq (e := (PyData.bool (!eqT places_70 ([] : (List Int))))) (pv (d := (eL PyData.int places_70)) 4 rfl) (asE (eL PyData.int) ([] : (List Int)) (plst (ds := []) ac_nil (show 0 ≤ lim by decide))) (ne_ty (ea := (eL PyData.int)) places_70 ([] : (List Int))))) (rtupc (racp (pc (.str "there")) (rac (rtoX (rop2pp (pv (d := (eL PyData.int places_70)) 4 rfl) (pc (.int 0)) (ix_L (ea := PyData.int) places_70 (0 : Int)))) fun v72 => (ranil (rneedT (show 2 ≤ lim by decide) (rretE rfl)))))) (rretE (pc .none)))
@[irreducible] def T_block_row (blocks_ : (List (List Int))) : Tr (List Int) :=
  ((forS (fun (s76 : (List Int)) (a79 : (List Int)) => ((whileS (fun (s80 : Int) => .ret (!eqT (cutA s76 (some (((s76).length : Int) - s80)) none) (cutA a79 none (some s80)))) (fun (s80 : Int) => .ret (s80 - (1 : Int))) fuel (min2 ((s76).length : Int) ((a79).length : Int))).bind fun s80 => (((need ((s76).length + ((cutA a79 (some s80) none)).length ≤ lim) (.ret (s76 ++ (cutA a79 (some s80) none))))).bind fun found_81 => .ret found_81))) blocks_ ([] : (List Int))).bind fun s76 => .ret s76)
theorem R_block_row (blocks_ : (List (List Int))) : RefE (F_block_row [(eL (eT PyData.int) blocks_)]) (T_block_row blocks_) (eT PyData.int) := by
  unfold F_block_row T_block_row
  refine rrun (ρ0 := [some (eL (eT PyData.int) blocks_), none, none, none]) rfl ?_
  unfold g_block_row
  refine rsetp (v := (eT PyData.int ([] : (List Int)))) (ρ' := [some (eL (eT PyData.int) blocks_), some (eT PyData.int ([] : (List Int))), none, none]) (asE (eT PyData.int) ([] : (List Int)) (ptup (ds := []) ac_nil (show 0 ≤ lim by decide))) rfl ?_
  refine rforp (ea := (eT PyData.int)) (σ := (List Int)) (fun (s76 : (List Int)) ρ => ∃ j77 j78 : Option D, ρ = [some (eL (eT PyData.int) blocks_), some (eT PyData.int s76), j77, j78]) ([] : (List Int)) (sv_L (ea := (eT PyData.int)) (xs := blocks_) (pv (d := (eL (eT PyData.int) blocks_)) 0 rfl)) ⟨_, _, rfl⟩ (fun s76 a79 ρ h => ?_) (fun s76 ρ h => ?_)
  · obtain ⟨j77, j78, rfl⟩ := h
    refine rpure (b := [some (eL (eT PyData.int) blocks_), some (eT PyData.int s76), some (eT PyData.int a79), j78]) rfl ?_
    refine rsetp (v := (PyData.int (min2 ((s76).length : Int) ((a79).length : Int)))) (ρ' := [some (eL (eT PyData.int) blocks_), some (eT PyData.int s76), some (eT PyData.int a79), some (PyData.int (min2 ((s76).length : Int) ((a79).length : Int)))]) (pcall (d := (PyData.int (min2 ((s76).length : Int) ((a79).length : Int)))) (ac_cons (pcall (d := (PyData.int ((s76).length : Int))) (ac_cons (pv (d := (eT PyData.int s76)) 1 rfl) ac_nil) (len_T (ea := PyData.int) s76)) (ac_cons (pcall (d := (PyData.int ((a79).length : Int))) (ac_cons (pv (d := (eT PyData.int a79)) 2 rfl) ac_nil) (len_T (ea := PyData.int) a79)) ac_nil)) (min_I ((s76).length : Int) ((a79).length : Int))) rfl ?_
    refine rwhile (σ := Int) (fun (s80 : Int) ρ => ρ = [some (eL (eT PyData.int) blocks_), some (eT PyData.int s76), some (eT PyData.int a79), some (PyData.int s80)]) (min2 ((s76).length : Int) ((a79).length : Int)) rfl (fun s80 ρ h => ?_) (fun s80 ρ h => ?_) (fun s80 ρ h => ?_)
    · subst h
      exact (rretB (tof_eq (op2_eq (e := (PyData.bool (!eqT (cutA s76 (some (((s76).length : Int) - s80)) none) (cutA a79 none (some s80))))) (pslc (pv (d := (eT PyData.int s76)) 1 rfl) (po_some (op2_eq (e := (PyData.int (((s76).length : Int) - s80))) (pcall (d := (PyData.int ((s76).length : Int))) (ac_cons (pv (d := (eT PyData.int s76)) 1 rfl) ac_nil) (len_T (ea := PyData.int) s76)) (pv (d := (PyData.int s80)) 3 rfl) (sub_I ((s76).length : Int) s80))) po_none (sl_T (ea := PyData.int) s76 (some (((s76).length : Int) - s80)) none)) (pslc (pv (d := (eT PyData.int a79)) 2 rfl) po_none (po_some (pv (d := (PyData.int s80)) 3 rfl)) (sl_T (ea := PyData.int) a79 none (some s80))) (ne_ty (ea := (eT PyData.int)) (cutA s76 (some (((s76).length : Int) - s80)) none) (cutA a79 none (some s80))))))
    · subst h
      refine rsetp (v := (PyData.int (s80 - (1 : Int)))) (ρ' := [some (eL (eT PyData.int) blocks_), some (eT PyData.int s76), some (eT PyData.int a79), some (PyData.int (s80 - (1 : Int)))]) (op2_eq (e := (PyData.int (s80 - (1 : Int)))) (pv (d := (PyData.int s80)) 3 rfl) (pc (.int 1)) (sub_I s80 (1 : Int))) rfl ?_
      exact rend ⟨_, rfl, rfl⟩
    subst h
    refine rset (ea := (eT PyData.int)) (fun found_81 => [some (eL (eT PyData.int) blocks_), some (eT PyData.int found_81), some (eT PyData.int a79), some (PyData.int s80)]) (rop2pp (pv (d := (eT PyData.int s76)) 1 rfl) (pslc (pv (d := (eT PyData.int a79)) 2 rfl) (po_some (pv (d := (PyData.int s80)) 3 rfl)) po_none (sl_T (ea := PyData.int) a79 (some s80) none)) (cat_T (ea := PyData.int) s76 (cutA a79 (some s80) none))) (fun found_81 => rfl) (fun found_81 => ?_)
    exact rend ⟨_, rfl, _, _, rfl⟩
  obtain ⟨j77, j78, rfl⟩ := h
  exact rretp (ea := (eT PyData.int)) (v := s76) (pv (d := (eT PyData.int s76)) 1 rfl) ⟨_, rfl⟩
@[irreducible] def T_told_full_row (n_ : Int) : Tr (List Int) :=
  (((rangeT (1 : Int) n_)).bind fun xs91 => (forS (fun (s83 : (List Int)) (a85 : Int) => (((((((T_orders_told a85 s83)).bind fun v88 => ((lcT (fun (a86 : (List Int)) => .ret true) (fun (a86 : (List Int)) => (need (((a86 ++ (a85 :: (a86 ++ ([] : (List Int)))))).length ≤ lim) (.ret (a86 ++ (a85 :: (a86 ++ ([] : (List Int)))))))) v88).bind fun v87 => need ((v87).length ≤ lim) (.ret v87)))).bind fun v89 => (T_block_row v89))).bind fun found_90 => .ret found_90)) xs91 ([(0 : Int)] : (List Int))).bind fun s83 => .ret s83)
theorem R_told_full_row (n_ : Int) : RefE (F_told_full_row [(PyData.int n_)]) (T_told_full_row n_) (eT PyData.int) := by
  unfold F_told_full_row T_told_full_row
  refine rrun (ρ0 := [some (PyData.int n_), none, none, none]) rfl ?_
  unfold g_told_full_row
  refine rsetp (v := (eT PyData.int ([(0 : Int)] : (List Int)))) (ρ' := [some (PyData.int n_), some (eT PyData.int ([(0 : Int)] : (List Int))), none, none]) (asE (eT PyData.int) ([(0 : Int)] : (List Int)) (ptup (ds := [(PyData.int (0 : Int))]) (ac_cons (pc (.int 0)) ac_nil) (show 1 ≤ lim by decide))) rfl ?_
  refine rfore (ea := PyData.int) (σ := (List Int)) (fun (s83 : (List Int)) ρ => ∃ j84 : Option D, ρ = [some (PyData.int n_), some (eT PyData.int s83), j84, none]) ([(0 : Int)] : (List Int)) (sr2 (lo := (1 : Int)) (hi := n_) (ac_cons (pc (.int 1)) (ac_cons (pv (d := (PyData.int n_)) 0 rfl) ac_nil))) ⟨_, rfl⟩ (fun s83 a85 ρ h => ?_) (fun s83 ρ h => ?_)
  · obtain ⟨j84, rfl⟩ := h
    refine rpure (b := [some (PyData.int n_), some (eT PyData.int s83), some (PyData.int a85), none]) rfl ?_
    refine rset (ea := (eT PyData.int)) (fun found_90 => [some (PyData.int n_), some (eT PyData.int found_90), some (PyData.int a85), none]) (rcallc (rac (rlcee (ea := (eT PyData.int)) (ef := (eT PyData.int)) (fun (a86 : (List Int)) => [some (PyData.int n_), some (eT PyData.int s83), some (PyData.int a85), some (eT PyData.int a86)]) (sve_T (ea := (eT PyData.int)) (rcall (ac_cons (pv (d := (PyData.int a85)) 2 rfl) (ac_cons (pv (d := (eT PyData.int s83)) 1 rfl) ac_nil)) (R_orders_told a85 s83))) rfl (fun a86 => rfl) (fun a86 => yesB) (fun a86 => (rtupS (ea := PyData.int) (at_star (ea := PyData.int) (pv (d := (eT PyData.int a86)) 3 rfl) (sqd_T (ea := PyData.int) a86) (at_cons (ea := PyData.int) (v := a85) (pv (d := (PyData.int a85)) 2 rfl) (at_star (ea := PyData.int) (pv (d := (eT PyData.int a86)) 3 rfl) (sqd_T (ea := PyData.int) a86) (at_nil (ea := PyData.int)))))))) fun v89 => (ranil (R_block_row v89)))) (fun found_90 => rfl) (fun found_90 => ?_)
    exact rend ⟨_, rfl, _, rfl⟩
  obtain ⟨j84, rfl⟩ := h
  exact rretp (ea := (eT PyData.int)) (v := s83) (pv (d := (eT PyData.int s83)) 1 rfl) ⟨_, rfl⟩
@[irreducible] def T__law_of (some_ : (List D)) : Tr D :=
  (((pickT ((some_).length : Int))).bind fun v92 => (getT some_ v92))
theorem R__law_of (some_ : (List D)) : RefE (F__law_of [(eL eX some_)]) (T__law_of some_) eX := by
  unfold F__law_of T__law_of
  refine rrun (ρ0 := [none, some (eL eX some_)]) rfl ?_
  unfold g__law_of
  exact rretv (rop2pe (pv (d := (eL eX some_)) 1 rfl) (rcall (ac_cons (pcall (d := (PyData.int ((some_).length : Int))) (ac_cons (pv (d := (eL eX some_)) 1 rfl) ac_nil) (len_L (ea := eX) some_)) ac_nil) (pick_T ((some_).length : Int))) fun v92 => (ix_L (ea := eX) some_ v92))
@[irreducible] def T__law_of_L (some_ : (List (List Int))) : Tr (List Int) :=
  (((pickT ((some_).length : Int))).bind fun v93 => (getT some_ v93))
theorem R__law_of_L (some_ : (List (List Int))) : RefE (F__law_of [(eL (eT PyData.int) some_)]) (T__law_of_L some_) (eT PyData.int) := by
  unfold F__law_of T__law_of_L
  refine rrun (ρ0 := [none, some (eL (eT PyData.int) some_)]) rfl ?_
  unfold g__law_of
  exact rretv (rop2pe (pv (d := (eL (eT PyData.int) some_)) 1 rfl) (rcall (ac_cons (pcall (d := (PyData.int ((some_).length : Int))) (ac_cons (pv (d := (eL (eT PyData.int) some_)) 1 rfl) ac_nil) (len_L (ea := (eT PyData.int)) some_)) ac_nil) (pick_T ((some_).length : Int))) fun v93 => (ix_L (ea := (eT PyData.int)) some_ v93))
@[irreducible] def T__law_mixed (things_ : (List Int)) : Tr (List Int) :=
  (need ((things_).length ≤ 1000) ((drainT (things_).length things_).bind fun ys => .ret ys))
theorem R__law_mixed (things_ : (List Int)) : RefE (F__law_mixed [(eL PyData.int things_)]) (T__law_mixed things_) (eL PyData.int) := by
  unfold F__law_mixed T__law_mixed
  refine rrun (ρ0 := [none, some (eL PyData.int things_), none, none]) rfl ?_
  unfold g__law_mixed
  refine rsetp (v := (eL PyData.int things_)) (ρ' := [none, some (eL PyData.int things_), some (eL PyData.int things_), none]) (pcall (d := (eL PyData.int things_)) (ac_cons (pv (d := (eL PyData.int things_)) 1 rfl) ac_nil) (lst_L (ea := PyData.int) things_)) rfl ?_
  exact rdrain (ea := PyData.int) (i := 2) (xs := things_) (fun ys => ys) rfl (sr1 (hi := ((things_).length : Int)) (ac_cons (pcall (d := (PyData.int ((things_).length : Int))) (ac_cons (pv (d := (eL PyData.int things_)) 2 rfl) ac_nil) (len_L (ea := PyData.int) things_)) ac_nil)) (fun ρ b xs h => ⟨_, rfl, rcall (ac_cons (pcall (d := .int (xs.length : Int)) (ac_cons (pv (d := eL PyData.int xs) 2 (drain_at h (by decide))) ac_nil) (len_L (ea := PyData.int) xs)) ac_nil) (pick_T _)⟩) (fun ys ρ' => ⟨_, rfl⟩)
@[irreducible] def T__law_orders (n_ : Int) : Tr (List (List Int)) :=
  (((rangeT 0 n_)).bind fun xs108 => (forS (fun (s94 : (List (List Int))) (a98 : Int) => ((forS (fun (s99 : (List (List Int))) (a101 : (List Int)) => (((((((rangeT 0 n_)).bind fun v104 => ((lcT (fun (a102 : Int) => .ret (!memT a102 a101)) (fun (a102 : Int) => (need ((a101).length + (([a102] : (List Int))).length ≤ lim) (.ret (a101 ++ ([a102] : (List Int)))))) v104).bind fun v103 => need ((v103).length ≤ lim) (.ret v103)))).bind fun v105 => (need ((s99).length + (v105).length ≤ lim) (.ret (s99 ++ v105))))).bind fun late_106 => .ret late_106)) s94 ([] : (List (List Int)))).bind fun s99 => .ret s99)) xs108 ([([] : (List Int))] : (List (List Int)))).bind fun s94 => .ret s94)
theorem R__law_orders (n_ : Int) : RefE (F__law_orders [(PyData.int n_)]) (T__law_orders n_) (eL (eT PyData.int)) := by
  unfold F__law_orders T__law_orders
  refine rrun (ρ0 := [some (PyData.int n_), none, none, none, none, none]) rfl ?_
  unfold g__law_orders
  refine rsetp (v := (eL (eT PyData.int) ([([] : (List Int))] : (List (List Int))))) (ρ' := [some (PyData.int n_), some (eL (eT PyData.int) ([([] : (List Int))] : (List (List Int)))), none, none, none, none]) (asE (eL (eT PyData.int)) ([([] : (List Int))] : (List (List Int))) (plst (ds := [(eT PyData.int ([] : (List Int)))]) (ac_cons (asE (eT PyData.int) ([] : (List Int)) (ptup (ds := []) ac_nil (show 0 ≤ lim by decide))) ac_nil) (show 1 ≤ lim by decide))) rfl ?_
  refine rfore (ea := PyData.int) (σ := (List (List Int))) (fun (s94 : (List (List Int))) ρ => ∃ j95 j96 j97 : Option D, ρ = [some (PyData.int n_), some (eL (eT PyData.int) s94), j95, j96, j97, none]) ([([] : (List Int))] : (List (List Int))) (sr1 (hi := n_) (ac_cons (pv (d := (PyData.int n_)) 0 rfl) ac_nil)) ⟨_, _, _, rfl⟩ (fun s94 a98 ρ h => ?_) (fun s94 ρ h => ?_)
  · obtain ⟨j95, j96, j97, rfl⟩ := h
    refine rpure (b := [some (PyData.int n_), some (eL (eT PyData.int) s94), some (PyData.int a98), j96, j97, none]) rfl ?_
    refine rsetp (v := (eL (eT PyData.int) ([] : (List (List Int))))) (ρ' := [some (PyData.int n_), some (eL (eT PyData.int) s94), some (PyData.int a98), some (eL (eT PyData.int) ([] : (List (List Int)))), j97, none]) (asE (eL (eT PyData.int)) ([] : (List (List Int))) (plst (ds := []) ac_nil (show 0 ≤ lim by decide))) rfl ?_
    refine rforp (ea := (eT PyData.int)) (σ := (List (List Int))) (fun (s99 : (List (List Int))) ρ => ∃ j100 : Option D, ρ = [some (PyData.int n_), some (eL (eT PyData.int) s94), some (PyData.int a98), some (eL (eT PyData.int) s99), j100, none]) ([] : (List (List Int))) (sv_L (ea := (eT PyData.int)) (xs := s94) (pv (d := (eL (eT PyData.int) s94)) 1 rfl)) ⟨_, rfl⟩ (fun s99 a101 ρ h => ?_) (fun s99 ρ h => ?_)
    · obtain ⟨j100, rfl⟩ := h
      refine rpure (b := [some (PyData.int n_), some (eL (eT PyData.int) s94), some (PyData.int a98), some (eL (eT PyData.int) s99), some (eT PyData.int a101), none]) rfl ?_
      refine rset (ea := (eL (eT PyData.int))) (fun late_106 => [some (PyData.int n_), some (eL (eT PyData.int) s94), some (PyData.int a98), some (eL (eT PyData.int) late_106), some (eT PyData.int a101), none]) (rop2pe (pv (d := (eL (eT PyData.int) s99)) 3 rfl) (rlcee (ea := PyData.int) (ef := (eT PyData.int)) (fun (a102 : Int) => [some (PyData.int n_), some (eL (eT PyData.int) s94), some (PyData.int a98), some (eL (eT PyData.int) s99), some (eT PyData.int a101), some (PyData.int a102)]) (sr1 (hi := n_) (ac_cons (pv (d := (PyData.int n_)) 0 rfl) ac_nil)) rfl (fun a102 => rfl) (fun a102 => (rretB (tof_eq (op2_eq (e := (PyData.bool (!memT a102 a101))) (pv (d := (PyData.int a102)) 5 rfl) (pv (d := (eT PyData.int a101)) 4 rfl) (notIn_T (ea := PyData.int) a102 a101))))) (fun a102 => (rop2pp (pv (d := (eT PyData.int a101)) 4 rfl) (asE (eT PyData.int) ([a102] : (List Int)) (ptup (ds := [(PyData.int a102)]) (ac_cons (pv (d := (PyData.int a102)) 5 rfl) ac_nil) (show 1 ≤ lim by decide))) (cat_T (ea := PyData.int) a101 ([a102] : (List Int)))))) fun v105 => (cat_L (ea := (eT PyData.int)) s99 v105)) (fun late_106 => rfl) (fun late_106 => ?_)
      exact rend ⟨_, rfl, _, rfl⟩
    obtain ⟨j100, rfl⟩ := h
    refine rsetp (v := (eL (eT PyData.int) s99)) (ρ' := [some (PyData.int n_), some (eL (eT PyData.int) s99), some (PyData.int a98), some (eL (eT PyData.int) s99), j100, none]) (pv (d := (eL (eT PyData.int) s99)) 3 rfl) rfl ?_
    exact rend ⟨_, rfl, _, _, _, rfl⟩
  obtain ⟨j95, j96, j97, rfl⟩ := h
  exact rretp (ea := (eL (eT PyData.int))) (v := s94) (pv (d := (eL (eT PyData.int) s94)) 1 rfl) ⟨_, rfl⟩
@[irreducible] def T__law_windows (n_ : Int) (row_ : (List Int)) : Tr (List (Int × (List Int))) :=
  (((((rangeT 0 ((((row_).length : Int) - n_) + (1 : Int)))).bind fun v110 => (need ((v110).length ≤ lim) (.ret ((v110).map (fun (a109 : Int) => (a109, (cutA row_ (some a109) (some (a109 + n_)))))))))).bind fun some_111 => ((lcT (fun (a112 : (Int × (List Int))) => (((need (okSrt PyData.int a112.2 = true ∧ (a112.2).length ≤ lim) (.ret (sortT (leE PyData.int) a112.2)))).bind fun v114 => ((((rangeT 0 n_)).bind fun xs113 => need ((xs113).length ≤ lim) (.ret xs113))).bind fun v115 => .ret (eqT v114 v115))) (fun (a112 : (Int × (List Int))) => .ret (a112.1, a112.2)) some_111).bind fun v116 => need ((v116).length ≤ lim) (.ret v116)))
theorem R__law_windows (n_ : Int) (row_ : (List Int)) : RefE (F__law_windows [(PyData.int n_), (eT PyData.int row_)]) (T__law_windows n_ row_) (eL (eP PyData.int (eT PyData.int))) := by
  unfold F__law_windows T__law_windows
  refine rrun (ρ0 := [some (PyData.int n_), some (eT PyData.int row_), none, none, none]) rfl ?_
  unfold g__law_windows
  refine rset (ea := (eL (eP PyData.int (eT PyData.int)))) (fun some_111 => [some (PyData.int n_), some (eT PyData.int row_), some (eL (eP PyData.int (eT PyData.int)) some_111), none, none]) (rlcem (ea := PyData.int) (ef := (eP PyData.int (eT PyData.int))) (m := (fun (a109 : Int) => (a109, (cutA row_ (some a109) (some (a109 + n_)))))) (fun (a109 : Int) => [some (PyData.int n_), some (eT PyData.int row_), none, some (PyData.int a109), none]) (sr1 (hi := ((((row_).length : Int) - n_) + (1 : Int))) (ac_cons (op2_eq (e := (PyData.int ((((row_).length : Int) - n_) + (1 : Int)))) (op2_eq (e := (PyData.int (((row_).length : Int) - n_))) (pcall (d := (PyData.int ((row_).length : Int))) (ac_cons (pv (d := (eT PyData.int row_)) 1 rfl) ac_nil) (len_T (ea := PyData.int) row_)) (pv (d := (PyData.int n_)) 0 rfl) (sub_I ((row_).length : Int) n_)) (pc (.int 1)) (add_I (((row_).length : Int) - n_) (1 : Int))) ac_nil)) rfl (fun a109 => rfl) (fun a109 => (asE (eP PyData.int (eT PyData.int)) (a109, (cutA row_ (some a109) (some (a109 + n_)))) (ptup (ds := [(PyData.int a109), (eT PyData.int (cutA row_ (some a109) (some (a109 + n_))))]) (ac_cons (pv (d := (PyData.int a109)) 3 rfl) (ac_cons (pslc (pv (d := (eT PyData.int row_)) 1 rfl) (po_some (pv (d := (PyData.int a109)) 3 rfl)) (po_some (op2_eq (e := (PyData.int (a109 + n_))) (pv (d := (PyData.int a109)) 3 rfl) (pv (d := (PyData.int n_)) 0 rfl) (add_I a109 n_))) (sl_T (ea := PyData.int) row_ (some a109) (some (a109 + n_)))) ac_nil)) (show 2 ≤ lim by decide))))) (fun some_111 => rfl) (fun some_111 => ?_)
  exact rretv (rlcpe (ea := (eP PyData.int (eT PyData.int))) (ef := (eP PyData.int (eT PyData.int))) (xs := some_111) (fun (a112 : (Int × (List Int))) => [some (PyData.int n_), some (eT PyData.int row_), some (eL (eP PyData.int (eT PyData.int)) some_111), some (PyData.int a112.1), some (eT PyData.int a112.2)]) (sv_L (ea := (eP PyData.int (eT PyData.int))) (xs := some_111) (pv (d := (eL (eP PyData.int (eT PyData.int)) some_111)) 2 rfl)) rfl (fun a112 => rfl) (fun a112 => (rtof (rop2ee (rcall (ac_cons (pv (d := (eT PyData.int a112.2)) 4 rfl) ac_nil) (sort2_T (ea := PyData.int) a112.2)) (rlstR (sr1 (hi := n_) (ac_cons (pv (d := (PyData.int n_)) 0 rfl) ac_nil))) fun v114 v115 => (rretE (eq_ty (ea := (eL PyData.int)) v114 v115))))) (fun a112 => (rretE (asE (eP PyData.int (eT PyData.int)) (a112.1, a112.2) (ptup (ds := [(PyData.int a112.1), (eT PyData.int a112.2)]) (ac_cons (pv (d := (PyData.int a112.1)) 3 rfl) (ac_cons (pv (d := (eT PyData.int a112.2)) 4 rfl) ac_nil)) (show 2 ≤ lim by decide))))))
@[irreducible] def T__law_told (n_ : Int) (row_ : (List Int)) : Tr (List (List Int)) :=
  (((T__law_windows n_ row_)).bind fun xs123 => (forS (fun (s117 : (List (List Int))) (a120 : (Int × (List Int))) => (((((need (-(2 ^ 63) ≤ (b2i (!memT a120.2 s117)) ∧ (b2i (!memT a120.2 s117)) < 2 ^ 63 ∧ (([a120.2] : (List (List Int)))).length * ((b2i (!memT a120.2 s117))).toNat ≤ lim) (.ret (List.replicate ((b2i (!memT a120.2 s117))).toNat ([a120.2] : (List (List Int)))).flatten))).bind fun v121 => (need ((s117).length + (v121).length ≤ lim) (.ret (s117 ++ v121))))).bind fun found_122 => .ret found_122)) xs123 ([] : (List (List Int)))).bind fun s117 => .ret s117)
theorem R__law_told (n_ : Int) (row_ : (List Int)) : RefE (F__law_told [(PyData.int n_), (eT PyData.int row_)]) (T__law_told n_ row_) (eL (eT PyData.int)) := by
  unfold F__law_told T__law_told
  refine rrun (ρ0 := [some (PyData.int n_), some (eT PyData.int row_), none, none, none]) rfl ?_
  unfold g__law_told
  refine rsetp (v := (eL (eT PyData.int) ([] : (List (List Int))))) (ρ' := [some (PyData.int n_), some (eT PyData.int row_), some (eL (eT PyData.int) ([] : (List (List Int)))), none, none]) (asE (eL (eT PyData.int)) ([] : (List (List Int))) (plst (ds := []) ac_nil (show 0 ≤ lim by decide))) rfl ?_
  refine rfore (ea := (eP PyData.int (eT PyData.int))) (σ := (List (List Int))) (fun (s117 : (List (List Int))) ρ => ∃ j118 j119 : Option D, ρ = [some (PyData.int n_), some (eT PyData.int row_), some (eL (eT PyData.int) s117), j118, j119]) ([] : (List (List Int))) (sve_L (ea := (eP PyData.int (eT PyData.int))) (rcall (ac_cons (pv (d := (PyData.int n_)) 0 rfl) (ac_cons (pv (d := (eT PyData.int row_)) 1 rfl) ac_nil)) (R__law_windows n_ row_))) ⟨_, _, rfl⟩ (fun s117 a120 ρ h => ?_) (fun s117 ρ h => ?_)
  · obtain ⟨j118, j119, rfl⟩ := h
    refine rpure (b := [some (PyData.int n_), some (eT PyData.int row_), some (eL (eT PyData.int) s117), some (PyData.int a120.1), some (eT PyData.int a120.2)]) rfl ?_
    refine rset (ea := (eL (eT PyData.int))) (fun found_122 => [some (PyData.int n_), some (eT PyData.int row_), some (eL (eT PyData.int) found_122), some (PyData.int a120.1), some (eT PyData.int a120.2)]) (rop2pe (pv (d := (eL (eT PyData.int) s117)) 2 rfl) (rop2pp (asE (eL (eT PyData.int)) ([a120.2] : (List (List Int))) (plst (ds := [(eT PyData.int a120.2)]) (ac_cons (pv (d := (eT PyData.int a120.2)) 4 rfl) ac_nil) (show 1 ≤ lim by decide))) (pcall (d := (PyData.int (b2i (!memT a120.2 s117)))) (ac_cons (op2_eq (e := (PyData.bool (!memT a120.2 s117))) (pv (d := (eT PyData.int a120.2)) 4 rfl) (pv (d := (eL (eT PyData.int) s117)) 2 rfl) (notIn_L (ea := (eT PyData.int)) a120.2 s117)) ac_nil) (int_B (!memT a120.2 s117))) (rep_L (ea := (eT PyData.int)) ([a120.2] : (List (List Int))) (b2i (!memT a120.2 s117)))) fun v121 => (cat_L (ea := (eT PyData.int)) s117 v121)) (fun found_122 => rfl) (fun found_122 => ?_)
    exact rend ⟨_, rfl, _, _, rfl⟩
  obtain ⟨j118, j119, rfl⟩ := h
  exact rretp (ea := (eL (eT PyData.int))) (v := s117) (pv (d := (eL (eT PyData.int) s117)) 2 rfl) ⟨_, rfl⟩
@[irreducible] def T__law_row (n_ : Int) (many_ : Int) : Tr (List Int) :=
  (((((((pickT (4 : Int))).bind fun v124 => .ret (decide ((0 : Int) < v124)))).bind fun v128 => if v128 then (((((((rangeT 0 n_)).bind fun xs125 => need ((xs125).length ≤ lim) (.ret xs125))).bind fun v126 => (T__law_mixed v126))).bind fun v127 => .ret v127) else .ret ([] : (List Int)))).bind fun row_129 => (((((pickT (many_ + (1 : Int)))).bind fun v130 => rangeT 0 v130)).bind fun xs146 => (forS (fun (s131 : (List Int)) (a134 : Int) => (((pickT (8 : Int))).bind fun way_135 => (if ((decide (((s131).length : Int) < n_)) || (eqT way_135 (0 : Int))) then (((((((pickT n_)).bind fun v136 => .ret ([v136] : (List Int)))).bind fun v137 => (need ((s131).length + (v137).length ≤ lim) (.ret (s131 ++ v137))))).bind fun row_138 => .ret row_138) else (if ((decide (way_135 < (6 : Int))) || (eqT n_ (1 : Int))) then (((((((getT s131 (((s131).length : Int) - n_))).bind fun v139 => .ret ([v139] : (List Int)))).bind fun v140 => (need ((s131).length + (v140).length ≤ lim) (.ret (s131 ++ v140))))).bind fun row_141 => .ret row_141) else (((((((getT s131 ((((s131).length : Int) - n_) + (1 : Int)))).bind fun v142 => (((getT s131 (((s131).length : Int) - n_))).bind fun v143 => .ret ([v142, v143] : (List Int))))).bind fun v144 => (need ((s131).length + (v144).length ≤ lim) (.ret (s131 ++ v144))))).bind fun row_145 => .ret row_145))))) xs146 row_129).bind fun s131 => .ret s131))
theorem R__law_row (n_ : Int) (many_ : Int) : RefE (F__law_row [(PyData.int n_), (PyData.int many_)]) (T__law_row n_ many_) (eT PyData.int) := by
  unfold F__law_row T__law_row
  refine rrun (ρ0 := [none, some (PyData.int n_), some (PyData.int many_), none, none, none]) rfl ?_
  unfold g__law_row
  refine rset (ea := (eT PyData.int)) (fun row_129 => [none, some (PyData.int n_), some (PyData.int many_), some (eT PyData.int row_129), none, none]) (reife (rtof (rop2ep (rcall (ac_cons (pc (.int 4)) ac_nil) (pick_T (4 : Int))) (pc (.int 0)) fun v124 => (rretE (gt_I v124 (0 : Int))))) (rcallc (rac (rcallc (rac (rlstR (sr1 (hi := n_) (ac_cons (pv (d := (PyData.int n_)) 1 rfl) ac_nil))) fun v126 => (ranil (R__law_mixed v126)))) fun v127 => (ranil (rretE (tup2_L (ea := PyData.int) v127))))) (rretE (asE (eT PyData.int) ([] : (List Int)) (ptup (ds := []) ac_nil (show 0 ≤ lim by decide))))) (fun row_129 => rfl) (fun row_129 => ?_)
  refine rfore (ea := PyData.int) (σ := (List Int)) (fun (s131 : (List Int)) ρ => ∃ j132 j133 : Option D, ρ = [none, some (PyData.int n_), some (PyData.int many_), some (eT PyData.int s131), j132, j133]) row_129 (sr1e (rcall (ac_cons (op2_eq (e := (PyData.int (many_ + (1 : Int)))) (pv (d := (PyData.int many_)) 2 rfl) (pc (.int 1)) (add_I many_ (1 : Int))) ac_nil) (pick_T (many_ + (1 : Int))))) ⟨_, _, rfl⟩ (fun s131 a134 ρ h => ?_) (fun s131 ρ h => ?_)
  · obtain ⟨j132, j133, rfl⟩ := h
    refine rpure (b := [none, some (PyData.int n_), some (PyData.int many_), some (eT PyData.int s131), some (PyData.int a134), j133]) rfl ?_
    refine rset (ea := PyData.int) (fun way_135 => [none, some (PyData.int n_), some (PyData.int many_), some (eT PyData.int s131), some (PyData.int a134), some (PyData.int way_135)]) (rcall (ac_cons (pc (.int 8)) ac_nil) (pick_T (8 : Int))) (fun way_135 => rfl) (fun way_135 => ?_)
    refine rifp (ptor (tof_eq (op2_eq (e := (PyData.bool (decide (((s131).length : Int) < n_)))) (pcall (d := (PyData.int ((s131).length : Int))) (ac_cons (pv (d := (eT PyData.int s131)) 3 rfl) ac_nil) (len_T (ea := PyData.int) s131)) (pv (d := (PyData.int n_)) 1 rfl) (lt_I ((s131).length : Int) n_))) (tof_eq (op2_eq (e := (PyData.bool (eqT way_135 (0 : Int)))) (pv (d := (PyData.int way_135)) 5 rfl) (pc (.int 0)) (eq_ty (ea := PyData.int) way_135 (0 : Int))))) ?_ ?_
    · refine rassoc ?_
      refine rset (ea := (eT PyData.int)) (fun row_138 => [none, some (PyData.int n_), some (PyData.int many_), some (eT PyData.int row_138), some (PyData.int a134), some (PyData.int way_135)]) (rop2pe (pv (d := (eT PyData.int s131)) 3 rfl) (rtupc (rac (rcall (ac_cons (pv (d := (PyData.int n_)) 1 rfl) ac_nil) (pick_T n_)) fun v136 => (ranil (rneedT (show 1 ≤ lim by decide) (rretE (e := (eT PyData.int)) rfl))))) fun v137 => (cat_T (ea := PyData.int) s131 v137)) (fun row_138 => rfl) (fun row_138 => ?_)
      refine rpass ?_
      exact rend ⟨_, rfl, _, _, rfl⟩
    · refine rassoc ?_
      refine rifp (ptor (tof_eq (op2_eq (e := (PyData.bool (decide (way_135 < (6 : Int))))) (pv (d := (PyData.int way_135)) 5 rfl) (pc (.int 6)) (lt_I way_135 (6 : Int)))) (tof_eq (op2_eq (e := (PyData.bool (eqT n_ (1 : Int)))) (pv (d := (PyData.int n_)) 1 rfl) (pc (.int 1)) (eq_ty (ea := PyData.int) n_ (1 : Int))))) ?_ ?_
      · refine rassoc ?_
        refine rset (ea := (eT PyData.int)) (fun row_141 => [none, some (PyData.int n_), some (PyData.int many_), some (eT PyData.int row_141), some (PyData.int a134), some (PyData.int way_135)]) (rop2pe (pv (d := (eT PyData.int s131)) 3 rfl) (rtupc (rac (rop2pp (pv (d := (eT PyData.int s131)) 3 rfl) (op2_eq (e := (PyData.int (((s131).length : Int) - n_))) (pcall (d := (PyData.int ((s131).length : Int))) (ac_cons (pv (d := (eT PyData.int s131)) 3 rfl) ac_nil) (len_T (ea := PyData.int) s131)) (pv (d := (PyData.int n_)) 1 rfl) (sub_I ((s131).length : Int) n_)) (ix_T (ea := PyData.int) s131 (((s131).length : Int) - n_))) fun v139 => (ranil (rneedT (show 1 ≤ lim by decide) (rretE (e := (eT PyData.int)) rfl))))) fun v140 => (cat_T (ea := PyData.int) s131 v140)) (fun row_141 => rfl) (fun row_141 => ?_)
        refine rpass ?_
        refine rpass ?_
        exact rend ⟨_, rfl, _, _, rfl⟩
      · refine rassoc ?_
        refine rset (ea := (eT PyData.int)) (fun row_145 => [none, some (PyData.int n_), some (PyData.int many_), some (eT PyData.int row_145), some (PyData.int a134), some (PyData.int way_135)]) (rop2pe (pv (d := (eT PyData.int s131)) 3 rfl) (rtupc (rac (rop2pp (pv (d := (eT PyData.int s131)) 3 rfl) (op2_eq (e := (PyData.int ((((s131).length : Int) - n_) + (1 : Int)))) (op2_eq (e := (PyData.int (((s131).length : Int) - n_))) (pcall (d := (PyData.int ((s131).length : Int))) (ac_cons (pv (d := (eT PyData.int s131)) 3 rfl) ac_nil) (len_T (ea := PyData.int) s131)) (pv (d := (PyData.int n_)) 1 rfl) (sub_I ((s131).length : Int) n_)) (pc (.int 1)) (add_I (((s131).length : Int) - n_) (1 : Int))) (ix_T (ea := PyData.int) s131 ((((s131).length : Int) - n_) + (1 : Int)))) fun v142 => (rac (rop2pp (pv (d := (eT PyData.int s131)) 3 rfl) (op2_eq (e := (PyData.int (((s131).length : Int) - n_))) (pcall (d := (PyData.int ((s131).length : Int))) (ac_cons (pv (d := (eT PyData.int s131)) 3 rfl) ac_nil) (len_T (ea := PyData.int) s131)) (pv (d := (PyData.int n_)) 1 rfl) (sub_I ((s131).length : Int) n_)) (ix_T (ea := PyData.int) s131 (((s131).length : Int) - n_))) fun v143 => (ranil (rneedT (show 2 ≤ lim by decide) (rretE (e := (eT PyData.int)) rfl)))))) fun v144 => (cat_T (ea := PyData.int) s131 v144)) (fun row_145 => rfl) (fun row_145 => ?_)
        refine rpass ?_
        refine rpass ?_
        exact rend ⟨_, rfl, _, _, rfl⟩
  obtain ⟨j132, j133, rfl⟩ := h
  exact rretp (ea := (eT PyData.int)) (v := s131) (pv (d := (eT PyData.int s131)) 3 rfl) ⟨_, rfl⟩
@[irreducible] def TT__law_near (T__law_near : D → (List D) → Tr D) (value_ : D) (odd_ : (List D)) : Tr D :=
  (((((((isaT PyData.isInt value_)).bind fun v147 => .ret v147)).bind fun v152 => if v152 then (((((((isaT PyData.isBool value_)).bind fun v148 => .ret v148)).bind fun v149 => .ret (!v149))).bind fun v151 => if v151 then (((pickT (3 : Int))).bind fun v150 => .ret (decide ((0 : Int) < v150))) else .ret false) else .ret false)).bind fun v180 => if v180 then (((T__law_of ([(PyData.int (1 : Int)), (PyData.int (-(1 : Int))), (PyData.int (2 : Int))] : (List D)))).bind fun v153 => (addD value_ v153)) else (((((((((isaT PyData.isTuple value_)).bind fun v154 => .ret v154)).bind fun v155 => .ret (!v155))).bind fun v158 => if v158 then .ret true else (((eqXT value_ (PyData.tuple []))).bind fun v157 => if v157 then .ret true else (((pickT (7 : Int))).bind fun v156 => .ret (eqT v156 (0 : Int)))))).bind fun v179 => if v179 then (T__law_of odd_) else (((((((lenD value_)).bind intOf)).bind fun v159 => (pickT v159))).bind fun k_160 => (((pickT (6 : Int))).bind fun way_161 => (if (decide (way_161 < (4 : Int))) then (((((sliceD value_ none (some k_160))).bind fun v166 => ((((((((idxD value_ (PyData.int k_160))).bind fun v163 => (T__law_near v163 odd_))).bind fun v164 => .ret ([v164] : (List D)))).bind fun v165 => .ret (eT eX v165))).bind fun v167 => (addD v166 v167))).bind fun v168 => ((sliceD value_ (some (k_160 + (1 : Int))) none)).bind fun v169 => (addD v168 v169)) else (((((((sliceD value_ none (some k_160))).bind fun v170 => ((sliceD value_ (some (k_160 + (1 : Int))) none)).bind fun v171 => (addD v170 v171))).bind fun v174 => (((((sliceD value_ none (some (k_160 + (1 : Int))))).bind fun v172 => ((sliceD value_ (some k_160) none)).bind fun v173 => (addD v172 v173))).bind fun v175 => (((revD value_)).bind fun v176 => (((listD value_)).bind fun v177 => .ret ([v174, v175, v176, v177] : (List D))))))).bind fun v178 => (T__law_of v178)))))))
def T__law_near : Nat → D → (List D) → Tr D
  | 0 => fun _ _ => .fail
  | n + 1 => TT__law_near (T__law_near n)
theorem RR__law_near {F__law_near : List D → Tr D} {T__law_near : D → (List D) → Tr D} (R__law_near : ∀ (value_ : D) (odd_ : (List D)), RefE (F__law_near [value_, (eL eX odd_)]) (T__law_near value_ odd_) eX) (value_ : D) (odd_ : (List D)) : RefE (runF 5 true (g__law_near F__law_near) [value_, (eL eX odd_)]) (TT__law_near T__law_near value_ odd_) eX := by
  unfold TT__law_near
  refine rrun (ρ0 := [none, some value_, some (eL eX odd_), none, none]) rfl ?_
  unfold g__law_near
  refine rife (rtande (rtru (rop1p (pv (d := value_) 1 rfl) (isaX PyData.isInt value_)) fun v147 => (tru_B v147)) (rtande (rtnot (rtru (rop1p (pv (d := value_) 1 rfl) (isaX PyData.isBool value_)) fun v148 => (tru_B v148))) (rtof (rop2ep (rcall (ac_cons (pc (.int 3)) ac_nil) (pick_T (3 : Int))) (pc (.int 0)) fun v150 => (rretE (gt_I v150 (0 : Int))))))) ?_ ?_
  · refine rassoc ?_
    exact rretv (rop2pe (pv (d := value_) 1 rfl) (rcall (ac_cons (asE (eL eX) ([(PyData.int (1 : Int)), (PyData.int (-(1 : Int))), (PyData.int (2 : Int))] : (List D)) (plst (ds := [(PyData.int (1 : Int)), (PyData.int (-(1 : Int))), (PyData.int (2 : Int))]) (ac_cons (pc (.int 1)) (ac_cons (op1_eq (y := (PyData.int (-(1 : Int)))) (pc (.int 1)) (neg_I (1 : Int))) (ac_cons (pc (.int 2)) ac_nil))) (show 3 ≤ lim by decide))) ac_nil) (R__law_of ([(PyData.int (1 : Int)), (PyData.int (-(1 : Int))), (PyData.int (2 : Int))] : (List D)))) fun v153 => rX)
  · refine rpass ?_
    refine rife (rtore (rtnot (rtru (rop1p (pv (d := value_) 1 rfl) (isaX PyData.isTuple value_)) fun v154 => (tru_B v154))) (rtore (rtof (rop2pp (pv (d := value_) 1 rfl) (ptup (ds := []) ac_nil (show 0 ≤ lim by decide)) (eqX value_ (PyData.tuple [])))) (rtof (rop2ep (rcall (ac_cons (pc (.int 7)) ac_nil) (pick_T (7 : Int))) (pc (.int 0)) fun v156 => (rretE (eq_ty (ea := PyData.int) v156 (0 : Int))))))) ?_ ?_
    · refine rassoc ?_
      exact rretv (rcall (ac_cons (pv (d := (eL eX odd_)) 2 rfl) ac_nil) (R__law_of odd_))
    · refine rpass ?_
      refine rparc ?_
      refine rac (ea := PyData.int) (rcallc (rac (rXi (rcall (ac_cons (pv (d := value_) 1 rfl) ac_nil) rX)) fun v159 => (ranil (pick_T v159)))) fun k_160 => ?_
      refine rac (ea := PyData.int) (rcall (ac_cons (pc (.int 6)) ac_nil) (pick_T (6 : Int))) fun way_161 => ?_
      refine ranilr (ρ' := [none, some value_, some (eL eX odd_), some (PyData.int k_160), some (PyData.int way_161)]) rfl ?_
      refine rifp (tof_eq (op2_eq (e := (PyData.bool (decide (way_161 < (4 : Int))))) (pv (d := (PyData.int way_161)) 4 rfl) (pc (.int 4)) (lt_I way_161 (4 : Int)))) ?_ ?_
      · refine rassoc ?_
        exact rretv (rop2ee (rop2ee (rslcp (pv (d := value_) 1 rfl) po_none (po_some (pv (d := (PyData.int k_160)) 3 rfl)) rX) (rtoX (rtupc (rac (rcallc (rac (rop2pp (pv (d := value_) 1 rfl) (pv (d := (PyData.int k_160)) 3 rfl) rX) fun v163 => (racp (pv (d := (eL eX odd_)) 2 rfl) (ranil (R__law_near v163 odd_))))) fun v164 => (ranil (rneedT (show 1 ≤ lim by decide) (rretE (e := (eT eX)) rfl)))))) fun v166 v167 => rX) (rslcp (pv (d := value_) 1 rfl) (po_some (op2_eq (e := (PyData.int (k_160 + (1 : Int)))) (pv (d := (PyData.int k_160)) 3 rfl) (pc (.int 1)) (add_I k_160 (1 : Int)))) po_none rX) fun v168 v169 => rX)
      · refine rpass ?_
        exact rretv (rcallc (rac (rlstc (rac (rop2ee (rslcp (pv (d := value_) 1 rfl) po_none (po_some (pv (d := (PyData.int k_160)) 3 rfl)) rX) (rslcp (pv (d := value_) 1 rfl) (po_some (op2_eq (e := (PyData.int (k_160 + (1 : Int)))) (pv (d := (PyData.int k_160)) 3 rfl) (pc (.int 1)) (add_I k_160 (1 : Int)))) po_none rX) fun v170 v171 => rX) fun v174 => (rac (rop2ee (rslcp (pv (d := value_) 1 rfl) po_none (po_some (op2_eq (e := (PyData.int (k_160 + (1 : Int)))) (pv (d := (PyData.int k_160)) 3 rfl) (pc (.int 1)) (add_I k_160 (1 : Int)))) rX) (rslcp (pv (d := value_) 1 rfl) (po_some (pv (d := (PyData.int k_160)) 3 rfl)) po_none rX) fun v172 v173 => rX) fun v175 => (rac (rop1p (pv (d := value_) 1 rfl) rX) fun v176 => (rac (rcall (ac_cons (pv (d := value_) 1 rfl) ac_nil) rX) fun v177 => (ranil (rneedT (show 4 ≤ lim by decide) (rretE (e := (eL eX)) rfl)))))))) fun v178 => (ranil (R__law_of v178))))
theorem R__law_near : ∀ (n : Nat) (value_ : D) (odd_ : (List D)), RefE (F__law_near n [value_, (eL eX odd_)]) (T__law_near n value_ odd_) eX
  | 0, _, _ => rfail
  | n + 1, value_, odd_ => RR__law_near (R__law_near n) value_ odd_
@[irreducible] def T__law_fault (n_ : Int) (row_ : (List Int)) (value_ : D) : Tr D :=
  (((((((((isaT PyData.isTuple value_)).bind fun v181 => .ret v181)).bind fun v182 => .ret (!v182))).bind fun v186 => if v186 then .ret true else (((((((sliceD value_ none (some (1 : Int)))).bind fun v183 => (reprT v183))).bind fun v184 => .ret (PyData.str v184))).bind fun v185 => ((inXT v185 (PyData.tuple [(PyData.str ("('full',)" : Str)), (PyData.str ("('lacks',)" : Str))])).bind fun b => .ret (!b))))).bind fun v227 => if v227 then .ret (PyData.tuple [(PyData.str ("form" : Str))]) else (((((idxD value_ (PyData.int (0 : Int)))).bind fun v187 => (eqXT v187 (PyData.str ("full" : Str))))).bind fun v226 => if v226 then (((T__law_told n_ row_)).bind fun told_188 => (((((T__law_orders n_)).bind fun v190 => (need ((((v190).filter (fun (a189 : (List Int)) => (!memT a189 told_188))).map (fun (a189 : (List Int)) => a189)).length ≤ lim) (.ret (((v190).filter (fun (a189 : (List Int)) => (!memT a189 told_188))).map (fun (a189 : (List Int)) => a189)))))).bind fun lacking_191 => (((((lenD value_)).bind fun v192 => (neXT v192 (PyData.int (1 : Int))))).bind fun v195 => if v195 then .ret (PyData.tuple [(PyData.str ("form" : Str))]) else (if (!eqT lacking_191 ([] : (List (List Int)))) then (((((getT lacking_191 (0 : Int))).bind fun v193 => .ret (eT PyData.int v193))).bind fun v194 => .ret (PyData.tuple [(PyData.str ("lacks" : Str)), v194])) else .ret PyData.none)))) else (((((((lenD value_)).bind fun v196 => (neXT v196 (PyData.int (2 : Int))))).bind fun v200 => if v200 then .ret true else (((((((idxD value_ (PyData.int (1 : Int)))).bind fun v197 => (isaT PyData.isTuple v197))).bind fun v198 => .ret v198)).bind fun v199 => .ret (!v199)))).bind fun v225 => if v225 then .ret (PyData.tuple [(PyData.str ("form" : Str))]) else (((((((((((idxD value_ (PyData.int (1 : Int)))).bind seqOf)).bind fun v208 => ((lcT (fun (a202 : D) => (((((((isaT PyData.isInt a202)).bind fun v203 => .ret v203)).bind fun v204 => .ret (!v204))).bind fun v206 => if v206 then .ret true else (((isaT PyData.isBool a202)).bind fun v205 => .ret v205))) (fun (a202 : D) => .ret a202) v208).bind fun v207 => need ((v207).length ≤ lim) (.ret v207)))).bind fun v209 => .ret (eL eX v209))).bind fun v210 => (neXT v210 (eL eX ([] : (List D)))))).bind fun v224 => if v224 then .ret (PyData.tuple [(PyData.str ("form" : Str))]) else (((((((idxD value_ (PyData.int (1 : Int)))).bind fun v211 => (sortD2 v211))).bind fun v214 => ((((((rangeT 0 n_)).bind fun xs212 => need ((xs212).length ≤ lim) (.ret xs212))).bind fun v213 => .ret (eL PyData.int v213))).bind fun v215 => (neXT v214 v215))).bind fun v223 => if v223 then .ret (PyData.tuple [(PyData.str ("form" : Str))]) else (((((T__law_windows n_ row_)).bind fun v219 => ((lcT (fun (a216 : (Int × (List Int))) => (((idxD value_ (PyData.int (1 : Int)))).bind fun v217 => (eqXT (eT PyData.int a216.2) v217))) (fun (a216 : (Int × (List Int))) => .ret a216.1) v219).bind fun v218 => need ((v218).length ≤ lim) (.ret v218)))).bind fun places_220 => (if (!eqT places_220 ([] : (List Int))) then (((((getT places_220 (0 : Int))).bind fun v221 => .ret (PyData.int v221))).bind fun v222 => .ret (PyData.tuple [(PyData.str ("there" : Str)), v222])) else .ret PyData.none)))))))
theorem R__law_fault (n_ : Int) (row_ : (List Int)) (value_ : D) : RefE (F__law_fault [(PyData.int n_), (eT PyData.int row_), value_]) (T__law_fault n_ row_ value_) eX := by
  unfold F__law_fault T__law_fault
  refine rrun (ρ0 := [some (PyData.int n_), some (eT PyData.int row_), some value_, none, none, none, none, none, none, none]) rfl ?_
  unfold g__law_fault
  refine rife (rtore (rtnot (rtru (rop1p (pv (d := value_) 2 rfl) (isaX PyData.isTuple value_)) fun v181 => (tru_B v181))) (rtof (rop2ep (rtoX (rcallc (rac (rslcp (pv (d := value_) 2 rfl) po_none (po_some (pc (.int 1))) rX) fun v183 => (ranil (repr_T v183))))) (ptup (ds := [(PyData.str ("('full',)" : Str)), (PyData.str ("('lacks',)" : Str))]) (ac_cons (pc (.str "('full',)")) (ac_cons (pc (.str "('lacks',)")) ac_nil)) (show 2 ≤ lim by decide)) fun v185 => (notInX v185 (PyData.tuple [(PyData.str ("('full',)" : Str)), (PyData.str ("('lacks',)" : Str))]))))) ?_ ?_
  · refine rassoc ?_
    exact rretp (ea := eX) (v := (PyData.tuple [(PyData.str ("form" : Str))])) (ptup (ds := [(PyData.str ("form" : Str))]) (ac_cons (pc (.str "form")) ac_nil) (show 1 ≤ lim by decide)) ⟨_, rfl⟩
  · refine rpass ?_
    refine rife (rtof (rop2ep (rop2pp (pv (d := value_) 2 rfl) (pc (.int 0)) rX) (pc (.str "full")) fun v187 => (eqX v187 (PyData.str ("full" : Str))))) ?_ ?_
    · refine rassoc ?_
      refine rset (ea := (eL (eT PyData.int))) (fun told_188 => [some (PyData.int n_), some (eT PyData.int row_), some value_, some (eL (eT PyData.int) told_188), none, none, none, none, none, none]) (rcall (ac_cons (pv (d := (PyData.int n_)) 0 rfl) (ac_cons (pv (d := (eT PyData.int row_)) 1 rfl) ac_nil)) (R__law_told n_ row_)) (fun told_188 => rfl) (fun told_188 => ?_)
      refine rassoc ?_
      refine rset (ea := (eL (eT PyData.int))) (fun lacking_191 => [some (PyData.int n_), some (eT PyData.int row_), some value_, some (eL (eT PyData.int) told_188), some (eL (eT PyData.int) lacking_191), none, none, none, none, none]) (rlcep (ea := (eT PyData.int)) (ef := (eT PyData.int)) (p := (fun (a189 : (List Int)) => (!memT a189 told_188))) (m := (fun (a189 : (List Int)) => a189)) (fun (a189 : (List Int)) => [some (PyData.int n_), some (eT PyData.int row_), some value_, some (eL (eT PyData.int) told_188), none, none, some (eT PyData.int a189), none, none, none]) (sve_L (ea := (eT PyData.int)) (rcall (ac_cons (pv (d := (PyData.int n_)) 0 rfl) ac_nil) (R__law_orders n_))) rfl (fun a189 => rfl) (fun a189 => (tof_eq (op2_eq (e := (PyData.bool (!memT a189 told_188))) (pv (d := (eT PyData.int a189)) 6 rfl) (pv (d := (eL (eT PyData.int) told_188)) 3 rfl) (notIn_L (ea := (eT PyData.int)) a189 told_188)))) (fun a189 => (pv (d := (eT PyData.int a189)) 6 rfl))) (fun lacking_191 => rfl) (fun lacking_191 => ?_)
      refine rassoc ?_
      exact rretv (reife (rtof (rop2ep (rcall (ac_cons (pv (d := value_) 2 rfl) ac_nil) rX) (pc (.int 1)) fun v192 => (neX v192 (PyData.int (1 : Int))))) (rretE (ptup (ds := [(PyData.str ("form" : Str))]) (ac_cons (pc (.str "form")) ac_nil) (show 1 ≤ lim by decide))) (reifp (tof_eq (op2_eq (e := (PyData.bool (!eqT lacking_191 ([] : (List (List Int)))))) (pv (d := (eL (eT PyData.int) lacking_191)) 4 rfl) (asE (eL (eT PyData.int)) ([] : (List (List Int))) (plst (ds := []) ac_nil (show 0 ≤ lim by decide))) (ne_ty (ea := (eL (eT PyData.int))) lacking_191 ([] : (List (List Int)))))) (rtupc (racp (pc (.str "lacks")) (rac (rtoX (rop2pp (pv (d := (eL (eT PyData.int) lacking_191)) 4 rfl) (pc (.int 0)) (ix_L (ea := (eT PyData.int)) lacking_191 (0 : Int)))) fun v194 => (ranil (rneedT (show 2 ≤ lim by decide) (rretE rfl)))))) (rretE (pc .none))))
    · refine rpass ?_
      refine rife (rtore (rtof (rop2ep (rcall (ac_cons (pv (d := value_) 2 rfl) ac_nil) rX) (pc (.int 2)) fun v196 => (neX v196 (PyData.int (2 : Int))))) (rtnot (rtru (rop1e (rop2pp (pv (d := value_) 2 rfl) (pc (.int 1)) rX) fun v197 => (isaX PyData.isTuple v197)) fun v198 => (tru_B v198)))) ?_ ?_
      · refine rassoc ?_
        exact rretp (ea := eX) (v := (PyData.tuple [(PyData.str ("form" : Str))])) (ptup (ds := [(PyData.str ("form" : Str))]) (ac_cons (pc (.str "form")) ac_nil) (show 1 ≤ lim by decide)) ⟨_, rfl⟩
      · refine rpass ?_
        refine rife (rtof (rop2ep (rtoX (rlcee (ea := eX) (ef := eX) (fun (a202 : D) => [some (PyData.int n_), some (eT PyData.int row_), some value_, none, none, none, none, some a202, none, none]) (svXe (rop2pp (pv (d := value_) 2 rfl) (pc (.int 1)) rX)) rfl (fun a202 => rfl) (fun a202 => (rtore (rtnot (rtru (rop1p (pv (d := a202) 7 rfl) (isaX PyData.isInt a202)) fun v203 => (tru_B v203))) (rtru (rop1p (pv (d := a202) 7 rfl) (isaX PyData.isBool a202)) fun v205 => (tru_B v205)))) (fun a202 => (rretE (pv (d := a202) 7 rfl))))) (asE (eL eX) ([] : (List D)) (plst (ds := []) ac_nil (show 0 ≤ lim by decide))) fun v210 => (neX v210 (eL eX ([] : (List D)))))) ?_ ?_
        · refine rassoc ?_
          exact rretp (ea := eX) (v := (PyData.tuple [(PyData.str ("form" : Str))])) (ptup (ds := [(PyData.str ("form" : Str))]) (ac_cons (pc (.str "form")) ac_nil) (show 1 ≤ lim by decide)) ⟨_, rfl⟩
        · refine rpass ?_
          refine rife (rtof (rop2ee (rcallc (rac (rop2pp (pv (d := value_) 2 rfl) (pc (.int 1)) rX) fun v211 => (ranil rX))) (rtoX (rlstR (sr1 (hi := n_) (ac_cons (pv (d := (PyData.int n_)) 0 rfl) ac_nil)))) fun v214 v215 => (neX v214 v215))) ?_ ?_
          · refine rassoc ?_
            exact rretp (ea := eX) (v := (PyData.tuple [(PyData.str ("form" : Str))])) (ptup (ds := [(PyData.str ("form" : Str))]) (ac_cons (pc (.str "form")) ac_nil) (show 1 ≤ lim by decide)) ⟨_, rfl⟩
          · refine rpass ?_
            refine rset (ea := (eL PyData.int)) (fun places_220 => [some (PyData.int n_), some (eT PyData.int row_), some value_, none, none, some (eL PyData.int places_220), none, none, none, none]) (rlcee (ea := (eP PyData.int (eT PyData.int))) (ef := PyData.int) (fun (a216 : (Int × (List Int))) => [some (PyData.int n_), some (eT PyData.int row_), some value_, none, none, none, none, none, some (PyData.int a216.1), some (eT PyData.int a216.2)]) (sve_L (ea := (eP PyData.int (eT PyData.int))) (rcall (ac_cons (pv (d := (PyData.int n_)) 0 rfl) (ac_cons (pv (d := (eT PyData.int row_)) 1 rfl) ac_nil)) (R__law_windows n_ row_))) rfl (fun a216 => rfl) (fun a216 => (rtof (rop2pe (pv (d := (eT PyData.int a216.2)) 9 rfl) (rop2pp (pv (d := value_) 2 rfl) (pc (.int 1)) rX) fun v217 => (eqX (eT PyData.int a216.2) v217)))) (fun a216 => (rretE (pv (d := (PyData.int a216.1)) 8 rfl)))) (fun places_220 => rfl) (fun places_220 => ?_)
            exact rretv (reifp (tof_eq (op2_eq (e := (PyData.bool (!eqT places_220 ([] : (List Int))))) (pv (d := (eL PyData.int places_220)) 5 rfl) (asE (eL PyData.int) ([] : (List Int)) (plst (ds := []) ac_nil (show 0 ≤ lim by decide))) (ne_ty (ea := (eL PyData.int)) places_220 ([] : (List Int))))) (rtupc (racp (pc (.str "there")) (rac (rtoX (rop2pp (pv (d := (eL PyData.int places_220)) 5 rfl) (pc (.int 0)) (ix_L (ea := PyData.int) places_220 (0 : Int)))) fun v222 => (ranil (rneedT (show 2 ≤ lim by decide) (rretE rfl)))))) (rretE (pc .none)))
@[irreducible] def T_law  : Tr Bool :=
  ((forF (R := Bool) (fun (s228 : Unit) (a242 : Int) => (((((pickT (4 : Int))).bind fun v243 => .ret ((1 : Int) + v243))).bind fun n_244 => (((T__law_row n_244 (40 : Int))).bind fun row_245 => ((((((pickT (2 : Int))).bind fun v246 => .ret (eqT v246 (0 : Int)))).bind fun v295 => (if v295 then (((T_told_full_row n_244)).bind fun row_252 => (((pickT ((2 : Int) * ((row_252).length : Int)))).bind fun k_253 => (((need (((cutA row_252 none (some k_253))).length + ((cutA row_252 (some (k_253 + (1 : Int))) none)).length ≤ lim) (.ret ((cutA row_252 none (some k_253)) ++ (cutA row_252 (some (k_253 + (1 : Int))) none))))).bind fun row_254 => .ret row_254))) else .ret row_245 : Tr ((List Int)))).bind fun s250 => (((T__law_told n_244 s250)).bind fun told_255 => (((reprT (eT PyData.int s250))).bind fun kept_256 => (((((T__law_orders n_244)).bind fun v258 => (need ((((v258).filter (fun (a257 : (List Int)) => (!memT a257 told_255))).map (fun (a257 : (List Int)) => a257)).length ≤ lim) (.ret (((v258).filter (fun (a257 : (List Int)) => (!memT a257 told_255))).map (fun (a257 : (List Int)) => a257)))))).bind fun lacking_259 => (((if (eqT lacking_259 ([] : (List (List Int)))) then .ret (PyData.tuple [(PyData.str ("full" : Str))]) else (((((getT lacking_259 (-(1 : Int)))).bind fun v260 => .ret (eT PyData.int v260))).bind fun v261 => .ret (PyData.tuple [(PyData.str ("lacks" : Str)), v261])))).bind fun due_262 => (((((T__law_orders n_244)).bind fun v263 => (T__law_of_L v263))).bind fun order_264 => (((((((listD due_262)).bind fun v265 => (((addD due_262 (eT PyData.int ([(0 : Int)] : (List Int))))).bind fun v266 => (((revD due_262)).bind fun v267 => .ret ([(PyData.tuple [(PyData.str ("lacks" : Str)), (eL PyData.int order_264)]), (PyData.tuple [(PyData.str ("full" : Str)), (PyData.int (0 : Int))]), v265, v266, v267, PyData.none, (PyData.tuple []), (PyData.str ("full" : Str))] : (List D)))))).bind fun v268 => (need ((([due_262, (PyData.tuple [(PyData.str ("full" : Str))]), (PyData.tuple [(PyData.str ("lacks" : Str)), (eT PyData.int order_264)]), (PyData.tuple [(PyData.str ("lacks" : Str)), (eT PyData.int (List.reverse order_264))]), (PyData.tuple [(PyData.str ("lacks" : Str)), (eT PyData.int (cutA order_264 (some (1 : Int)) none))])] : (List D))).length + (v268).length ≤ lim) (.ret (([due_262, (PyData.tuple [(PyData.str ("full" : Str))]), (PyData.tuple [(PyData.str ("lacks" : Str)), (eT PyData.int order_264)]), (PyData.tuple [(PyData.str ("lacks" : Str)), (eT PyData.int (List.reverse order_264))]), (PyData.tuple [(PyData.str ("lacks" : Str)), (eT PyData.int (cutA order_264 (some (1 : Int)) none))])] : (List D)) ++ v268))))).bind fun values_269 => (((need ((values_269).length + (([(PyData.tuple [(PyData.str ("lacks" : Str))]), (PyData.tuple [(PyData.str ("Full" : Str))])] : (List D))).length ≤ lim) (.ret (values_269 ++ ([(PyData.tuple [(PyData.str ("lacks" : Str))]), (PyData.tuple [(PyData.str ("Full" : Str))])] : (List D)))))).bind fun values_270 => ((((((lcT (fun (a271 : Int) => .ret true) (fun (a271 : Int) => (((T__law_of (cutA values_270 none (some (3 : Int))))).bind fun v272 => (T__law_near 8 v272 ([PyData.none, (PyData.bool true), (PyData.int (0 : Int)), (PyData.int (1 : Int)), (PyData.int (-(1 : Int))), (PyData.str ("full" : Str)), (PyData.str ("lacks" : Str)), (PyData.tuple []), (PyData.tuple [(PyData.int (0 : Int))]), (PyData.tuple [(PyData.int (1 : Int)), (PyData.int (0 : Int))]), (PyData.tuple [(PyData.int (0 : Int)), (PyData.int (1 : Int)), (PyData.int (2 : Int))]), (PyData.list [(PyData.int (0 : Int))]), (PyData.int (100000000000000000000 : Int))] : (List D))))) (rangeI 0 (8 : Int))).bind fun v273 => need ((v273).length ≤ lim) (.ret v273))).bind fun v274 => (need ((values_270).length + (v274).length ≤ lim) (.ret (values_270 ++ v274))))).bind fun xs293 => (forF (R := Bool) (fun (s275 : Unit) (a279 : D) => (((reprT a279)).bind fun shown_280 => (((T__law_fault n_244 s250 a279)).bind fun fault_281 => (((((((((T_judge_full n_244 s250 a279)).bind fun v282 => (reprT v282))).bind fun v283 => ((reprT fault_281)).bind fun v284 => .ret (!eqT v283 v284))).bind fun v286 => if v286 then .ret true else (((reprT a279)).bind fun v285 => .ret (!eqT v285 shown_280)))).bind fun v290 => if v290 then .ret (.rt false) else (((if (isNon fault_281) then (((idxD a279 (PyData.int (0 : Int)))).bind fun v287 => ((idxD due_262 (PyData.int (0 : Int)))).bind fun v288 => (neXT v287 v288)) else .ret false)).bind fun v289 => if v289 then .ret (.rt false) else .ret (.nx ())))))) xs293 ()).bind fun o => o.on (fun s275 => (((((reprT (eT PyData.int s250))).bind fun v291 => .ret (!eqT v291 kept_256))).bind fun v292 => if v292 then .ret (.rt false) else .ret (.nx ()))) (fun v294 => .ret (.rt v294)))))))))))))) (rangeI 0 (4 : Int)) ()).bind fun o => o.on (fun s228 => (((T_judge_full (3 : Int) ([(0 : Int), (1 : Int), (2 : Int)] : (List Int)) (PyData.tuple [(PyData.str ("lacks" : Str)), (PyData.tuple [(PyData.int (0 : Int)), (PyData.int (1 : Int)), (PyData.int (2 : Int))])]))).bind fun v296 => (eqXT v296 (PyData.tuple [(PyData.str ("there" : Str)), (PyData.int (0 : Int))])))) (fun v298 => .ret v298))
theorem R_law : RefG (g_law [none, none, none, none, none, none, none, none, none, none, none, none, none, none, none, none, none]) T_law (Rv PyData.bool) := by
  unfold g_law T_law
  refine rsetp (v := (eL eX ([PyData.none, (PyData.bool true), (PyData.int (0 : Int)), (PyData.int (1 : Int)), (PyData.int (-(1 : Int))), (PyData.str ("full" : Str)), (PyData.str ("lacks" : Str)), (PyData.tuple []), (PyData.tuple [(PyData.int (0 : Int))]), (PyData.tuple [(PyData.int (1 : Int)), (PyData.int (0 : Int))]), (PyData.tuple [(PyData.int (0 : Int)), (PyData.int (1 : Int)), (PyData.int (2 : Int))]), (PyData.list [(PyData.int (0 : Int))]), (PyData.int (100000000000000000000 : Int))] : (List D)))) (ρ' := [none, none, some (eL eX ([PyData.none, (PyData.bool true), (PyData.int (0 : Int)), (PyData.int (1 : Int)), (PyData.int (-(1 : Int))), (PyData.str ("full" : Str)), (PyData.str ("lacks" : Str)), (PyData.tuple []), (PyData.tuple [(PyData.int (0 : Int))]), (PyData.tuple [(PyData.int (1 : Int)), (PyData.int (0 : Int))]), (PyData.tuple [(PyData.int (0 : Int)), (PyData.int (1 : Int)), (PyData.int (2 : Int))]), (PyData.list [(PyData.int (0 : Int))]), (PyData.int (100000000000000000000 : Int))] : (List D))), none, none, none, none, none, none, none, none, none, none, none, none, none, none]) (asE (eL eX) ([PyData.none, (PyData.bool true), (PyData.int (0 : Int)), (PyData.int (1 : Int)), (PyData.int (-(1 : Int))), (PyData.str ("full" : Str)), (PyData.str ("lacks" : Str)), (PyData.tuple []), (PyData.tuple [(PyData.int (0 : Int))]), (PyData.tuple [(PyData.int (1 : Int)), (PyData.int (0 : Int))]), (PyData.tuple [(PyData.int (0 : Int)), (PyData.int (1 : Int)), (PyData.int (2 : Int))]), (PyData.list [(PyData.int (0 : Int))]), (PyData.int (100000000000000000000 : Int))] : (List D)) (plst (ds := [PyData.none, (PyData.bool true), (PyData.int (0 : Int)), (PyData.int (1 : Int)), (PyData.int (-(1 : Int))), (PyData.str ("full" : Str)), (PyData.str ("lacks" : Str)), (PyData.tuple []), (PyData.tuple [(PyData.int (0 : Int))]), (PyData.tuple [(PyData.int (1 : Int)), (PyData.int (0 : Int))]), (PyData.tuple [(PyData.int (0 : Int)), (PyData.int (1 : Int)), (PyData.int (2 : Int))]), (PyData.list [(PyData.int (0 : Int))]), (PyData.int (100000000000000000000 : Int))]) (ac_cons (pc .none) (ac_cons (pc (.bool true)) (ac_cons (pc (.int 0)) (ac_cons (pc (.int 1)) (ac_cons (op1_eq (y := (PyData.int (-(1 : Int)))) (pc (.int 1)) (neg_I (1 : Int))) (ac_cons (pc (.str "full")) (ac_cons (pc (.str "lacks")) (ac_cons (ptup (ds := []) ac_nil (show 0 ≤ lim by decide)) (ac_cons (ptup (ds := [(PyData.int (0 : Int))]) (ac_cons (pc (.int 0)) ac_nil) (show 1 ≤ lim by decide)) (ac_cons (ptup (ds := [(PyData.int (1 : Int)), (PyData.int (0 : Int))]) (ac_cons (pc (.int 1)) (ac_cons (pc (.int 0)) ac_nil)) (show 2 ≤ lim by decide)) (ac_cons (ptup (ds := [(PyData.int (0 : Int)), (PyData.int (1 : Int)), (PyData.int (2 : Int))]) (ac_cons (pc (.int 0)) (ac_cons (pc (.int 1)) (ac_cons (pc (.int 2)) ac_nil))) (show 3 ≤ lim by decide)) (ac_cons (plst (ds := [(PyData.int (0 : Int))]) (ac_cons (pc (.int 0)) ac_nil) (show 1 ≤ lim by decide)) (ac_cons (op2_eq (pc (.int 10)) (pc (.int 20)) (need_pos (by decide))) ac_nil))))))))))))) (show 13 ≤ lim by decide))) rfl ?_
  refine rforFp (ea := PyData.int) (er := PyData.bool) (σ := Unit) (fun (s228 : Unit) ρ => ∃ j229 j230 j231 j232 j233 j234 j235 j236 j237 j238 j239 j240 j241 : Option D, ρ = [none, none, some (eL eX ([PyData.none, (PyData.bool true), (PyData.int (0 : Int)), (PyData.int (1 : Int)), (PyData.int (-(1 : Int))), (PyData.str ("full" : Str)), (PyData.str ("lacks" : Str)), (PyData.tuple []), (PyData.tuple [(PyData.int (0 : Int))]), (PyData.tuple [(PyData.int (1 : Int)), (PyData.int (0 : Int))]), (PyData.tuple [(PyData.int (0 : Int)), (PyData.int (1 : Int)), (PyData.int (2 : Int))]), (PyData.list [(PyData.int (0 : Int))]), (PyData.int (100000000000000000000 : Int))] : (List D))), j229, j230, j231, j232, j233, j234, j235, j236, j237, j238, j239, j240, j241, none]) () (sr1l (hi := (4 : Int)) (ac_cons (pc (.int 4)) ac_nil) (by decide)) ⟨_, _, _, _, _, _, _, _, _, _, _, _, _, rfl⟩ (fun s228 a242 ρ h => ?_) (fun s228 ρ h => ?_) hrv
  · obtain ⟨j229, j230, j231, j232, j233, j234, j235, j236, j237, j238, j239, j240, j241, rfl⟩ := h
    refine rpure (b := [none, none, some (eL eX ([PyData.none, (PyData.bool true), (PyData.int (0 : Int)), (PyData.int (1 : Int)), (PyData.int (-(1 : Int))), (PyData.str ("full" : Str)), (PyData.str ("lacks" : Str)), (PyData.tuple []), (PyData.tuple [(PyData.int (0 : Int))]), (PyData.tuple [(PyData.int (1 : Int)), (PyData.int (0 : Int))]), (PyData.tuple [(PyData.int (0 : Int)), (PyData.int (1 : Int)), (PyData.int (2 : Int))]), (PyData.list [(PyData.int (0 : Int))]), (PyData.int (100000000000000000000 : Int))] : (List D))), some (PyData.int a242), j230, j231, j232, j233, j234, j235, j236, j237, j238, j239, j240, j241, none]) rfl ?_
    refine rset (ea := PyData.int) (fun n_244 => [none, none, some (eL eX ([PyData.none, (PyData.bool true), (PyData.int (0 : Int)), (PyData.int (1 : Int)), (PyData.int (-(1 : Int))), (PyData.str ("full" : Str)), (PyData.str ("lacks" : Str)), (PyData.tuple []), (PyData.tuple [(PyData.int (0 : Int))]), (PyData.tuple [(PyData.int (1 : Int)), (PyData.int (0 : Int))]), (PyData.tuple [(PyData.int (0 : Int)), (PyData.int (1 : Int)), (PyData.int (2 : Int))]), (PyData.list [(PyData.int (0 : Int))]), (PyData.int (100000000000000000000 : Int))] : (List D))), some (PyData.int a242), some (PyData.int n_244), j231, j232, j233, j234, j235, j236, j237, j238, j239, j240, j241, none]) (rop2pe (pc (.int 1)) (rcall (ac_cons (pc (.int 4)) ac_nil) (pick_T (4 : Int))) fun v243 => (rretE (add_I (1 : Int) v243))) (fun n_244 => rfl) (fun n_244 => ?_)
    refine rset (ea := (eT PyData.int)) (fun row_245 => [none, none, some (eL eX ([PyData.none, (PyData.bool true), (PyData.int (0 : Int)), (PyData.int (1 : Int)), (PyData.int (-(1 : Int))), (PyData.str ("full" : Str)), (PyData.str ("lacks" : Str)), (PyData.tuple []), (PyData.tuple [(PyData.int (0 : Int))]), (PyData.tuple [(PyData.int (1 : Int)), (PyData.int (0 : Int))]), (PyData.tuple [(PyData.int (0 : Int)), (PyData.int (1 : Int)), (PyData.int (2 : Int))]), (PyData.list [(PyData.int (0 : Int))]), (PyData.int (100000000000000000000 : Int))] : (List D))), some (PyData.int a242), some (PyData.int n_244), some (eT PyData.int row_245), j232, j233, j234, j235, j236, j237, j238, j239, j240, j241, none]) (rcall (ac_cons (pv (d := (PyData.int n_244)) 4 rfl) (ac_cons (pc (.int 40)) ac_nil)) (R__law_row n_244 (40 : Int))) (fun row_245 => rfl) (fun row_245 => ?_)
    refine rjoin (fun (s250 : (List Int)) ρ => ∃ j251 : Option D, ρ = [none, none, some (eL eX ([PyData.none, (PyData.bool true), (PyData.int (0 : Int)), (PyData.int (1 : Int)), (PyData.int (-(1 : Int))), (PyData.str ("full" : Str)), (PyData.str ("lacks" : Str)), (PyData.tuple []), (PyData.tuple [(PyData.int (0 : Int))]), (PyData.tuple [(PyData.int (1 : Int)), (PyData.int (0 : Int))]), (PyData.tuple [(PyData.int (0 : Int)), (PyData.int (1 : Int)), (PyData.int (2 : Int))]), (PyData.list [(PyData.int (0 : Int))]), (PyData.int (100000000000000000000 : Int))] : (List D))), some (PyData.int a242), some (PyData.int n_244), some (eT PyData.int s250), j251, j233, j234, j235, j236, j237, j238, j239, j240, j241, none]) (rifje (fun (s250 : (List Int)) ρ => ∃ j251 : Option D, ρ = [none, none, some (eL eX ([PyData.none, (PyData.bool true), (PyData.int (0 : Int)), (PyData.int (1 : Int)), (PyData.int (-(1 : Int))), (PyData.str ("full" : Str)), (PyData.str ("lacks" : Str)), (PyData.tuple []), (PyData.tuple [(PyData.int (0 : Int))]), (PyData.tuple [(PyData.int (1 : Int)), (PyData.int (0 : Int))]), (PyData.tuple [(PyData.int (0 : Int)), (PyData.int (1 : Int)), (PyData.int (2 : Int))]), (PyData.list [(PyData.int (0 : Int))]), (PyData.int (100000000000000000000 : Int))] : (List D))), some (PyData.int a242), some (PyData.int n_244), some (eT PyData.int s250), j251, j233, j234, j235, j236, j237, j238, j239, j240, j241, none]) (rtof (rop2ep (rcall (ac_cons (pc (.int 2)) ac_nil) (pick_T (2 : Int))) (pc (.int 0)) fun v246 => (rretE (eq_ty (ea := PyData.int) v246 (0 : Int))))) ?_ ?_) (fun s250 ρ h => ?_)
    · refine rset (ea := (eT PyData.int)) (fun row_252 => [none, none, some (eL eX ([PyData.none, (PyData.bool true), (PyData.int (0 : Int)), (PyData.int (1 : Int)), (PyData.int (-(1 : Int))), (PyData.str ("full" : Str)), (PyData.str ("lacks" : Str)), (PyData.tuple []), (PyData.tuple [(PyData.int (0 : Int))]), (PyData.tuple [(PyData.int (1 : Int)), (PyData.int (0 : Int))]), (PyData.tuple [(PyData.int (0 : Int)), (PyData.int (1 : Int)), (PyData.int (2 : Int))]), (PyData.list [(PyData.int (0 : Int))]), (PyData.int (100000000000000000000 : Int))] : (List D))), some (PyData.int a242), some (PyData.int n_244), some (eT PyData.int row_252), j232, j233, j234, j235, j236, j237, j238, j239, j240, j241, none]) (rcall (ac_cons (pv (d := (PyData.int n_244)) 4 rfl) ac_nil) (R_told_full_row n_244)) (fun row_252 => rfl) (fun row_252 => ?_)
      refine rset (ea := PyData.int) (fun k_253 => [none, none, some (eL eX ([PyData.none, (PyData.bool true), (PyData.int (0 : Int)), (PyData.int (1 : Int)), (PyData.int (-(1 : Int))), (PyData.str ("full" : Str)), (PyData.str ("lacks" : Str)), (PyData.tuple []), (PyData.tuple [(PyData.int (0 : Int))]), (PyData.tuple [(PyData.int (1 : Int)), (PyData.int (0 : Int))]), (PyData.tuple [(PyData.int (0 : Int)), (PyData.int (1 : Int)), (PyData.int (2 : Int))]), (PyData.list [(PyData.int (0 : Int))]), (PyData.int (100000000000000000000 : Int))] : (List D))), some (PyData.int a242), some (PyData.int n_244), some (eT PyData.int row_252), some (PyData.int k_253), j233, j234, j235, j236, j237, j238, j239, j240, j241, none]) (rcall (ac_cons (op2_eq (e := (PyData.int ((2 : Int) * ((row_252).length : Int)))) (pc (.int 2)) (pcall (d := (PyData.int ((row_252).length : Int))) (ac_cons (pv (d := (eT PyData.int row_252)) 5 rfl) ac_nil) (len_T (ea := PyData.int) row_252)) (mul_litl ((row_252).length : Int) (by decide))) ac_nil) (pick_T ((2 : Int) * ((row_252).length : Int)))) (fun k_253 => rfl) (fun k_253 => ?_)
      refine rset (ea := (eT PyData.int)) (fun row_254 => [none, none, some (eL eX ([PyData.none, (PyData.bool true), (PyData.int (0 : Int)), (PyData.int (1 : Int)), (PyData.int (-(1 : Int))), (PyData.str ("full" : Str)), (PyData.str ("lacks" : Str)), (PyData.tuple []), (PyData.tuple [(PyData.int (0 : Int))]), (PyData.tuple [(PyData.int (1 : Int)), (PyData.int (0 : Int))]), (PyData.tuple [(PyData.int (0 : Int)), (PyData.int (1 : Int)), (PyData.int (2 : Int))]), (PyData.list [(PyData.int (0 : Int))]), (PyData.int (100000000000000000000 : Int))] : (List D))), some (PyData.int a242), some (PyData.int n_244), some (eT PyData.int row_254), some (PyData.int k_253), j233, j234, j235, j236, j237, j238, j239, j240, j241, none]) (rop2pp (pslc (pv (d := (eT PyData.int row_252)) 5 rfl) po_none (po_some (pv (d := (PyData.int k_253)) 6 rfl)) (sl_T (ea := PyData.int) row_252 none (some k_253))) (pslc (pv (d := (eT PyData.int row_252)) 5 rfl) (po_some (op2_eq (e := (PyData.int (k_253 + (1 : Int)))) (pv (d := (PyData.int k_253)) 6 rfl) (pc (.int 1)) (add_I k_253 (1 : Int)))) po_none (sl_T (ea := PyData.int) row_252 (some (k_253 + (1 : Int))) none)) (cat_T (ea := PyData.int) (cutA row_252 none (some k_253)) (cutA row_252 (some (k_253 + (1 : Int))) none))) (fun row_254 => rfl) (fun row_254 => ?_)
      exact rend ⟨_, rfl, _, rfl⟩
    · exact rend ⟨_, rfl, _, rfl⟩
    obtain ⟨j251, rfl⟩ := h
    refine rparc ?_
    refine rac (ea := (eL (eT PyData.int))) (rcall (ac_cons (pv (d := (PyData.int n_244)) 4 rfl) (ac_cons (pv (d := (eT PyData.int s250)) 5 rfl) ac_nil)) (R__law_told n_244 s250)) fun told_255 => ?_
    refine rac (ea := PyData.str) (rcall (ac_cons (pv (d := (eT PyData.int s250)) 5 rfl) ac_nil) (repr_T (eT PyData.int s250))) fun kept_256 => ?_
    refine ranilr (ρ' := [none, none, some (eL eX ([PyData.none, (PyData.bool true), (PyData.int (0 : Int)), (PyData.int (1 : Int)), (PyData.int (-(1 : Int))), (PyData.str ("full" : Str)), (PyData.str ("lacks" : Str)), (PyData.tuple []), (PyData.tuple [(PyData.int (0 : Int))]), (PyData.tuple [(PyData.int (1 : Int)), (PyData.int (0 : Int))]), (PyData.tuple [(PyData.int (0 : Int)), (PyData.int (1 : Int)), (PyData.int (2 : Int))]), (PyData.list [(PyData.int (0 : Int))]), (PyData.int (100000000000000000000 : Int))] : (List D))), some (PyData.int a242), some (PyData.int n_244), some (eT PyData.int s250), j251, some (eL (eT PyData.int) told_255), some (PyData.str kept_256), j235, j236, j237, j238, j239, j240, j241, none]) rfl ?_
    refine rset (ea := (eL (eT PyData.int))) (fun lacking_259 => [none, none, some (eL eX ([PyData.none, (PyData.bool true), (PyData.int (0 : Int)), (PyData.int (1 : Int)), (PyData.int (-(1 : Int))), (PyData.str ("full" : Str)), (PyData.str ("lacks" : Str)), (PyData.tuple []), (PyData.tuple [(PyData.int (0 : Int))]), (PyData.tuple [(PyData.int (1 : Int)), (PyData.int (0 : Int))]), (PyData.tuple [(PyData.int (0 : Int)), (PyData.int (1 : Int)), (PyData.int (2 : Int))]), (PyData.list [(PyData.int (0 : Int))]), (PyData.int (100000000000000000000 : Int))] : (List D))), some (PyData.int a242), some (PyData.int n_244), some (eT PyData.int s250), j251, some (eL (eT PyData.int) told_255), some (PyData.str kept_256), some (eL (eT PyData.int) lacking_259), j236, j237, j238, j239, j240, j241, none]) (rlcep (ea := (eT PyData.int)) (ef := (eT PyData.int)) (p := (fun (a257 : (List Int)) => (!memT a257 told_255))) (m := (fun (a257 : (List Int)) => a257)) (fun (a257 : (List Int)) => [none, none, some (eL eX ([PyData.none, (PyData.bool true), (PyData.int (0 : Int)), (PyData.int (1 : Int)), (PyData.int (-(1 : Int))), (PyData.str ("full" : Str)), (PyData.str ("lacks" : Str)), (PyData.tuple []), (PyData.tuple [(PyData.int (0 : Int))]), (PyData.tuple [(PyData.int (1 : Int)), (PyData.int (0 : Int))]), (PyData.tuple [(PyData.int (0 : Int)), (PyData.int (1 : Int)), (PyData.int (2 : Int))]), (PyData.list [(PyData.int (0 : Int))]), (PyData.int (100000000000000000000 : Int))] : (List D))), some (PyData.int a242), some (PyData.int n_244), some (eT PyData.int s250), j251, some (eL (eT PyData.int) told_255), some (PyData.str kept_256), j235, j236, some (eT PyData.int a257), j238, j239, j240, j241, none]) (sve_L (ea := (eT PyData.int)) (rcall (ac_cons (pv (d := (PyData.int n_244)) 4 rfl) ac_nil) (R__law_orders n_244))) rfl (fun a257 => rfl) (fun a257 => (tof_eq (op2_eq (e := (PyData.bool (!memT a257 told_255))) (pv (d := (eT PyData.int a257)) 11 rfl) (pv (d := (eL (eT PyData.int) told_255)) 7 rfl) (notIn_L (ea := (eT PyData.int)) a257 told_255)))) (fun a257 => (pv (d := (eT PyData.int a257)) 11 rfl))) (fun lacking_259 => rfl) (fun lacking_259 => ?_)
    refine rset (ea := eX) (fun due_262 => [none, none, some (eL eX ([PyData.none, (PyData.bool true), (PyData.int (0 : Int)), (PyData.int (1 : Int)), (PyData.int (-(1 : Int))), (PyData.str ("full" : Str)), (PyData.str ("lacks" : Str)), (PyData.tuple []), (PyData.tuple [(PyData.int (0 : Int))]), (PyData.tuple [(PyData.int (1 : Int)), (PyData.int (0 : Int))]), (PyData.tuple [(PyData.int (0 : Int)), (PyData.int (1 : Int)), (PyData.int (2 : Int))]), (PyData.list [(PyData.int (0 : Int))]), (PyData.int (100000000000000000000 : Int))] : (List D))), some (PyData.int a242), some (PyData.int n_244), some (eT PyData.int s250), j251, some (eL (eT PyData.int) told_255), some (PyData.str kept_256), some (eL (eT PyData.int) lacking_259), some due_262, j237, j238, j239, j240, j241, none]) (reifp (tof_eq (op2_eq (e := (PyData.bool (eqT lacking_259 ([] : (List (List Int)))))) (pv (d := (eL (eT PyData.int) lacking_259)) 9 rfl) (asE (eL (eT PyData.int)) ([] : (List (List Int))) (plst (ds := []) ac_nil (show 0 ≤ lim by decide))) (eq_ty (ea := (eL (eT PyData.int))) lacking_259 ([] : (List (List Int)))))) (rretE (ptup (ds := [(PyData.str ("full" : Str))]) (ac_cons (pc (.str "full")) ac_nil) (show 1 ≤ lim by decide))) (rtupc (racp (pc (.str "lacks")) (rac (rtoX (rop2pp (pv (d := (eL (eT PyData.int) lacking_259)) 9 rfl) (op1_eq (y := (PyData.int (-(1 : Int)))) (pc (.int 1)) (neg_I (1 : Int))) (ix_L (ea := (eT PyData.int)) lacking_259 (-(1 : Int))))) fun v261 => (ranil (rneedT (show 2 ≤ lim by decide) (rretE rfl))))))) (fun due_262 => rfl) (fun due_262 => ?_)
    refine rset (ea := (eT PyData.int)) (fun order_264 => [none, none, some (eL eX ([PyData.none, (PyData.bool true), (PyData.int (0 : Int)), (PyData.int (1 : Int)), (PyData.int (-(1 : Int))), (PyData.str ("full" : Str)), (PyData.str ("lacks" : Str)), (PyData.tuple []), (PyData.tuple [(PyData.int (0 : Int))]), (PyData.tuple [(PyData.int (1 : Int)), (PyData.int (0 : Int))]), (PyData.tuple [(PyData.int (0 : Int)), (PyData.int (1 : Int)), (PyData.int (2 : Int))]), (PyData.list [(PyData.int (0 : Int))]), (PyData.int (100000000000000000000 : Int))] : (List D))), some (PyData.int a242), some (PyData.int n_244), some (eT PyData.int s250), j251, some (eL (eT PyData.int) told_255), some (PyData.str kept_256), some (eL (eT PyData.int) lacking_259), some due_262, some (eT PyData.int order_264), j238, j239, j240, j241, none]) (rcallc (rac (rcall (ac_cons (pv (d := (PyData.int n_244)) 4 rfl) ac_nil) (R__law_orders n_244)) fun v263 => (ranil (R__law_of_L v263)))) (fun order_264 => rfl) (fun order_264 => ?_)
    refine rsetp (v := (eL eX ([due_262, (PyData.tuple [(PyData.str ("full" : Str))]), (PyData.tuple [(PyData.str ("lacks" : Str)), (eT PyData.int order_264)]), (PyData.tuple [(PyData.str ("lacks" : Str)), (eT PyData.int (List.reverse order_264))]), (PyData.tuple [(PyData.str ("lacks" : Str)), (eT PyData.int (cutA order_264 (some (1 : Int)) none))])] : (List D)))) (ρ' := [none, none, some (eL eX ([PyData.none, (PyData.bool true), (PyData.int (0 : Int)), (PyData.int (1 : Int)), (PyData.int (-(1 : Int))), (PyData.str ("full" : Str)), (PyData.str ("lacks" : Str)), (PyData.tuple []), (PyData.tuple [(PyData.int (0 : Int))]), (PyData.tuple [(PyData.int (1 : Int)), (PyData.int (0 : Int))]), (PyData.tuple [(PyData.int (0 : Int)), (PyData.int (1 : Int)), (PyData.int (2 : Int))]), (PyData.list [(PyData.int (0 : Int))]), (PyData.int (100000000000000000000 : Int))] : (List D))), some (PyData.int a242), some (PyData.int n_244), some (eT PyData.int s250), j251, some (eL (eT PyData.int) told_255), some (PyData.str kept_256), some (eL (eT PyData.int) lacking_259), some due_262, some (eT PyData.int order_264), some (eL eX ([due_262, (PyData.tuple [(PyData.str ("full" : Str))]), (PyData.tuple [(PyData.str ("lacks" : Str)), (eT PyData.int order_264)]), (PyData.tuple [(PyData.str ("lacks" : Str)), (eT PyData.int (List.reverse order_264))]), (PyData.tuple [(PyData.str ("lacks" : Str)), (eT PyData.int (cutA order_264 (some (1 : Int)) none))])] : (List D))), j239, j240, j241, none]) (asE (eL eX) ([due_262, (PyData.tuple [(PyData.str ("full" : Str))]), (PyData.tuple [(PyData.str ("lacks" : Str)), (eT PyData.int order_264)]), (PyData.tuple [(PyData.str ("lacks" : Str)), (eT PyData.int (List.reverse order_264))]), (PyData.tuple [(PyData.str ("lacks" : Str)), (eT PyData.int (cutA order_264 (some (1 : Int)) none))])] : (List D)) (plst (ds := [due_262, (PyData.tuple [(PyData.str ("full" : Str))]), (PyData.tuple [(PyData.str ("lacks" : Str)), (eT PyData.int order_264)]), (PyData.tuple [(PyData.str ("lacks" : Str)), (eT PyData.int (List.reverse order_264))]), (PyData.tuple [(PyData.str ("lacks" : Str)), (eT PyData.int (cutA order_264 (some (1 : Int)) none))])]) (ac_cons (pv (d := due_262) 10 rfl) (ac_cons (ptup (ds := [(PyData.str ("full" : Str))]) (ac_cons (pc (.str "full")) ac_nil) (show 1 ≤ lim by decide)) (ac_cons (ptup (ds := [(PyData.str ("lacks" : Str)), (eT PyData.int order_264)]) (ac_cons (pc (.str "lacks")) (ac_cons (pv (d := (eT PyData.int order_264)) 11 rfl) ac_nil)) (show 2 ≤ lim by decide)) (ac_cons (ptup (ds := [(PyData.str ("lacks" : Str)), (eT PyData.int (List.reverse order_264))]) (ac_cons (pc (.str "lacks")) (ac_cons (op1_eq (y := (eT PyData.int (List.reverse order_264))) (pv (d := (eT PyData.int order_264)) 11 rfl) (rev_T (ea := PyData.int) order_264)) ac_nil)) (show 2 ≤ lim by decide)) (ac_cons (ptup (ds := [(PyData.str ("lacks" : Str)), (eT PyData.int (cutA order_264 (some (1 : Int)) none))]) (ac_cons (pc (.str "lacks")) (ac_cons (pslc (pv (d := (eT PyData.int order_264)) 11 rfl) (po_some (pc (.int 1))) po_none (sl_T (ea := PyData.int) order_264 (some (1 : Int)) none)) ac_nil)) (show 2 ≤ lim by decide)) ac_nil))))) (show 5 ≤ lim by decide))) rfl ?_
    refine rset (ea := (eL eX)) (fun values_269 => [none, none, some (eL eX ([PyData.none, (PyData.bool true), (PyData.int (0 : Int)), (PyData.int (1 : Int)), (PyData.int (-(1 : Int))), (PyData.str ("full" : Str)), (PyData.str ("lacks" : Str)), (PyData.tuple []), (PyData.tuple [(PyData.int (0 : Int))]), (PyData.tuple [(PyData.int (1 : Int)), (PyData.int (0 : Int))]), (PyData.tuple [(PyData.int (0 : Int)), (PyData.int (1 : Int)), (PyData.int (2 : Int))]), (PyData.list [(PyData.int (0 : Int))]), (PyData.int (100000000000000000000 : Int))] : (List D))), some (PyData.int a242), some (PyData.int n_244), some (eT PyData.int s250), j251, some (eL (eT PyData.int) told_255), some (PyData.str kept_256), some (eL (eT PyData.int) lacking_259), some due_262, some (eT PyData.int order_264), some (eL eX values_269), j239, j240, j241, none]) (rop2pe (pv (d := (eL eX ([due_262, (PyData.tuple [(PyData.str ("full" : Str))]), (PyData.tuple [(PyData.str ("lacks" : Str)), (eT PyData.int order_264)]), (PyData.tuple [(PyData.str ("lacks" : Str)), (eT PyData.int (List.reverse order_264))]), (PyData.tuple [(PyData.str ("lacks" : Str)), (eT PyData.int (cutA order_264 (some (1 : Int)) none))])] : (List D)))) 12 rfl) (rlstc (racp (ptup (ds := [(PyData.str ("lacks" : Str)), (eL PyData.int order_264)]) (ac_cons (pc (.str "lacks")) (ac_cons (pcall (d := (eL PyData.int order_264)) (ac_cons (pv (d := (eT PyData.int order_264)) 11 rfl) ac_nil) (lst_T (ea := PyData.int) order_264)) ac_nil)) (show 2 ≤ lim by decide)) (racp (ptup (ds := [(PyData.str ("full" : Str)), (PyData.int (0 : Int))]) (ac_cons (pc (.str "full")) (ac_cons (pc (.int 0)) ac_nil)) (show 2 ≤ lim by decide)) (rac (rcall (ac_cons (pv (d := due_262) 10 rfl) ac_nil) rX) fun v265 => (rac (rop2pp (pv (d := due_262) 10 rfl) (asE (eT PyData.int) ([(0 : Int)] : (List Int)) (ptup (ds := [(PyData.int (0 : Int))]) (ac_cons (pc (.int 0)) ac_nil) (show 1 ≤ lim by decide))) rX) fun v266 => (rac (rop1p (pv (d := due_262) 10 rfl) rX) fun v267 => (racp (pc .none) (racp (ptup (ds := []) ac_nil (show 0 ≤ lim by decide)) (racp (pc (.str "full")) (ranil (rneedT (show 8 ≤ lim by decide) (rretE (e := (eL eX)) rfl)))))))))))) fun v268 => (cat_L (ea := eX) ([due_262, (PyData.tuple [(PyData.str ("full" : Str))]), (PyData.tuple [(PyData.str ("lacks" : Str)), (eT PyData.int order_264)]), (PyData.tuple [(PyData.str ("lacks" : Str)), (eT PyData.int (List.reverse order_264))]), (PyData.tuple [(PyData.str ("lacks" : Str)), (eT PyData.int (cutA order_264 (some (1 : Int)) none))])] : (List D)) v268)) (fun values_269 => rfl) (fun values_269 => ?_)
    refine rset (ea := (eL eX)) (fun values_270 => [none, none, some (eL eX ([PyData.none, (PyData.bool true), (PyData.int (0 : Int)), (PyData.int (1 : Int)), (PyData.int (-(1 : Int))), (PyData.str ("full" : Str)), (PyData.str ("lacks" : Str)), (PyData.tuple []), (PyData.tuple [(PyData.int (0 : Int))]), (PyData.tuple [(PyData.int (1 : Int)), (PyData.int (0 : Int))]), (PyData.tuple [(PyData.int (0 : Int)), (PyData.int (1 : Int)), (PyData.int (2 : Int))]), (PyData.list [(PyData.int (0 : Int))]), (PyData.int (100000000000000000000 : Int))] : (List D))), some (PyData.int a242), some (PyData.int n_244), some (eT PyData.int s250), j251, some (eL (eT PyData.int) told_255), some (PyData.str kept_256), some (eL (eT PyData.int) lacking_259), some due_262, some (eT PyData.int order_264), some (eL eX values_270), j239, j240, j241, none]) (rop2pp (pv (d := (eL eX values_269)) 12 rfl) (asE (eL eX) ([(PyData.tuple [(PyData.str ("lacks" : Str))]), (PyData.tuple [(PyData.str ("Full" : Str))])] : (List D)) (plst (ds := [(PyData.tuple [(PyData.str ("lacks" : Str))]), (PyData.tuple [(PyData.str ("Full" : Str))])]) (ac_cons (ptup (ds := [(PyData.str ("lacks" : Str))]) (ac_cons (pc (.str "lacks")) ac_nil) (show 1 ≤ lim by decide)) (ac_cons (ptup (ds := [(PyData.str ("Full" : Str))]) (ac_cons (pc (.str "Full")) ac_nil) (show 1 ≤ lim by decide)) ac_nil)) (show 2 ≤ lim by decide))) (cat_L (ea := eX) values_269 ([(PyData.tuple [(PyData.str ("lacks" : Str))]), (PyData.tuple [(PyData.str ("Full" : Str))])] : (List D)))) (fun values_270 => rfl) (fun values_270 => ?_)
    refine rforFe (ea := eX) (er := PyData.bool) (σ := Unit) (fun (s275 : Unit) ρ => ∃ j276 j277 j278 : Option D, ρ = [none, none, some (eL eX ([PyData.none, (PyData.bool true), (PyData.int (0 : Int)), (PyData.int (1 : Int)), (PyData.int (-(1 : Int))), (PyData.str ("full" : Str)), (PyData.str ("lacks" : Str)), (PyData.tuple []), (PyData.tuple [(PyData.int (0 : Int))]), (PyData.tuple [(PyData.int (1 : Int)), (PyData.int (0 : Int))]), (PyData.tuple [(PyData.int (0 : Int)), (PyData.int (1 : Int)), (PyData.int (2 : Int))]), (PyData.list [(PyData.int (0 : Int))]), (PyData.int (100000000000000000000 : Int))] : (List D))), some (PyData.int a242), some (PyData.int n_244), some (eT PyData.int s250), j251, some (eL (eT PyData.int) told_255), some (PyData.str kept_256), some (eL (eT PyData.int) lacking_259), some due_262, some (eT PyData.int order_264), some (eL eX values_270), j276, j277, j278, none]) () (sve_L (ea := eX) (rop2pe (pv (d := (eL eX values_270)) 12 rfl) (rlcpe (ea := PyData.int) (ef := eX) (xs := (rangeI 0 (8 : Int))) (fun (a271 : Int) => [none, none, some (eL eX ([PyData.none, (PyData.bool true), (PyData.int (0 : Int)), (PyData.int (1 : Int)), (PyData.int (-(1 : Int))), (PyData.str ("full" : Str)), (PyData.str ("lacks" : Str)), (PyData.tuple []), (PyData.tuple [(PyData.int (0 : Int))]), (PyData.tuple [(PyData.int (1 : Int)), (PyData.int (0 : Int))]), (PyData.tuple [(PyData.int (0 : Int)), (PyData.int (1 : Int)), (PyData.int (2 : Int))]), (PyData.list [(PyData.int (0 : Int))]), (PyData.int (100000000000000000000 : Int))] : (List D))), some (PyData.int a242), some (PyData.int n_244), some (eT PyData.int s250), j251, some (eL (eT PyData.int) told_255), some (PyData.str kept_256), some (eL (eT PyData.int) lacking_259), some due_262, some (eT PyData.int order_264), some (eL eX values_270), j239, j240, j241, some (PyData.int a271)]) (sr1l (hi := (8 : Int)) (ac_cons (pc (.int 8)) ac_nil) (by decide)) rfl (fun a271 => rfl) (fun a271 => yesB) (fun a271 => (rcallc (rac (rcall (ac_cons (pslc (pv (d := (eL eX values_270)) 12 rfl) po_none (po_some (pc (.int 3))) (sl_L (ea := eX) values_270 none (some (3 : Int)))) ac_nil) (R__law_of (cutA values_270 none (some (3 : Int))))) fun v272 => (racp (pv (d := (eL eX ([PyData.none, (PyData.bool true), (PyData.int (0 : Int)), (PyData.int (1 : Int)), (PyData.int (-(1 : Int))), (PyData.str ("full" : Str)), (PyData.str ("lacks" : Str)), (PyData.tuple []), (PyData.tuple [(PyData.int (0 : Int))]), (PyData.tuple [(PyData.int (1 : Int)), (PyData.int (0 : Int))]), (PyData.tuple [(PyData.int (0 : Int)), (PyData.int (1 : Int)), (PyData.int (2 : Int))]), (PyData.list [(PyData.int (0 : Int))]), (PyData.int (100000000000000000000 : Int))] : (List D)))) 2 rfl) (ranil (R__law_near 8 v272 ([PyData.none, (PyData.bool true), (PyData.int (0 : Int)), (PyData.int (1 : Int)), (PyData.int (-(1 : Int))), (PyData.str ("full" : Str)), (PyData.str ("lacks" : Str)), (PyData.tuple []), (PyData.tuple [(PyData.int (0 : Int))]), (PyData.tuple [(PyData.int (1 : Int)), (PyData.int (0 : Int))]), (PyData.tuple [(PyData.int (0 : Int)), (PyData.int (1 : Int)), (PyData.int (2 : Int))]), (PyData.list [(PyData.int (0 : Int))]), (PyData.int (100000000000000000000 : Int))] : (List D))))))))) fun v274 => (cat_L (ea := eX) values_270 v274))) ⟨_, _, _, rfl⟩ (fun s275 a279 ρ h => ?_) (fun s275 ρ h => ?_) hrF
    · obtain ⟨j276, j277, j278, rfl⟩ := h
      refine rpure (b := [none, none, some (eL eX ([PyData.none, (PyData.bool true), (PyData.int (0 : Int)), (PyData.int (1 : Int)), (PyData.int (-(1 : Int))), (PyData.str ("full" : Str)), (PyData.str ("lacks" : Str)), (PyData.tuple []), (PyData.tuple [(PyData.int (0 : Int))]), (PyData.tuple [(PyData.int (1 : Int)), (PyData.int (0 : Int))]), (PyData.tuple [(PyData.int (0 : Int)), (PyData.int (1 : Int)), (PyData.int (2 : Int))]), (PyData.list [(PyData.int (0 : Int))]), (PyData.int (100000000000000000000 : Int))] : (List D))), some (PyData.int a242), some (PyData.int n_244), some (eT PyData.int s250), j251, some (eL (eT PyData.int) told_255), some (PyData.str kept_256), some (eL (eT PyData.int) lacking_259), some due_262, some (eT PyData.int order_264), some (eL eX values_270), some a279, j277, j278, none]) rfl ?_
      refine rparc ?_
      refine rac (ea := PyData.str) (rcall (ac_cons (pv (d := a279) 13 rfl) ac_nil) (repr_T a279)) fun shown_280 => ?_
      refine rac (ea := eX) (rcall (ac_cons (pv (d := (PyData.int n_244)) 4 rfl) (ac_cons (pv (d := (eT PyData.int s250)) 5 rfl) (ac_cons (pv (d := a279) 13 rfl) ac_nil))) (R__law_fault n_244 s250 a279)) fun fault_281 => ?_
      refine ranilr (ρ' := [none, none, some (eL eX ([PyData.none, (PyData.bool true), (PyData.int (0 : Int)), (PyData.int (1 : Int)), (PyData.int (-(1 : Int))), (PyData.str ("full" : Str)), (PyData.str ("lacks" : Str)), (PyData.tuple []), (PyData.tuple [(PyData.int (0 : Int))]), (PyData.tuple [(PyData.int (1 : Int)), (PyData.int (0 : Int))]), (PyData.tuple [(PyData.int (0 : Int)), (PyData.int (1 : Int)), (PyData.int (2 : Int))]), (PyData.list [(PyData.int (0 : Int))]), (PyData.int (100000000000000000000 : Int))] : (List D))), some (PyData.int a242), some (PyData.int n_244), some (eT PyData.int s250), j251, some (eL (eT PyData.int) told_255), some (PyData.str kept_256), some (eL (eT PyData.int) lacking_259), some due_262, some (eT PyData.int order_264), some (eL eX values_270), some a279, some (PyData.str shown_280), some fault_281, none]) rfl ?_
      refine rife (rtore (rtof (rop2ee (rcallc (rac (rcall (ac_cons (pv (d := (PyData.int n_244)) 4 rfl) (ac_cons (pv (d := (eT PyData.int s250)) 5 rfl) (ac_cons (pv (d := a279) 13 rfl) ac_nil))) (R_judge_full n_244 s250 a279)) fun v282 => (ranil (repr_T v282)))) (rcall (ac_cons (pv (d := fault_281) 15 rfl) ac_nil) (repr_T fault_281)) fun v283 v284 => (rretE (neS v283 v284)))) (rtof (rop2ep (rcall (ac_cons (pv (d := a279) 13 rfl) ac_nil) (repr_T a279)) (pv (d := (PyData.str shown_280)) 14 rfl) fun v285 => (rretE (neS v285 shown_280))))) ?_ ?_
      · refine rassoc ?_
        exact rretp (ea := PyData.bool) (v := false) (pc (.bool false)) ⟨_, rfl⟩
      · refine rpass ?_
        refine rife (rtandp (tof_eq (op2_eq (e := (PyData.bool (isNon fault_281))) (pv (d := fault_281) 15 rfl) (pc .none) (isX_none fault_281))) (rtof (rop2ee (rop2pp (pv (d := a279) 13 rfl) (pc (.int 0)) rX) (rop2pp (pv (d := due_262) 10 rfl) (pc (.int 0)) rX) fun v287 v288 => (neX v287 v288)))) ?_ ?_
        · refine rassoc ?_
          exact rretp (ea := PyData.bool) (v := false) (pc (.bool false)) ⟨_, rfl⟩
        · refine rpass ?_
          exact rend ⟨_, rfl, _, _, _, rfl⟩
    obtain ⟨j276, j277, j278, rfl⟩ := h
    refine rife (rtof (rop2ep (rcall (ac_cons (pv (d := (eT PyData.int s250)) 5 rfl) ac_nil) (repr_T (eT PyData.int s250))) (pv (d := (PyData.str kept_256)) 8 rfl) fun v291 => (rretE (neS v291 kept_256)))) ?_ ?_
    · refine rassoc ?_
      exact rretp (ea := PyData.bool) (v := false) (pc (.bool false)) ⟨_, rfl⟩
    · refine rpass ?_
      exact rend ⟨_, rfl, _, _, _, _, _, _, _, _, _, _, _, _, _, rfl⟩
  obtain ⟨j229, j230, j231, j232, j233, j234, j235, j236, j237, j238, j239, j240, j241, rfl⟩ := h
  exact rretv (rop2ep (rcall (ac_cons (pc (.int 3)) (ac_cons (asE (eT PyData.int) ([(0 : Int), (1 : Int), (2 : Int)] : (List Int)) (ptup (ds := [(PyData.int (0 : Int)), (PyData.int (1 : Int)), (PyData.int (2 : Int))]) (ac_cons (pc (.int 0)) (ac_cons (pc (.int 1)) (ac_cons (pc (.int 2)) ac_nil))) (show 3 ≤ lim by decide))) (ac_cons (ptup (ds := [(PyData.str ("lacks" : Str)), (PyData.tuple [(PyData.int (0 : Int)), (PyData.int (1 : Int)), (PyData.int (2 : Int))])]) (ac_cons (pc (.str "lacks")) (ac_cons (ptup (ds := [(PyData.int (0 : Int)), (PyData.int (1 : Int)), (PyData.int (2 : Int))]) (ac_cons (pc (.int 0)) (ac_cons (pc (.int 1)) (ac_cons (pc (.int 2)) ac_nil))) (show 3 ≤ lim by decide)) ac_nil)) (show 2 ≤ lim by decide)) ac_nil))) (R_judge_full (3 : Int) ([(0 : Int), (1 : Int), (2 : Int)] : (List Int)) (PyData.tuple [(PyData.str ("lacks" : Str)), (PyData.tuple [(PyData.int (0 : Int)), (PyData.int (1 : Int)), (PyData.int (2 : Int))])]))) (ptup (ds := [(PyData.str ("there" : Str)), (PyData.int (0 : Int))]) (ac_cons (pc (.str "there")) (ac_cons (pc (.int 0)) ac_nil)) (show 2 ≤ lim by decide)) fun v296 => (eqX v296 (PyData.tuple [(PyData.str ("there" : Str)), (PyData.int (0 : Int))])))
theorem law_from (h : W T_law fun b => b = true) : LawHolds g_law lawN.length := ⟨R_law.run _ (Tr.wp_mono (fun b hb r hr => by obtain ⟨ρ, rfl⟩ := hr; rw [hb]; exact ⟨ρ, rfl⟩) h.run)⟩
end Pv

namespace Pv
open PySem PySem.Spec PyProof.Rows L2
theorem two_same (m : Int) (row : List Int) : T_order_places m row = T__law_windows m row := by unfold T_order_places T__law_windows; rfl
def Inm (m : Int) (row : List Int) : Prop := ∀ x ∈ row, 0 ≤ x ∧ x < m
theorem sIx_le (n : Nat) (d : Nat) (i : Option Int) (h : d ≤ n) : HT.sIx n d i ≤ n := by
  unfold HT.sIx
  cases i with
  | none => exact h
  | some i => dsimp only; split <;> omega
theorem cut_mem {α : Type} {xs : List α} {a b : Option Int} {x : α} (h : x ∈ cutA xs a b) : x ∈ xs := by
  unfold cutA at h
  exact List.mem_of_mem_drop (List.mem_of_mem_take h)
theorem cut_len {α : Type} (xs : List α) (a b : Option Int) : (cutA xs a b).length ≤ xs.length := by
  unfold cutA
  rw [List.length_take, List.length_drop]; omega
/-- windows -/
theorem windows_ret {m : Int} {row : List Int} (h0 : 1 ≤ m) (h1 : m ≤ 5) (hl : row.length ≤ 200) (hr : Inm m row) : ∃ ws, T__law_windows m row = .ret ws ∧ ws.length ≤ 201 ∧ (∀ a ∈ ws, a.2.length ≤ 200 ∧ Inm m a.2) ∧ ∀ a ∈ ws, 0 ≤ a.1 ∧ a.1 ≤ 200 := by
  have hlim := lim_val0
  have hn : (rangeI 0 ((row.length : Int) - m + 1)).length ≤ 201 := by rw [rangeI_len]; omega
  have hmem : ∀ a ∈ (rangeI 0 ((row.length : Int) - m + 1)).map (fun (a61 : Int) => (a61, (cutA row (some a61) (some (a61 + m))))), a.2.length ≤ 200 ∧ Inm m a.2 := fun a ha => by
    obtain ⟨i, _, rfl⟩ := List.mem_map.mp ha
    exact ⟨Nat.le_trans (cut_len _ _ _) hl, fun x hx => hr x (cut_mem hx)⟩
  have hlc := lcT_eq (xs := (rangeI 0 ((row.length : Int) - m + 1)).map (fun (a61 : Int) => (a61, (cutA row (some a61) (some (a61 + m))))))
    (p := fun (a64 : (Int × (List Int))) => (((need (okSrt PyData.int a64.2 = true ∧ (a64.2).length ≤ lim) (.ret (sortT (leE PyData.int) a64.2)))).bind fun v66 => ((((rangeT 0 m)).bind fun xs65 => need ((xs65).length ≤ lim) (.ret xs65))).bind fun v67 => .ret (eqT v66 v67)))
    (m := fun (a64 : (Int × (List Int))) => .ret (a64.1, a64.2))
    (q := fun a => eqT (sortT (leE PyData.int) a.2) (rangeI 0 m)) (g := fun a => (a.1, a.2))
    (fun a ha => by
      have := (hmem a ha).1
      rw [need_pos ⟨okSrt_int _, by omega⟩, Tr.ret_bind, rangeT_eq (by omega) (by omega) (by omega) (by omega), Tr.ret_bind, need_pos (by rw [rangeI_len]; omega)]; rfl)
    (fun a _ _ => rfl)
  refine ⟨(((rangeI 0 ((row.length : Int) - m + 1)).map (fun (a61 : Int) => (a61, (cutA row (some a61) (some (a61 + m)))))).filter (fun a => eqT (sortT (leE PyData.int) a.2) (rangeI 0 m))).map (fun a => (a.1, a.2)), ?_, ?_, ?_, ?_⟩
  · unfold T__law_windows
    rw [rangeT_eq (by omega) (by omega) (by omega) (by omega), Tr.ret_bind, need_pos (by omega), Tr.ret_bind, hlc, Tr.ret_bind, need_pos]
    have := List.length_filter_le (fun a => eqT (sortT (leE PyData.int) a.2) (rangeI 0 m)) ((rangeI 0 ((row.length : Int) - m + 1)).map (fun (a61 : Int) => (a61, (cutA row (some a61) (some (a61 + m))))))
    rw [List.length_map] at this ⊢
    omega
  · have := List.length_filter_le (fun a => eqT (sortT (leE PyData.int) a.2) (rangeI 0 m)) ((rangeI 0 ((row.length : Int) - m + 1)).map (fun (a61 : Int) => (a61, (cutA row (some a61) (some (a61 + m))))))
    rw [List.length_map] at this ⊢
    omega
  · intro a ha
    obtain ⟨b, hb, rfl⟩ := List.mem_map.mp ha
    exact hmem b (List.mem_filter.mp hb).1
  · intro a ha
    obtain ⟨b, hb, rfl⟩ := List.mem_map.mp ha
    obtain ⟨i, hi, rfl⟩ := List.mem_map.mp (List.mem_filter.mp hb).1
    have := mem_rangeI.mp hi
    show 0 ≤ i ∧ i ≤ 200
    omega
/-- the two ways to gather the orders told -/
theorem told_ret {m : Int} {row : List Int} (h0 : 1 ≤ m) (h1 : m ≤ 5) (hl : row.length ≤ 200) (hr : Inm m row) : ∃ (ks : List (List Int)) (ws : List (Int × List Int)), T__law_told m row = .ret ks ∧ T_orders_told m row = .ret ks ∧ ks.length ≤ 201 ∧ T__law_windows m row = .ret ws ∧ ws.length ≤ 201 ∧ (∀ a ∈ ws, 0 ≤ a.1 ∧ a.1 ≤ 200) ∧ ks = ddup (ws.map (·.2)) := by
  have hlim := lim_val0
  obtain ⟨ws, e, hw, hm, hix⟩ := windows_ret h0 h1 hl hr
  have hks : ∀ k ∈ ws.map (·.2), k.length ≤ 200 ∧ Inm m k := fun k hk => by
    obtain ⟨a, ha, rfl⟩ := List.mem_map.mp hk
    exact hm a ha
  have hd := ddup_len (ws.map (·.2))
  rw [List.length_map] at hd
  refine ⟨ddup (ws.map (·.2)), ws, ?_, ?_, by omega, e, hw, hix, rfl⟩
  · unfold T__law_told
    rw [e, Tr.ret_bind]
    have := forS_eq (f := fun (s69 : (List (List Int))) (a72 : (Int × (List Int))) => (((((need (-(2 ^ 63) ≤ (b2i (!memT a72.2 s69)) ∧ (b2i (!memT a72.2 s69)) < 2 ^ 63 ∧ (([a72.2] : (List (List Int)))).length * ((b2i (!memT a72.2 s69))).toNat ≤ lim) (.ret (List.replicate ((b2i (!memT a72.2 s69))).toNat ([a72.2] : (List (List Int)))).flatten))).bind fun v73 => (need ((s69).length + (v73).length ≤ lim) (.ret (s69 ++ v73))))).bind fun found_74 => .ret found_74))
      (g := fun s a => addK s a.2) (fun done s => s.length ≤ done.length) (xs := ws) (s0 := []) (Nat.le_refl 0) (fun done a rest s ex hs => by
        have hx := congrArg List.length ex
        rw [List.length_append, List.length_cons] at hx
        have ha := addK_len s a.2
        refine ⟨?_, by rw [List.length_append]; simp; omega⟩
        unfold addK
        by_cases h : a.2 ∈ s
        · rw [if_pos h]
          have hb : b2i (!memT a.2 s) = 0 := by
            have : memT a.2 s = true := memT_pos h
            rw [this]; rfl
          rw [hb, need_pos ⟨by decide, by decide, by show 1 * 0 ≤ lim; omega⟩, Tr.ret_bind]
          show (need (s.length + 0 ≤ lim) (.ret (s ++ []))).bind _ = _
          rw [need_pos (by omega), List.append_nil]; rfl
        · rw [if_neg h]
          have hb : b2i (!memT a.2 s) = 1 := by
            have : memT a.2 s = false := memT_neg h
            rw [this]; rfl
          rw [hb, need_pos ⟨by decide, by decide, by show 1 * 1 ≤ lim; omega⟩, Tr.ret_bind]
          show (need (s.length + 1 ≤ lim) (.ret (s ++ [a.2]))).bind _ = _
          rw [need_pos (by omega)]; rfl)
    rw [this.1, Tr.ret_bind]
    unfold ddup
    rw [List.foldl_map]
  · unfold T_orders_told
    rw [two_same, e, Tr.ret_bind]
    obtain ⟨mm, em, ek, el⟩ := dc_keys (p := fun (a9 : (Int × (List Int))) => .ret true) (mk := fun (a9 : (Int × (List Int))) => .ret a9.2) (mv := fun (a9 : (Int × (List Int))) => .ret true) (k := fun a => a.2) (v := fun _ => true) (xs := ws) (fun _ _ => rfl) (fun _ _ => rfl) (fun _ _ => rfl) (by omega)
    rw [em, Tr.ret_bind, need_pos (by omega), ek]
theorem mixed_w {xs : List Int} (h : xs.length ≤ 1000) : W (T__law_mixed xs) fun ys => ys.Perm xs := by
  unfold T__law_mixed
  exact .need h (.then (.drain h) fun ys hy => .ret hy)
theorem inm_snoc {m : Int} {row : List Int} {x : Int} (h : Inm m row) (h0 : 0 ≤ x) (h1 : x < m) : Inm m (row ++ [x]) := fun y hy => by
  rcases List.mem_append.mp hy with hy | hy
  · exact h y hy
  · rw [List.mem_singleton] at hy; subst hy; exact ⟨h0, h1⟩
theorem row_w {m : Int} (h0 : 1 ≤ m) (h1 : m ≤ 5) : W (T__law_row m 40) fun row => row.length ≤ 200 ∧ Inm m row := by
  have hlim := lim_val0
  unfold T__law_row
  refine .then (P := fun row => row.length ≤ 5 ∧ Inm m row) (.bind (.bind (.pick (by decide) fun r _ _ => .ret ?_))) fun row0 h => ?_
  · refine .ite (fun _ => .bind (.bind (.eqb (rangeT_eq (by decide) (by decide) (by omega) (by omega)) (.need (by rw [rangeI_len]; omega) (.ret ?_))))) fun _ => .ret ⟨Nat.zero_le _, fun x hx => by cases hx⟩
    refine (mixed_w (by rw [rangeI_len]; omega)).mono fun ys hp => .ret ⟨by rw [hp.length_eq, rangeI_len]; omega, fun x hx => by have := mem_rangeI.mp (hp.mem_iff.mp hx); omega⟩
  · refine .bind (.bind (.pick (by decide) fun r r0 r1 => .eq (rangeT_eq (by decide) (by decide) (by omega) (by omega)) ?_))
    refine .then (P := fun row => row.length ≤ 200 ∧ Inm m row) (.forI (fun done row => row.length ≤ 5 + 2 * done.length ∧ Inm m row) h (fun done a rest s e hs => ?_) fun s hs => ⟨by rw [rangeI_len] at hs; omega, hs.2⟩) fun s hs => .ret hs
    have hd := congrArg List.length e
    rw [rangeI_len, List.length_append, List.length_cons] at hd
    have hl := hs.1
    have put : ∀ x : Int, 0 ≤ x → x < m → (s ++ [x]).length ≤ 5 + 2 * (done ++ [a]).length ∧ Inm m (s ++ [x]) := fun x x0 x1 => ⟨by rw [List.length_append, List.length_append]; simp; omega, inm_snoc hs.2 x0 x1⟩
    refine .bind (.pick (by decide) fun way _ _ => ?_)
    refine .ite (fun _ => ?_) fun hc => ?_
    · refine .bind (.bind (.bind (.pick (by omega) fun x x0 x1 => .ret (W.need (by simp; omega) (.ret (.ret ?_))))))
      exact put x x0 (by omega)
    · have hm : m ≤ (s.length : Int) := by
        rw [Bool.or_eq_false_iff] at hc
        have := of_decide_eq_false hc.1; omega
      refine .ite (fun _ => ?_) fun hc2 => ?_
      · refine .bind (.bind (.eqb (getT_int (xs := s) (i := (s.length : Int) - m) (by omega) (by omega)) (.ret (W.need (by simp; omega) (.ret (.ret ?_))))))
        have := hs.2 _ (List.getElem_mem (show ((s.length : Int) - m).toNat < s.length by omega))
        exact put _ this.1 this.2
      · have hm2 : 2 ≤ m := by
          rw [Bool.or_eq_false_iff] at hc2
          have : ¬ m = 1 := fun e => by rw [e] at hc2; exact absurd hc2.2 (by decide)
          omega
        refine .bind (.bind (.eqb (getT_int (xs := s) (i := (s.length : Int) - m + 1) (by omega) (by omega)) (.eqb (getT_int (xs := s) (i := (s.length : Int) - m) (by omega) (by omega)) (.ret (W.need (by simp; omega) (.ret (.ret ?_)))))))
        have a1 := hs.2 _ (List.getElem_mem (show ((s.length : Int) - m + 1).toNat < s.length by omega))
        have a2 := hs.2 _ (List.getElem_mem (show ((s.length : Int) - m).toNat < s.length by omega))
        refine ⟨by rw [List.length_append, List.length_append]; simp; omega, ?_⟩
        have := inm_snoc (inm_snoc hs.2 a1.1 a1.2) a2.1 a2.2
        rwa [List.append_assoc] at this
theorem sz_row {m : Int} {row : List Int} (h1 : m ≤ 5) (hl : row.length ≤ 200) (hr : Inm m row) : Sz (eT PyData.int row) 2200 := (sz_eT (e := PyData.int) (w := 10) fun x hx => sz_int (by have := hr x hx; omega)).le (by omega)
end Pv

namespace Pv
open PySem PySem.Spec PyProof.Rows L2
theorem getK_mem {κ α : Type} [DecidableEq κ] (k : κ) : ∀ m : List (κ × α), (getK m k).isSome = decide (k ∈ m.map (·.1))
  | [] => rfl
  | p :: m => by
    have ih := getK_mem k m
    show (if p.1 = k then some p.2 else getK m k).isSome = _
    by_cases h : p.1 = k
    · rw [if_pos h, decide_eq_true (by rw [List.map_cons, h]; exact List.mem_cons_self)]; rfl
    · rw [if_neg h, ih]
      congr 1
      rw [List.map_cons, List.mem_cons]
      exact propext ⟨.inr, fun z => z.elim (fun e => absurd e.symm h) id⟩
/-- all orders of n -/
def ords (n : Int) : List (List Int) := getR [] (T__law_orders n)
def tupsL (m : Int) : Nat → List (List Int)
  | 0 => [[]]
  | k + 1 => (tupsL m k).flatMap fun r => (rangeI 0 m).map fun x => x :: r
theorem tupsL_mem {m : Int} : ∀ (k : Nat) (r : List Int), r.length = k → (∀ x ∈ r, 0 ≤ x ∧ x < m) → r ∈ tupsL m k
  | 0, [], _, _ => List.mem_singleton.mpr rfl
  | 0, _ :: _, h, _ => by cases h
  | k + 1, [], h, _ => by cases h
  | k + 1, x :: r, h, hx => by
    refine List.mem_flatMap.mpr ⟨r, tupsL_mem k r (by simpa using h) fun y hy => hx y (List.mem_cons_of_mem _ hy), ?_⟩
    exact List.mem_map.mpr ⟨x, mem_rangeI.mpr (hx x List.mem_cons_self), rfl⟩
def ordsB (n : Int) : Bool := isRet (T__law_orders n) (ords n) && isRet (T_orders_ascending n) (ords n) && decide ((ords n).length ≤ 24) && decide (0 < (ords n).length) && (ords n).all (fun o => decide (o.length ≤ 4 ∧ (o.length : Int) = n) && o.all (fun x => decide (0 ≤ x ∧ x < 4)))
   && (tupsL n n.toNat).all (fun r => !(decide (sortT leI r = rangeI 0 n)) || decide (r ∈ ords n))
theorem ordsB_all : (ordsB 1 && ordsB 2 && ordsB 3 && ordsB 4) = true := by decide +kernel
structure Ords (n : Int) : Prop where
  law : T__law_orders n = .ret (ords n)
  asc : T_orders_ascending n = .ret (ords n)
  len : (ords n).length ≤ 24
  pos : 0 < (ords n).length
  sm : ∀ o ∈ ords n, (o.length ≤ 4 ∧ (o.length : Int) = n) ∧ ∀ x ∈ o, 0 ≤ x ∧ x < 4
  all : ∀ r : List Int, sortT leI r = rangeI 0 n → r ∈ ords n
theorem ords_ok {n : Int} (h0 : 1 ≤ n) (h1 : n ≤ 4) : Ords n := by
  have h : ordsB n = true := by
    have := ordsB_all
    simp only [Bool.and_eq_true] at this
    obtain ⟨⟨⟨o1, o2⟩, o3⟩, o4⟩ := this
    have : n = 1 ∨ n = 2 ∨ n = 3 ∨ n = 4 := by omega
    rcases this with rfl | rfl | rfl | rfl
    · exact o1
    · exact o2
    · exact o3
    · exact o4
  unfold ordsB at h
  simp only [Bool.and_eq_true, decide_eq_true_eq] at h
  obtain ⟨⟨⟨⟨⟨a, b⟩, c⟩, d⟩, e⟩, f⟩ := h
  refine ⟨isRet_ok a, isRet_ok b, c, d, fun o ho => ?_, fun r hr => ?_⟩
  · have := List.all_eq_true.mp e o ho
    simp only [Bool.and_eq_true, decide_eq_true_eq, List.all_eq_true] at this
    exact ⟨this.1, this.2⟩
  · have p : r.Perm (rangeI 0 n) := hr ▸ (sortT_perm leI r).symm
    have hl := p.length_eq
    rw [rangeI_len, Int.sub_zero] at hl
    have := List.all_eq_true.mp f r (tupsL_mem _ r hl fun x hx => mem_rangeI.mp (p.mem_iff.mp hx))
    rw [hr, decide_eq_true rfl] at this
    simpa using this
/-- the orders that a row lacks -/
def lack (n : Int) (ks : List (List Int)) : List (List Int) := (ords n).filter fun a => !memT a ks
theorem lack_len {n : Int} (h : Ords n) (ks : List (List Int)) : (lack n ks).length ≤ 24 := Nat.le_trans (List.length_filter_le _ _) h.len
theorem least_ret {n : Int} {row : List Int} {ks : List (List Int)} (h : Ords n) (ht : T_orders_told n row = .ret ks) (hl : ks.length ≤ 201) : T_least_lacking n row = .ret (lack n ks).head? := by
  have hlim := lim_val0
  unfold T_least_lacking
  rw [ht, Tr.ret_bind]
  obtain ⟨mm, em, ek, el⟩ := dc_keys (p := fun (a26 : List Int) => .ret true) (mk := fun (a26 : List Int) => .ret a26) (mv := fun (a26 : List Int) => .ret true) (k := fun a => a) (v := fun _ => true) (xs := ks) (fun _ _ => rfl) (fun _ _ => rfl) (fun _ _ => rfl) (by omega)
  rw [em, Tr.ret_bind, h.asc, Tr.ret_bind]
  have ef : (ords n).filter (fun (a29 : (List Int)) => (!(getK mm a29).isSome)) = lack n ks := by
    unfold lack
    refine List.filter_congr fun a _ => ?_
    rw [getK_mem, ek]
    unfold memT
    congr 1
    rw [List.map_id']
    exact decide_eq_decide.mpr ddup_mem
  rw [ef, List.map_id']
  have := lack_len h ks
  rw [need_pos (by omega), Tr.ret_bind]
  cases lack n ks with
  | nil => rfl
  | cons a r =>
    show (getT (a :: r) 0).bind _ = _
    rw [getT_int (xs := a :: r) (i := 0) (by omega) (by simp)]; rfl
end Pv

namespace Pv
open PySem PySem.Spec PyProof.Rows L2
structure Lv (k w : Nat) (v : D) : Prop where
  ok : Ok v k w
  l : v.canLay0 = true
theorem Lv.le {k w k' w' : Nat} {v : D} (h : Lv k w v) (hk : k ≤ k') (hw : w ≤ w') : Lv k' w' v := ⟨h.ok.le hk hw, h.l⟩
theorem canLayAll_iff : ∀ {ds : List D}, PyData.canLayAll0 ds = true ↔ ∀ d ∈ ds, d.canLay0 = true
  | [] => by simp [PyData.canLayAll0]
  | d :: ds => by
    simp only [PyData.canLayAll0, Bool.and_eq_true, canLayAll_iff (ds := ds), List.mem_cons, forall_eq_or_imp]
theorem lv_tup {k w m : Nat} {ds : List D} (h : ∀ d ∈ ds, Lv k w d) (hl : ds.length ≤ m) : Lv (k + 1) (m * (w + 1)) (.tuple ds) :=
  ⟨(ok_tup fun d hd => (h d hd).ok).le (Nat.le_refl _) (Nat.mul_le_mul_right _ hl), by rw [PyData.canLay0]; exact canLayAll_iff.mpr fun d hd => (h d hd).l⟩
theorem lv_list {k w m : Nat} {ds : List D} (h : ∀ d ∈ ds, Lv k w d) (hl : ds.length ≤ m) : Lv (k + 1) (m * (w + 1)) (.list ds) :=
  ⟨(ok_list fun d hd => (h d hd).ok).le (Nat.le_refl _) (Nat.mul_le_mul_right _ hl), by rw [PyData.canLay0]; exact canLayAll_iff.mpr fun d hd => (h d hd).l⟩
theorem Lv.shp {k w : Nat} {v : D} (h : Lv k w v) (hk : k ≤ 64) : shp v = true := by
  show (v.canLay0 && decide (v.depth ≤ 64)) = true
  rw [h.l, decide_eq_true (Nat.le_trans h.ok.dep hk)]; rfl
theorem Lv.shw {k w : Nat} {v : D} (h : Lv k w v) (hk : k ≤ 64) (hw : w ≤ 600000) : okShow v := h.ok.show h.l hk hw
theorem Lv.mem {k w : Nat} {ds : List D} (h : Lv k w (.tuple ds)) : ∀ d ∈ ds, d.canLay0 = true := by
  have := h.l
  rw [PyData.canLay0] at this
  exact canLayAll_iff.mp this
theorem lv_int {i : Int} (h : i.natAbs < 10 ^ 22) : Lv 0 80 (.int i) := ⟨ok_int h, rfl⟩
theorem mem_cut {xs : List D} {lo hi : Option Int} {x : D} (h : x ∈ cutD xs lo hi) : x ∈ xs := List.mem_of_mem_drop (List.mem_of_mem_take h)
theorem len_cut (xs : List D) (lo hi : Option Int) : (cutD xs lo hi).length ≤ xs.length := by
  unfold cutD
  exact Nat.le_trans (List.length_take_le' _ _) (by rw [List.length_drop]; omega)
theorem cutD_nat (xs : List D) (j : Nat) : cutD xs (some (j : Int)) none = xs.drop j := by
  unfold cutD
  rw [HT.sIx_nat, HT.sIx_none, List.take_of_length_le (by rw [List.length_drop]; omega)]
  by_cases h : j ≤ xs.length
  · rw [Nat.min_eq_left h]
  · rw [Nat.min_eq_right (by omega), List.drop_of_length_le (Nat.le_refl _), List.drop_of_length_le (by omega)]
theorem cutD_to (xs : List D) (j : Nat) : cutD xs none (some (j : Int)) = xs.take j := by
  unfold cutD
  rw [HT.sIx_nat, HT.sIx_none, List.drop_zero, Nat.sub_zero]
  by_cases h : j ≤ xs.length
  · rw [Nat.min_eq_left h]
  · rw [Nat.min_eq_right (by omega), List.take_of_length_le (Nat.le_refl _), List.take_of_length_le (by omega)]
theorem add_tt {A B : List D} (h : A.length + B.length ≤ lim) : addD (.tuple A) (.tuple B) = .ret (.tuple (A ++ B)) := need_pos h
theorem idx_t {ds : List D} {i : Nat} (h : i < ds.length) : idxD (.tuple ds) (.int (i : Int)) = .ret ds[i] := by
  have := getT_eq h
  unfold getT at this
  show (match atI ds (i : Int) with | some d => Tr.ret d | none => .fail) = _
  cases ha : atI ds (i : Int) with
  | none => rw [ha] at this; cases this
  | some d => rw [ha] at this; exact this
theorem of_w {xs : List D} (h0 : xs ≠ []) (hl : xs.length ≤ 1000) : W (T__law_of xs) (· ∈ xs) := by
  have hp := List.length_pos_iff.mpr h0
  unfold T__law_of
  refine .bind ((W.pickN hl fun r hr => ?_))
  have hr : r < xs.length := by omega
  exact .eq (getT_eq hr) (List.getElem_mem hr)
theorem isa_eq {φ : D → Bool} {v : D} (h : v.canLay0 = true) : isaT φ v = .ret (φ v) := need_pos h
def intB : D → Bool
  | .int _ => true
  | _ => false
def oddM : List D := [.none, .bool true, .int 0, .int 1, .int (-1), .str "full", .str "lacks", .tuple [], .tuple [.int 0], .tuple [.int 1, .int 0], .tuple [.int 0, .int 1, .int 2], .list [.int 0], .int 100000000000000000000]
/-- what may stand first -/
def firsts : List D := oddM ++ [.str "Full"] ++ ((ords 1 ++ ords 2 ++ ords 3 ++ ords 4).map (eT PyData.int))
def lvB (v : D) : Bool := decide (v.depth ≤ 2) && v.showable && v.leavesShort 24 && decide (v.weight ≤ 200) && v.canLay0
theorem lvB_ok {v : D} (h : lvB v = true) : Lv 2 200 v := by
  unfold lvB at h
  simp only [Bool.and_eq_true, decide_eq_true_eq] at h
  exact ⟨⟨h.1.1.1.1, h.1.1.1.2, h.1.1.2, h.1.2⟩, h.2⟩
theorem odd_all : oddM.all (fun v => lvB v && (match v with | .tuple (x :: _) => intB x && (match x with | .int i => decide (i = 0 ∨ i = 1) | _ => false) | _ => true)) = true := by decide +kernel
theorem odd_lv {v : D} (h : v ∈ oddM) : Lv 2 200 v := by
  have := List.all_eq_true.mp odd_all v h
  rw [Bool.and_eq_true] at this
  exact lvB_ok this.1
theorem odd_first {x : D} {r : List D} (h : PyData.tuple (x :: r) ∈ oddM) : x ∈ firsts := by
  have := List.all_eq_true.mp odd_all _ h
  rw [Bool.and_eq_true] at this
  have := this.2
  cases x with
  | int i =>
    have : i = 0 ∨ i = 1 := by simpa [intB] using this
    rcases this with rfl | rfl
    · exact List.mem_append_left _ (List.mem_append_left _ (by simp [oddM]))
    · exact List.mem_append_left _ (List.mem_append_left _ (by simp [oddM]))
  | _ => simp [intB] at this
theorem odd_in {x : D} (h : x ∈ oddM) : x ∈ firsts := List.mem_append_left _ (List.mem_append_left _ h)
theorem odd_w {Q : D → Prop} (h : ∀ v ∈ oddM, Q v) : W (T__law_of oddM) Q := (of_w (by intro z; cases z) (by decide)).mono h
theorem near_int {n : Nat} {i : Int} (h : i.natAbs < 10 ^ 20) : W (T__law_near (n + 1) (.int i) oddM) (Lv 2 200) := by
  show W (TT__law_near (T__law_near n) (.int i) oddM) _
  unfold TT__law_near
  repeat (with_reducible refine W.bind ?_)
  refine .eq (isa_eq (v := .int i) rfl) (.ret (.take rfl ?_))
  repeat (with_reducible refine W.bind ?_)
  refine .eq (isa_eq (v := .int i) rfl) (.ret (.ret (.take rfl ?_)))
  refine .bind (.pick (by omega) fun r r0 r1 => .ret (.ite (fun _ => ?_) fun _ => ?_))
  · refine .then (of_w (by intro z; cases z) (by decide)) fun d hd => ?_
    have : ∃ j : Int, d = .int j ∧ j.natAbs ≤ 2 := by
      simp only [List.mem_cons, List.not_mem_nil, or_false] at hd
      rcases hd with rfl | rfl | rfl
      · exact ⟨1, rfl, by decide⟩
      · exact ⟨-1, rfl, by decide⟩
      · exact ⟨2, rfl, by decide⟩
    obtain ⟨j, rfl, hj⟩ := this
    exact .ret ((lv_int (i := i + j) (by omega)).le (by decide) (by decide))
  · repeat (with_reducible refine W.bind ?_)
    refine .eq (isa_eq (v := .int i) rfl) (.ret (.ret (.take rfl (.ret (.take rfl ?_)))))
    exact odd_w fun v hv => odd_lv hv
theorem near_str {n : Nat} {s : Str} (h : (PyData.str s).canLay0 = true) : W (T__law_near (n + 1) (.str s) oddM) (· ∈ oddM) := by
  show W (TT__law_near (T__law_near n) (.str s) oddM) _
  unfold TT__law_near
  repeat (with_reducible refine W.bind ?_)
  refine .eq (isa_eq (v := .str s) h) (.ret (.skip rfl (.ret (.skip rfl ?_))))
  repeat (with_reducible refine W.bind ?_)
  refine .eq (isa_eq (v := .str s) h) (.ret (.ret (.take rfl (.ret (.take rfl ?_)))))
  exact odd_w fun v hv => hv
theorem near_tup {n : Nat} {xs : List D} {Q : D → Prop} {P : D → D → Prop} (h0 : xs ≠ []) (hl : xs.length ≤ 100) (hc : Lv 60 600000 (.tuple xs)) (ho : ∀ v ∈ oddM, Q v) (hr : ∀ x ∈ xs, W (T__law_near n x oddM) (P x))
    (q1 : ∀ (A B : List D) (x y : D), xs = A ++ x :: B → P x y → Q (.tuple (A ++ y :: B))) (q2 : ∀ (A B : List D) (x : D), xs = A ++ x :: B → Q (.tuple (A ++ B)) ∧ Q (.tuple (A ++ x :: x :: B))) (q3 : Q (.tuple xs.reverse)) (q4 : Q (.list xs)) :
    W (T__law_near (n + 1) (.tuple xs) oddM) Q := by
  have hlim := lim_val0
  have c1 : ∀ lo hi, sliceD (.tuple xs) lo hi = .ret (.tuple (cutD xs lo hi)) := fun _ _ => rfl
  show W (TT__law_near (T__law_near n) (.tuple xs) oddM) _
  unfold TT__law_near
  repeat (with_reducible refine W.bind ?_)
  refine .eq (isa_eq (v := .tuple xs) hc.l) (.ret (.skip rfl (.ret (.skip rfl ?_))))
  repeat (with_reducible refine W.bind ?_)
  refine .eq (isa_eq (v := .tuple xs) hc.l) (.ret (.ret (.skip rfl ?_)))
  repeat (with_reducible refine W.bind ?_)
  refine .eq (a := false) ?_ (.skip rfl ?_)
  · unfold eqXT
    rw [need_pos ⟨hc.shp (by decide), by decide⟩]
    cases xs with
    | nil => exact absurd rfl h0
    | cons x xs => rfl
  refine .bind (.pick (by omega) fun r _ _ => .ret (.ite (fun _ => odd_w ho) fun _ => ?_))
  have hp := List.length_pos_iff.mpr h0
  repeat (with_reducible refine W.bind ?_)
  refine .eq (a := .int (xs.length : Nat)) rfl (.eq (a := (xs.length : Int)) rfl (.pickN (by omega) fun j hj => ?_))
  have hj : j < xs.length := by omega
  have es : xs = xs.take j ++ xs[j] :: xs.drop (j + 1) := by rw [← List.drop_eq_getElem_cons hj, List.take_append_drop]
  have e1 : cutD xs none (some (j : Int)) = xs.take j := cutD_to xs j
  have e2 : cutD xs (some ((j : Int) + 1)) none = xs.drop (j + 1) := by have := cutD_nat xs (j + 1); rwa [show ((j + 1 : Nat) : Int) = (j : Int) + 1 by omega] at this
  have e3 : cutD xs none (some ((j : Int) + 1)) = xs.take (j + 1) := by have := cutD_to xs (j + 1); rwa [show ((j + 1 : Nat) : Int) = (j : Int) + 1 by omega] at this
  have e4 : cutD xs (some (j : Int)) none = xs.drop j := cutD_nat xs j
  have l1 : (xs.take j).length ≤ xs.length := List.length_take_le' _ _
  have l2 : (xs.drop (j + 1)).length ≤ xs.length := by rw [List.length_drop]; omega
  have l3 : (xs.take (j + 1)).length ≤ xs.length := List.length_take_le' _ _
  have l4 : (xs.drop j).length ≤ xs.length := by rw [List.length_drop]; omega
  refine .bind (.pick (by omega) fun way w0 w1 => ?_)
  refine .ite (fun _ => ?_) fun hway => ?_
  · repeat (with_reducible refine W.bind ?_)
    refine .eq (c1 _ _) ?_
    rw [e1]
    repeat (with_reducible refine W.bind ?_)
    refine .eq (idx_t hj) ((hr _ (List.getElem_mem hj)).mono fun y hy => .ret (.ret ?_))
    refine .eq (a := .tuple (xs.take j ++ [y])) (add_tt (by show (xs.take j).length + 1 ≤ lim; omega)) ?_
    refine .bind (.eq (c1 _ _) ?_)
    rw [e2]
    refine .eq (a := .tuple ((xs.take j ++ [y]) ++ xs.drop (j + 1))) (add_tt (by rw [List.length_append]; show (xs.take j).length + 1 + _ ≤ lim; omega)) ?_
    rw [List.append_assoc]
    exact q1 _ _ _ y es hy
  · obtain ⟨a1, a2⟩ := q2 _ _ _ es
    repeat (with_reducible refine W.bind ?_)
    refine .eq (c1 _ _) (.bind (.eq (c1 _ _) ?_))
    rw [e1, e2]
    refine .eq (add_tt (by omega)) ?_
    repeat (with_reducible refine W.bind ?_)
    refine .eq (c1 _ _) (.bind (.eq (c1 _ _) ?_))
    rw [e3, e4]
    refine .eq (add_tt (by omega)) ?_
    refine W.bind (W.eq (a := PyData.tuple xs.reverse) rfl ?_)
    refine W.bind (W.eq (a := PyData.list xs) rfl (W.ret ?_))
    refine (of_w (by intro z; cases z) (by show 4 ≤ 1000; decide)).mono fun v hv => ?_
    simp only [List.mem_cons, List.not_mem_nil, or_false] at hv
    rcases hv with rfl | rfl | rfl | rfl
    · exact a1
    · have : xs.take (j + 1) ++ xs.drop j = xs.take j ++ xs[j] :: xs[j] :: xs.drop (j + 1) := by
        rw [List.take_succ_eq_append_getElem hj, List.drop_eq_getElem_cons hj, List.append_assoc]; rfl
      rw [this]; exact a2
    · exact q3
    · exact q4
end Pv

namespace Pv
open PySem PySem.Spec PyProof.Rows L2
theorem W.on_nx {σ R β : Type} {s : σ} {u : σ → Tr β} {w : R → Tr β} {Q : β → Prop} (h : W (u s) Q) : W ((Lo.nx s : Lo R σ).on u w) Q := h
def isS (s : Str) : D → Bool
  | .str t => t == s
  | _ => false
theorem eqv_str (x : D) (s : Str) : PyData.eqv x (.str s) = isS s x := by cases x <;> rfl
theorem eqs_ret {x : D} {s : Str} (h1 : shp x = true) (h2 : shp (.str s) = true) : eqXT x (.str s) = .ret (isS s x) ∧ neXT x (.str s) = .ret (!isS s x) := by
  unfold eqXT neXT
  rw [need_pos ⟨h1, h2⟩, need_pos ⟨h1, h2⟩, eqv_str]; exact ⟨rfl, rfl⟩
theorem neII (a b : Int) : neXT (.int a) (.int b) = .ret (!decide (a = b)) := by
  unfold neXT
  rw [need_pos ⟨shpE (e := PyData.int) a, shpE (e := PyData.int) b⟩, EqE.eqv (e := PyData.int)]
theorem lenT (xs : List D) : lenD (.tuple xs) = .ret (.int (xs.length : Nat)) := rfl
/-- the text of what stands first -/
def firstB (x : D) : Bool := isRet ((reprT (.tuple [x])).bind fun v183 => (inXT (.str v183) (.tuple [(.str ("('full',)" : Str)), (.str ("('lacks',)" : Str))])).bind fun b => .ret (!b)) (!(isS "full" x || isS "lacks" x)) && shp x
theorem first_all : firsts.all firstB = true := by decide +kernel
theorem first_ok {x : D} (h : x ∈ firsts) : ((reprT (.tuple [x])).bind fun v183 => (inXT (.str v183) (.tuple [(.str ("('full',)" : Str)), (.str ("('lacks',)" : Str))])).bind fun b => .ret (!b)) = .ret (!(isS "full" x || isS "lacks" x)) ∧ shp x = true := by
  have := List.all_eq_true.mp first_all x h
  unfold firstB at this
  rw [Bool.and_eq_true] at this
  exact ⟨isRet_ok this.1, this.2⟩
def intsB (v : D) : List Int := match v with
  | .tuple xs => (intsOf xs).getD []
  | _ => []
theorem all_ints : ∀ {xs : List D}, xs.all intB = true → ∃ ns : List Int, xs = ns.map .int
  | [], _ => ⟨[], rfl⟩
  | x :: xs, h => by
    simp only [List.all_cons, Bool.and_eq_true] at h
    obtain ⟨ns, rfl⟩ := all_ints h.2
    cases x with
    | int i => exact ⟨i :: ns, rfl⟩
    | _ => cases h.1
theorem intsB_map (ns : List Int) : intsB (.tuple (ns.map .int)) = ns := by
  show (intsOf (ns.map .int)).getD [] = ns
  rw [intsOf_map]; rfl
theorem leE_fun : leE PyData.int = leI := by funext a b; exact leE_int a b
/-- a tuple that is an order of 0 to n - 1 -/
def perm (n : Int) : D → Bool
  | .tuple ds => ds.all intB && decide (sortT leI (intsB (.tuple ds)) = rangeI 0 n)
  | _ => false
theorem perm_is {n : Int} {y : D} (h : perm n y = true) : ∃ ns : List Int, y = .tuple (ns.map .int) ∧ intsB y = ns ∧ sortT leI ns = rangeI 0 n := by
  cases y with
  | tuple ds =>
    unfold perm at h
    simp only [Bool.and_eq_true, decide_eq_true_eq] at h
    obtain ⟨ns, rfl⟩ := all_ints h.1
    refine ⟨ns, rfl, intsB_map ns, ?_⟩
    have := h.2
    rwa [intsB_map] at this
  | _ => cases h
theorem sort_ints {ns : List Int} (hl : ns.length ≤ 600000) : sortD2 (.tuple (ns.map .int)) = .ret (eL PyData.int (sortT leI ns)) := by
  have hlim := lim_val0
  show need _ (.ret _) = _
  rw [need_pos ⟨shpE (e := eL PyData.int) ns, okSort_iL ns, by rw [List.length_map]; omega⟩]
  have := isortE PyData.int ns
  rw [leE_fun] at this
  rw [this]; rfl
theorem eqL_ret (a b : List Int) : eqXT (eL PyData.int a) (eL PyData.int b) = .ret (decide (a = b)) ∧ neXT (eL PyData.int a) (eL PyData.int b) = .ret (!decide (a = b)) := by
  unfold eqXT neXT
  have h1 := shpE (e := eL PyData.int) a
  have h2 := shpE (e := eL PyData.int) b
  rw [need_pos ⟨h1, h2⟩, need_pos ⟨h1, h2⟩, EqE.eqv (e := eL PyData.int)]; exact ⟨rfl, rfl⟩
theorem isint_eq {a : D} (h : a.canLay0 = true) : (((isaT PyData.isInt a)).bind fun v39 => if v39 then (((isaT PyData.isBool a)).bind fun v38 => .ret (!v38)) else .ret false) = .ret (intB a) := by
  rw [isa_eq h, isa_eq h]
  cases a <;> rfl
theorem letter_ret {n : Int} {y : D} (h0 : 1 ≤ n) (h1 : n ≤ 4) (hy : y.canLay0 = true) (hl : ∀ xs, y = .tuple xs → xs.length ≤ 600000) : T_is_letter_order n y = .ret (perm n y) := by
  have hlim := lim_val0
  unfold T_is_letter_order
  rw [isa_eq hy]
  cases y with
  | tuple ds =>
    have hd : ∀ d ∈ ds, d.canLay0 = true := by rw [PyData.canLay0] at hy; exact canLayAll_iff.mp hy
    have bl := hl ds rfl
    rw [Tr.ret_bind, Tr.ret_bind, Tr.ret_bind, if_neg (show ¬ (!(PyData.tuple ds).isTuple) = true from Bool.false_ne_true), lenT, Tr.ret_bind, neII, Tr.ret_bind]
    have ep : perm n (.tuple ds) = (ds.all intB && decide (sortT leI (intsB (.tuple ds)) = rangeI 0 n)) := rfl
    by_cases hn : (ds.length : Int) = n
    · rw [decide_eq_true hn, if_neg (show ¬ (!true) = true from Bool.false_ne_true)]
      have el : lcT (fun (a37 : D) => .ret true) (fun (a37 : D) => (((isaT PyData.isInt a37)).bind fun v39 => if v39 then (((isaT PyData.isBool a37)).bind fun v38 => .ret (!v38)) else .ret false)) ds = .ret (ds.map intB) := by
        rw [lcT_eq (q := fun _ => true) (g := intB) (fun _ _ => rfl) (fun a ha _ => isint_eq (hd a ha)), List.filter_eq_self.mpr (fun _ _ => rfl)]
      rw [show seqOf (PyData.tuple ds) = .ret ds from rfl, Tr.ret_bind, el, Tr.ret_bind, need_pos (by rw [List.length_map]; omega), Tr.ret_bind, Tr.ret_bind, Tr.ret_bind, Tr.ret_bind]
      have ea : List.all (ds.map intB) id = ds.all intB := by rw [List.all_map]; rfl
      rw [ea]
      cases hi : ds.all intB with
      | false => rw [ep, hi]; rfl
      | true =>
        obtain ⟨ns, rfl⟩ := all_ints hi
        rw [if_neg (show ¬ (!true) = true from Bool.false_ne_true), sort_ints (by rw [List.length_map] at bl; exact bl), Tr.ret_bind, rangeT_eq (by omega) (by omega) (by omega) (by omega), Tr.ret_bind, need_pos (by rw [rangeI_len]; omega), Tr.ret_bind, Tr.ret_bind, (eqL_ret _ _).1, ep, hi, intsB_map]; rfl
    · rw [decide_eq_false hn, if_pos (show (!false) = true from rfl), ep]
      cases hi : ds.all intB with
      | false => rfl
      | true =>
        obtain ⟨ns, rfl⟩ := all_ints hi
        rw [intsB_map, decide_eq_false]
        · rfl
        · intro e
          have := (sortT_perm leI ns).length_eq
          rw [e, rangeI_len] at this
          rw [List.length_map] at hn
          omega
  | _ => rfl
abbrev formD : D := .tuple [.str "form"]
def lackD (n : Int) (ks : List (List Int)) : D := match lack n ks with
  | [] => .none
  | a :: _ => .tuple [.str "lacks", eT PyData.int a]
def thereD (ws : List (Int × List Int)) (ns : List Int) : D := match (ws.filter fun (a : Int × List Int) => decide (a.2 = ns)).map (fun (a : Int × List Int) => a.1) with
  | [] => .none
  | i :: _ => .tuple [.str "there", .int i]
def fM (n : Int) (ks : List (List Int)) (ws : List (Int × List Int)) : D → D
  | .tuple (x :: r) => if isS "full" x then (if r.isEmpty then lackD n ks else formD) else if isS "lacks" x then (match r with
    | [y] => if perm n y then thereD ws (intsB y) else formD
    | _ => formD) else formD
  | _ => formD
theorem fM_cons (n : Int) (ks : List (List Int)) (ws : List (Int × List Int)) (x : D) (r : List D) : fM n ks ws (.tuple (x :: r)) = if isS "full" x then (if r.isEmpty then lackD n ks else formD) else if isS "lacks" x then (match r with
    | [y] => if perm n y then thereD ws (intsB y) else formD
    | _ => formD) else formD := rfl
/-- the facts of n and a row -/
structure Row (n : Int) (row : List Int) (ks : List (List Int)) (ws : List (Int × List Int)) : Prop where
  n0 : 1 ≤ n
  n1 : n ≤ 4
  od : Ords n
  told : T_orders_told n row = .ret ks
  ltold : T__law_told n row = .ret ks
  kl : ks.length ≤ 201
  win : T__law_windows n row = .ret ws
  wl : ws.length ≤ 201
  ix : ∀ a ∈ ws, 0 ≤ a.1 ∧ a.1 ≤ 200
  mem : ∀ ns, (∃ a ∈ ws, a.2 = ns) ↔ ns ∈ ks
/-- what a value must be -/
structure Gd (v : D) : Prop where
  lv : Lv 60 600000 v
  first : ∀ x r, v = .tuple (x :: r) → x ∈ firsts
theorem idx0 (x : D) (r : List D) : idxD (.tuple (x :: r)) (.int (0 : Int)) = .ret x := idx_t (ds := x :: r) (i := 0) (by simp)
theorem idx1 (x y : D) (r : List D) : idxD (.tuple (x :: y :: r)) (.int (1 : Int)) = .ret y := idx_t (ds := x :: y :: r) (i := 1) (by simp)
theorem weight_mem : ∀ {ds : List D} {d : D}, d ∈ ds → d.weight + ds.length ≤ PyData.weightAll ds
  | x :: xs, d, h => by
    rw [PyData.weightAll, List.length_cons]
    rcases List.mem_cons.mp h with rfl | h
    · have : xs.length ≤ PyData.weightAll xs := by
        induction xs with
        | nil => exact Nat.zero_le _
        | cons y ys ih => rw [PyData.weightAll, List.length_cons]; have := ih List.mem_cons_self; omega
      omega
    · have := weight_mem h; omega
theorem weight_len : ∀ ds : List D, ds.length ≤ PyData.weightAll ds
  | [] => Nat.le_refl 0
  | d :: ds => by rw [PyData.weightAll, List.length_cons]; have := weight_len ds; omega
theorem row_len {ds : List D} {d : D} {n : Nat} (h : (PyData.tuple ds).weight ≤ n) (hd : d ∈ ds) : ∀ xs, d = .tuple xs → xs.length ≤ n := fun xs e => by
  subst e
  have a := weight_mem hd
  have b := weight_len xs
  simp only [PyData.weight] at h a
  omega
theorem Gd.rl {x y : D} {r : List D} (g : Gd (.tuple (x :: r))) (h : y ∈ r) : y.canLay0 = true ∧ ∀ xs, y = .tuple xs → xs.length ≤ 600000 :=
  ⟨g.lv.mem _ (List.mem_cons_of_mem _ h), row_len g.lv.ok.wt (List.mem_cons_of_mem _ h)⟩
theorem find_ret {ns : List Int} {ws : List (Int × List Int)} : (lcT (fun (a66 : (Int × (List Int))) => ((Tr.ret (PyData.tuple (ns.map PyData.int))).bind fun v67 => (eqXT (eT PyData.int a66.2) v67))) (fun (a66 : (Int × (List Int))) => Tr.ret a66.1) ws) = .ret ((ws.filter fun (a : Int × List Int) => decide (a.2 = ns)).map (fun (a : Int × List Int) => a.1)) :=
  lcT_eq (q := fun (a : Int × List Int) => decide (a.2 = ns)) (g := fun (a : Int × List Int) => a.1) (fun a _ => by
    rw [Tr.ret_bind]
    show eqXT (eT PyData.int a.2) (eT PyData.int ns) = _
    unfold eqXT
    rw [need_pos ⟨shpE (e := eT PyData.int) _, shpE (e := eT PyData.int) _⟩, EqE.eqv (e := eT PyData.int)]) (fun a _ _ => rfl)
theorem shp_str {s : Str} (h : shp (.str s) = true) : shp (.str s) = true := h
theorem full_shp : shp (.str ("full" : Str)) = true := by decide +kernel
theorem lacks_shp : shp (.str ("lacks" : Str)) = true := by decide +kernel
theorem judge_ret {n : Int} {row : List Int} {ks : List (List Int)} {ws : List (Int × List Int)} {v : D} (R : Row n row ks ws) (g : Gd v) : T_judge_full n row v = .ret (fM n ks ws v) := by
  have hlim := lim_val0
  have hs := g.lv.shp (by decide)
  unfold T_judge_full
  rw [isa_eq g.lv.l]
  cases v with
  | tuple ds =>
    rw [Tr.ret_bind, Tr.ret_bind, Tr.ret_bind, if_neg (show ¬ (!(PyData.tuple ds).isTuple) = true from Bool.false_ne_true)]
    cases ds with
    | nil =>
      rw [show eqXT (PyData.tuple []) (PyData.tuple []) = .ret true from need_pos ⟨by decide, by decide⟩]; rfl
    | cons x r =>
      obtain ⟨f1, f2⟩ := first_ok (g.first x r rfl)
      have hx := g.lv.mem x List.mem_cons_self
      have e0 : eqXT (PyData.tuple (x :: r)) (PyData.tuple []) = .ret false := need_pos ⟨hs, by decide⟩
      rw [e0, Tr.ret_bind, if_neg (show ¬ (false = true) from Bool.false_ne_true), idx0, Tr.ret_bind, isa_eq hx, Tr.ret_bind, Tr.ret_bind, Tr.ret_bind, fM_cons]
      by_cases hstr : x.isStr = true
      · rw [hstr, if_neg (show ¬ (!true) = true from Bool.false_ne_true)]
        have e1 : eqXT (PyData.tuple (x :: r)) (PyData.tuple [.str "full"]) = .ret (isS "full" x && r.isEmpty) := by
          unfold eqXT
          rw [need_pos ⟨hs, by decide +kernel⟩]
          congr 1
          show (PyData.eqv x (.str "full") && PyData.eqvAll r []) = _
          rw [eqv_str]
          cases r <;> rfl
        rw [e1, Tr.ret_bind]
        cases hf : isS "full" x with
        | true =>
          cases hr : r.isEmpty with
          | true =>
            rw [if_pos (show (true && true) = true from rfl), if_pos rfl, if_pos rfl, least_ret R.od R.told R.kl, Tr.ret_bind]
            unfold lackD
            cases lack n ks <;> rfl
          | false =>
            rw [if_neg (show ¬ (true && false) = true from Bool.false_ne_true), if_pos rfl, if_neg Bool.false_ne_true, Tr.ret_bind, (eqs_ret f2 lacks_shp).2, Tr.ret_bind]
            have : isS "lacks" x = false := by
              cases x with
              | str t =>
                have ht : (t == ("full" : Str)) = true := hf
                rw [beq_iff_eq] at ht
                subst ht; decide
              | _ => rfl
            rw [this]; rfl
        | false =>
          rw [if_neg (show ¬ (false && r.isEmpty) = true from Bool.false_ne_true), if_neg Bool.false_ne_true, Tr.ret_bind, (eqs_ret f2 lacks_shp).2, Tr.ret_bind]
          cases hk : isS "lacks" x with
          | false => rfl
          | true =>
            rw [if_neg (show ¬ (!true) = true from Bool.false_ne_true), if_pos rfl, lenT, Tr.ret_bind, neII, Tr.ret_bind]
            match r, g with
            | [], _ => rfl
            | [y], g =>
              obtain ⟨y1, y2⟩ := g.rl (y := y) (by simp)
              rw [show decide ((([x, y] : List D).length : Int) = 2) = true from rfl, if_neg (show ¬ (!true) = true from Bool.false_ne_true), idx1, Tr.ret_bind, letter_ret R.n0 R.n1 y1 y2, Tr.ret_bind, Tr.ret_bind, Tr.ret_bind]
              show _ = Tr.ret (if perm n y = true then thereD ws (intsB y) else formD)
              cases hp : perm n y with
              | false => rfl
              | true =>
                obtain ⟨ns, rfl, e2, e3⟩ := perm_is hp
                have hf := List.length_filter_le (fun (a : Int × List Int) => decide (a.2 = ns)) ws
                rw [if_neg (show ¬ (!true) = true from Bool.false_ne_true), two_same, R.win, Tr.ret_bind, find_ret, Tr.ret_bind, need_pos (by rw [List.length_map]; have := R.wl; omega), Tr.ret_bind, if_pos rfl, e2]
                unfold thereD
                cases (ws.filter fun (a : Int × List Int) => decide (a.2 = ns)).map (fun (a : Int × List Int) => a.1) with
                | nil => rfl
                | cons i q =>
                  show (((getT (i :: q) 0).bind _).bind _) = _
                  rw [getT_int (xs := i :: q) (i := 0) (by omega) (by simp)]; rfl
            | y :: z :: q, _ =>
              rw [decide_eq_false (show ¬ (((x :: y :: z :: q : List D).length : Int) = 2) by simp; omega)]; rfl
      · rw [Bool.not_eq_true] at hstr
        have h1 : isS "full" x = false := by cases x <;> first | rfl | cases hstr
        have h2 : isS "lacks" x = false := by cases x <;> first | rfl | cases hstr
        rw [hstr, h1, h2]; rfl
  | _ => rfl
theorem fault_ret {n : Int} {row : List Int} {ks : List (List Int)} {ws : List (Int × List Int)} {v : D} (R : Row n row ks ws) (g : Gd v) : T__law_fault n row v = .ret (fM n ks ws v) := by
  have hlim := lim_val0
  have hs := g.lv.shp (by decide)
  have fs := full_shp
  unfold T__law_fault
  rw [isa_eq g.lv.l]
  cases v with
  | tuple ds =>
    rw [Tr.ret_bind, Tr.ret_bind, Tr.ret_bind, if_neg (show ¬ (!(PyData.tuple ds).isTuple) = true from Bool.false_ne_true)]
    cases ds with
    | nil =>
      have : ((((sliceD (PyData.tuple []) none (some (1 : Int))).bind fun v183 => reprT v183).bind fun v184 => .ret (PyData.str v184)).bind fun v185 => (inXT v185 (.tuple [(.str ("('full',)" : Str)), (.str ("('lacks',)" : Str))])).bind fun b => .ret (!b)) = .ret true := isRet_ok (by decide +kernel)
      rw [this]; rfl
    | cons x r =>
      obtain ⟨f1, f2⟩ := first_ok (g.first x r rfl)
      have es : sliceD (PyData.tuple (x :: r)) none (some (1 : Int)) = .ret (.tuple [x]) := by
        show Tr.ret (PyData.tuple (cutD (x :: r) none (some ((1 : Nat) : Int)))) = _
        rw [cutD_to]; rfl
      rw [es, Tr.ret_bind]
      have e1 : (((reprT (PyData.tuple [x])).bind fun v184 => Tr.ret (PyData.str v184)).bind fun v185 => (inXT v185 (.tuple [(.str ("('full',)" : Str)), (.str ("('lacks',)" : Str))])).bind fun b => .ret (!b)) = .ret (!(isS "full" x || isS "lacks" x)) := by rw [Tr.bind_assoc]; exact f1
      rw [e1, Tr.ret_bind, idx0, Tr.ret_bind, (eqs_ret f2 fs).1, Tr.ret_bind, fM_cons]
      cases hf : isS "full" x with
      | true =>
        have ll := lack_len R.od ks
        rw [if_neg (show ¬ (!(true || isS "lacks" x)) = true from Bool.false_ne_true), if_pos rfl, if_pos rfl, R.ltold, Tr.ret_bind, R.od.law, Tr.ret_bind, List.map_id']
        show (((need ((lack n ks).length ≤ lim) (.ret (lack n ks))).bind _)) = _
        rw [need_pos (by omega), Tr.ret_bind, lenT, Tr.ret_bind, neII, Tr.ret_bind]
        cases r with
        | nil =>
          show (if (!eqT (lack n ks) []) = true then _ else _) = Tr.ret (lackD n ks)
          unfold lackD
          cases lack n ks with
          | nil => rfl
          | cons a q =>
            rw [if_pos (show (!eqT (a :: q) []) = true from rfl), getT_int (xs := a :: q) (i := 0) (by omega) (by simp)]; rfl
        | cons y q =>
          rw [decide_eq_false (show ¬ (((x :: y :: q : List D).length : Int) = 1) by simp; omega)]; rfl
      | false =>
        rw [if_neg (show ¬ (false = true) from Bool.false_ne_true)]
        cases hk : isS "lacks" x with
        | false => rfl
        | true =>
          rw [if_neg (show ¬ (!(false || true)) = true from Bool.false_ne_true), if_neg (show ¬ (false = true) from Bool.false_ne_true), if_pos rfl, lenT, Tr.ret_bind, neII, Tr.ret_bind]
          match r, g with
          | [], _ => rfl
          | [y], g =>
            obtain ⟨y1, y2⟩ := g.rl (y := y) (by simp)
            rw [show decide ((([x, y] : List D).length : Int) = 2) = true from rfl, if_neg (show ¬ (!true) = true from Bool.false_ne_true), idx1, Tr.ret_bind, isa_eq y1, Tr.ret_bind, Tr.ret_bind, Tr.ret_bind]
            show _ = Tr.ret (if perm n y = true then thereD ws (intsB y) else formD)
            cases y with
            | tuple ds =>
              have hd : ∀ d ∈ ds, d.canLay0 = true := by rw [PyData.canLay0] at y1; exact canLayAll_iff.mp y1
              have bl := y2 ds rfl
              have hfl := List.length_filter_le (fun a => !intB a) ds
              have el : lcT (fun (a202 : D) => (((((((isaT PyData.isInt a202)).bind fun v203 => .ret v203)).bind fun v204 => .ret (!v204))).bind fun v206 => if v206 then .ret true else (((isaT PyData.isBool a202)).bind fun v205 => .ret v205))) (fun (a202 : D) => .ret a202) ds = .ret (ds.filter fun a => !intB a) := by
                rw [lcT_eq (q := fun a => !intB a) (g := fun a => a) (fun a ha => by
                  rw [isa_eq (hd a ha), isa_eq (hd a ha)]
                  cases a <;> rfl) (fun a _ _ => rfl), List.map_id']
              rw [if_neg (show ¬ (!(PyData.tuple ds).isTuple) = true from Bool.false_ne_true), Tr.ret_bind, show seqOf (PyData.tuple ds) = .ret ds from rfl, Tr.ret_bind, el, Tr.ret_bind, need_pos (by omega), Tr.ret_bind, Tr.ret_bind]
              have ne : neXT (eL eX (ds.filter fun a => !intB a)) (eL eX []) = .ret (!(ds.filter fun a => !intB a).isEmpty) := by
                have sh : shp (eL eX (ds.filter fun a => !intB a)) = true := by
                  have e0 : eL eX (ds.filter fun a => !intB a) = .list (ds.filter fun a => !intB a) := by show PyData.list (List.map eX _) = _; rw [mapX]
                  rw [e0]
                  have c : (PyData.list (ds.filter fun a => !intB a)).canLay0 = true := by rw [PyData.canLay0]; exact canLayAll_iff.mpr fun d h => hd d (List.mem_filter.mp h).1
                  have dp : (PyData.list (ds.filter fun a => !intB a)).depth ≤ 60 := by
                    have h1 := g.lv.ok.dep
                    have h2 : ∀ (es : List D) (k : Nat), PyData.depthAll es ≤ k → PyData.depthAll (es.filter fun a => !intB a) ≤ k := fun es k => by
                      induction es with
                      | nil => exact id
                      | cons a es ih =>
                        intro h
                        rw [PyData.depthAll] at h
                        rw [List.filter_cons]
                        split
                        · rw [PyData.depthAll]; have := ih (by omega); omega
                        · exact ih (by omega)
                    rw [PyData.depth, PyData.depthAll, PyData.depthAll, PyData.depthAll, PyData.depth] at h1
                    rw [PyData.depth]
                    have := h2 ds 58 (by omega)
                    omega
                  show ((PyData.list _).canLay0 && decide ((PyData.list _).depth ≤ 64)) = true
                  rw [c, decide_eq_true (by omega)]; rfl
                unfold neXT
                rw [need_pos ⟨sh, by decide⟩]
                cases (ds.filter fun a => !intB a) <;> rfl
              rw [ne, Tr.ret_bind]
              have ef : (ds.filter fun a => !intB a).isEmpty = ds.all intB := by
                clear ne el hfl bl hd y1 y2 f1 g hs es e1
                induction ds with
                | nil => rfl
                | cons a ds ih =>
                  rw [List.filter_cons, List.all_cons]
                  cases intB a with
                  | true => simpa using ih
                  | false => rfl
              rw [ef]
              have ep : perm n (.tuple ds) = (ds.all intB && decide (sortT leI (intsB (.tuple ds)) = rangeI 0 n)) := rfl
              rw [ep]
              cases hi : ds.all intB with
              | false => rfl
              | true =>
                obtain ⟨ns, rfl⟩ := all_ints hi
                have n0 := R.n0
                have n1 := R.n1
                rw [if_neg (show ¬ (!true) = true from Bool.false_ne_true), Tr.ret_bind (f := fun v211 => sortD2 v211), sort_ints (by rw [List.length_map] at bl; exact bl), Tr.ret_bind, rangeT_eq (by omega) (by omega) (by omega) (by omega), Tr.ret_bind, need_pos (by rw [rangeI_len]; omega), Tr.ret_bind, Tr.ret_bind, (eqL_ret _ _).2, Tr.ret_bind, intsB_map, Bool.true_and]
                by_cases hp : sortT leI ns = rangeI 0 n
                · have hf := List.length_filter_le (fun (a : Int × List Int) => decide (a.2 = ns)) ws
                  rw [decide_eq_true hp, if_neg (show ¬ (!true) = true from Bool.false_ne_true), R.win, Tr.ret_bind, find_ret, Tr.ret_bind, need_pos (by rw [List.length_map]; have := R.wl; omega), Tr.ret_bind, if_pos rfl]
                  unfold thereD
                  cases (ws.filter fun (a : Int × List Int) => decide (a.2 = ns)).map (fun (a : Int × List Int) => a.1) with
                  | nil => rfl
                  | cons i q =>
                    show (((getT (i :: q) 0).bind _).bind _) = _
                    rw [getT_int (xs := i :: q) (i := 0) (by omega) (by simp)]; rfl
                · rw [decide_eq_false hp]; rfl
            | _ => rfl
          | y :: z :: q, _ =>
            rw [decide_eq_false (show ¬ (((x :: y :: z :: q : List D).length : Int) = 2) by simp; omega)]; rfl
  | _ => rfl
end Pv

namespace Pv
open PySem PySem.Spec PyProof.Rows L2
abbrev fullV : D := .tuple [.str "full"]
abbrev lacksV (o : List Int) : D := .tuple [.str "lacks", eT PyData.int o]
theorem lv_ord {o : List Int} (hl : o.length ≤ 5) (h : ∀ x ∈ o, 0 ≤ x ∧ x < 4) : Lv 1 405 (eT PyData.int o) := lv_tup (k := 0) (w := 80) (m := 5) (fun d hd => by
  obtain ⟨x, hx, rfl⟩ := List.mem_map.mp hd
  exact lv_int (by have := h x hx; omega)) (by rw [List.length_map]; exact hl)
theorem lv_ordL {o : List Int} (hl : o.length ≤ 5) (h : ∀ x ∈ o, 0 ≤ x ∧ x < 4) : Lv 1 405 (eL PyData.int o) := lv_list (k := 0) (w := 80) (m := 5) (fun d hd => by
  obtain ⟨x, hx, rfl⟩ := List.mem_map.mp hd
  exact lv_int (by have := h x hx; omega)) (by rw [List.length_map]; exact hl)
theorem full_lv : Lv 2 200 (.str ("full" : Str)) := odd_lv (by simp [oddM])
theorem lacks_lv : Lv 2 200 (.str ("lacks" : Str)) := odd_lv (by simp [oddM])
theorem Full_lv : Lv 2 200 (.str ("Full" : Str)) := lvB_ok (by decide +kernel)
theorem full_in : PyData.str ("full" : Str) ∈ firsts := odd_in (by simp [oddM])
theorem lacks_in : PyData.str ("lacks" : Str) ∈ firsts := odd_in (by simp [oddM])
theorem Full_in : PyData.str ("Full" : Str) ∈ firsts := List.mem_append_left _ (List.mem_append_right _ (by simp))
theorem ord_in {n : Int} (h0 : 1 ≤ n) (h1 : n ≤ 4) {o : List Int} (h : o ∈ ords n) : eT PyData.int o ∈ firsts := by
  refine List.mem_append_right _ (List.mem_map.mpr ⟨o, ?_, rfl⟩)
  have : n = 1 ∨ n = 2 ∨ n = 3 ∨ n = 4 := by omega
  rcases this with rfl | rfl | rfl | rfl
  · exact List.mem_append_left _ (List.mem_append_left _ (List.mem_append_left _ h))
  · exact List.mem_append_left _ (List.mem_append_left _ (List.mem_append_right _ h))
  · exact List.mem_append_left _ (List.mem_append_right _ h)
  · exact List.mem_append_right _ h
theorem gd_odd {v : D} (h : v ∈ oddM) : Gd v := ⟨(odd_lv h).le (by decide) (by decide), fun x r e => odd_first (e ▸ h)⟩
theorem gd_tup {x : D} {r : List D} (hx : x ∈ firsts) (h : ∀ d ∈ x :: r, Lv 4 3000 d) (hl : (x :: r).length ≤ 6) : Gd (.tuple (x :: r)) :=
  ⟨(lv_tup h hl).le (by decide) (by decide), fun y q e => by cases e; exact hx⟩
theorem gd_other {v : D} (h : Lv 5 20000 v) (n : ∀ x r, v ≠ .tuple (x :: r)) : Gd v := ⟨h.le (by decide) (by decide), fun x r e => absurd e (n x r)⟩
theorem near_ord {n : Nat} {o : List Int} (h0 : o ≠ []) (hl : o.length ≤ 4) (h : ∀ x ∈ o, 0 ≤ x ∧ x < 4) : W (T__law_near (n + 2) (eT PyData.int o) oddM) (Lv 3 1206) := by
  have el : ∀ x ∈ o.map PyData.int, Lv 2 200 x := fun x hx => by
    obtain ⟨i, hi, rfl⟩ := List.mem_map.mp hx
    exact (lv_int (by have := h i hi; omega)).le (by decide) (by decide)
  have lo : (o.map PyData.int).length ≤ 4 := by rw [List.length_map]; exact hl
  refine near_tup (n := n + 1) (xs := o.map PyData.int) (P := fun _ y => Lv 2 200 y) (by intro z; exact h0 (List.map_eq_nil_iff.mp z)) (by omega) ((lv_ord (by omega) h).le (by decide) (by decide)) (fun v hv => (odd_lv hv).le (by decide) (by decide)) (fun x hx => ?_) (fun A B x y e hy => ?_) (fun A B x e => ?_) ?_ ?_
  · obtain ⟨i, hi, rfl⟩ := List.mem_map.mp hx
    exact near_int (by have := h i hi; omega)
  · refine lv_tup (k := 2) (w := 200) (m := 6) (fun d hd => ?_) (by rw [e] at lo; simp at lo ⊢; omega)
    rcases List.mem_append.mp hd with hd | hd
    · exact el d (by rw [e]; exact List.mem_append_left _ hd)
    · rcases List.mem_cons.mp hd with rfl | hd
      · exact hy
      · exact el d (by rw [e]; exact List.mem_append_right _ (List.mem_cons_of_mem _ hd))
  · have m : ∀ d, d ∈ A ∨ d = x ∨ d ∈ B → Lv 2 200 d := fun d hd => el d (by
      rw [e]
      rcases hd with hd | rfl | hd
      · exact List.mem_append_left _ hd
      · exact List.mem_append_right _ List.mem_cons_self
      · exact List.mem_append_right _ (List.mem_cons_of_mem _ hd))
    refine ⟨lv_tup (k := 2) (w := 200) (m := 6) (fun d hd => m d ?_) (by rw [e] at lo; simp at lo ⊢; omega), lv_tup (k := 2) (w := 200) (m := 6) (fun d hd => m d ?_) (by rw [e] at lo; simp at lo ⊢; omega)⟩
    · rcases List.mem_append.mp hd with hd | hd
      · exact .inl hd
      · exact .inr (.inr hd)
    · rcases List.mem_append.mp hd with hd | hd
      · exact .inl hd
      · rcases List.mem_cons.mp hd with rfl | hd
        · exact .inr (.inl rfl)
        · rcases List.mem_cons.mp hd with rfl | hd
          · exact .inr (.inl rfl)
          · exact .inr (.inr hd)
  · exact lv_tup (k := 2) (w := 200) (m := 6) (fun d hd => el d (List.mem_reverse.mp hd)) (by rw [List.length_reverse]; omega)
  · exact lv_list (k := 2) (w := 200) (m := 6) el (by omega)
theorem near_full {n : Nat} : W (T__law_near (n + 2) fullV oddM) Gd := by
  refine near_tup (n := n + 1) (xs := [.str "full"]) (P := fun _ y => y ∈ oddM) (by intro z; cases z) (by decide) ((lv_tup (k := 2) (w := 200) (m := 6) (fun d hd => by rw [List.mem_singleton] at hd; subst hd; exact full_lv) (by decide)).le (by decide) (by decide)) (fun v hv => gd_odd hv) (fun x hx => ?_) (fun A B x y e hy => ?_) (fun A B x e => ?_) ?_ ?_
  · rw [List.mem_singleton] at hx; subst hx; exact near_str full_lv.l
  · cases A with
    | nil =>
      cases e
      exact gd_tup (odd_in hy) (fun d hd => by rw [List.mem_singleton] at hd; subst hd; exact (odd_lv hy).le (by decide) (by decide)) (by simp)
    | cons a A => cases A <;> cases e
  · cases A with
    | nil =>
      cases e
      refine ⟨gd_other ((lv_tup (k := 2) (w := 200) (m := 6) (fun d hd => by cases hd) (by decide)).le (by decide) (by decide)) (fun _ _ z => by cases z), gd_tup full_in (fun d hd => ?_) (by decide)⟩
      simp only [List.mem_cons, List.not_mem_nil, or_false, or_self] at hd
      subst hd; exact full_lv.le (by decide) (by decide)
    | cons a A => cases A <;> cases e
  · exact gd_tup full_in (fun d hd => by rw [List.mem_singleton] at hd; subst hd; exact full_lv.le (by decide) (by decide)) (by decide)
  · exact gd_other ((lv_list (k := 2) (w := 200) (m := 6) (fun d hd => by rw [List.mem_singleton] at hd; subst hd; exact full_lv) (by decide)).le (by decide) (by decide)) (fun _ _ z => by cases z)
theorem near_lacks {n : Nat} {o : List Int} (hin : eT PyData.int o ∈ firsts) (h0 : o ≠ []) (hl : o.length ≤ 4) (h : ∀ x ∈ o, 0 ≤ x ∧ x < 4) : W (T__law_near (n + 3) (lacksV o) oddM) Gd := by
  have lo : Lv 4 3000 (eT PyData.int o) := (lv_ord (by omega) h).le (by decide) (by decide)
  have ls : Lv 4 3000 (.str ("lacks" : Str)) := lacks_lv.le (by decide) (by decide)
  have both : ∀ d ∈ [PyData.str ("lacks" : Str), eT PyData.int o], Lv 4 3000 d := fun d hd => by
    simp only [List.mem_cons, List.not_mem_nil, or_false] at hd
    rcases hd with rfl | rfl
    · exact ls
    · exact lo
  refine near_tup (n := n + 2) (xs := [.str "lacks", eT PyData.int o]) (P := fun x y => Lv 4 3000 y ∧ (x = .str "lacks" → y ∈ firsts)) (by intro z; cases z) (by simp) ((lv_tup both (m := 6) (by simp)).le (by decide) (by decide)) (fun v hv => gd_odd hv) (fun x hx => ?_) (fun A B x y e hy => ?_) (fun A B x e => ?_) ?_ ?_
  · simp only [List.mem_cons, List.not_mem_nil, or_false] at hx
    rcases hx with rfl | rfl
    · exact (near_str lacks_lv.l).mono fun v hv => ⟨(odd_lv hv).le (by decide) (by decide), fun _ => odd_in hv⟩
    · exact (near_ord h0 hl h).mono fun v hv => ⟨hv.le (by decide) (by decide), fun z => by cases z⟩
  · obtain ⟨y1, y2⟩ := hy
    match A, e with
    | [], e =>
      cases e
      refine gd_tup (y2 rfl) (fun d hd => ?_) (by simp)
      simp only [List.mem_cons, List.not_mem_nil, or_false] at hd
      rcases hd with rfl | rfl
      · exact y1
      · exact lo
    | [_], e =>
      cases e
      refine gd_tup lacks_in (fun d hd => ?_) (by simp)
      have hd : d ∈ [PyData.str ("lacks" : Str), y] := hd
      simp only [List.mem_cons, List.not_mem_nil, or_false] at hd
      rcases hd with rfl | rfl
      · exact ls
      · exact y1
    | _ :: _ :: A, e =>
      simp at e
  · match A, e with
    | [], e =>
      cases e
      refine ⟨gd_tup hin (fun d hd => ?_) (by simp), gd_tup lacks_in (fun d hd => ?_) (by simp)⟩
      · rw [List.mem_singleton] at hd; subst hd; exact lo
      · simp only [List.mem_cons, List.not_mem_nil, or_false] at hd
        rcases hd with rfl | rfl | rfl
        · exact ls
        · exact ls
        · exact lo
    | [_], e =>
      cases e
      refine ⟨gd_tup lacks_in (fun d hd => ?_) (by simp), gd_tup lacks_in (fun d hd => ?_) (by simp)⟩
      · have hd : d ∈ [PyData.str ("lacks" : Str)] := hd
        rw [List.mem_singleton] at hd; subst hd; exact ls
      · have hd : d ∈ [PyData.str ("lacks" : Str), eT PyData.int o, eT PyData.int o] := hd
        simp only [List.mem_cons, List.not_mem_nil, or_false] at hd
        rcases hd with rfl | rfl | rfl
        · exact ls
        · exact lo
        · exact lo
    | _ :: _ :: A, e =>
      simp at e
  · show Gd (.tuple [eT PyData.int o, .str "lacks"])
    refine gd_tup hin (fun d hd => ?_) (by simp)
    simp only [List.mem_cons, List.not_mem_nil, or_false] at hd
    rcases hd with rfl | rfl
    · exact lo
    · exact ls
  · exact gd_other ((lv_list both (m := 6) (by simp)).le (by decide) (by decide)) (fun _ _ z => by cases z)
theorem form_lv : Lv 2 200 formD := lvB_ok (by decide +kernel)
theorem fM_cases {n : Int} {row : List Int} {ks : List (List Int)} {ws : List (Int × List Int)} (R : Row n row ks ws) (v : D) : okShow (fM n ks ws v) ∧ (fM n ks ws v = .none → ∃ x r, v = .tuple (x :: r) ∧ ((x = .str "full" ∧ lack n ks = []) ∨ (x = .str "lacks" ∧ lack n ks ≠ []))) := by
  have fo : okShow formD ∧ (formD = .none → ∃ x r, v = .tuple (x :: r) ∧ ((x = .str "full" ∧ lack n ks = []) ∨ (x = .str "lacks" ∧ lack n ks ≠ []))) := ⟨form_lv.shw (by decide) (by decide), fun z => by cases z⟩
  cases v with
  | tuple ds =>
    cases ds with
    | nil => exact fo
    | cons x r =>
      rw [fM_cons]
      cases hf : isS "full" x with
      | true =>
        rw [if_pos rfl]
        cases hr : r.isEmpty with
        | false => exact fo
        | true =>
          rw [if_pos rfl]
          have hx : x = .str "full" := by
            cases x with
            | str t =>
              have ht : (t == ("full" : Str)) = true := hf
              rw [beq_iff_eq] at ht
              rw [ht]
            | _ => cases hf
          unfold lackD
          cases hl : lack n ks with
          | nil => exact ⟨(Lv.shw (k := 0) (w := 0) ⟨ok_none, rfl⟩ (by decide) (by decide)), fun _ => ⟨x, r, rfl, .inl ⟨hx, rfl⟩⟩⟩
          | cons a q =>
            have ha : a ∈ lack n ks := by rw [hl]; exact List.mem_cons_self
            have hao := R.od.sm a (List.mem_filter.mp ha).1
            refine ⟨(lv_tup (k := 2) (w := 500) (m := 6) (fun d hd => ?_) (by simp)).shw (by decide) (by decide), fun z => by cases z⟩
            simp only [List.mem_cons, List.not_mem_nil, or_false] at hd
            rcases hd with rfl | rfl
            · exact lacks_lv.le (by decide) (by decide)
            · exact (lv_ord (by omega) hao.2).le (by decide) (by decide)
      | false =>
        rw [if_neg Bool.false_ne_true]
        cases hk : isS "lacks" x with
        | false => exact fo
        | true =>
          rw [if_pos rfl]
          have hx : x = .str "lacks" := by
            cases x with
            | str t =>
              have ht : (t == ("lacks" : Str)) = true := hk
              rw [beq_iff_eq] at ht
              rw [ht]
            | _ => cases hk
          match r with
          | [] => exact fo
          | y :: z :: q => exact fo
          | [y] =>
            show okShow (if perm n y = true then thereD ws (intsB y) else formD) ∧ ((if perm n y = true then thereD ws (intsB y) else formD) = .none → _)
            cases hp : perm n y with
            | false => exact fo
            | true =>
              obtain ⟨ns, rfl, e2, e3⟩ := perm_is hp
              rw [if_pos rfl, e2]
              unfold thereD
              cases hw : (ws.filter fun (a : Int × List Int) => decide (a.2 = ns)).map (fun (a : Int × List Int) => a.1) with
              | nil =>
                refine ⟨(Lv.shw (k := 0) (w := 0) ⟨ok_none, rfl⟩ (by decide) (by decide)), fun _ => ⟨x, _, rfl, .inr ⟨hx, ?_⟩⟩⟩
                have hno : ¬ ns ∈ ks := fun hin => by
                  obtain ⟨a, ha, e⟩ := (R.mem ns).mpr hin
                  have : a ∈ ws.filter fun (a : Int × List Int) => decide (a.2 = ns) := List.mem_filter.mpr ⟨ha, decide_eq_true e⟩
                  rw [List.map_eq_nil_iff.mp hw] at this
                  cases this
                have : ns ∈ lack n ks := List.mem_filter.mpr ⟨R.od.all ns e3, by rw [memT_neg hno]; rfl⟩
                intro z; rw [z] at this; cases this
              | cons i q =>
                have : ∃ a ∈ ws, a.1 = i := by
                  have : i ∈ (ws.filter fun (a : Int × List Int) => decide (a.2 = ns)).map (fun (a : Int × List Int) => a.1) := by rw [hw]; exact List.mem_cons_self
                  obtain ⟨a, ha, e⟩ := List.mem_map.mp this
                  exact ⟨a, (List.mem_filter.mp ha).1, e⟩
                obtain ⟨a, ha, e⟩ := this
                have hi := R.ix a ha
                refine ⟨(lv_tup (k := 2) (w := 500) (m := 6) (fun d hd => ?_) (by simp)).shw (by decide) (by decide), fun z => by cases z⟩
                simp only [List.mem_cons, List.not_mem_nil, or_false] at hd
                rcases hd with rfl | rfl
                · exact (lvB_ok (v := .str "there") (by decide +kernel)).le (by decide) (by decide)
                · exact (lv_int (by omega)).le (by decide) (by decide)
  | _ => exact fo
def fullB (n : Int) : Bool := let row := getR [] (T_told_full_row n); isRet (T_told_full_row n) row && decide (row.length ≤ 60) && row.all (fun x => decide (0 ≤ x ∧ x < n))
theorem fullB_all : (fullB 1 && fullB 2 && fullB 3 && fullB 4) = true := by decide +kernel
theorem full_ok {n : Int} (h0 : 1 ≤ n) (h1 : n ≤ 4) : ∃ row, T_told_full_row n = .ret row ∧ row.length ≤ 60 ∧ Inm n row := by
  have h : fullB n = true := by
    have := fullB_all
    simp only [Bool.and_eq_true] at this
    obtain ⟨⟨⟨o1, o2⟩, o3⟩, o4⟩ := this
    have : n = 1 ∨ n = 2 ∨ n = 3 ∨ n = 4 := by omega
    rcases this with rfl | rfl | rfl | rfl
    · exact o1
    · exact o2
    · exact o3
    · exact o4
  unfold fullB at h
  simp only [Bool.and_eq_true, decide_eq_true_eq] at h
  refine ⟨_, isRet_ok h.1.1, h.1.2, fun x hx => ?_⟩
  have := List.all_eq_true.mp h.2 x hx
  simpa using this
theorem end_ret : ((T_judge_full (3 : Int) ([(0 : Int), (1 : Int), (2 : Int)] : (List Int)) (PyData.tuple [(PyData.str ("lacks" : Str)), (PyData.tuple [(PyData.int (0 : Int)), (PyData.int (1 : Int)), (PyData.int (2 : Int))])])).bind fun v296 => (eqXT v296 (PyData.tuple [(PyData.str ("there" : Str)), (PyData.int (0 : Int))]))) = .ret true := isRet_ok (by decide +kernel)
/-- what is due -/
structure Due (n : Int) (ks : List (List Int)) (due : D) : Prop where
  is : (due = fullV ∧ lack n ks = []) ∨ ∃ o ∈ ords n, due = lacksV o ∧ lack n ks ≠ []
theorem law_w : W T_law (fun b => b = true) := by
  have hlim := lim_val0
  unfold T_law
  refine .bind (.forU (fun lap hlap => ?_) (.on_nx (.eq end_ret rfl)))
  refine .bind (.bind (.pick (by omega) fun n' n0 n1 => .ret ?_))
  have n0 : 1 ≤ 1 + n' := by omega
  have n1 : 1 + n' ≤ 4 := by omega
  generalize 1 + n' = n at n0 n1
  have od := ords_ok n0 n1
  refine .bind ((row_w n0 (by omega)).mono fun row0 h0 => ?_)
  refine .bind (.bind (.bind (.pick (by omega) fun c _ _ => .ret ?_)))
  refine W.mono (P := fun row => row.length ≤ 200 ∧ Inm n row) (.ite (fun _ => ?_) fun _ => .ret h0) fun row hrow => ?_
  · obtain ⟨fr, e, fl, fi⟩ := full_ok n0 n1
    refine .eqb e (.bind (.pick (by omega) fun k k0 k1 => ?_))
    have l1 := cut_len fr none (some k)
    have l2 := cut_len fr (some (k + 1)) none
    refine .bind (.need (by omega) (.ret (.ret ⟨by rw [List.length_append]; omega, fun x hx => ?_⟩)))
    rcases List.mem_append.mp hx with hx | hx
    · exact fi x (cut_mem hx)
    · exact fi x (cut_mem hx)
  clear h0
  obtain ⟨rl, ri⟩ := hrow
  obtain ⟨ks, ws, t1, t2, kl, w1, wl, wi, ek⟩ := told_ret n0 (by omega) rl ri
  have R : Row n row ks ws := ⟨n0, n1, od, t2, t1, kl, w1, wl, wi, fun ns => by rw [ek, ddup_mem, List.mem_map]⟩
  have shr : okShow (eT PyData.int row) := okShow_szE (e := eT PyData.int) (sz_row (by omega) rl ri) (by decide)
  have ll := lack_len od ks
  refine .eqb t1 (.eqb (reprT_eq shr) ?_)
  refine .bind (.bind (.eq od.law ?_))
  rw [List.map_id']
  refine W.need (show (lack n ks).length ≤ lim by omega) (.ret ?_)
  refine .then (P := Due n ks) ?_ fun due hdue => ?_
  · refine .ite (fun h => .ret ⟨.inl ⟨rfl, of_decide_eq_true h⟩⟩) fun h => ?_
    have hne : lack n ks ≠ [] := of_decide_eq_false h
    refine .bind (.bind (.eq (getT_last hne) (.ret (.ret ⟨.inr ⟨_, ?_, rfl, hne⟩⟩))))
    exact (List.mem_filter.mp (List.getLast_mem hne)).1
  refine .bind (.bind (.eq od.law ?_))
  unfold T__law_of_L
  refine .bind (W.pickN (by have := od.len; omega) fun j hj => ?_)
  have hj : j < (ords n).length := by have := od.pos; omega
  refine .eq (getT_eq hj) ?_
  have hoo := od.sm _ (List.getElem_mem hj)
  have hof := ord_in n0 n1 (List.getElem_mem hj)
  generalize (ords n)[j] = o at hoo hof
  have one : o ≠ [] := fun z => by rw [z] at hoo; have := hoo.1.2; simp at this; omega
  have lo : Lv 4 3000 (eT PyData.int o) := (lv_ord (by omega) hoo.2).le (by decide) (by decide)
  have ls : Lv 4 3000 (.str ("lacks" : Str)) := lacks_lv.le (by decide) (by decide)
  have lf : Lv 4 3000 (.str ("full" : Str)) := full_lv.le (by decide) (by decide)
  have two : ∀ d : D, Lv 4 3000 d → Gd (.tuple [.str "lacks", d]) := fun d hd => gd_tup lacks_in (fun e he => by
    simp only [List.mem_cons, List.not_mem_nil, or_false] at he
    rcases he with rfl | rfl
    · exact ls
    · exact hd) (by simp)
  have gfull : Gd fullV := gd_tup full_in (fun d hd => by rw [List.mem_singleton] at hd; subst hd; exact lf) (by decide)
  -- due and what is made of it
  have dd : ∃ (L : D) (A : D) (V : D), listD due = .ret L ∧ addD due (eT PyData.int [(0 : Int)]) = .ret A ∧ revD due = .ret V ∧ Gd L ∧ Gd A ∧ Gd V ∧ Gd due ∧ (∀ m, W (T__law_near (m + 3) due oddM) Gd) ∧ ∃ s : Str, idxD due (.int (0 : Int)) = .ret (.str s) ∧ ((s = "full" ∧ lack n ks = []) ∨ (s = "lacks" ∧ lack n ks ≠ [])) := by
    have l0 : Lv 4 3000 (.int (0 : Int)) := (lv_int (by decide)).le (by decide) (by decide)
    rcases hdue.is with ⟨rfl, hn⟩ | ⟨o2, ho2, rfl, hn⟩
    · refine ⟨.list [.str "full"], .tuple [.str "full", .int 0], .tuple [.str "full"], rfl, add_tt (by show 2 ≤ lim; omega), rfl, gd_other ((lv_list (k := 4) (w := 3000) (m := 6) (fun d hd => by rw [List.mem_singleton] at hd; subst hd; exact lf) (by decide)).le (by decide) (by decide)) (fun _ _ z => by cases z), gd_tup full_in (fun d hd => ?_) (by decide), gfull, gfull, fun m => near_full (n := m + 1), "full", idx0 _ _, .inl ⟨rfl, hn⟩⟩
      simp only [List.mem_cons, List.not_mem_nil, or_false] at hd
      rcases hd with rfl | rfl
      · exact lf
      · exact l0
    · have h2 := od.sm o2 ho2
      have f2 := ord_in n0 n1 ho2
      have l2 : Lv 4 3000 (eT PyData.int o2) := (lv_ord (by omega) h2.2).le (by decide) (by decide)
      have ne2 : o2 ≠ [] := fun z => by rw [z] at h2; have := h2.1.2; simp at this; omega
      refine ⟨.list [.str "lacks", eT PyData.int o2], .tuple [.str "lacks", eT PyData.int o2, .int 0], .tuple [eT PyData.int o2, .str "lacks"], rfl, add_tt (by show 3 ≤ lim; omega), rfl, gd_other ((lv_list (k := 4) (w := 3000) (m := 6) (fun d hd => ?_) (by simp)).le (by decide) (by decide)) (fun _ _ z => by cases z), gd_tup lacks_in (fun d hd => ?_) (by simp), gd_tup f2 (fun d hd => ?_) (by simp), two _ l2, fun m => near_lacks f2 ne2 h2.1.1 h2.2, "lacks", idx0 _ _, .inr ⟨rfl, hn⟩⟩
      · simp only [List.mem_cons, List.not_mem_nil, or_false] at hd
        rcases hd with rfl | rfl
        · exact ls
        · exact l2
      · simp only [List.mem_cons, List.not_mem_nil, or_false] at hd
        rcases hd with rfl | rfl | rfl
        · exact ls
        · exact l2
        · exact l0
      · simp only [List.mem_cons, List.not_mem_nil, or_false] at hd
        rcases hd with rfl | rfl
        · exact l2
        · exact ls
  obtain ⟨L, A, V, eL', eA, eV, gL, gA, gV, gD, nD, s, i0, hs⟩ := dd
  repeat (with_reducible refine W.bind ?_)
  refine .eq eL' (.bind (.eq eA (.bind (.eq eV (.ret ?_)))))
  refine .need (by show 5 + 8 ≤ lim; omega) (.ret ?_)
  refine .bind (.need (by show 13 + 2 ≤ lim; omega) (.ret ?_))
  repeat (with_reducible refine W.bind ?_)
  have c3 : ∀ (a b c : D) (r : List D), cutA (a :: b :: c :: r) none (some (3 : Int)) = [a, b, c] := fun a b c r => by
    unfold cutA
    rw [show (3 : Int) = ((3 : Nat) : Int) from rfl, HT.sIx_nat, HT.sIx_none, List.drop_zero, Nat.sub_zero, Nat.min_eq_left (by simp)]; rfl
  refine .lcT (P := Gd) (fun _ _ => rfl) (fun x _ => ?_) fun ys hy hP => ?_
  · refine .bind ?_
    show W (T__law_of (cutA (due :: fullV :: lacksV o :: _) none (some (3 : Int)))) _
    rw [c3]
    refine (of_w (by intro z; cases z) (by show 3 ≤ 1000; decide)).mono fun v hv => ?_
    simp only [List.mem_cons, List.not_mem_nil, or_false] at hv
    rcases hv with rfl | rfl | rfl
    · exact nD 5
    · exact near_full (n := 6)
    · exact near_lacks (n := 5) hof one hoo.1.1 hoo.2
  have hy : ys.length = 8 := hy
  refine .need (by omega) (.ret ?_)
  refine .need (by rw [hy]; show 15 + 8 ≤ lim; omega) (.ret ?_)
  have val : ∀ v ∈ (([due, (PyData.tuple [(PyData.str ("full" : Str))]), (PyData.tuple [(PyData.str ("lacks" : Str)), (eT PyData.int o)]), (PyData.tuple [(PyData.str ("lacks" : Str)), (eT PyData.int (List.reverse o))]), (PyData.tuple [(PyData.str ("lacks" : Str)), (eT PyData.int (cutA o (some (1 : Int)) none))])] ++ [(PyData.tuple [(PyData.str ("lacks" : Str)), (eL PyData.int o)]), (PyData.tuple [(PyData.str ("full" : Str)), (PyData.int (0 : Int))]), L, A, V, PyData.none, (PyData.tuple []), (PyData.str ("full" : Str))]) ++ [(PyData.tuple [(PyData.str ("lacks" : Str))]), (PyData.tuple [(PyData.str ("Full" : Str))])]) ++ ys, Gd v := by
    intro v hv
    rcases List.mem_append.mp hv with hv | hv
    · simp only [List.mem_append, List.mem_cons, List.not_mem_nil, or_false] at hv
      rcases hv with ((h | h | h | h | h) | (h | h | h | h | h | h | h | h)) | (h | h)
      · rw [h]; exact gD
      · rw [h]; exact gfull
      · rw [h]; exact two _ lo
      · rw [h]; exact two _ ((lv_ord (by rw [List.length_reverse]; omega) fun x hx => hoo.2 x (List.mem_reverse.mp hx)).le (by decide) (by decide))
      · rw [h]; exact two _ ((lv_ord (Nat.le_trans (cut_len _ _ _) (by omega)) fun x hx => hoo.2 x (cut_mem hx)).le (by decide) (by decide))
      · rw [h]; exact two _ ((lv_ordL (by omega) hoo.2).le (by decide) (by decide))
      · rw [h]
        refine gd_tup full_in (fun d hd => ?_) (by decide)
        simp only [List.mem_cons, List.not_mem_nil, or_false] at hd
        rcases hd with rfl | rfl
        · exact lf
        · exact (lv_int (by decide)).le (by decide) (by decide)
      · rw [h]; exact gL
      · rw [h]; exact gA
      · rw [h]; exact gV
      · rw [h]; exact gd_odd (by simp [oddM])
      · rw [h]; exact gd_odd (by simp [oddM])
      · rw [h]; exact gd_odd (by simp [oddM])
      · rw [h]; exact gd_tup lacks_in (fun d hd => by rw [List.mem_singleton] at hd; subst hd; exact ls) (by decide)
      · rw [h]; exact gd_tup Full_in (fun d hd => by rw [List.mem_singleton] at hd; subst hd; exact Full_lv.le (by decide) (by decide)) (by decide)
    · exact hP v hv
  refine .bind (.forU (fun v hv => ?_) (.on_nx ?_))
  · have gv := val v hv
    have shv : okShow v := gv.lv.shw (by decide) (by decide)
    obtain ⟨c1, c2⟩ := fM_cases R v
    refine .bind (.eq (reprT_eq shv) (.bind (.eq (fault_ret R gv) ?_)))
    repeat (with_reducible refine W.bind ?_)
    refine .eq (judge_ret R gv) (.eq (reprT_eq c1) ?_)
    refine .bind (.eq (reprT_eq c1) (.ret (.skip (neT_self _) ?_)))
    refine .bind (.eq (reprT_eq shv) (.ret (.skip (neT_self _) ?_)))
    refine .then (P := fun b => b = false) ?_ fun b hb' => ?_
    · refine .ite (fun h => ?_) fun _ => .ret rfl
      have hn : fM n ks ws v = .none := by
        revert h
        cases fM n ks ws v <;> simp [isNon]
      obtain ⟨x, r, rfl, hx⟩ := c2 hn
      have es : x = .str s := by
        rcases hx with ⟨rfl, h1⟩ | ⟨rfl, h1⟩
        · rcases hs with ⟨rfl, _⟩ | ⟨_, h2⟩
          · rfl
          · exact absurd h1 h2
        · rcases hs with ⟨_, h2⟩ | ⟨rfl, _⟩
          · exact absurd h2 h1
          · rfl
      subst es
      have ssh : shp (.str s) = true := by
        rcases hs with ⟨rfl, _⟩ | ⟨rfl, _⟩
        · exact full_shp
        · exact lacks_shp
      refine .bind (.eq (idx0 _ _) (.bind (.eq i0 (.eq (eqs_ret ssh ssh).2 ?_))))
      show (!(s == s)) = false
      rw [beq_self_eq_true]; rfl
    · subst hb'
      exact .skip rfl (.ret rfl)
  · repeat (with_reducible refine W.bind ?_)
    exact .eq (reprT_eq shr) (.ret (.skip (neT_self _) (.ret rfl)))
theorem law_ok : LawHolds g_law lawN.length := law_from law_w
end Pv

open PySem PySem.W PyProof.Rows
set_option maxHeartbeats 0 in
theorem PySem.Challenge.cw_allbysteps_k90_full_papers_judged_holds : PySem.Challenge.rw_allbysteps_k90_full_papers_judged.Holds := by
  w_on; o_law; k_head; (case hw => w_witness2)
  k_fill
  refine Pv.walk_pv (l := PySem.Challenge.rw_allbysteps_k90_full_papers_judged) (k := 12) (x := "script") rfl rfl ⟨rfl, by decide, by decide⟩ (fun w h Y => PySem.W.kIn_of Y) ?F
  case F =>
    intro w mg fa h KX G hmg
    refine' Pv.all_mk KX G hmg ?a0 ?l0 ?c0 ?k0 ?a1 ?l1 ?c1 ?k1 ?a2 ?l2 ?c2 ?k2 ?a3 ?l3 ?c3 ?k3 ?a4 ?l4 ?c4 ?k4 ?a5 ?l5 ?c5 ?k5 ?a6 ?l6 ?c6 ?k6 ?a7 ?l7 ?c7 ?k7 ?a8 ?l8 ?c8 ?k8 ?a9 ?l9 ?c9 ?k9 ?a10 ?l10 ?c10 ?k10 ?a11 ?l11 ?c11 ?k11 ?a12 ?l12 ?c12 ?k12 ?a13 ?l13 ?c13 ?k13 ?a14 ?l14 ?c14 ?k14 ?a15 ?l15 ?c15 ?k15 ?a16 ?l16 ?c16 ?k16 ?a17 ?l17 ?c17 ?k17 ?a18 ?l18 ?c18 ?k18 ?z0 ?z1 ?z2 ?z3 ?z4 ?z5 ?z6 ?z7 ?z8 ?z9 ?z10 ?z11 ?z12 ?z13 Pv.law_ok
    (case a0 => k_is); (case l0 => k_is); (case c0 => k_is); (case k0 => k_is); (case a1 => k_is); (case l1 => k_is); (case c1 => k_is); (case k1 => k_is); (case a2 => k_is); (case l2 => k_is); (case c2 => k_is); (case k2 => k_is); (case a3 => k_is); (case l3 => k_is); (case c3 => k_is); (case k3 => k_is); (case a4 => k_is); (case l4 => k_is); (case c4 => k_is); (case k4 => k_is); (case a5 => k_is); (case l5 => k_is); (case c5 => k_is); (case k5 => k_is); (case a6 => k_is); (case l6 => k_is); (case c6 => k_is); (case k6 => k_is); (case a7 => k_is); (case l7 => k_is); (case c7 => k_is); (case k7 => k_is); (case a8 => k_is); (case l8 => k_is); (case c8 => k_is); (case k8 => k_is); (case a9 => k_is); (case l9 => k_is); (case c9 => k_is); (case k9 => k_is); (case a10 => k_is); (case l10 => k_is); (case c10 => k_is); (case k10 => k_is); (case a11 => k_is); (case l11 => k_is); (case c11 => k_is); (case k11 => k_is); (case a12 => k_is); (case l12 => k_is); (case c12 => k_is); (case k12 => k_is); (case a13 => k_is); (case l13 => k_is); (case c13 => k_is); (case k13 => k_is); (case a14 => k_is); (case l14 => k_is); (case c14 => k_is); (case k14 => k_is); (case a15 => k_is); (case l15 => k_is); (case c15 => k_is); (case k15 => k_is); (case a16 => k_is); (case l16 => k_is); (case c16 => k_is); (case k16 => k_is); (case a17 => k_is); (case l17 => k_is); (case c17 => k_is); (case k17 => k_is); (case a18 => k_is); (case l18 => k_is); (case c18 => k_is); (case k18 => k_is); (case z0 => k_is); (case z1 => k_is); (case z2 => k_is); (case z3 => k_is); (case z4 => k_is); (case z5 => k_is); (case z6 => k_is); (case z7 => k_is); (case z8 => k_is); (case z9 => k_is); (case z10 => k_is); (case z11 => k_is); (case z12 => k_is); (case z13 => k_is)

