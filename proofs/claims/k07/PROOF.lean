import PyProof.Rows.All
import Wide.All
import OpenK.AllK
import Wide.FinOn
import HandS.ForMost
import HandS.Exc
import HandS.TryOnly
import HandS.TryMany
import HandS.ExcOwn
import HandS.CallSlots
import HandS.HeadHook1
import KE.DataEq
import HandS.Wide
import HandS.Style
import HandS.IsInst
import HandS.Conv
import HandS.Rev
import HandS.More
import HandS.SortInts
import HandS.SortRule
import HandS.Walk
import HandS.Iter
import HandS.Comp
import HandS.Zip
import HandS.TupSets
import KE.GoesEnumKw
import HandS.WordsExc
import HandS.ExcInit
import HandS.ExcField
import HandS.Defaults
import HandS.HeadEnd
import HandS.HeadHook2
import KE.KStateDown
import Lean
import HandS.Head0
import HandS.Head1
import HandS.Head2
import PySem.Challenge.RW_lastwaltz_k07_a_quadrille
set_option Elab.async false
set_option linter.all false
set_option maxRecDepth 100000
set_option maxHeartbeats 4000000
namespace Wz
open PySem L2

/-! ### data as trees; ref n: the n-th cell of the store -/
inductive D where
  | non | bl (b : Bool) | int (i : Int) | str (s : Str)
  | tup (l : List D) | lst (l : List D) | scr (l : List Int) | wt (l : List D)
  | dk (l : List (Key × D)) | dt (l : List (List Key × D))
  | ref (n : Nat)

section
variable (K : PySem.W.Frag) (F : Hp) (al : Nat → Option Addr)
mutual
def Rep : D → V → Prop
  | .non, v => v = .non
  | .bl b, v => v = .bl b
  | .int i, v => v = .int i
  | .str s, v => v = .str s
  | .tup l, v => ∃ a vs, v = .ref a ∧ F a = some (.tup vs) ∧ RepL l vs
  | .lst l, v => ∃ a vs, v = .ref a ∧ F a = some (.lst vs) ∧ RepL l vs
  | .scr l, v => ∃ a, v = .ref a ∧ SqL K F a (l.map .int)
  | .wt l, v => ∃ a vs, v = .ref a ∧ (∀ H, SqT K H a vs) ∧ RepL l vs
  | .dk l, v => ∃ a vs, v = .ref a ∧ F a = some (.dK vs) ∧ RepK l vs
  | .dt l, v => ∃ a vs, v = .ref a ∧ F a = some (.dT vs) ∧ RepT l vs
  | .ref n, v => ∃ a, v = .ref a ∧ al n = some a
def RepL : List D → List V → Prop
  | [], vs => vs = []
  | d :: r, vs => ∃ v w, vs = v :: w ∧ Rep d v ∧ RepL r w
def RepK : List (Key × D) → List (Key × V) → Prop
  | [], vs => vs = []
  | (k, d) :: r, vs => ∃ v w, vs = (k, v) :: w ∧ Rep d v ∧ RepK r w
def RepT : List (List Key × D) → List (List Key × V) → Prop
  | [], vs => vs = []
  | (k, d) :: r, vs => ∃ v w, vs = (k, v) :: w ∧ Rep d v ∧ RepT r w
end
end

section
variable {K : PySem.W.Frag} {F F' : Hp} {al al' : Nat → Option Addr}
theorem sqL_mono {a : Addr} {xs : List V} (hF : ∀ a u, F a = some u → F' a = some u) (h : SqL K F a xs) : SqL K F' a xs := by
  rcases h with (h | ⟨o, h⟩) | h
  · exact .inl (.inl (hF _ _ h))
  · exact .inl (.inr ⟨o, hF _ _ h⟩)
  · exact .inr h
mutual
theorem Rep.mono (hF : ∀ a u, F a = some u → F' a = some u) (ha : ∀ n a, al n = some a → al' n = some a) : ∀ (d : D) (v : V), Rep K F al d v → Rep K F' al' d v
  | .non, v, h => h
  | .bl b, v, h => h
  | .int i, v, h => h
  | .str s, v, h => h
  | .tup l, v, h => by
    obtain ⟨a, vs, e, h1, h2⟩ := h
    exact ⟨a, vs, e, hF _ _ h1, RepL.mono hF ha l vs h2⟩
  | .lst l, v, h => by
    obtain ⟨a, vs, e, h1, h2⟩ := h
    exact ⟨a, vs, e, hF _ _ h1, RepL.mono hF ha l vs h2⟩
  | .scr l, v, h => by
    obtain ⟨a, e, h1⟩ := h
    exact ⟨a, e, sqL_mono hF h1⟩
  | .wt l, v, h => by
    obtain ⟨a, vs, e, h1, h2⟩ := h
    exact ⟨a, vs, e, h1, RepL.mono hF ha l vs h2⟩
  | .dk l, v, h => by
    obtain ⟨a, vs, e, h1, h2⟩ := h
    exact ⟨a, vs, e, hF _ _ h1, RepK.mono hF ha l vs h2⟩
  | .dt l, v, h => by
    obtain ⟨a, vs, e, h1, h2⟩ := h
    exact ⟨a, vs, e, hF _ _ h1, RepT.mono hF ha l vs h2⟩
  | .ref n, v, h => by
    obtain ⟨a, e, h1⟩ := h
    exact ⟨a, e, ha _ _ h1⟩
theorem RepL.mono (hF : ∀ a u, F a = some u → F' a = some u) (ha : ∀ n a, al n = some a → al' n = some a) : ∀ (l : List D) (vs : List V), RepL K F al l vs → RepL K F' al' l vs
  | [], vs, h => h
  | d :: r, vs, h => by
    obtain ⟨v, w, e, h1, h2⟩ := h
    exact ⟨v, w, e, Rep.mono hF ha d v h1, RepL.mono hF ha r w h2⟩
theorem RepK.mono (hF : ∀ a u, F a = some u → F' a = some u) (ha : ∀ n a, al n = some a → al' n = some a) : ∀ (l : List (Key × D)) (vs : List (Key × V)), RepK K F al l vs → RepK K F' al' l vs
  | [], vs, h => h
  | (k, d) :: r, vs, h => by
    obtain ⟨v, w, e, h1, h2⟩ := h
    exact ⟨v, w, e, Rep.mono hF ha d v h1, RepK.mono hF ha r w h2⟩
theorem RepT.mono (hF : ∀ a u, F a = some u → F' a = some u) (ha : ∀ n a, al n = some a → al' n = some a) : ∀ (l : List (List Key × D)) (vs : List (List Key × V)), RepT K F al l vs → RepT K F' al' l vs
  | [], vs, h => h
  | (k, d) :: r, vs, h => by
    obtain ⟨v, w, e, h1, h2⟩ := h
    exact ⟨v, w, e, Rep.mono hF ha d v h1, RepT.mono hF ha r w h2⟩
end
theorem RepL.length : ∀ {l : List D} {vs : List V}, RepL K F al l vs → vs.length = l.length
  | [], vs, h => by
    have h' : vs = [] := h
    rw [h'] <;> rfl
  | d :: r, vs, h => by
    obtain ⟨v, w, e, h1, h2⟩ := h
    rw [e, List.length_cons, List.length_cons, RepL.length h2]
theorem RepL.get : ∀ {l : List D} {vs : List V} {i : Nat} {d : D}, RepL K F al l vs → l[i]? = some d → ∃ v, vs[i]? = some v ∧ Rep K F al d v
  | [], _, _, _, _, e => by simp at e
  | x :: r, vs, 0, d, h, e => by
    obtain ⟨v, w, e1, h1, h2⟩ := h
    simp at e
    subst e
    exact ⟨v, by rw [e1] <;> rfl, h1⟩
  | x :: r, vs, i + 1, d, h, e => by
    obtain ⟨v, w, e1, h1, h2⟩ := h
    obtain ⟨v', q1, q2⟩ := RepL.get (i := i) (d := d) h2 (by simpa using e)
    exact ⟨v', by rw [e1]; simpa using q1, q2⟩
theorem RepL.get' : ∀ {l : List D} {vs : List V} {i : Nat} {v : V}, RepL K F al l vs → vs[i]? = some v → ∃ d, l[i]? = some d ∧ Rep K F al d v
  | [], vs, _, _, h, e => by
    have h' : vs = [] := h
    rw [h'] at e
    simp at e
  | x :: r, vs, 0, v, h, e => by
    obtain ⟨v', w, e1, h1, h2⟩ := h
    rw [e1] at e
    simp at e
    subst e
    exact ⟨x, rfl, h1⟩
  | x :: r, vs, i + 1, v, h, e => by
    obtain ⟨v', w, e1, h1, h2⟩ := h
    rw [e1] at e
    obtain ⟨d, q1, q2⟩ := RepL.get' (i := i) (v := v) h2 (by simpa using e)
    exact ⟨d, by simpa using q1, q2⟩
theorem RepL.append : ∀ {l m : List D} {vs ws : List V}, RepL K F al l vs → RepL K F al m ws → RepL K F al (l ++ m) (vs ++ ws)
  | [], m, vs, ws, h, q => by
    have h' : vs = [] := h
    rw [h']
    exact q
  | d :: r, m, vs, ws, h, q => by
    obtain ⟨v, w, e, h1, h2⟩ := h
    rw [e]
    exact ⟨v, w ++ ws, rfl, h1, RepL.append h2 q⟩
theorem RepL.one {d : D} {v : V} (h : Rep K F al d v) : RepL K F al [d] [v] := ⟨v, [], rfl, h, rfl⟩
theorem RepL.snoc {l : List D} {vs : List V} {d : D} {v : V} (h : RepL K F al l vs) (q : Rep K F al d v) : RepL K F al (l ++ [d]) (vs ++ [v]) := h.append (.one q)
theorem RepL.drop : ∀ {l : List D} {vs : List V} (n : Nat), RepL K F al l vs → RepL K F al (l.drop n) (vs.drop n)
  | _, _, 0, h => h
  | [], vs, n + 1, h => by
    have h' : vs = [] := h
    rw [h']
    exact rfl
  | d :: r, vs, n + 1, h => by
    obtain ⟨v, w, e, h1, h2⟩ := h
    rw [e]
    exact RepL.drop n h2
theorem RepL.take : ∀ {l : List D} {vs : List V} (n : Nat), RepL K F al l vs → RepL K F al (l.take n) (vs.take n)
  | _, _, 0, h => rfl
  | [], vs, n + 1, h => by
    have h' : vs = [] := h
    rw [h']
    exact rfl
  | d :: r, vs, n + 1, h => by
    obtain ⟨v, w, e, h1, h2⟩ := h
    rw [e]
    exact ⟨v, w.take n, rfl, h1, RepL.take n h2⟩
theorem RepL.reverse : ∀ {l : List D} {vs : List V}, RepL K F al l vs → RepL K F al l.reverse vs.reverse
  | [], vs, h => by
    have h' : vs = [] := h
    rw [h']
    exact rfl
  | d :: r, vs, h => by
    obtain ⟨v, w, e, h1, h2⟩ := h
    rw [e, List.reverse_cons, List.reverse_cons]
    exact h2.reverse.snoc h1
theorem RepL.set : ∀ {l : List D} {vs : List V} {d : D} {v : V} (i : Nat), RepL K F al l vs → Rep K F al d v → RepL K F al (l.set i d) (vs.set i v)
  | [], vs, _, _, i, h, q => by
    have h' : vs = [] := h
    rw [h']
    exact rfl
  | x :: r, vs, d, v, 0, h, q => by
    obtain ⟨v', w, e, h1, h2⟩ := h
    rw [e]
    exact ⟨v, w, rfl, q, h2⟩
  | x :: r, vs, d, v, i + 1, h, q => by
    obtain ⟨v', w, e, h1, h2⟩ := h
    rw [e]
    exact ⟨v', w.set i v, rfl, h1, RepL.set i h2 q⟩
theorem RepL.ints : ∀ {ns : List Int} {vs : List V}, RepL K F al (ns.map D.int) vs → vs = ns.map V.int
  | [], vs, h => h
  | n :: r, vs, h => by
    obtain ⟨v, w, e, h1, h2⟩ := h
    have h1' : v = .int n := h1
    rw [e, h1', RepL.ints h2] <;> rfl
theorem RepL.of_ints : ∀ (ns : List Int), RepL K F al (ns.map D.int) (ns.map V.int)
  | [] => rfl
  | n :: r => ⟨_, _, rfl, rfl, RepL.of_ints r⟩

/-! dicts: the same look-ups, stores and removals on data -/
section
variable {κ : Type} [DecidableEq κ] {β : Type}
def getK (l : List (κ × β)) (k : κ) : Option β := (l.find? fun q => decide (q.1 = k)).map (·.2)
def setK (l : List (κ × β)) (k : κ) (x : β) : List (κ × β) := if (l.any fun q => decide (q.1 = k)) = true then l.map (fun q => if q.1 = k then (q.1, x) else q) else l ++ [(k, x)]
def delK (l : List (κ × β)) (k : κ) : List (κ × β) := l.filter fun q => decide (q.1 ≠ k)
abbrev PK (K : PySem.W.Frag) (F : Hp) (al : Nat → Option Addr) : List (κ × D) → List (κ × V) → Prop := Paired fun p q => p.1 = q.1 ∧ Rep K F al p.2 q.2
end
theorem RepK.pk : ∀ {l : List (Key × D)} {vs : List (Key × V)}, RepK K F al l vs → PK K F al l vs
  | [], vs, h => by
    have h' : vs = [] := h
    rw [h']
    exact .nil
  | (k, d) :: r, vs, h => by
    obtain ⟨v, w, e, h1, h2⟩ := h
    rw [e]
    exact .cons ⟨rfl, h1⟩ h2.pk
theorem RepT.pk : ∀ {l : List (List Key × D)} {vs : List (List Key × V)}, RepT K F al l vs → PK K F al l vs
  | [], vs, h => by
    have h' : vs = [] := h
    rw [h']
    exact .nil
  | (k, d) :: r, vs, h => by
    obtain ⟨v, w, e, h1, h2⟩ := h
    rw [e]
    exact .cons ⟨rfl, h1⟩ h2.pk
theorem PK.repK : ∀ {l : List (Key × D)} {vs : List (Key × V)}, PK K F al l vs → RepK K F al l vs
  | _, _, .nil => rfl
  | (k, d) :: r, (k', v) :: w, .cons h t => by
    obtain ⟨e, h⟩ := h
    have e' : k = k' := e
    subst e'
    exact ⟨v, w, rfl, h, PK.repK t⟩
theorem PK.repT : ∀ {l : List (List Key × D)} {vs : List (List Key × V)}, PK K F al l vs → RepT K F al l vs
  | _, _, .nil => rfl
  | (k, d) :: r, (k', v) :: w, .cons h t => by
    obtain ⟨e, h⟩ := h
    have e' : k = k' := e
    subst e'
    exact ⟨v, w, rfl, h, PK.repT t⟩
section
variable {κ : Type} [DecidableEq κ]
theorem PK.get {k : κ} : ∀ {l : List (κ × D)} {vs : List (κ × V)}, PK K F al l vs → (getK l k = none → valV vs k = none) ∧ (∀ d, getK l k = some d → ∃ v, valV vs k = some v ∧ Rep K F al d v)
  | _, _, .nil => ⟨fun _ => rfl, fun d h => by cases h⟩
  | (k1, d1) :: r, (k2, v2) :: w, .cons h t => by
    obtain ⟨e, h⟩ := h
    have e' : k1 = k2 := e
    subst e'
    have ih := PK.get (k := k) t
    by_cases q : k1 = k
    · refine ⟨fun z => ?_, fun d z => ?_⟩
      · simp [getK, List.find?_cons, q] at z
      · simp [getK, List.find?_cons, q] at z
        subst z
        exact ⟨v2, by simp [valV, List.find?_cons, q], h⟩
    · have g : getK ((k1, d1) :: r) k = getK r k := by simp [getK, List.find?_cons, q]
      have g2 : valV ((k1, v2) :: w) k = valV w k := by simp [valV, List.find?_cons, q]
      rw [g, g2]
      exact ih
theorem PK.isSome {k : κ} {l : List (κ × D)} {vs : List (κ × V)} (h : PK K F al l vs) : (valV vs k).isSome = (getK l k).isSome := by
  obtain ⟨h1, h2⟩ := h.get (k := k)
  cases e : getK l k with
  | none => rw [h1 e] <;> rfl
  | some d =>
    obtain ⟨v, q, _⟩ := h2 d e
    rw [q] <;> rfl
theorem PK.any {k : κ} : ∀ {l : List (κ × D)} {vs : List (κ × V)}, PK K F al l vs → (l.any fun q => decide (q.1 = k)) = (vs.any fun q => decide (q.1 = k))
  | _, _, .nil => rfl
  | (k1, d1) :: r, (k2, v2) :: w, .cons h t => by
    obtain ⟨e, h⟩ := h
    have e' : k1 = k2 := e
    subst e'
    rw [List.any_cons, List.any_cons, PK.any t]
theorem PK.map {k : κ} {d : D} {v : V} (q : Rep K F al d v) : ∀ {l : List (κ × D)} {vs : List (κ × V)}, PK K F al l vs → PK K F al (l.map fun p => if p.1 = k then (p.1, d) else p) (vs.map fun p => if p.1 = k then (p.1, v) else p)
  | _, _, .nil => .nil
  | (k1, d1) :: r, (k2, v2) :: w, .cons h t => by
    obtain ⟨e, h⟩ := h
    have e' : k1 = k2 := e
    subst e'
    refine .cons ?_ (PK.map q t)
    by_cases z : k1 = k
    · simp only [z, if_true]
      exact ⟨trivial, q⟩
    · simp only [z, if_false]
      exact ⟨trivial, h⟩
theorem PK.app : ∀ {l m : List (κ × D)} {vs ws : List (κ × V)}, PK K F al l vs → PK K F al m ws → PK K F al (l ++ m) (vs ++ ws)
  | _, _, _, _, .nil, h => h
  | _, _, _, _, .cons h t, q => .cons h (PK.app t q)
theorem PK.put {k : κ} {d : D} {v : V} {l : List (κ × D)} {vs : List (κ × V)} (h : PK K F al l vs) (q : Rep K F al d v) : PK K F al (setK l k d) (putK vs k v) := by
  unfold setK putK
  rw [h.any]
  split
  · exact h.map q
  · exact PK.app h (.cons ⟨rfl, q⟩ .nil)
theorem PK.del {k : κ} : ∀ {l : List (κ × D)} {vs : List (κ × V)}, PK K F al l vs → PK K F al (delK l k) (dropK vs k)
  | _, _, .nil => .nil
  | (k1, d1) :: r, (k2, v2) :: w, .cons h t => by
    obtain ⟨e, h⟩ := h
    have e' : k1 = k2 := e
    subst e'
    have ih := PK.del (k := k) t
    by_cases z : k1 = k
    · have g : delK ((k1, d1) :: r) k = delK r k := by simp [delK, z]
      have g2 : dropK ((k1, v2) :: w) k = dropK w k := by simp [dropK, z]
      rw [g, g2]
      exact ih
    · have g : delK ((k1, d1) :: r) k = (k1, d1) :: delK r k := by simp [delK, z]
      have g2 : dropK ((k1, v2) :: w) k = (k1, v2) :: dropK w k := by simp [dropK, z]
      rw [g, g2]
      exact .cons ⟨rfl, h⟩ ih
theorem PK.len {l : List (κ × D)} {vs : List (κ × V)} (h : PK K F al l vs) : vs.length = l.length := (Paired.length h).symm
theorem PK.keys : ∀ {l : List (κ × D)} {vs : List (κ × V)}, PK K F al l vs → vs.map (·.1) = l.map (·.1)
  | _, _, .nil => rfl
  | (k1, d1) :: r, (k2, v2) :: w, .cons h t => by
    obtain ⟨e, h⟩ := h
    have e' : k1 = k2 := e
    subst e'
    rw [List.map_cons, List.map_cons, PK.keys t]
end
end
end Wz

set_option Elab.async false
set_option linter.all false
set_option maxRecDepth 100000
set_option maxHeartbeats 4000000
namespace Wz
open PySem L2

/-! ### the store, the slots, the world -/
inductive Fld where
  | val (d : D) | own (d : D) | lck (d : D)
inductive Cell where
  | ins (c : Str) (fs : List (Str × Fld)) | box (d : D) | lbx (d : D)
inductive Slot where
  | non | val (d : D) | own (d : D) | lck (d : D)
inductive Rv where
  | val (d : D) | new (d : D) | bor (d : D) | lk (d : D) | fld (n : Nat) (f : Str)
inductive Ow where
  | sl (i : Nat) | fl (n : Nat) (f : Str) | ob (n : Nat)
  deriving DecidableEq
def Ow.isOb : Ow → Bool
  | .sl _ => false | _ => true
structure Wd where
  F : Hp
  ow : Ow → Option Addr
abbrev Wd.al (W : Wd) : Nat → Option Addr := fun n => W.ow (.ob n)
inductive Out (α : Type) where
  | ok (a : α) (S : List Cell) | exc (c : Str) (a : Option D) (S : List Cell) | stuck
def Out.bind {α β : Type} (x : Out α) (f : α → List Cell → Out β) : Out β := match x with
  | .ok a S => f a S
  | .exc c a S => .exc c a S
  | .stuck => .stuck
@[simp] theorem Out.bind_ok {α β : Type} (a : α) (S : List Cell) (f : α → List Cell → Out β) : (Out.ok a S).bind f = f a S := rfl
@[simp] theorem Out.bind_exc {α β : Type} (c : Str) (a : Option D) (S : List Cell) (f : α → List Cell → Out β) : (Out.exc c a S).bind f = .exc c a S := rfl
@[simp] theorem Out.bind_stuck {α β : Type} (f : α → List Cell → Out β) : (Out.stuck : Out α).bind f = .stuck := rfl

section
variable (K : PySem.W.Frag)
abbrev RepW (W : Wd) : D → V → Prop := Rep K W.F W.al
abbrev RepLW (W : Wd) : List D → List V → Prop := RepL K W.F W.al
/-- a container at p, unlocked | maybe locked -/
def ContX (W : Wd) (H : Hp) (p : Addr) : D → Prop
  | .lst l => ∃ vs, H p = some (.lst vs) ∧ RepL K W.F W.al l vs
  | .dk l => ∃ vs, H p = some (.dK vs) ∧ RepK K W.F W.al l vs
  | .dt l => ∃ vs, H p = some (.dT vs) ∧ RepT K W.F W.al l vs
  | _ => False
def ContR (W : Wd) (H : Hp) (p : Addr) : D → Prop
  | .lst l => ∃ vs, H p = some (.lst vs) ∧ RepL K W.F W.al l vs
  | .dk l => ∃ vs, Rd H p (.dK vs) ∧ RepK K W.F W.al l vs
  | .dt l => ∃ vs, Rd H p (.dT vs) ∧ RepT K W.F W.al l vs
  | _ => False
def lockable : HO → Prop
  | .dK _ => True | .dT _ => True | _ => False
structure WOk (W : Wd) (H : Hp) : Prop where
  sub : ∀ a u, W.F a = some u → H a = some u ∨ (lockable u ∧ ∃ o, H a = some (.frz o u))
  inj : ∀ o1 o2 a, W.ow o1 = some a → W.ow o2 = some a → o1 = o2
  unF : ∀ o a, W.ow o = some a → W.F a = none
  alv : ∀ o a, W.ow o = some a → H a ≠ none
  tupF : ∀ a vs, H a = some (.tup vs) → W.F a = some (.tup vs)
def FldOk (W : Wd) (H : Hp) (n : Nat) (f : Str) : Fld → V → Prop
  | .val d, v => RepW K W d v
  | .own d, v => ∃ p, v = .ref p ∧ W.ow (.fl n f) = some p ∧ ContX K W H p d
  | .lck d, v => ∃ p, v = .ref p ∧ W.ow (.fl n f) = some p ∧ ContR K W H p d
def FldsOk (W : Wd) (H : Hp) (n : Nat) : List (Str × Fld) → List (Str × V) → Prop
  | [], vs => vs = []
  | (f, x) :: r, vs => ∃ v w, vs = (f, v) :: w ∧ FldOk K W H n f x v ∧ FldsOk W H n r w
def CellOk (W : Wd) (H : Hp) (n : Nat) : Cell → Prop
  | .ins c fs => ∃ a dx vs, W.ow (.ob n) = some a ∧ H a = some (.ins (He.ga K c) dx vs) ∧ FldsOk K W H n fs vs
  | .box d => ∃ p, W.ow (.ob n) = some p ∧ ContX K W H p d
  | .lbx d => ∃ p, W.ow (.ob n) = some p ∧ ContR K W H p d
/-- is field f of cell n a container of its own -/
def isOw : Option Fld → Bool
  | some (.own _) => true
  | some (.lck _) => true
  | _ => false
def ownF (S : List Cell) (n : Nat) (f : Str) : Bool := match S[n]? with
  | some (.ins _ fs) => isOw (fs.lookup f)
  | _ => false
structure ObsOk (W : Wd) (H : Hp) (S : List Cell) : Prop where
  at_ : ∀ n c, S[n]? = some c → CellOk K W H n c
  nob : ∀ n, S.length ≤ n → W.ow (.ob n) = none ∧ ∀ f, W.ow (.fl n f) = none
  nof : ∀ n f, ownF S n f = false → W.ow (.fl n f) = none
def SlotOk (W : Wd) (H : Hp) (σ : L2.St) (i : Nat) : Slot → Prop
  | .non => True
  | .val d => ∃ v, σ[i]? = some (some v) ∧ RepW K W d v
  | .own d => ∃ p, σ[i]? = some (some (.ref p)) ∧ W.ow (.sl i) = some p ∧ ContX K W H p d
  | .lck d => ∃ p, σ[i]? = some (some (.ref p)) ∧ (∀ o, W.ow o ≠ some p) ∧ ContR K W H p d
/-- a value that may be read as d now -/
def Rdg (W : Wd) (H : Hp) (d : D) (v : V) : Prop := RepW K W d v ∨ ∃ p, v = .ref p ∧ ContR K W H p d
def RvOk (W : Wd) (H0 H : Hp) : Rv → V → Prop
  | .val d, v => RepW K W d v
  | .new d, v => ∃ p, v = .ref p ∧ ContX K W H p d ∧ W.F p = none ∧ (∀ o, W.ow o ≠ some p) ∧ H0 p = none
  | .bor d, v => ∃ p, v = .ref p ∧ ContR K W H p d ∧ (∀ o, o.isOb = true → W.ow o ≠ some p)
  | .lk d, v => ∃ p, v = .ref p ∧ ContR K W H p d ∧ (∀ o, W.ow o ≠ some p)
  | .fld n f, v => ∃ p, v = .ref p ∧ W.ow (.fl n f) = some p
/-- the field that an exception of class c keeps -/
def exF (c : Str) : Str := if c = ("NoText" : Str) then "place" else "guest"
def ExcOk (W : Wd) (H : Hp) (c : Str) : Option D → Value → Option Addr → Prop
  | none, cls, dd => cls = .ref (He.ga K c) ∧ dd = none
  | some d, cls, dd => cls = .ref (He.ga K c) ∧ ∃ x f v, dd = some x ∧ H x = some (.xd [(f, v)]) ∧ RepW K W d v ∧ f = exF c
end
/-- the entry's heap E0; slots from np on are the def's own -/
structure Rel (K : PySem.W.Frag) (E0 : Hp) (np : Nat) (W : Wd) (ρ : List Slot) (S : List Cell) (σ : L2.St) (H : Hp) : Prop where
  wok : WOk W H
  obs : ObsOk K W H S
  slots : ∀ i s, ρ[i]? = some s → SlotOk K W H σ i s
  len : ρ.length = σ.length
  nsl : ∀ i, (∀ d, ρ[i]? ≠ some (.own d)) → W.ow (.sl i) = none
  frs : ∀ i p, W.ow (.sl i) = some p → np ≤ i → E0 p = none
  ent : ∀ a, E0 a ≠ none → H a ≠ none

/-- what an expression may do -/
structure EStep (W : Wd) (H : Hp) (W' : Wd) (H' : Hp) : Prop where
  keep : ∀ a u, H a = some u → (∀ o, o.isOb = true → W.ow o ≠ some a) → H' a = some u
  F : ∀ a u, W.F a = some u → W'.F a = some u
  Fn : ∀ a, W'.F a ≠ none → W.F a ≠ none ∨ H a = none
  sl : ∀ i, W'.ow (.sl i) = W.ow (.sl i)
  ob : ∀ n a, W.ow (.ob n) = some a → W'.ow (.ob n) = some a
  fl : ∀ n f a, W.ow (.fl n f) = some a → W'.ow (.fl n f) = some a
  own : ∀ o a, W'.ow o = some a → W.ow o = some a ∨ H a = none
  liv : ∀ a, H a ≠ none → H' a ≠ none
  fz : ∀ a o u, H a = some (.frz o u) → H' a = some (.frz o u)
/-- what a statement may do; n0: the cells that stood at the def's entry -/
structure SStep (n0 : Nat) (W : Wd) (H : Hp) (W' : Wd) (H' : Hp) : Prop where
  keep : ∀ a u, H a = some u → (∀ o, W.ow o ≠ some a) → H' a = some u
  F : ∀ a u, W.F a = some u → W'.F a = some u
  Fn : ∀ a, W'.F a ≠ none → W.F a ≠ none ∨ H a = none ∨ ∃ i, W.ow (.sl i) = some a
  ob : ∀ n a, W.ow (.ob n) = some a → W'.ow (.ob n) = some a
  fl : ∀ n f a, n < n0 → W.ow (.fl n f) = some a → W'.ow (.fl n f) = some a
  own : ∀ o a, W'.ow o = some a → W.ow o = some a ∨ H a = none
  liv : ∀ a, H a ≠ none → H' a ≠ none
  fz : ∀ a o u, H a = some (.frz o u) → H' a = some (.frz o u)
section
variable {K : PySem.W.Frag} {W W1 W2 : Wd} {H H0 H1 H2 : Hp} {E0 : Hp} {np n0 : Nat} {ρ : List Slot} {S S' : List Cell} {σ : L2.St} {d : D} {v : V} {p : Addr}
theorem EStep.refl : EStep W H W H := ⟨fun _ _ h _ => h, fun _ _ h => h, fun _ h => .inl h, fun _ => rfl, fun _ _ h => h, fun _ _ _ h => h, fun _ _ h => .inl h, fun _ h => h, fun _ _ _ h => h⟩
theorem SStep.refl : SStep n0 W H W H := ⟨fun _ _ h _ => h, fun _ _ h => h, fun _ h => .inl h, fun _ _ h => h, fun _ _ _ _ h => h, fun _ _ h => .inl h, fun _ h => h, fun _ _ _ h => h⟩
theorem EStep.trans (a : EStep W H W1 H1) (b : EStep W1 H1 W2 H2) : EStep W H W2 H2 where
  keep x u h n := b.keep x u (a.keep x u h n) fun o ho z => by
    rcases a.own o x z with q | q
    · exact n o ho q
    · rw [h] at q; cases q
  F x u h := b.F x u (a.F x u h)
  Fn x h := by
    rcases b.Fn x h with q | q
    · exact a.Fn x q
    · exact .inr (Classical.byContradiction fun z => a.liv x z q)
  sl i := (b.sl i).trans (a.sl i)
  ob n x h := b.ob n x (a.ob n x h)
  fl n f x h := b.fl n f x (a.fl n f x h)
  own o x h := by
    rcases b.own o x h with q | q
    · exact a.own o x q
    · exact .inr (Classical.byContradiction fun z => a.liv x z q)
  liv x h := b.liv x (a.liv x h)
  fz x o u h := b.fz x o u (a.fz x o u h)
theorem SStep.trans (a : SStep n0 W H W1 H1) (b : SStep n0 W1 H1 W2 H2) : SStep n0 W H W2 H2 where
  keep x u h n := b.keep x u (a.keep x u h n) fun o z => by
    rcases a.own o x z with q | q
    · exact n o q
    · rw [h] at q; cases q
  F x u h := b.F x u (a.F x u h)
  Fn x h := by
    rcases b.Fn x h with q | q | ⟨i, q⟩
    · exact a.Fn x q
    · exact .inr (.inl (Classical.byContradiction fun z => a.liv x z q))
    · rcases a.own _ x q with q | q
      · exact .inr (.inr ⟨i, q⟩)
      · exact .inr (.inl q)
  ob n x h := b.ob n x (a.ob n x h)
  fl n f x z h := b.fl n f x z (a.fl n f x z h)
  own o x h := by
    rcases b.own o x h with q | q
    · exact a.own o x q
    · exact .inr (Classical.byContradiction fun z => a.liv x z q)
  liv x h := b.liv x (a.liv x h)
  fz x o u h := b.fz x o u (a.fz x o u h)
theorem EStep.st (a : EStep W H W1 H1) : SStep n0 W H W1 H1 :=
  ⟨fun x u h n => a.keep x u h fun o _ => n o, a.F, fun x h => (a.Fn x h).imp id .inl, a.ob, fun n f x _ h => a.fl n f x h, a.own, a.liv, a.fz⟩
theorem EStep.al (a : EStep W H W1 H1) : ∀ n x, W.al n = some x → W1.al n = some x := a.ob
theorem EStep.rep (a : EStep W H W1 H1) (h : RepW K W d v) : RepW K W1 d v := Rep.mono a.F a.ob d v h
theorem SStep.rep (a : SStep n0 W H W1 H1) (h : RepW K W d v) : RepW K W1 d v := Rep.mono a.F a.ob d v h
theorem ContX.mono (hF : ∀ a u, W.F a = some u → W1.F a = some u) (ho : ∀ n a, W.ow (.ob n) = some a → W1.ow (.ob n) = some a) (hp : H1 p = H p) (h : ContX K W H p d) : ContX K W1 H1 p d := by
  cases d with
  | lst l =>
    obtain ⟨vs, e, r⟩ := h
    exact ⟨vs, by rw [hp]; exact e, RepL.mono hF ho l vs r⟩
  | dk l =>
    obtain ⟨vs, e, r⟩ := h
    exact ⟨vs, by rw [hp]; exact e, RepK.mono hF ho l vs r⟩
  | dt l =>
    obtain ⟨vs, e, r⟩ := h
    exact ⟨vs, by rw [hp]; exact e, RepT.mono hF ho l vs r⟩
  | _ => exact False.elim h
theorem rd_eq {H H1 : Hp} {p : Addr} {u : HO} (hp : H1 p = H p) (h : Rd H p u) : Rd H1 p u := by
  rcases h with h | ⟨o, h⟩
  · exact .inl (by rw [hp]; exact h)
  · exact .inr ⟨o, by rw [hp]; exact h⟩
theorem ContR.mono (hF : ∀ a u, W.F a = some u → W1.F a = some u) (ho : ∀ n a, W.ow (.ob n) = some a → W1.ow (.ob n) = some a) (hp : H1 p = H p) (h : ContR K W H p d) : ContR K W1 H1 p d := by
  cases d with
  | lst l =>
    obtain ⟨vs, e, r⟩ := h
    exact ⟨vs, by rw [hp]; exact e, RepL.mono hF ho l vs r⟩
  | dk l =>
    obtain ⟨vs, e, r⟩ := h
    exact ⟨vs, rd_eq hp e, RepK.mono hF ho l vs r⟩
  | dt l =>
    obtain ⟨vs, e, r⟩ := h
    exact ⟨vs, rd_eq hp e, RepT.mono hF ho l vs r⟩
  | _ => exact False.elim h
theorem ContX.r (h : ContX K W H p d) : ContR K W H p d := by
  cases d with
  | lst l => exact h
  | dk l =>
    obtain ⟨vs, e, r⟩ := h
    exact ⟨vs, .inl e, r⟩
  | dt l =>
    obtain ⟨vs, e, r⟩ := h
    exact ⟨vs, .inl e, r⟩
  | _ => exact False.elim h
theorem ContX.nofz {o : Obj} {u : HO} (h : ContX K W H p d) : H p ≠ some (.frz o u) := by
  cases d with
  | lst l => obtain ⟨vs, e, _⟩ := h; rw [e]; simp
  | dk l => obtain ⟨vs, e, _⟩ := h; rw [e]; simp
  | dt l => obtain ⟨vs, e, _⟩ := h; rw [e]; simp
  | _ => exact h.elim
theorem ContR.some (h : ContR K W H p d) : H p ≠ none := by
  cases d with
  | lst l =>
    obtain ⟨vs, e, r⟩ := h
    rw [e] <;> simp
  | dk l =>
    obtain ⟨vs, e, r⟩ := h
    rcases e with e | ⟨o, e⟩ <;> rw [e] <;> simp
  | dt l =>
    obtain ⟨vs, e, r⟩ := h
    rcases e with e | ⟨o, e⟩ <;> rw [e] <;> simp
  | _ => exact False.elim h
/-- what stands is kept by the step -/
theorem EStep.at_ (a : EStep W H W1 H1) (hn : H p ≠ none) (h : ∀ o, o.isOb = true → W.ow o ≠ some p) : H1 p = H p := by
  cases e : H p with
  | none => exact absurd e hn
  | some u => exact a.keep p u e h
theorem EStep.own_ (a : EStep W H W1 H1) (hn : H p ≠ none) {o : Ow} (h : W.ow o ≠ some p) : W1.ow o ≠ some p := fun z => by
  rcases a.own o p z with q | q
  · exact h q
  · exact hn q
theorem RvOk.step {rv : Rv} (a : EStep W H W1 H1) (h : RvOk K W H0 H rv v) : RvOk K W1 H0 H1 rv v := by
  cases rv with
  | val d => exact a.rep h
  | new d =>
    obtain ⟨p, e, c, n, o, z⟩ := h
    have hp := c.r.some
    refine ⟨p, e, c.mono a.F a.ob (a.at_ hp fun o' _ => o o'), Classical.byContradiction fun q => ?_, fun o' => a.own_ hp (o o'), z⟩
    rcases a.Fn p q with q | q
    · exact q n
    · exact hp q
  | bor d =>
    obtain ⟨p, e, c, n⟩ := h
    exact ⟨p, e, c.mono a.F a.ob (a.at_ c.some n), fun o ho => a.own_ c.some (n o ho)⟩
  | lk d =>
    obtain ⟨p, e, c, n⟩ := h
    exact ⟨p, e, c.mono a.F a.ob (a.at_ c.some fun o _ => n o), fun o => a.own_ c.some (n o)⟩
  | fld n f =>
    obtain ⟨p, e, h⟩ := h
    exact ⟨p, e, a.fl _ _ _ h⟩
theorem RvOk.weak {rv : Rv} (hl : ∀ a, H1 a ≠ none → H0 a ≠ none) (h : RvOk K W H0 H rv v) : RvOk K W H1 H rv v := by
  cases rv with
  | val d => exact h
  | new d =>
    obtain ⟨p, e, c, n, o, z⟩ := h
    exact ⟨p, e, c, n, o, Classical.byContradiction fun q => hl p q z⟩
  | bor d => exact h
  | lk d => exact h
  | fld n f => exact h
/-- the relation behind an expression's step -/
theorem Rel.estep (r : Rel K E0 np W ρ S σ H) (a : EStep W H W1 H1) (w : WOk W1 H1) (o : ObsOk K W1 H1 S') : Rel K E0 np W1 ρ S' σ H1 where
  wok := w
  obs := o
  slots i s e := by
    have q := r.slots i s e
    cases s with
    | non => exact True.intro
    | val d =>
      obtain ⟨v, h1, h2⟩ := q
      exact ⟨v, h1, a.rep h2⟩
    | own d =>
      obtain ⟨p, h1, h2, h3⟩ := q
      refine ⟨p, h1, (a.sl i).trans h2, h3.mono a.F a.ob (a.at_ (r.wok.alv _ _ h2) fun o ho z => ?_)⟩
      have := r.wok.inj _ _ _ h2 z
      subst this
      cases ho
    | lck d =>
      obtain ⟨p, h1, h2, h3⟩ := q
      exact ⟨p, h1, fun o => a.own_ h3.some (h2 o), h3.mono a.F a.ob (a.at_ h3.some fun o _ => h2 o)⟩
  len := r.len
  nsl i h := (a.sl i).trans (r.nsl i h)
  frs i p h := r.frs i p ((a.sl i).symm.trans h)
  ent x h := a.liv x (r.ent x h)
end
end Wz

set_option Elab.async false
set_option linter.all false
set_option maxRecDepth 100000
set_option maxHeartbeats 4000000
namespace Wz
open PySem L2

/-! ### what is needed behind a part -/
section
variable (K : PySem.W.Frag) (WX : L2.WX)
/-- R: how the answer of the data level stands for the machine's: world, heap ahead, heap behind -/
def Need {α β : Type} (R : Wd → Hp → Hp → α → β → Prop) (W : Wd) (H : Hp) (σ : L2.St) (Q : β → Hp → Prop) : Out α → Prop
  | .ok a S' => ∀ b W' H', EStep W H W' H' → WOk W' H' → ObsOk K W' H' S' → R W' H H' a b → Q b H'
  | .exc c a S' => ∀ cls dd W' H', EStep W H W' H' → WOk W' H' → ObsOk K W' H' S' → ExcOk K W' H' c a cls dd → WX cls dd σ H'
  | .stuck => False
end
abbrev EV (α : Type) := List Slot → List Cell → Out α
def Snd (K : PySem.W.Frag) (WX : L2.WX) {α β : Type} (R : Wd → Hp → Hp → α → β → Prop) (t : L2.St → Hp → (β → Hp → Prop) → Prop) (ev : EV α) : Prop :=
  ∀ (E0 : Hp) (np : Nat) (W : Wd) (ρ : List Slot) (S : List Cell) (σ : L2.St) (H : Hp) (Q : β → Hp → Prop), Rel K E0 np W ρ S σ H → Need K WX R W H σ Q (ev ρ S) → t σ H Q
abbrev RB : Wd → Hp → Hp → Bool → Bool → Prop := fun _ _ _ a b => a = b
abbrev RO : Wd → Hp → Hp → Option Int → Option Int → Prop := fun _ _ _ a b => a = b
def RL (K : PySem.W.Frag) : Wd → Hp → Hp → List Rv → List V → Prop
  | _, _, _, [], vs => vs = []
  | W, H0, H, r :: rs, vs => ∃ v w, vs = v :: w ∧ RvOk K W H0 H r v ∧ RL K W H0 H rs w
class Lax {α β : Type} (R : Wd → Hp → Hp → α → β → Prop) : Prop where
  lax : ∀ {W H0 H1 H a b}, (∀ x, H0 x ≠ none → H1 x ≠ none) → R W H1 H a b → R W H0 H a b
instance : Lax RB := ⟨fun _ h => h⟩
instance : Lax RO := ⟨fun _ h => h⟩
instance (K : PySem.W.Frag) : Lax (RvOk K) := ⟨fun l h => h.weak l⟩
theorem RL.lax {K : PySem.W.Frag} {W : Wd} {H0 H1 H : Hp} (l : ∀ x, H0 x ≠ none → H1 x ≠ none) : ∀ {rs : List Rv} {vs : List V}, RL K W H1 H rs vs → RL K W H0 H rs vs
  | [], _, h => h
  | r :: rs, vs, h => by
    obtain ⟨v, w, e, h1, h2⟩ := h
    exact ⟨v, w, e, h1.weak l, RL.lax l h2⟩
instance (K : PySem.W.Frag) : Lax (RL K) := ⟨fun l h => RL.lax l h⟩
section
variable {K : PySem.W.Frag} {WX : L2.WX} {W W1 W2 : Wd} {H H0 H1 H2 : Hp} {σ : L2.St} {ρ : List Slot} {S S' : List Cell} {E0 : Hp} {np : Nat}
theorem Need.step {α β : Type} {R : Wd → Hp → Hp → α → β → Prop} [Lax R] {Q : β → Hp → Prop} {o : Out α} (st : EStep W H W1 H1) (n : Need K WX R W H σ Q o) : Need K WX R W1 H1 σ Q o := by
  cases o with
  | ok a S => exact fun b W' H' s w o r => n b W' H' (st.trans s) w o (Lax.lax st.liv r)
  | exc c a S => exact fun cls dd W' H' s w o r => n cls dd W' H' (st.trans s) w o r
  | stuck => exact n
theorem Need.mono {α β : Type} {R : Wd → Hp → Hp → α → β → Prop} {Q Q' : β → Hp → Prop} {o : Out α} (h : ∀ b H', Q b H' → Q' b H') (n : Need K WX R W H σ Q o) : Need K WX R W H σ Q' o := by
  cases o with
  | ok a S => exact fun b W' H' s w o r => h _ _ (n b W' H' s w o r)
  | exc c a S => exact n
  | stuck => exact n
/-- one part ahead of another -/
theorem Need.bind {α β γ δ : Type} {R : Wd → Hp → Hp → α → β → Prop} {R' : Wd → Hp → Hp → γ → δ → Prop} [Lax R'] {x : Out α} {f : α → List Cell → Out γ} {Q : β → Hp → Prop} {Q' : δ → Hp → Prop}
    (n : Need K WX R' W H σ Q' (x.bind f)) (k : ∀ a S', x = .ok a S' → ∀ b W1 H1, EStep W H W1 H1 → WOk W1 H1 → ObsOk K W1 H1 S' → R W1 H H1 a b → Need K WX R' W1 H1 σ Q' (f a S') → Q b H1) : Need K WX R W H σ Q x := by
  cases x with
  | ok a S => exact fun b W' H' s w o r => k a S rfl b W' H' s w o r (Need.step s n)
  | exc c a S => exact n
  | stuck => exact n
theorem Need.ret {α β : Type} {R : Wd → Hp → Hp → α → β → Prop} {Q : β → Hp → Prop} {a : α} {b : β} (n : Need K WX R W H σ Q (.ok a S)) (w : WOk W H) (o : ObsOk K W H S) (r : R W H H a b) : Q b H := n b W H .refl w o r

/-! ### the store's reading -/
def look (S : List Cell) : D → D
  | .ref n => match S[n]? with
    | some (.box d) => d
    | some (.lbx d) => d
    | _ => .ref n
  | d => d
@[simp] theorem look_int (i : Int) : look S (.int i) = .int i := rfl
@[simp] theorem look_bl (i : Bool) : look S (.bl i) = .bl i := rfl
@[simp] theorem look_non : look S .non = .non := rfl
@[simp] theorem look_str (i : Str) : look S (.str i) = .str i := rfl
@[simp] theorem look_tup (i : List D) : look S (.tup i) = .tup i := rfl
@[simp] theorem look_lst (i : List D) : look S (.lst i) = .lst i := rfl
@[simp] theorem look_scr (i : List Int) : look S (.scr i) = .scr i := rfl
@[simp] theorem look_wt (i : List D) : look S (.wt i) = .wt i := rfl
@[simp] theorem look_dk (i : List (Key × D)) : look S (.dk i) = .dk i := rfl
@[simp] theorem look_dt (i : List (List Key × D)) : look S (.dt i) = .dt i := rfl
theorem FldsOk.look {n : Nat} {f : Str} {x : Fld} : ∀ {fs : List (Str × Fld)} {vs : List (Str × V)}, FldsOk K W H n fs vs → fs.lookup f = some x → ∃ v, vs.lookup f = some v ∧ FldOk K W H n f x v
  | [], _, _, e => by cases e
  | (g, y) :: r, vs, h, e => by
    obtain ⟨v, w, e1, h1, h2⟩ := h
    rw [e1]
    by_cases q : f = g
    · subst q
      rw [List.lookup_cons_self] at e
      cases e
      exact ⟨v, List.lookup_cons_self, h1⟩
    · have q' : (f == g) = false := by simp [q]
      simp only [List.lookup_cons, q'] at e
      obtain ⟨v', h3, h4⟩ := FldsOk.look h2 e
      exact ⟨v', by simp only [List.lookup_cons, q']; exact h3, h4⟩
theorem FldsOk.none {n : Nat} {f : Str} : ∀ {fs : List (Str × Fld)} {vs : List (Str × V)}, FldsOk K W H n fs vs → fs.lookup f = none → vs.lookup f = none
  | [], vs, h, e => by
    have h' : vs = [] := h
    rw [h'] <;> rfl
  | (g, y) :: r, vs, h, e => by
    obtain ⟨v, w, e1, h1, h2⟩ := h
    rw [e1]
    by_cases q : f = g
    · subst q
      rw [List.lookup_cons_self] at e
      cases e
    · have q' : (f == g) = false := by simp [q]
      simp only [List.lookup_cons, q'] at e ⊢
      exact FldsOk.none h2 e
/-- the container in a field -/
def fget (S : List Cell) (n : Nat) (f : Str) : Option D := match S[n]? with
  | some (.ins _ fs) => match fs.lookup f with
    | some (.own d) => some d
    | some (.lck d) => some d
    | _ => none
  | _ => none
def Rv.read (S : List Cell) : Rv → Option D
  | .val d => some (look S d)
  | .new d => some d
  | .bor d => some d
  | .lk d => some d
  | .fld n f => fget S n f
@[simp] theorem Rv.read_lk (d : D) : (Rv.lk d).read S = some d := rfl
@[simp] theorem Rv.read_val (d : D) : (Rv.val d).read S = some (look S d) := rfl
@[simp] theorem Rv.read_new (d : D) : (Rv.new d).read S = some d := rfl
@[simp] theorem Rv.read_bor (d : D) : (Rv.bor d).read S = some d := rfl
@[simp] theorem Rv.read_fld (n : Nat) (f : Str) : (Rv.fld n f).read S = fget S n f := rfl
theorem look_rdg {d : D} {v : V} (o : ObsOk K W H S) (h : RepW K W d v) : Rdg K W H (look S d) v := by
  cases d with
  | ref n =>
    show Rdg K W H (match S[n]? with | some (.box d) => d | some (.lbx d) => d | _ => .ref n) v
    cases e : S[n]? with
    | none => exact .inl h
    | some c =>
      cases c with
      | ins c fs => exact .inl h
      | box d =>
        obtain ⟨p, h1, h2⟩ := o.at_ n _ e
        obtain ⟨a, e1, h3⟩ := h
        have e2 : p = a := Option.some.inj (h1.symm.trans h3)
        subst e2
        exact .inr ⟨p, e1, h2.r⟩
      | lbx d =>
        obtain ⟨p, h1, h2⟩ := o.at_ n _ e
        obtain ⟨a, e1, h3⟩ := h
        have e2 : p = a := Option.some.inj (h1.symm.trans h3)
        subst e2
        exact .inr ⟨p, e1, h2⟩
  | _ => exact .inl h
theorem RvOk.read {rv : Rv} {d : D} {v : V} (o : ObsOk K W H S) (h : RvOk K W H0 H rv v) (e : rv.read S = some d) : Rdg K W H d v := by
  cases rv with
  | val x =>
    cases e
    exact look_rdg o h
  | new x =>
    cases e
    obtain ⟨p, e, c, n, o, _⟩ := h
    exact .inr ⟨p, e, c.r⟩
  | bor x =>
    cases e
    obtain ⟨p, e, c, n⟩ := h
    exact .inr ⟨p, e, c⟩
  | lk x =>
    cases e
    obtain ⟨p, e, c, n⟩ := h
    exact .inr ⟨p, e, c⟩
  | fld n f =>
    obtain ⟨p, e1, h1⟩ := h
    have e' : fget S n f = some d := e
    unfold fget at e'
    split at e'
    · rename_i c fs q
      obtain ⟨a, dx, vs, k1, k2, k3⟩ := o.at_ n _ q
      split at e'
      · rename_i x q2
        cases e'
        obtain ⟨v', k4, p', k5, k6, k7⟩ := k3.look q2
        have e2 : p = p' := Option.some.inj (h1.symm.trans k6)
        subst e2
        exact .inr ⟨p, e1, k7.r⟩
      · rename_i x q2
        cases e'
        obtain ⟨v', k4, p', k5, k6, k7⟩ := k3.look q2
        have e2 : p = p' := Option.some.inj (h1.symm.trans k6)
        subst e2
        exact .inr ⟨p, e1, k7⟩
      · cases e'
    · cases e'

/-! ### readings of data -/
theorem Rdg.int {i : Int} {v : V} (h : Rdg K W H (.int i) v) : v = .int i := by
  rcases h with h | ⟨p, e, z⟩
  · exact h
  · exact z.elim
theorem Rdg.bl {i : Bool} {v : V} (h : Rdg K W H (.bl i) v) : v = .bl i := by
  rcases h with h | ⟨p, e, z⟩
  · exact h
  · exact z.elim
theorem Rdg.str {i : Str} {v : V} (h : Rdg K W H (.str i) v) : v = .str i := by
  rcases h with h | ⟨p, e, z⟩
  · exact h
  · exact z.elim
theorem Rdg.non {v : V} (h : Rdg K W H .non v) : v = .non := by
  rcases h with h | ⟨p, e, z⟩
  · exact h
  · exact z.elim
theorem Rdg.tup {l : List D} {v : V} (w : WOk W H) (h : Rdg K W H (.tup l) v) : ∃ p vs, v = .ref p ∧ H p = some (.tup vs) ∧ W.F p = some (.tup vs) ∧ RepLW K W l vs := by
  rcases h with h | ⟨p, e, z⟩
  · obtain ⟨a, vs, e, h1, h2⟩ := h
    rcases w.sub a _ h1 with q | ⟨q, _⟩
    · exact ⟨a, vs, e, q, h1, h2⟩
    · exact q.elim
  · exact z.elim
theorem Rdg.lst {l : List D} {v : V} (w : WOk W H) (h : Rdg K W H (.lst l) v) : ∃ p vs, v = .ref p ∧ H p = some (.lst vs) ∧ RepLW K W l vs := by
  rcases h with h | ⟨p, e, vs, h1, h2⟩
  · obtain ⟨a, vs, e, h1, h2⟩ := h
    rcases w.sub a _ h1 with q | ⟨q, _⟩
    · exact ⟨a, vs, e, q, h2⟩
    · exact q.elim
  · exact ⟨p, vs, e, h1, h2⟩
theorem WOk.sql (w : WOk W H) {a : Addr} {xs : List V} (h : SqL K W.F a xs) : SqL K H a xs := by
  rcases h with (h | ⟨o, h⟩) | h
  · rcases w.sub a _ h with q | ⟨q, _⟩
    · exact .inl (.inl q)
    · exact q.elim
  · rcases w.sub a _ h with q | ⟨q, _⟩
    · exact .inl (.inr ⟨o, q⟩)
    · exact q.elim
  · exact .inr h
theorem Rdg.scr {l : List Int} {v : V} (w : WOk W H) (h : Rdg K W H (.scr l) v) : ∃ p, v = .ref p ∧ SqL K H p (l.map .int) := by
  rcases h with h | ⟨p, e, z⟩
  · obtain ⟨a, e, h1⟩ := h
    exact ⟨a, e, w.sql h1⟩
  · exact z.elim
theorem Rdg.wt {l : List D} {v : V} (h : Rdg K W H (.wt l) v) : ∃ p vs, v = .ref p ∧ SqT K H p vs ∧ RepLW K W l vs := by
  rcases h with h | ⟨p, e, z⟩
  · obtain ⟨a, vs, e, h1, h2⟩ := h
    exact ⟨a, vs, e, h1 H, h2⟩
  · exact z.elim
theorem Rdg.dk {l : List (Key × D)} {v : V} (w : WOk W H) (h : Rdg K W H (.dk l) v) : ∃ p vs, v = .ref p ∧ Rd H p (.dK vs) ∧ PK K W.F W.al l vs := by
  rcases h with h | ⟨p, e, vs, h1, h2⟩
  · obtain ⟨a, vs, e, h1, h2⟩ := h
    rcases w.sub a _ h1 with q | ⟨_, o, q⟩
    · exact ⟨a, vs, e, .inl q, h2.pk⟩
    · exact ⟨a, vs, e, .inr ⟨o, q⟩, h2.pk⟩
  · exact ⟨p, vs, e, h1, h2.pk⟩
theorem Rdg.dt {l : List (List Key × D)} {v : V} (w : WOk W H) (h : Rdg K W H (.dt l) v) : ∃ p vs, v = .ref p ∧ Rd H p (.dT vs) ∧ PK K W.F W.al l vs := by
  rcases h with h | ⟨p, e, vs, h1, h2⟩
  · obtain ⟨a, vs, e, h1, h2⟩ := h
    rcases w.sub a _ h1 with q | ⟨_, o, q⟩
    · exact ⟨a, vs, e, .inl q, h2.pk⟩
    · exact ⟨a, vs, e, .inr ⟨o, q⟩, h2.pk⟩
  · exact ⟨p, vs, e, h1, h2.pk⟩
/-- sequences: lists, the script, tuples -/
def asL : D → Option (List D)
  | .lst l => some l
  | .scr l => some (l.map .int)
  | _ => none
def asT : D → Option (List D)
  | .tup l => some l
  | .wt l => some l
  | _ => none
def asS (d : D) : Option (List D) := (asL d).or (asT d)
@[simp] theorem asL_lst (l : List D) : asL (.lst l) = some l := rfl
@[simp] theorem asL_scr (l : List Int) : asL (.scr l) = some (l.map .int) := rfl
@[simp] theorem asT_tup (l : List D) : asT (.tup l) = some l := rfl
@[simp] theorem asT_wt (l : List D) : asT (.wt l) = some l := rfl
theorem Rdg.asL {d : D} {l : List D} {v : V} (w : WOk W H) (h : Rdg K W H d v) (e : asL d = some l) : ∃ p vs, v = .ref p ∧ SqL K H p vs ∧ RepLW K W l vs := by
  cases d with
  | lst m =>
    cases e
    obtain ⟨p, vs, e, h1, h2⟩ := h.lst w
    exact ⟨p, vs, e, .of h1, h2⟩
  | scr m =>
    cases e
    obtain ⟨p, e, h1⟩ := h.scr w
    exact ⟨p, _, e, h1, RepL.of_ints m⟩
  | _ => cases e
theorem Rdg.asT {d : D} {l : List D} {v : V} (w : WOk W H) (h : Rdg K W H d v) (e : asT d = some l) : ∃ p vs, v = .ref p ∧ SqT K H p vs ∧ RepLW K W l vs := by
  cases d with
  | tup m =>
    cases e
    obtain ⟨p, vs, e, h1, _, h2⟩ := h.tup w
    exact ⟨p, vs, e, .of h1, h2⟩
  | wt m =>
    cases e
    exact h.wt
  | _ => cases e
theorem Rdg.asS {d : D} {l : List D} {v : V} (w : WOk W H) (h : Rdg K W H d v) (e : asS d = some l) : ∃ p vs, v = .ref p ∧ (SqL K H p vs ∨ SqT K H p vs) ∧ RepLW K W l vs := by
  unfold Wz.asS at e
  cases q : Wz.asL d with
  | some m =>
    rw [q] at e
    cases e
    obtain ⟨p, vs, h1, h2, h3⟩ := h.asL w q
    exact ⟨p, vs, h1, .inl h2, h3⟩
  | none =>
    rw [q] at e
    obtain ⟨p, vs, h1, h2, h3⟩ := h.asT w e
    exact ⟨p, vs, h1, .inr h2, h3⟩

/-! ### new objects -/
theorem WOk.fnone (w : WOk W H) {p : Addr} (h : H p = none) : W.F p = none := by
  cases e : W.F p with
  | none => rfl
  | some u =>
    rcases w.sub p u e with q | ⟨_, o, q⟩ <;> rw [h] at q <;> cases q
theorem WOk.onone (w : WOk W H) {p : Addr} (h : H p = none) (o : Ow) : W.ow o ≠ some p := fun z => w.alv o p z h
theorem ObsOk.carry {W' : Wd} {H' : Hp} (o : ObsOk K W H S) (w : WOk W H) (hF : ∀ a u, W.F a = some u → W'.F a = some u) (ho : ∀ x, W'.ow x = W.ow x) (hk : ∀ a, H a ≠ none → H' a = H a) : ObsOk K W' H' S where
  at_ n c e := by
    have ho' : ∀ n a, W.ow (.ob n) = some a → W'.ow (.ob n) = some a := fun n a h => (ho _).trans h
    have q := o.at_ n c e
    cases c with
    | box d =>
      obtain ⟨p, h1, h2⟩ := q
      exact ⟨p, ho' _ _ h1, h2.mono hF ho' (hk _ (w.alv _ _ h1))⟩
    | lbx d =>
      obtain ⟨p, h1, h2⟩ := q
      exact ⟨p, ho' _ _ h1, h2.mono hF ho' (hk _ (w.alv _ _ h1))⟩
    | ins c fs =>
      obtain ⟨a, dx, vs, h1, h2, h3⟩ := q
      refine ⟨a, dx, vs, ho' _ _ h1, (hk _ (w.alv _ _ h1)).trans h2, ?_⟩
      clear h2 e
      induction fs generalizing vs with
      | nil => exact h3
      | cons x r ih =>
        obtain ⟨f, x⟩ := x
        obtain ⟨v, w', e1, e2, e3⟩ := h3
        refine ⟨v, w', e1, ?_, ih _ e3⟩
        cases x with
        | val d => exact Rep.mono hF ho' d v e2
        | own d =>
          obtain ⟨p, k1, k2, k3⟩ := e2
          exact ⟨p, k1, (ho _).trans k2, k3.mono hF ho' (hk _ (w.alv _ _ k2))⟩
        | lck d =>
          obtain ⟨p, k1, k2, k3⟩ := e2
          exact ⟨p, k1, (ho _).trans k2, k3.mono hF ho' (hk _ (w.alv _ _ k2))⟩
  nob n h := ⟨(ho _).trans (o.nob n h).1, fun f => (ho _).trans ((o.nob n h).2 f)⟩
  nof n f h := (ho _).trans (o.nof n f h)
/-- a new frozen object -/
def Wd.frz (W : Wd) (p : Addr) (o : HO) : Wd := ⟨upd W.F p o, W.ow⟩
theorem upd_keep {p : Addr} {o : HO} (hp : H p = none) {a : Addr} (h : H a ≠ none) : upd H p o a = H a := upd_ne fun e => h (by rw [e]; exact hp)
theorem frz_F {p : Addr} {o : HO} (w : WOk W H) (hp : H p = none) : ∀ a u, W.F a = some u → (W.frz p o).F a = some u := fun a u h => by
  have : a ≠ p := fun e => by rw [e, w.fnone hp] at h; cases h
  exact (upd_ne this).trans h
theorem frz_w {p : Addr} {o : HO} (w : WOk W H) (hp : H p = none) : WOk (W.frz p o) (upd H p o) where
  sub a u h := by
    by_cases e : a = p
    · subst e
      have h' : upd W.F a o a = some u := h
      rw [upd_same] at h'
      cases h'
      exact .inl upd_same
    · have h' : upd W.F p o a = some u := h
      rw [upd_ne e] at h'
      rw [upd_ne e]
      exact w.sub a u h'
  inj := w.inj
  unF x a h := by
    have : a ≠ p := fun e => w.onone hp x (by rw [← e]; exact h)
    exact (upd_ne this).trans (w.unF x a h)
  alv x a h := by
    by_cases e : a = p
    · rw [e, upd_same]
      simp
    · rw [upd_ne e]
      exact w.alv x a h
  tupF a vs h := by
    by_cases e : a = p
    · subst e
      rw [upd_same] at h
      exact upd_same.trans h
    · rw [upd_ne e] at h
      exact (upd_ne e).trans (w.tupF a vs h)
theorem frz_st {p : Addr} {o : HO} (w : WOk W H) (hp : H p = none) : EStep W H (W.frz p o) (upd H p o) where
  keep a u h _ := (upd_keep hp (by rw [h]; simp)).trans h
  F := frz_F w hp
  Fn a h := by
    by_cases e : a = p
    · exact .inr (by rw [e]; exact hp)
    · have h' : upd W.F p o a ≠ none := h
      rw [upd_ne e] at h'
      exact .inl h'
  sl _ := rfl
  ob _ _ h := h
  fl _ _ _ h := h
  own _ _ h := .inl h
  liv a h := by
    rw [upd_keep hp h]
    exact h
  fz a o u h := (upd_keep hp (by rw [h]; simp)).trans h
theorem frz_o {p : Addr} {o : HO} (w : WOk W H) (ob : ObsOk K W H S) (hp : H p = none) : ObsOk K (W.frz p o) (upd H p o) S := ob.carry w (frz_F w hp) (fun _ => rfl) fun a h => upd_keep hp h
/-- a new object that nobody knows -/
theorem new_w {p : Addr} {o : HO} (w : WOk W H) (hp : H p = none) (ho : ∀ vs, o ≠ .tup vs) : WOk W (upd H p o) where
  sub a u h := by
    have : a ≠ p := fun e => by rw [e, w.fnone hp] at h; cases h
    rw [upd_ne this]
    exact w.sub a u h
  inj := w.inj
  unF := w.unF
  alv x a h := by
    by_cases e : a = p
    · rw [e, upd_same]
      simp
    · rw [upd_ne e]
      exact w.alv x a h
  tupF a vs h := by
    by_cases e : a = p
    · subst e
      rw [upd_same] at h
      exact absurd (Option.some.inj h) (ho vs)
    · rw [upd_ne e] at h
      exact w.tupF a vs h
theorem new_st {p : Addr} {o : HO} (hp : H p = none) : EStep W H W (upd H p o) where
  keep a u h _ := (upd_keep hp (by rw [h]; simp)).trans h
  F _ _ h := h
  Fn _ h := .inl h
  sl _ := rfl
  ob _ _ h := h
  fl _ _ _ h := h
  own _ _ h := .inl h
  liv a h := by
    rw [upd_keep hp h]
    exact h
  fz a o u h := (upd_keep hp (by rw [h]; simp)).trans h
theorem new_o {p : Addr} {o : HO} (w : WOk W H) (ob : ObsOk K W H S) (hp : H p = none) : ObsOk K W (upd H p o) S := ob.carry w (fun _ _ h => h) (fun _ => rfl) fun a h => upd_keep hp h

/-- what follows an operation that may make new things, but changes nothing -/
def Ret (K : PySem.W.Frag) (W : Wd) (H : Hp) (S : List Cell) (rv : Rv) (Q : VK) : Prop :=
  ∀ v W' H', EStep W H W' H' → WOk W' H' → ObsOk K W' H' S → RvOk K W' H H' rv v → Q v H'
theorem Ret.val {Q : VK} {d : D} {v : V} (r : Ret K W H S (.val d) Q) (w : WOk W H) (o : ObsOk K W H S) (h : RepW K W d v) : Q v H := r v W H .refl w o h
theorem Ret.lst {Q : VK} {l : List D} {vs : List V} {p : Addr} (r : Ret K W H S (.new (.lst l)) Q) (w : WOk W H) (o : ObsOk K W H S) (h : RepLW K W l vs) (hp : H p = none) : Q (.ref p) (upd H p (.lst vs)) :=
  r _ W _ (new_st hp) (new_w w hp fun _ z => by cases z) (new_o w o hp) ⟨p, rfl, ⟨vs, upd_same, h⟩, w.fnone hp, w.onone hp, hp⟩
theorem Ret.tup {Q : VK} {l : List D} {vs : List V} {p : Addr} (r : Ret K W H S (.val (.tup l)) Q) (w : WOk W H) (o : ObsOk K W H S) (h : RepLW K W l vs) (hp : H p = none) : Q (.ref p) (upd H p (.tup vs)) :=
  r _ (W.frz p (.tup vs)) _ (frz_st w hp) (frz_w w hp) (frz_o w o hp) ⟨p, vs, rfl, upd_same, RepL.mono (frz_F w hp) (fun _ _ h => h) l vs h⟩
theorem Ret.dk {Q : VK} {l : List (Key × D)} {vs : List (Key × V)} {p : Addr} (r : Ret K W H S (.new (.dk l)) Q) (w : WOk W H) (o : ObsOk K W H S) (h : PK K W.F W.al l vs) (hp : H p = none) : Q (.ref p) (upd H p (.dK vs)) :=
  r _ W _ (new_st hp) (new_w w hp fun _ z => by cases z) (new_o w o hp) ⟨p, rfl, ⟨vs, upd_same, h.repK⟩, w.fnone hp, w.onone hp, hp⟩
theorem Ret.dt {Q : VK} {l : List (List Key × D)} {vs : List (List Key × V)} {p : Addr} (r : Ret K W H S (.new (.dt l)) Q) (w : WOk W H) (o : ObsOk K W H S) (h : PK K W.F W.al l vs) (hp : H p = none) : Q (.ref p) (upd H p (.dT vs)) :=
  r _ W _ (new_st hp) (new_w w hp fun _ z => by cases z) (new_o w o hp) ⟨p, rfl, ⟨vs, upd_same, h.repT⟩, w.fnone hp, w.onone hp, hp⟩
end
end Wz

set_option Elab.async false
set_option linter.all false
set_option maxRecDepth 100000
set_option maxHeartbeats 4000000
namespace Wz
open PySem L2

section
variable {K : PySem.W.Frag} {WX : L2.WX} {W W1 W2 : Wd} {H H0 H1 H2 : Hp} {σ : L2.St} {ρ : List Slot} {S S' : List Cell} {E0 : Hp} {np : Nat}

/-! ### combinators -/
def lift (o : Option Rv) (S : List Cell) : Out Rv := match o with
  | some r => .ok r S
  | none => .stuck
@[simp] theorem lift_some (r : Rv) : lift (some r) S = .ok r S := rfl
@[simp] theorem lift_none : lift none S = .stuck := rfl
def xSlot (i : Nat) : EV Rv := fun ρ S => match ρ[i]? with
  | some (.val d) => .ok (.val d) S
  | some (.own d) => .ok (.bor d) S
  | some (.lck d) => .ok (.lk d) S
  | _ => .stuck
def xCon (d : D) : EV Rv := fun _ S => .ok (.val d) S
/-- two operands, read -/
def ap2 (g : D → D → Option Rv) (ra rb : Rv) (S : List Cell) : Out Rv := match ra.read S with
  | some x => match rb.read S with
    | some y => lift (g x y) S
    | none => .stuck
  | none => .stuck
def ap1 (g : D → Option Rv) (ra : Rv) (S : List Cell) : Out Rv := match ra.read S with
  | some x => lift (g x) S
  | none => .stuck
def xOp2 (g : D → D → Option Rv) (ea eb : EV Rv) : EV Rv := fun ρ S => (ea ρ S).bind fun ra S1 => (eb ρ S1).bind fun rb S2 => ap2 g ra rb S2
def xOp1 (g : D → Option Rv) (ea : EV Rv) : EV Rv := fun ρ S => (ea ρ S).bind fun ra S1 => ap1 g ra S1
@[simp] theorem ap2_val (g : D → D → Option Rv) (x y : D) : ap2 g (.val x) (.val y) S = lift (g (look S x) (look S y)) S := rfl
@[simp] theorem ap1_val (g : D → Option Rv) (x : D) : ap1 g (.val x) S = lift (g (look S x)) S := rfl
def xNil : EV (List Rv) := fun _ S => .ok [] S
def xCons (e : EV Rv) (es : EV (List Rv)) : EV (List Rv) := fun ρ S => (e ρ S).bind fun r S1 => (es ρ S1).bind fun rs S2 => .ok (r :: rs) S2
def reads (S : List Cell) : List Rv → Option (List D)
  | [] => some []
  | r :: rs => match r.read S, reads S rs with
    | some d, some ds => some (d :: ds)
    | _, _ => none
def apN (g : List D → Option Rv) (rs : List Rv) (S : List Cell) : Out Rv := match reads S rs with
  | some ds => lift (g ds) S
  | none => .stuck
def xOpN (g : List D → Option Rv) (es : EV (List Rv)) : EV Rv := fun ρ S => (es ρ S).bind fun rs S1 => apN g rs S1

def r2D (K : PySem.W.Frag) (g : D → D → Option Rv) : R2 := fun x y H Q => ∃ W S dx dy rv, WOk W H ∧ ObsOk K W H S ∧ Rdg K W H dx x ∧ Rdg K W H dy y ∧ g dx dy = some rv ∧ Ret K W H S rv Q
def r1D (K : PySem.W.Frag) (g : D → Option Rv) : V → Hp → VK → Prop := fun x H Q => ∃ W S dx rv, WOk W H ∧ ObsOk K W H S ∧ Rdg K W H dx x ∧ g dx = some rv ∧ Ret K W H S rv Q
def RdgL (K : PySem.W.Frag) (W : Wd) (H : Hp) : List D → List V → Prop
  | [], vs => vs = []
  | d :: ds, vs => ∃ v w, vs = v :: w ∧ Rdg K W H d v ∧ RdgL K W H ds w
def rND (K : PySem.W.Frag) (g : List D → Option Rv) : List V → Hp → VK → Prop := fun xs H Q => ∃ W S ds rv, WOk W H ∧ ObsOk K W H S ∧ RdgL K W H ds xs ∧ g ds = some rv ∧ Ret K W H S rv Q

theorem snd_slot {i : Nat} : Snd K WX (RvOk K) (tVar i) (xSlot i) := by
  intro E0 np W ρ S σ H Q r n
  unfold xSlot at n
  split at n
  · rename_i d e
    obtain ⟨v, h1, h2⟩ := r.slots i _ e
    exact ⟨v, h1, n.ret r.wok r.obs h2⟩
  · rename_i d e
    obtain ⟨p, h1, h2, h3⟩ := r.slots i _ e
    exact ⟨_, h1, n.ret r.wok r.obs ⟨p, rfl, h3.r, fun o ho z => by
      have := r.wok.inj _ _ _ h2 z
      subst this
      cases ho⟩⟩
  · rename_i d e
    obtain ⟨p, h1, h2, h3⟩ := r.slots i _ e
    exact ⟨_, h1, n.ret r.wok r.obs ⟨p, rfl, h3, h2⟩⟩
  · exact n.elim
theorem snd_con {d : D} {v : V} (h : ∀ W, RepW K W d v) : Snd K WX (RvOk K) (tC v) (xCon d) := by
  intro E0 np W ρ S σ H Q r n
  exact n.ret r.wok r.obs (h W)
theorem Need.bstuck {α β γ : Type} {R : Wd → Hp → Hp → γ → β → Prop} {Q : β → Hp → Prop} (n : Need K WX R W H σ Q (.stuck : Out γ)) : α → False := fun _ => n
theorem snd_op2 {g : D → D → Option Rv} {ta tb : TE} {ea eb : EV Rv} (ha : Snd K WX (RvOk K) ta ea) (hb : Snd K WX (RvOk K) tb eb) : Snd K WX (RvOk K) (tOp (r2D K g) ta tb) (xOp2 g ea eb) := by
  intro E0 np W ρ S σ H Q r n
  refine ha E0 np W ρ S σ H _ r (Need.bind n fun ra S1 _ x W1 H1 st1 w1 o1 ra1 n1 => ?_)
  have r1 := r.estep st1 w1 o1
  refine hb E0 np W1 ρ S1 σ H1 _ r1 (Need.bind n1 fun rb S2 _ y W2 H2 st2 w2 o2 rb2 n2 => ?_)
  unfold ap2 at n2
  split at n2
  · rename_i dx ex
    split at n2
    · rename_i dy ey
      cases eg : g dx dy with
      | none =>
        rw [eg] at n2
        exact n2.elim
      | some rv =>
        rw [eg] at n2
        exact ⟨W2, S2, dx, dy, rv, w2, o2, (ra1.step st2).read o2 ex, rb2.read o2 ey, eg, n2⟩
    · exact n2.elim
  · exact n2.elim
theorem snd_op1 {g : D → Option Rv} {ta : TE} {ea : EV Rv} (ha : Snd K WX (RvOk K) ta ea) : Snd K WX (RvOk K) (tUn (r1D K g) ta) (xOp1 g ea) := by
  intro E0 np W ρ S σ H Q r n
  refine ha E0 np W ρ S σ H _ r (Need.bind n fun ra S1 _ x W1 H1 st1 w1 o1 ra1 n1 => ?_)
  unfold ap1 at n1
  split at n1
  · rename_i dx ex
    cases eg : g dx with
    | none =>
      rw [eg] at n1
      exact n1.elim
    | some rv =>
      rw [eg] at n1
      exact ⟨W1, S1, dx, rv, w1, o1, ra1.read o1 ex, eg, n1⟩
  · exact n1.elim
theorem snd_nil : Snd K WX (RL K) tNil xNil := by
  intro E0 np W ρ S σ H Q r n
  exact n.ret r.wok r.obs rfl
theorem RL.step : ∀ {rs : List Rv} {vs : List V}, EStep W H W1 H1 → RL K W H0 H rs vs → RL K W1 H0 H1 rs vs
  | [], _, _, h => h
  | r :: rs, vs, st, h => by
    obtain ⟨v, w, e, h1, h2⟩ := h
    exact ⟨v, w, e, h1.step st, RL.step st h2⟩
theorem snd_cons {ta : TE} {tr : TA} {ea : EV Rv} {er : EV (List Rv)} (ha : Snd K WX (RvOk K) ta ea) (hr : Snd K WX (RL K) tr er) : Snd K WX (RL K) (tCons ta tr) (xCons ea er) := by
  intro E0 np W ρ S σ H Q r n
  refine ha E0 np W ρ S σ H _ r (Need.bind n fun ra S1 e1 x W1 H1 st1 w1 o1 ra1 n1 => ?_)
  have r1 := r.estep st1 w1 o1
  refine hr E0 np W1 ρ S1 σ H1 _ r1 (Need.bind n1 fun rb S2 e2 y W2 H2 st2 w2 o2 rb2 n2 => ?_)
  have n3 : Need K WX (RL K) W H σ Q ((ea ρ S).bind fun r S1 => (er ρ S1).bind fun rs S2 => .ok (r :: rs) S2) := n
  rw [e1, Out.bind_ok, e2, Out.bind_ok] at n3
  exact n3 _ W2 H2 (st1.trans st2) w2 o2 ⟨x, y, rfl, ra1.step st2, RL.lax st1.liv rb2⟩
theorem RL.reads : ∀ {rs : List Rv} {vs : List V} {ds : List D}, ObsOk K W H S → RL K W H0 H rs vs → Wz.reads S rs = some ds → RdgL K W H ds vs
  | [], vs, ds, o, h, e => by
    cases e
    exact h
  | r :: rs, vs, ds, o, h, e => by
    obtain ⟨v, w, e1, h1, h2⟩ := h
    unfold Wz.reads at e
    split at e
    · rename_i d ds' q1 q2
      cases e
      exact ⟨v, w, e1, h1.read o q1, RL.reads o h2 q2⟩
    · cases e
theorem snd_opN {g : List D → Option Rv} {ta : TA} {ea : EV (List Rv)} (ha : Snd K WX (RL K) ta ea) : Snd K WX (RvOk K) (tCB (rND K g) ta) (xOpN g ea) := by
  intro E0 np W ρ S σ H Q r n
  refine ha E0 np W ρ S σ H _ r (Need.bind n fun ra S1 _ x W1 H1 st1 w1 o1 ra1 n1 => ?_)
  unfold apN at n1
  split at n1
  · rename_i dx ex
    cases eg : g dx with
    | none =>
      rw [eg] at n1
      exact n1.elim
    | some rv =>
      rw [eg] at n1
      exact ⟨W1, S1, dx, rv, w1, o1, RL.reads o1 ra1 ex, eg, n1⟩
  · exact n1.elim

/-! ### numbers -/
abbrev lim : Nat := 16777216
def addD : D → D → Option Rv
  | .int i, .int j => some (.val (.int (i + j)))
  | .str i, .str j => if i.length + j.length ≤ lim then some (.val (.str (i ++ j))) else none
  | .lst l, .lst m => if l.length + m.length ≤ lim then some (.new (.lst (l ++ m))) else none
  | _, _ => none
def subD : D → D → Option Rv
  | .int i, .int j => some (.val (.int (i - j)))
  | _, _ => none
def mulD : D → D → Option Rv
  | .int i, .int j => if (-18446744073709551616 < i ∧ i < 18446744073709551616) ∨ (-18446744073709551616 < j ∧ j < 18446744073709551616) then some (.val (.int (i * j))) else none
  | _, _ => none
def fdivD : D → D → Option Rv
  | .int i, .int j => if 0 < j ∧ j < 18446744073709551616 then some (.val (.int (i / j))) else none
  | _, _ => none
def modD : D → D → Option Rv
  | .int i, .int j => if 0 < j then some (.val (.int (i % j))) else none
  | _, _ => none
def powD : D → D → Option Rv
  | .int i, .int j => if 0 ≤ j ∧ j ≤ 1000 ∧ -1000 < i ∧ i < 1000 then some (.val (.int (i ^ j.toNat))) else none
  | _, _ => none
def negD : D → Option Rv
  | .int i => some (.val (.int (-i)))
  | _ => none
def ltD : D → D → Option Rv
  | .int i, .int j => some (.val (.bl (decide (i < j))))
  | _, _ => none
def leD : D → D → Option Rv
  | .int i, .int j => some (.val (.bl (decide (i ≤ j))))
  | _, _ => none
def gtD : D → D → Option Rv
  | .int i, .int j => some (.val (.bl (decide (j < i))))
  | _, _ => none
def geD : D → D → Option Rv
  | .int i, .int j => some (.val (.bl (decide (j ≤ i))))
  | _, _ => none
variable {X : Cx}
theorem lim_le {n : Nat} (h : n ≤ lim) : n ≤ sizeLine := by
  rw [sizeLine_eq]
  exact h
theorem or_add : OpR X (binaryOp .Add) (r2D X.K addD) := by
  intro pins s σ H x y v u Q I rx ry h
  obtain ⟨W, S, dx, dy, rv, w, o, hx, hy, hg, ret⟩ := h
  unfold addD at hg
  split at hg
  · cases hg
    cases hx.int
    cases hy.int
    exact op_add pins s σ H _ _ v u Q I rx ry ⟨_, _, rfl, rfl, ret.val w o rfl⟩
  · split at hg
    · rename_i hl
      cases hg
      cases hx.str
      cases hy.str
      exact op_add_str pins s σ H _ _ v u Q I rx ry ⟨_, _, rfl, rfl, lim_le hl, ret.val w o rfl⟩
    · cases hg
  · split at hg
    · rename_i hl
      cases hg
      obtain ⟨p, vs, rfl, h1, h2⟩ := hx.lst w
      obtain ⟨q, ws, rfl, h3, h4⟩ := hy.lst w
      exact op_cat pins s σ H _ _ v u Q I rx ry ⟨p, q, vs, ws, rfl, rfl, h1, h3, by rw [h2.length, h4.length]; exact lim_le hl, fun r hr => ret.lst w o (h2.append h4) hr⟩
    · cases hg
  · cases hg
theorem or_int {op : PySem.Operator} {g : D → D → Option Rv} {C : Int → Int → Prop} {f : Int → Int → Int} (ho : OpR X (binaryOp op) (rI C fun i j => .int (f i j)))
    (hg : ∀ x y rv, g x y = some rv → ∃ i j, x = .int i ∧ y = .int j ∧ C i j ∧ rv = .val (.int (f i j))) : OpR X (binaryOp op) (r2D X.K g) := by
  intro pins s σ H x y v u Q I rx ry h
  obtain ⟨W, S, dx, dy, rv, w, o, hx, hy, e, ret⟩ := h
  obtain ⟨i, j, rfl, rfl, c, rfl⟩ := hg _ _ _ e
  cases hx.int
  cases hy.int
  exact ho pins s σ H _ _ v u Q I rx ry ⟨_, _, rfl, rfl, c, ret.val w o rfl⟩
theorem or_sub : OpR X (binaryOp .Sub) (r2D X.K subD) := by
  intro pins s σ H x y v u Q I rx ry h
  obtain ⟨W, S, dx, dy, rv, w, o, hx, hy, e, ret⟩ := h
  unfold subD at e
  split at e
  · cases e
    cases hx.int
    cases hy.int
    exact op_sub pins s σ H _ _ v u Q I rx ry ⟨_, _, rfl, rfl, ret.val w o rfl⟩
  · cases e
theorem or_mul : OpR X (binaryOp .Mult) (r2D X.K mulD) := or_int op_mul fun x y rv e => by
  unfold mulD at e
  split at e
  · split at e
    · rename_i c
      cases e
      exact ⟨_, _, rfl, rfl, by unfold CMul; omega, rfl⟩
    · cases e
  · cases e
theorem or_fdiv : OpR X (binaryOp .FloorDiv) (r2D X.K fdivD) := or_int op_fdivW fun x y rv e => by
  unfold fdivD at e
  split at e
  · split at e
    · rename_i c
      cases e
      exact ⟨_, _, rfl, rfl, wide_div (b := 64) c.1 (by omega) (by decide) (by decide), rfl⟩
    · cases e
  · cases e
theorem or_mod : OpR X (binaryOp .Mod) (r2D X.K modD) := or_int op_mod fun x y rv e => by
  unfold modD at e
  split at e
  · split at e
    · rename_i c
      cases e
      exact ⟨_, _, rfl, rfl, c, rfl⟩
    · cases e
  · cases e
theorem or_pow : OpR X (binaryOp .Pow) (r2D X.K powD) := or_int op_pow fun x y rv e => by
  unfold powD at e
  split at e
  · split at e
    · rename_i c
      cases e
      exact ⟨_, _, rfl, rfl, by unfold CPow; omega, rfl⟩
    · cases e
  · cases e
theorem or_neg : UnR X (unaryOp .USub) (r1D X.K negD) := by
  intro pins s σ H x v Q I rx h
  obtain ⟨W, S, dx, rv, w, o, hx, e, ret⟩ := h
  unfold negD at e
  split at e
  · cases e
    cases hx.int
    exact un_neg pins s σ H _ v Q I rx ⟨_, rfl, ret.val w o rfl⟩
  · cases e
theorem or_cmp {op : PySem.CmpOp} {g : D → D → Option Rv} {f : Int → Int → Bool} (ho : OpR X (compareOp op) (rI0 fun i j => .bl (f i j)))
    (hg : ∀ x y rv, g x y = some rv → ∃ i j, x = .int i ∧ y = .int j ∧ rv = .val (.bl (f i j))) : OpR X (compareOp op) (r2D X.K g) := by
  intro pins s σ H x y v u Q I rx ry h
  obtain ⟨W, S, dx, dy, rv, w, o, hx, hy, e, ret⟩ := h
  obtain ⟨i, j, rfl, rfl, rfl⟩ := hg _ _ _ e
  cases hx.int
  cases hy.int
  exact ho pins s σ H _ _ v u Q I rx ry ⟨_, _, rfl, rfl, ret.val w o rfl⟩
theorem or_lt : OpR X (compareOp .Lt) (r2D X.K ltD) := or_cmp op_lt fun x y rv e => by
  unfold ltD at e
  split at e <;> cases e
  exact ⟨_, _, rfl, rfl, rfl⟩
theorem or_le : OpR X (compareOp .LtE) (r2D X.K leD) := or_cmp op_le fun x y rv e => by
  unfold leD at e
  split at e <;> cases e
  exact ⟨_, _, rfl, rfl, rfl⟩
theorem or_gt : OpR X (compareOp .Gt) (r2D X.K gtD) := or_cmp op_gt fun x y rv e => by
  unfold gtD at e
  split at e <;> cases e
  exact ⟨_, _, rfl, rfl, rfl⟩
theorem or_ge : OpR X (compareOp .GtE) (r2D X.K geD) := or_cmp op_ge fun x y rv e => by
  unfold geD at e
  split at e <;> cases e
  exact ⟨_, _, rfl, rfl, rfl⟩
end
end Wz

set_option Elab.async false
set_option linter.all false
set_option maxRecDepth 100000
set_option maxHeartbeats 4000000
namespace Wz
open PySem L2

/-! ### data without dicts and references, of a depth, as the library's data -/
mutual
def shp : Nat → D → Bool
  | 0, _ => false
  | n + 1, .non => true
  | n + 1, .bl _ => true
  | n + 1, .int _ => true
  | n + 1, .str _ => true
  | n + 1, .tup l => shps n l
  | n + 1, .lst l => shps n l
  | n + 1, .scr l => decide (1 ≤ n)
  | n + 1, .wt l => shps n l
  | n + 1, .dk _ => false
  | n + 1, .dt _ => false
  | n + 1, .ref _ => false
def shps : Nat → List D → Bool
  | n, [] => true
  | n, d :: r => shp n d && shps n r
end
mutual
def py : D → PyData
  | .non => .none
  | .bl b => .bool b
  | .int i => .int i
  | .str s => .str s
  | .tup l => .tuple (pys l)
  | .lst l => .list (pys l)
  | .scr l => .list (l.map .int)
  | .wt l => .tuple (pys l)
  | .dk _ => .none
  | .dt _ => .none
  | .ref _ => .none
def pys : List D → List PyData
  | [] => []
  | d :: r => py d :: pys r
end
theorem pys_map (l : List D) : pys l = l.map py := by
  induction l with
  | nil => rfl
  | cons d r ih =>
    show py d :: pys r = _
    rw [ih, List.map_cons]
theorem shps_all (n : Nat) (l : List D) : shps n l = l.all (shp n) := by
  induction l with
  | nil => cases n <;> rfl
  | cons d r ih =>
    rw [List.all_cons, ← ih]
    cases n <;> rfl
/-- == of data -/
def eqv (x y : D) : Bool := PyData.eqv (py x) (py y)

section
variable {K : PySem.W.Frag} {WX : L2.WX} {W W1 W2 : Wd} {H H0 H1 H2 : Hp} {σ : L2.St} {ρ : List Slot} {S S' : List Cell} {E0 : Hp} {np : Nat} {X : Cx}
theorem plain_ints : ∀ l : List Int, PyData.plainAll (l.map .int) = true
  | [] => rfl
  | i :: r => by
    show (true && PyData.plainAll (r.map .int)) = true
    rw [plain_ints r] <;> rfl
theorem depth_ints : ∀ l : List Int, PyData.depthAll (l.map .int) ≤ 1
  | [] => by
    show PyData.depthAll [] ≤ 1
    simp [PyData.depthAll]
  | i :: r => by
    have := depth_ints r
    simp only [List.map_cons, PyData.depthAll, PyData.depth]
    omega
mutual
theorem shp_plain : ∀ (n : Nat) (d : D), shp n d = true → (py d).plain = true ∧ (py d).depth ≤ n
  | 0, d, h => by
    cases d <;> exact absurd h Bool.false_ne_true
  | n + 1, .non, _ => ⟨rfl, by simp [py, PyData.depth]⟩
  | n + 1, .bl _, _ => ⟨rfl, by simp [py, PyData.depth]⟩
  | n + 1, .int _, _ => ⟨rfl, by simp [py, PyData.depth]⟩
  | n + 1, .str _, _ => ⟨rfl, by simp [py, PyData.depth]⟩
  | n + 1, .tup l, h => by
    obtain ⟨h1, h2⟩ := shps_plain n l h
    refine ⟨h1, ?_⟩
    show PyData.depth (.tuple (pys l)) ≤ _
    simp only [PyData.depth]
    omega
  | n + 1, .lst l, h => by
    obtain ⟨h1, h2⟩ := shps_plain n l h
    refine ⟨h1, ?_⟩
    show PyData.depth (.list (pys l)) ≤ _
    simp only [PyData.depth]
    omega
  | n + 1, .wt l, h => by
    obtain ⟨h1, h2⟩ := shps_plain n l h
    refine ⟨h1, ?_⟩
    show PyData.depth (.tuple (pys l)) ≤ _
    simp only [PyData.depth]
    omega
  | n + 1, .scr l, h => by
    have h' : 1 ≤ n := of_decide_eq_true h
    refine ⟨plain_ints l, ?_⟩
    show PyData.depth (.list (l.map .int)) ≤ _
    have := depth_ints l
    simp only [PyData.depth]
    omega
  | n + 1, .dk _, h => by cases h
  | n + 1, .dt _, h => by cases h
  | n + 1, .ref _, h => by cases h
theorem shps_plain : ∀ (n : Nat) (l : List D), shps n l = true → PyData.plainAll (pys l) = true ∧ PyData.depthAll (pys l) ≤ n
  | n, [], _ => ⟨by cases n <;> rfl, by simp [pys, PyData.depthAll]⟩
  | n, d :: r, h => by
    have h' : (shp n d && shps n r) = true := by
      cases n <;> exact h
    obtain ⟨a, b⟩ := Bool.and_eq_true_iff.mp h'
    obtain ⟨a1, a2⟩ := shp_plain n d a
    obtain ⟨b1, b2⟩ := shps_plain n r b
    refine ⟨?_, ?_⟩
    · show ((py d).plain && PyData.plainAll (pys r)) = true
      rw [a1, b1] <;> rfl
    · simp only [pys, PyData.depthAll]
      omega
end
theorem dp_ints : ∀ l : List Int, DpAll K H (l.map .int) (l.map PyData.int)
  | [] => .nil
  | i :: r => .cons (.int i) (dp_ints r)
mutual
theorem dp_rep (w : WOk W H) : ∀ (n : Nat) (d : D) (v : V), shp n d = true → RepW K W d v → Dp K H v (py d)
  | 0, d, _, h, _ => by
    cases d <;> exact absurd h Bool.false_ne_true
  | n + 1, .non, v, _, h => by
    cases (show v = .non from h)
    exact .non
  | n + 1, .bl b, v, _, h => by
    cases (show v = .bl b from h)
    exact .bl b
  | n + 1, .int i, v, _, h => by
    cases (show v = .int i from h)
    exact .int i
  | n + 1, .str i, v, _, h => by
    cases (show v = .str i from h)
    exact .str i
  | n + 1, .tup l, v, s, h => by
    obtain ⟨p, vs, rfl, h1, _, h2⟩ := Rdg.tup w (.inl h)
    exact .tup (.of h1) (dp_repL w n l vs s h2)
  | n + 1, .lst l, v, s, h => by
    obtain ⟨p, vs, rfl, h1, h2⟩ := Rdg.lst w (.inl h)
    exact .lst (.of h1) (dp_repL w n l vs s h2)
  | n + 1, .scr l, v, s, h => by
    obtain ⟨p, rfl, h1⟩ := Rdg.scr w (.inl h)
    exact .lst h1 (dp_ints l)
  | n + 1, .wt l, v, s, h => by
    obtain ⟨p, vs, rfl, h1, h2⟩ := Rdg.wt (.inl h)
    exact .tup h1 (dp_repL w n l vs s h2)
  | n + 1, .dk _, _, h, _ => by cases h
  | n + 1, .dt _, _, h, _ => by cases h
  | n + 1, .ref _, _, h, _ => by cases h
theorem dp_repL (w : WOk W H) : ∀ (n : Nat) (l : List D) (vs : List V), shps n l = true → RepLW K W l vs → DpAll K H vs (pys l)
  | n, [], vs, _, h => by
    cases (show vs = [] from h)
    exact .nil
  | n, d :: r, vs, s, h => by
    have s' : (shp n d && shps n r) = true := by
      cases n <;> exact s
    obtain ⟨a, b⟩ := Bool.and_eq_true_iff.mp s'
    obtain ⟨v, u, rfl, h1, h2⟩ := h
    exact .cons (dp_rep w n d v a h1) (dp_repL w n r u b h2)
end
theorem dp_rdg (w : WOk W H) {n : Nat} {d : D} {v : V} (s : shp n d = true) (h : Rdg K W H d v) : Dp K H v (py d) := by
  rcases h with h | ⟨p, rfl, c⟩
  · exact dp_rep w n d v s h
  · cases n with
    | zero => cases d <;> exact absurd s Bool.false_ne_true
    | succ n =>
      cases d with
      | lst l =>
        obtain ⟨vs, h1, h2⟩ := c
        exact .lst (.of h1) (dp_repL w n l vs s h2)
      | dk l => cases s
      | dt l => cases s
      | _ => exact c.elim

abbrev SH : Nat := 50
def eqD (x y : D) : Option Rv := if (shp SH x && shp SH y) = true then some (.val (.bl (eqv x y))) else none
def neD (x y : D) : Option Rv := if (shp SH x && shp SH y) = true then some (.val (.bl (!eqv x y))) else none
theorem or_eq (hu : X.A.units + 64 < cLine) : OpR X (compareOp .Eq) (r2D X.K eqD) := by
  intro pins s σ H x y v u Q I rx ry h
  obtain ⟨W, S, dx, dy, rv, w, o, hx, hy, e, ret⟩ := h
  unfold eqD at e
  split at e
  · rename_i c
    cases e
    obtain ⟨cx, cy⟩ := Bool.and_eq_true_iff.mp c
    obtain ⟨as, r1⟩ := Dp.reads I _ x v (dp_rdg w cx hx) rx
    obtain ⟨bs, r2⟩ := Dp.reads I _ y u (dp_rdg w cy hy) ry
    obtain ⟨p1, d1⟩ := shp_plain _ _ cx
    obtain ⟨p2, d2⟩ := shp_plain _ _ cy
    have d1' : (py dx).depth ≤ 50 := d1
    exact PySem.SeqAt.eq_plain r1 r2 p1 p2 (by omega) ⟨.bl _, H, I, rfl, ret.val w o rfl⟩
  · cases e
theorem or_ne (hu : X.A.units + 64 < cLine) : OpR X (compareOp .NotEq) (r2D X.K neD) := by
  intro pins s σ H x y v u Q I rx ry h
  obtain ⟨W, S, dx, dy, rv, w, o, hx, hy, e, ret⟩ := h
  unfold neD at e
  split at e
  · rename_i c
    cases e
    obtain ⟨cx, cy⟩ := Bool.and_eq_true_iff.mp c
    obtain ⟨as, r1⟩ := Dp.reads I _ x v (dp_rdg w cx hx) rx
    obtain ⟨bs, r2⟩ := Dp.reads I _ y u (dp_rdg w cy hy) ry
    obtain ⟨p1, d1⟩ := shp_plain _ _ cx
    obtain ⟨p2, d2⟩ := shp_plain _ _ cy
    have d1' : (py dx).depth ≤ 50 := d1
    exact PySem.SeqAt.ne_plain r1 r2 p1 p2 (by omega) ⟨.bl _, H, I, rfl, ret.val w o rfl⟩
  · cases e

/-! ### keys, membership, items -/
def keyD : D → Option Key
  | .int i => some (.inl i)
  | .str s => some (.inr s)
  | _ => none
def keysD : List D → Option (List Key)
  | [] => some []
  | d :: r => match keyD d, keysD r with
    | some k, some ks => some (k :: ks)
    | _, _ => none
/-- what a dict tells at x -/
def dget (d x : D) : Option (Option D) := match d with
  | .dk l => match keyD x with
    | some k => some (getK l k)
    | none => none
  | .dt l => match x with
    | .tup m => match keysD m with
      | some ks => some (getK l ks)
      | none => none
    | _ => none
  | _ => none
theorem keyD_rdg {d : D} {k : Key} {v : V} (e : keyD d = some k) (h : Rdg K W H d v) : v = kV k := by
  cases d with
  | int i =>
    cases e
    exact h.int
  | str i =>
    cases e
    exact h.str
  | _ => cases e
theorem keysD_rep : ∀ {l : List D} {ks : List Key} {vs : List V}, keysD l = some ks → RepLW K W l vs → vs = ks.map kV
  | [], ks, vs, e, h => by
    cases e
    exact h
  | d :: r, ks, vs, e, h => by
    obtain ⟨v, w, rfl, h1, h2⟩ := h
    unfold keysD at e
    split at e
    · rename_i k ks' q1 q2
      cases e
      rw [keysD_rep q2 h2, keyD_rdg (H := fun _ => none) q1 (.inl h1)] <;> rfl
    · cases e
/-- .. in the machine -/
theorem dget_rdg {d x : D} {o : Option D} {v y : V} (w : WOk W H) (e : dget d x = some o) (hd : Rdg K W H d v) (hx : Rdg K W H x y) :
    ∃ a r, v = .ref a ∧ DGet H a y r ∧ ((o = none ∧ r = none) ∨ ∃ z u, o = some z ∧ r = some u ∧ RepW K W z u) := by
  cases d with
  | dk l =>
    obtain ⟨p, vs, rfl, h1, h2⟩ := hd.dk w
    unfold dget at e
    simp only at e
    split at e
    · rename_i k q
      cases e
      have ey := keyD_rdg q hx
      refine ⟨p, valV vs k, rfl, .inl ⟨vs, k, h1, ey, rfl⟩, ?_⟩
      obtain ⟨g1, g2⟩ := h2.get (k := k)
      cases e2 : getK l k with
      | none => exact .inl ⟨rfl, g1 e2⟩
      | some z =>
        obtain ⟨u, g3, g4⟩ := g2 z e2
        exact .inr ⟨z, u, rfl, g3, g4⟩
    · cases e
  | dt l =>
    obtain ⟨p, vs, rfl, h1, h2⟩ := hd.dt w
    unfold dget at e
    simp only at e
    split at e
    · rename_i m
      split at e
      · rename_i ks q
        cases e
        obtain ⟨b, ws, rfl, h3, _, h4⟩ := hx.tup w
        have ey := keysD_rep q h4
        refine ⟨p, valV vs ks, rfl, .inr ⟨vs, ks, b, h1, rfl, by rw [h3, ey], rfl⟩, ?_⟩
        obtain ⟨g1, g2⟩ := h2.get (k := ks)
        cases e2 : getK l ks with
        | none => exact .inl ⟨rfl, g1 e2⟩
        | some z =>
          obtain ⟨u, g3, g4⟩ := g2 z e2
          exact .inr ⟨z, u, rfl, g3, g4⟩
      · cases e
    · cases e
  | _ => cases e
def inB (x y : D) : Option Bool := match y with
  | .str t => match x with
    | .str s => some (!(Builtin.Str.occurrences t s 0 t.length 1).isEmpty)
    | _ => none
  | y => match asS y with
    | some l => if (shp 40 x && shps 40 l) = true then some (l.any fun z => eqv z x) else none
    | none => (dget y x).map Option.isSome
def inD (x y : D) : Option Rv := (inB x y).map fun b => .val (.bl b)
def ninD (x y : D) : Option Rv := (inB x y).map fun b => .val (.bl (!b))
theorem any_py (x : D) (l : List D) : ((pys l).any fun y => PyData.eqv y (py x)) = l.any fun z => eqv z x := by
  rw [pys_map, List.any_map]
  rfl
/-- what `in` finds: the three forms -/
theorem inB_rdg {x y : D} {b : Bool} {v u : V} (w : WOk W H) (e : inB x y = some b) (hx : Rdg K W H x v) (hy : Rdg K W H y u) :
    (∃ s t, v = .str s ∧ u = .str t ∧ b = !(Builtin.Str.occurrences t s 0 t.length 1).isEmpty) ∨
    (∃ l, shp 40 x = true ∧ shps 40 l = true ∧ b = (l.any fun z => eqv z x) ∧ ((py y = .list (pys l) ∨ py y = .tuple (pys l)) ∧ ∃ n, shp n y = true)) ∨
    ∃ a r, u = .ref a ∧ DGet H a v r ∧ b = r.isSome := by
  have key : ∀ z, dget y x = some z → ∃ a r, u = .ref a ∧ DGet H a v r ∧ z.isSome = r.isSome := fun z q => by
    obtain ⟨a, r, h1, h2, h3⟩ := dget_rdg w q hy hx
    refine ⟨a, r, h1, h2, ?_⟩
    rcases h3 with ⟨h3, h4⟩ | ⟨_, _, h3, h4, _⟩
    · rw [h3, h4]
      rfl
    · rw [h3, h4]
      rfl
  cases y with
  | str t =>
    unfold inB at e
    simp only at e
    split at e
    · rename_i s
      cases e
      exact .inl ⟨s, t, hx.str, hy.str, rfl⟩
    · cases e
  | lst l =>
    have e' : (if (shp 40 x && shps 40 l) = true then some (l.any fun z => eqv z x) else none) = some b := e
    split at e'
    · rename_i c
      cases e'
      obtain ⟨c1, c2⟩ := Bool.and_eq_true_iff.mp c
      exact .inr (.inl ⟨l, c1, c2, rfl, .inl rfl, 41, c2⟩)
    · cases e'
  | tup l =>
    have e' : (if (shp 40 x && shps 40 l) = true then some (l.any fun z => eqv z x) else none) = some b := e
    split at e'
    · rename_i c
      cases e'
      obtain ⟨c1, c2⟩ := Bool.and_eq_true_iff.mp c
      exact .inr (.inl ⟨l, c1, c2, rfl, .inr rfl, 41, c2⟩)
    · cases e'
  | wt l =>
    have e' : (if (shp 40 x && shps 40 l) = true then some (l.any fun z => eqv z x) else none) = some b := e
    split at e'
    · rename_i c
      cases e'
      obtain ⟨c1, c2⟩ := Bool.and_eq_true_iff.mp c
      exact .inr (.inl ⟨l, c1, c2, rfl, .inr rfl, 41, c2⟩)
    · cases e'
  | scr m =>
    have e' : (if (shp 40 x && shps 40 (m.map .int)) = true then some ((m.map D.int).any fun z => eqv z x) else none) = some b := e
    split at e'
    · rename_i c
      cases e'
      obtain ⟨c1, c2⟩ := Bool.and_eq_true_iff.mp c
      refine .inr (.inl ⟨m.map .int, c1, c2, rfl, .inl ?_, 2, rfl⟩)
      show PyData.list (m.map .int) = .list (pys (m.map .int))
      rw [pys_map, List.map_map]
      rfl
    · cases e'
  | dk l =>
    have e' : (dget (.dk l) x).map Option.isSome = some b := e
    cases q : dget (.dk l) x with
    | none =>
      rw [q] at e'
      cases e'
    | some z =>
      rw [q] at e'
      cases e'
      obtain ⟨a, r, h1, h2, h3⟩ := key z q
      exact .inr (.inr ⟨a, r, h1, h2, h3⟩)
  | dt l =>
    have e' : (dget (.dt l) x).map Option.isSome = some b := e
    cases q : dget (.dt l) x with
    | none =>
      rw [q] at e'
      cases e'
    | some z =>
      rw [q] at e'
      cases e'
      obtain ⟨a, r, h1, h2, h3⟩ := key z q
      exact .inr (.inr ⟨a, r, h1, h2, h3⟩)
  | _ => cases e
theorem or_in (hu : X.A.units + 64 < cLine) : OpR X (compareOp .In) (r2D X.K inD) := by
  intro pins s σ H x y v u Q I rx ry h
  obtain ⟨W, S, dx, dy, rv, w, o, hx, hy, e, ret⟩ := h
  unfold inD at e
  cases q : inB dx dy with
  | none =>
    rw [q] at e
    cases e
  | some b =>
    rw [q] at e
    cases e
    rcases inB_rdg w q hx hy with ⟨s', t, rfl, rfl, eb⟩ | ⟨l, c1, c2, eb, c3, n, c4⟩ | ⟨a, r, rfl, g, eb⟩
    · exact op_in_str pins s σ H _ _ v u Q I rx ry ⟨s', t, rfl, rfl, by rw [← eb]; exact ret.val w o rfl⟩
    · obtain ⟨as, r1⟩ := Dp.reads I _ x v (dp_rdg w c1 hx) rx
      obtain ⟨bs, r2⟩ := Dp.reads I _ y u (dp_rdg w c4 hy) ry
      obtain ⟨p1, d1⟩ := shp_plain _ _ c1
      obtain ⟨p2, d2⟩ := shps_plain _ _ c2
      rcases c3 with c3 | c3
      · rw [c3] at r2
        exact PySem.SeqAt.in_list_data r2 r1 p2 p1 (by omega) ⟨.bl _, H, I, rfl, by rw [any_py, ← eb]; exact ret.val w o rfl⟩
      · rw [c3] at r2
        exact PySem.SeqAt.in_tuple_data r2 r1 p2 p1 (by omega) ⟨.bl _, H, I, rfl, by rw [any_py, ← eb]; exact ret.val w o rfl⟩
    · cases (show u = Value.ref a from ry)
      exact d_in (by omega) I g rx fun s' I' => ⟨.bl _, H, I', rfl, by rw [← eb]; exact ret.val w o rfl⟩
theorem or_nin (hu : X.A.units + 64 < cLine) : OpR X (compareOp .NotIn) (r2D X.K ninD) := by
  intro pins s σ H x y v u Q I rx ry h
  obtain ⟨W, S, dx, dy, rv, w, o, hx, hy, e, ret⟩ := h
  unfold ninD at e
  cases q : inB dx dy with
  | none =>
    rw [q] at e
    cases e
  | some b =>
    rw [q] at e
    cases e
    rcases inB_rdg w q hx hy with ⟨s', t, rfl, rfl, eb⟩ | ⟨l, c1, c2, eb, c3, n, c4⟩ | ⟨a, r, rfl, g, eb⟩
    · exact op_notin_str pins s σ H _ _ v u Q I rx ry ⟨s', t, rfl, rfl, by rw [← eb]; exact ret.val w o rfl⟩
    · obtain ⟨as, r1⟩ := Dp.reads I _ x v (dp_rdg w c1 hx) rx
      obtain ⟨bs, r2⟩ := Dp.reads I _ y u (dp_rdg w c4 hy) ry
      obtain ⟨p1, d1⟩ := shp_plain _ _ c1
      obtain ⟨p2, d2⟩ := shps_plain _ _ c2
      rcases c3 with c3 | c3
      · rw [c3] at r2
        exact PySem.SeqAt.notIn_list_data r2 r1 p2 p1 (by omega) ⟨.bl _, H, I, rfl, by rw [any_py, ← eb]; exact ret.val w o rfl⟩
      · rw [c3] at r2
        exact PySem.SeqAt.notIn_tuple_data r2 r1 p2 p1 (by omega) ⟨.bl _, H, I, rfl, by rw [any_py, ← eb]; exact ret.val w o rfl⟩
    · cases (show u = Value.ref a from ry)
      exact d_notIn (by omega) I g rx fun s' I' => ⟨.bl _, H, I', rfl, by rw [← eb]; exact ret.val w o rfl⟩
/-- is None, is not None: of any data but containers' references the answer is plain -/
def isNon : D → Bool
  | .non => true
  | _ => false
def isND (x y : D) : Option Rv := match y with
  | .non => some (.val (.bl (isNon x)))
  | .bl b => match x with
    | .bl a => some (.val (.bl (decide (a = b))))
    | _ => none
  | _ => none
def notND (x y : D) : Option Rv := match y with
  | .non => some (.val (.bl (!isNon x)))
  | .bl b => match x with
    | .bl a => some (.val (.bl (!decide (a = b))))
    | _ => none
  | _ => none
theorem non_rdg {d : D} {v : V} (h : Rdg K W H d v) : decide (v = .non) = isNon d := by
  have ref : ∀ {p : Addr}, v = .ref p → decide (v = .non) = false := fun {p} e => by
    rw [e]
    rfl
  rcases h with h | ⟨p, e, c⟩
  · cases d with
    | non =>
      rw [show v = .non from h]
      rfl
    | bl b =>
      rw [show v = .bl b from h]
      rfl
    | int b =>
      rw [show v = .int b from h]
      rfl
    | str b =>
      rw [show v = .str b from h]
      rfl
    | tup l =>
      obtain ⟨a, vs, e, _⟩ := h
      exact ref e
    | lst l =>
      obtain ⟨a, vs, e, _⟩ := h
      exact ref e
    | scr l =>
      obtain ⟨a, e, _⟩ := h
      exact ref e
    | wt l =>
      obtain ⟨a, vs, e, _⟩ := h
      exact ref e
    | dk l =>
      obtain ⟨a, vs, e, _⟩ := h
      exact ref e
    | dt l =>
      obtain ⟨a, vs, e, _⟩ := h
      exact ref e
    | ref n =>
      obtain ⟨a, e, _⟩ := h
      exact ref e
  · cases d with
    | lst l => exact ref e
    | dk l => exact ref e
    | dt l => exact ref e
    | _ => exact c.elim
theorem or_isN : OpR X (compareOp .Is) (r2D X.K isND) := by
  intro pins s σ H x y v u Q I rx ry h
  obtain ⟨W, S, dx, dy, rv, w, o, hx, hy, e, ret⟩ := h
  unfold isND at e
  split at e
  · cases e
    have hn := non_rdg hx
    exact op_isN pins s σ H x y v u Q I rx ry ⟨hy.non, by rw [hn]; exact ret.val w o rfl⟩
  · split at e
    · cases e
      exact op_isBl pins s σ H x y v u Q I rx ry ⟨_, _, hx.bl, hy.bl, ret.val w o rfl⟩
    · cases e
  · cases e
theorem or_notN : OpR X (compareOp .IsNot) (r2D X.K notND) := by
  intro pins s σ H x y v u Q I rx ry h
  obtain ⟨W, S, dx, dy, rv, w, o, hx, hy, e, ret⟩ := h
  unfold notND at e
  split at e
  · cases e
    have hn := non_rdg hx
    exact op_notN pins s σ H x y v u Q I rx ry ⟨hy.non, by rw [hn]; exact ret.val w o rfl⟩
  · split at e
    · cases e
      exact op_notBl pins s σ H x y v u Q I rx ry ⟨_, _, hx.bl, hy.bl, ret.val w o rfl⟩
    · cases e
  · cases e
end
end Wz

set_option Elab.async false
set_option linter.all false
set_option maxRecDepth 100000
set_option maxHeartbeats 4000000
/-! list(reversed(a list)), at the library's level -/
namespace WzR
open PySem PySem.Spec PyProof.Rows RT PySem.W
section
variable {prog : Program} {w : World} {A : Around} {E : Value → Shared → Prop} {s : Shared}
theorem rev_extend {R : Result → Shared → Prop} {it l : Addr} {items : Array Value} (hh : A.handled = none) (hit : s.heap.IsRevIter it l ((items.size : Int) - 1)) (hl : s.heap.IsList l items) (hne : l ≠ it) (hn : items.size ≤ sizeLine)
    (S : Addr) (hSi : S ≠ it) (hSl : S ≠ l) (res : Value) (c₀ : Nat) (hS : s.heap.get? S = some { cls := .type "list", data := .seq #[] c₀ })
    (hR : ∀ h' tk acc' c', (∀ b o, b ≠ S → b ≠ it → s.heap.get? b = some o → h'.get? b = some o) → h'.get? S = some { cls := .type "list", dict := none, data := .seq acc' c', slots := #[] } →
      ItemsOf (fun i v => items[items.size - 1 - i]? = some v) acc' items.size → R (.ok (.ret res)) { s with heap := h', toks := tk }) :
    wpAny (model prog w) A.in1 (Builtin.List.listExtendWith (.ref S) (.ref it) res)
      (fun fin s' => match fin with | .done f => R (.ok f) s' | .again c' => c'.quiet = true ∧ codeAny (model prog w) A c' R s') (fun e s' => R (.error e) s') s := by
  have W := (Walks.listRev (prog := prog) (w := w) (A := A.in1) hh it l hne items).toS
  have hSf : S ∉ [it, l] := by simp only [List.mem_cons, List.not_mem_nil, or_false, not_or]; exact ⟨hSi, hSl⟩
  have hT : s.TypeIs (.ref it) "list_reverseiterator" := hit.typeIs
  have h1 : Builtin.List.listSameRef (.ref S) (.ref it) = false := by simp [Builtin.List.listSameRef, hSi]
  unfold Builtin.List.listExtendWith
  refine wpAny_bind (wpAny_typeOf hT ?_)
  rw [if_neg (by rw [h1]; decide)]
  refine wpAny_bind (wpAny_pyIter_revIter hit ?_)
  refine wpAny_bind (wpAny_holding ?_)
  unfold Builtin.List.listLengthHint
  refine wpAny_bind (wpAny_specialOf hT nolen_lri ?_)
  show wpAny _ A.in1 (specialOf (Value.ref it) (Str.ofString "__length_hint__") >>= _) _ _ _
  refine wpAny_bind (wpAny_specialOf hT hint_lri ?_)
  generalize hid : ("list_reverseiterator.__length_hint__" : String) = id0
  wp_delta
  rw [show splitId id0 = some ("list_reverseiterator", "__length_hint__") from by subst hid; decide +kernel]
  subst hid
  refine wpAny_bind (wpAny_isInstance (b := true) hT (by rw [isSubtype_type]; kernel_rfl) ?_)
  refine wpAny_pure ?_
  rw [if_neg (by decide)]
  have e0 : ((items.size : Nat) : Int) - 1 - ((0 : Nat) : Int) = (items.size : Int) - 1 := by omega
  refine wpAny_pure ⟨plainId_quiet F.plain_extend_loop _, codeAny_extend_loopS W hn S hSf res items.size 0 _ #[] c₀ rfl (Nat.zero_le _) ⟨Nat.zero_le _, by rw [e0]; exact hit, hl⟩ hS (ItemsOf.nil _) fun s' acc' c' hm hS' hacc => ?_⟩
  rw [Moved.eq_with hm]
  refine hR s'.heap s'.toks acc' c' (fun b o hb hbi e => hm.heap b o (fun hmem => ?_) e) hS' hacc
  rcases List.mem_cons.mp hmem with e' | hmem
  · exact hb e'
  · exact hbi (List.mem_singleton.mp hmem)
theorem rev_init {R : Result → Shared → Prop} {it l : Addr} {items : Array Value} (hh : A.handled = none) (hit : s.heap.IsRevIter it l ((items.size : Int) - 1)) (hl : s.heap.IsList l items) (hne : l ≠ it) (hn : items.size ≤ sizeLine)
    (S : Addr) (hSi : S ≠ it) (hSl : S ≠ l) (hS : s.heap.get? S = some { cls := .type "list", data := .seq #[] })
    (hR : ∀ h' tk acc' c', (∀ b o, b ≠ S → b ≠ it → s.heap.get? b = some o → h'.get? b = some o) → h'.get? S = some { cls := .type "list", dict := none, data := .seq acc' c', slots := #[] } →
      ItemsOf (fun i v => items[items.size - 1 - i]? = some v) acc' items.size → R (.ok (.ret .none)) { s with heap := h', toks := tk }) :
    wpAny (model prog w) A.in1 (Builtin.«list.__init__» ⟨[.ref S, .ref it], []⟩)
      (fun fin s' => match fin with | .done f => R (.ok f) s' | .again c' => c'.quiet = true ∧ codeAny (model prog w) A c' R s') (fun e s' => R (.error e) s') s := by
  show wpAny _ _ (do let old ← Builtin.List.listItems (.ref S); Builtin.List.listUpdate (.ref S) (fun _ => #[]); letGo old.toList.reverse; Builtin.List.listExtendWith (.ref S) (.ref it) .none) _ _ s
  refine wpAny_bind ?_
  unfold Builtin.List.listItems
  refine wpAny_bind (wpAny_seqItems hS rfl (wpAny_pure ?_))
  show wpAny _ _ (updateSeq S (fun _ => #[]) >>= fun _ => letGo (#[] : Array Value).toList.reverse >>= fun _ => Builtin.List.listExtendWith (.ref S) (.ref it) .none) _ _ s
  refine wpAny_bind (wpAny_updateSeq hS rfl ?_)
  have hS₂ := Heap.get?_update_self (Obj.mapSeq (fun _ => (#[] : Array Value))) hS rfl
  have oth : ∀ b o, b ≠ S → s.heap.get? b = some o → (s.heap.update S (Obj.mapSeq (fun _ => (#[] : Array Value)))).get? b = some o :=
    fun b o hb e => (Heap.get?_update_other _ _ (Ne.symm hb)).trans e
  refine wpAny_bind (wpAny_letGo ?_)
  have hl' : (s.heap.update S (Obj.mapSeq (fun _ => (#[] : Array Value)))).IsList l items := by
    obtain ⟨o, h1, h2⟩ := hl
    exact ⟨o, oth l o (Ne.symm hSl) h1, h2⟩
  refine rev_extend hh (hit.at fun o e => oth it o (Ne.symm hSi) e) hl' hne hn S hSi hSl .none _ hS₂ (fun h' tk acc' c' hk hS' hacc => ?_)
  exact hR h' tk acc' c' (fun b o hb hbi e => hk b o hb hbi (oth b o hb e)) hS' hacc
theorem call_list_rev {it l : Addr} {items : Array Value} {Q : Value → Shared → Prop} (hh : A.handled = none) (hit : s.heap.IsRevIter it l ((items.size : Int) - 1)) (hl : s.heap.IsList l items) (hne : l ≠ it) (hn : items.size ≤ sizeLine)
    (hQ : ∀ h' tk acc' c', (∀ b o, b ≠ it → s.heap.get? b = some o → h'.get? b = some o) → h'.get? s.heap.objs.size = some { cls := .type "list", dict := none, data := .seq acc' c', slots := #[] } →
      ItemsOf (fun i v => items[items.size - 1 - i]? = some v) acc' items.size → Q (.ref s.heap.objs.size) { s with heap := h', toks := tk }) :
    wpAny (model prog w) A (call (.type "list") [.ref it]) Q E s := by
  refine callType_codes (Q₁ := fun obj s₁ => obj = .ref s.heap.objs.size ∧ s₁ = { s with heap := s.heap.push { cls := .type "list", data := .seq #[] } }) PySem.F.called_list (PySem.F.typeCall_list_1 _) PySem.F.entry_list_init
    (code_list_new _ ⟨rfl, rfl⟩) fun obj s₁ h₁ => ?_
  obtain ⟨rfl, rfl⟩ := h₁
  have hS : (s.heap.push { cls := .type "list", data := .seq #[] }).get? s.heap.objs.size = some { cls := .type "list", data := .seq #[] } := Heap.get?_push_size _ rfl
  obtain ⟨oi, hoi, _⟩ := id hit
  obtain ⟨ol, hol, _⟩ := id hl
  refine ⟨⟨_, hS, rfl⟩, PySem.F.args_list_init_2 _ _, rev_init (A := A.in1) hh (hit.at fun o e => Heap.get?_push_of_some _ e) (hl.push _) hne hn _ (Nat.ne_of_gt (Heap.lt_size hoi)) (Nat.ne_of_gt (Heap.lt_size hol)) hS (fun h' tk acc' c' hk hS' hacc => ?_)⟩
  exact ⟨rfl, hQ h' tk acc' c' (fun b o hb e => hk b o (Nat.ne_of_lt (Heap.lt_size e)) hb (Heap.get?_push_of_some _ e)) hS' hacc⟩
end
end WzR

set_option Elab.async false
set_option linter.all false
set_option maxRecDepth 100000
set_option maxHeartbeats 4000000
namespace Wz
open PySem PySem.Spec PyProof.Rows L2
section
variable {K : PySem.W.Frag} {WX : L2.WX} {W W1 W2 : Wd} {H H0 H1 H2 : Hp} {σ : L2.St} {ρ : List Slot} {S S' : List Cell} {E0 : Hp} {np : Nat} {X : Cx}

/-! ### x[i] -/
def idxS (x i : D) : Option Rv := match i with
  | .int i => match x with
    | .str z => if z.length ≤ lim then match atI z.cps.toList i with
        | some c => some (.val (.str ⟨#[c]⟩))
        | none => none
      else none
    | x => match asS x with
      | some l => (atI l i).map .val
      | none => none
  | _ => none
def idxD (x i : D) : Option Rv := match dget x i with
  | some (some d) => some (.val d)
  | some none => none
  | none => idxS x i
theorem atI_rep {l : List D} {vs : List V} {i : Int} {d : D} (h : RepLW K W l vs) (e : atI l i = some d) : ∃ v, atI vs i = some v ∧ RepW K W d v := by
  unfold atI at e ⊢
  rw [h.length]
  cases q : ixN l.length i with
  | none =>
    rw [q] at e
    cases e
  | some j =>
    rw [q] at e
    obtain ⟨v, h1, h2⟩ := h.get (i := j) e
    exact ⟨v, h1, h2⟩
theorem ix_dict (hu : X.A.units + 1 < cLine) : IxR X (fun x y H Q => ∃ a v, x = .ref a ∧ DGet H a y (some v) ∧ Q v H) := by
  intro value slice pins s σ H x y v u Q I rx ry h hs
  obtain ⟨a, z, rfl, g, q⟩ := h
  cases (show v = Value.ref a from rx)
  have hT := dict_typeIs I g
  unfold subscriptTail
  refine wpAny_bind ?_
  rw [getitemInPython_of_ne hT.not_modules]
  refine wpAny_bind (wpAny_specialOf hT PySem.F.slot_dict_getitem.lookup ?_)
  have fin : wpAny (model X.prog X.w) X.A (subscripted slice false (.ref a) u) (fun r s₃ => wpAny (model X.prog X.w) X.A (letTemporaryGo value (.ref a) r >>= fun _ => pure r) (EP X pins σ Q) X.xe s₃) X.xe s := by
    rw [hs]
    refine wpAny_operating (d_getItem hu I g ry fun w' s3 I3 rw' => wpAny_bind (wpAny_letTemporaryGo (wpAny_pure ⟨z, H, I3, rw', q⟩)))
  first
    | exact wpAny_pure (wpAny_bind fin)
    | exact wpAny_bind (wpAny_pure (wpAny_bind fin))
    | exact wpAny_bind fin
theorem ix_idx (hu : X.A.units + 64 < cLine) : IxR X (r2D X.K idxD) := by
  intro value slice pins s σ H x y v u Q I rx ry h hs
  obtain ⟨W, S, dx, dy, rv, w, o, hx, hy, e, ret⟩ := h
  unfold idxD at e
  split at e
  · rename_i d q
    cases e
    obtain ⟨a, r, rfl, g, h3⟩ := dget_rdg w q hx hy
    rcases h3 with ⟨h3, _⟩ | ⟨z, z', h3, h4, h5⟩
    · cases h3
    · cases h3
      rw [h4] at g
      exact ix_dict (by omega) value slice pins s σ H _ _ _ _ Q I rx ry ⟨a, z', rfl, g, ret.val w o h5⟩ hs
  · cases e
  · unfold idxS at e
    split at e
    · rename_i i _
      cases hy.int
      split at e
      · rename_i z _
        split at e
        · rename_i hl
          cases hx.str
          split at e
          · rename_i c q
            cases e
            exact ix_str value slice pins s σ H _ _ _ _ Q I rx ry ⟨z, i, c, rfl, rfl, lim_le hl, q, ret.val w o rfl⟩ hs
          · cases e
        · cases e
      · split at e
        · rename_i l q
          cases q2 : atI l i with
          | none =>
            rw [q2] at e
            cases e
          | some d =>
            rw [q2] at e
            cases e
            obtain ⟨p, vs, rfl, h1, h2⟩ := hx.asS w q
            obtain ⟨z, h3, h4⟩ := atI_rep h2 q2
            rcases h1 with h1 | h1
            · exact ix_list value slice pins s σ H _ _ _ _ Q I rx ry ⟨p, vs, i, z, rfl, rfl, h1, h3, ret.val w o h4⟩ hs
            · exact ix_tup value slice pins s σ H _ _ _ _ Q I rx ry ⟨p, vs, i, z, rfl, rfl, h1, h3, ret.val w o h4⟩ hs
        · cases e
    · cases e

/-! ### x[a:b] -/
def cutD (xs : List D) (lo hi : Option Int) : List D := (xs.drop (HT.sIx xs.length 0 lo)).take (HT.sIx xs.length xs.length hi - HT.sIx xs.length 0 lo)
theorem cut_rep {l : List D} {vs : List V} {lo hi : Option Int} (h : RepLW K W l vs) : RepLW K W (cutD l lo hi) (cutV vs lo hi) := by
  unfold cutD cutV
  rw [h.length]
  exact (h.drop _).take _
def slcD (x : D) (lo hi : Option Int) : Option Rv := match x with
  | .str z => if z.length ≤ lim then some (.val (.str (cutS z lo hi))) else none
  | x => match asL x with
    | some l => some (.new (.lst (cutD l lo hi)))
    | none => match asT x with
      | some l => if HT.sIx l.length 0 lo = 0 ∧ HT.sIx l.length l.length hi = l.length then none else some (.val (.tup (cutD l lo hi)))
      | none => none
def rSlD (K : PySem.W.Frag) : V → Option Int → Option Int → Hp → VK → Prop := fun x lo hi H Q => ∃ W S dx rv, WOk W H ∧ ObsOk K W H S ∧ Rdg K W H dx x ∧ slcD dx lo hi = some rv ∧ Ret K W H S rv Q
theorem sl_slc : SlR X (rSlD X.K) := by
  intro pins s σ H x v vl vu lo hi sl Q I rx hs pl pu h
  obtain ⟨W, S, dx, rv, w, o, hx, e, ret⟩ := h
  unfold slcD at e
  split at e
  · rename_i z
    split at e
    · rename_i hl
      cases e
      exact sl_str pins s σ H x v vl vu lo hi sl Q I rx hs pl pu ⟨z, hx.str, lim_le hl, ret.val w o rfl⟩
    · cases e
  · split at e
    · rename_i l q
      cases e
      obtain ⟨p, vs, rfl, h1, h2⟩ := hx.asL w q
      exact sl_list pins s σ H _ v vl vu lo hi sl Q I rx hs pl pu ⟨p, vs, rfl, h1, fun r hr => ret.lst w o (cut_rep h2) hr⟩
    · split at e
      · rename_i l q
        split at e
        · cases e
        · rename_i hn
          cases e
          obtain ⟨p, vs, rfl, h1, h2⟩ := hx.asT w q
          refine sl_tup pins s σ H _ v vl vu lo hi sl Q I rx hs pl pu ⟨p, vs, rfl, h1, by rw [h2.length]; exact hn, fun r hr => ret.tup w o (cut_rep h2) hr⟩
      · cases e
/-- a part of a slice -/
def xNone : EV (Option Int) := fun _ S => .ok none S
def xPart (e : EV Rv) : EV (Option Int) := fun ρ S => (e ρ S).bind fun r S1 => match r.read S1 with
  | some (.int i) => .ok (some i) S1
  | _ => .stuck
def xSlc (e : EV Rv) (lo hi : EV (Option Int)) : EV Rv := fun ρ S => (e ρ S).bind fun r S1 => (lo ρ S1).bind fun l S2 => (hi ρ S2).bind fun h S3 => match r.read S3 with
  | some d => lift (slcD d l h) S3
  | none => .stuck
theorem snd_none : Snd K WX RO tNoPart xNone := by
  intro E0 np W ρ S σ H Q r n
  exact n.ret r.wok r.obs rfl
theorem snd_part {te : TE} {e : EV Rv} (h : Snd K WX (RvOk K) te e) : Snd K WX RO (tPart te) (xPart e) := by
  intro E0 np W ρ S σ H Q r n
  refine h E0 np W ρ S σ H _ r (Need.bind n fun ra S1 _ x W1 H1 st1 w1 o1 ra1 n1 => ?_)
  split at n1
  · rename_i i q
    exact ⟨i, (ra1.read o1 q).int, n1.ret w1 o1 rfl⟩
  · exact n1.elim
theorem snd_slc {te : TE} {tl th : TO} {e : EV Rv} {lo hi : EV (Option Int)} (h : Snd K WX (RvOk K) te e) (hl : Snd K WX RO tl lo) (hh : Snd K WX RO th hi) : Snd K WX (RvOk K) (tSl (rSlD K) te tl th) (xSlc e lo hi) := by
  intro E0 np W ρ S σ H Q r n
  refine h E0 np W ρ S σ H _ r (Need.bind n fun ra S1 _ x W1 H1 st1 w1 o1 ra1 n1 => ?_)
  have r1 := r.estep st1 w1 o1
  refine hl E0 np W1 ρ S1 σ H1 _ r1 (Need.bind n1 fun l S2 _ l' W2 H2 st2 w2 o2 e2 n2 => ?_)
  have e2' : l = l' := e2
  subst e2'
  have r2 := r1.estep st2 w2 o2
  refine hh E0 np W2 ρ S2 σ H2 _ r2 (Need.bind n2 fun u S3 _ u' W3 H3 st3 w3 o3 e3 n3 => ?_)
  have e3' : u = u' := e3
  subst e3'
  split at n3
  · rename_i d q
    cases eg : slcD d l u with
    | none =>
      rw [eg] at n3
      exact n3.elim
    | some rv =>
      rw [eg] at n3
      exact ⟨W3, S3, d, rv, w3, o3, ((ra1.step st2).step st3).read o3 q, eg, n3⟩
  · exact n3.elim

/-! ### built-ins of values -/
theorem RdgL.one {d : D} {xs : List V} (h : RdgL K W H [d] xs) : ∃ v, xs = [v] ∧ Rdg K W H d v := by
  obtain ⟨v, w, e, h1, h2⟩ := h
  have h2' : w = [] := h2
  subst h2'
  exact ⟨v, e, h1⟩
theorem RdgL.two {d e : D} {xs : List V} (h : RdgL K W H [d, e] xs) : ∃ v u, xs = [v, u] ∧ Rdg K W H d v ∧ Rdg K W H e u := by
  obtain ⟨v, w, e, h1, h2⟩ := h
  obtain ⟨u, rfl, h3⟩ := RdgL.one h2
  exact ⟨v, u, e, h1, h3⟩
def lenD : List D → Option Rv
  | [.str z] => if z.length ≤ lim then some (.val (.int z.length)) else none
  | [.dk l] => some (.val (.int l.length))
  | [d] => match asS d with
    | some l => some (.val (.int l.length))
    | none => none
  | _ => none
theorem cr_len : CallR X (.builtin "len") (rND X.K lenD) := by
  intro pins s σ H xs us Q I r h
  obtain ⟨W, S, ds, rv, w, o, hx, e, ret⟩ := h
  unfold lenD at e
  split at e
  · rename_i z
    split at e
    · rename_i hl
      cases e
      obtain ⟨v, rfl, hv⟩ := hx.one
      cases hv.str
      exact call_len_str pins s σ H _ us Q I r ⟨z, rfl, lim_le hl, ret.val w o rfl⟩
    · cases e
  · rename_i l
    cases e
    obtain ⟨v, rfl, hv⟩ := hx.one
    obtain ⟨p, vs, rfl, h1, h2⟩ := hv.dk w
    obtain ⟨u, rfl, rx⟩ := r.one
    cases rx
    exact d_len I h1 fun t s' I' => ⟨.int vs.length, H, I', ⟨t, rfl⟩, by rw [h2.len]; exact ret.val w o rfl⟩
  · split at e
    · rename_i l q
      cases e
      obtain ⟨v, rfl, hv⟩ := hx.one
      obtain ⟨p, vs, rfl, h1, h2⟩ := hv.asS w q
      exact call_len_seq pins s σ H _ us Q I r ⟨p, vs, rfl, h1, by rw [h2.length]; exact ret.val w o rfl⟩
    · cases e
  · cases e
end
end Wz

set_option Elab.async false
set_option linter.all false
set_option maxRecDepth 100000
set_option maxHeartbeats 4000000
namespace Wz
open PySem PySem.Spec PyProof.Rows L2

/-! ### sorted lists of ints, of pairs: one for each bag -/
def leP (p q : Int × Int) : Bool := decide (p.1 < q.1) || (decide (p.1 = q.1) && decide (p.2 ≤ q.2))
def sI (l : List Int) : List Int := l.mergeSort fun a b => decide (a ≤ b)
def sP (l : List (Int × Int)) : List (Int × Int) := l.mergeSort leP
theorem sorted_eq {α : Type} {le : α → α → Prop} (anti : ∀ a b, le a b → le b a → a = b) : ∀ {l m : List α}, l.Perm m → l.Pairwise le → m.Pairwise le → l = m
  | [], m, p, _, _ => by
    have := p.length_eq
    cases m with
    | nil => rfl
    | cons x r => simp at this
  | a :: l, [], p, _, _ => by
    have := p.length_eq
    simp at this
  | a :: l, b :: m, p, h1, h2 => by
    obtain ⟨a1, a2⟩ := List.pairwise_cons.mp h1
    obtain ⟨b1, b2⟩ := List.pairwise_cons.mp h2
    have e : a = b := by
      have ma : a ∈ b :: m := p.mem_iff.mp List.mem_cons_self
      have mb : b ∈ a :: l := p.mem_iff.mpr List.mem_cons_self
      rcases List.mem_cons.mp ma with e | ma
      · exact e
      · rcases List.mem_cons.mp mb with e | mb
        · exact e.symm
        · exact anti a b (a1 b mb) (b1 a ma)
    subst e
    rw [sorted_eq anti (List.perm_cons a |>.mp p) a2 b2]
theorem sI_perm (l : List Int) : (sI l).Perm l := List.mergeSort_perm l _
theorem sI_sorted (l : List Int) : (sI l).Pairwise (· ≤ ·) := by
  have h := List.pairwise_mergeSort (le := fun a b : Int => decide (a ≤ b)) (fun a b c h1 h2 => by simp at *; omega) (fun a b => by simp; omega) l
  exact h.imp fun h => of_decide_eq_true h
theorem sI_unique {l m : List Int} (p : m.Perm l) (h : m.Pairwise (· ≤ ·)) : m = sI l := sorted_eq (fun a b h1 h2 => by omega) (p.trans (sI_perm l).symm) h (sI_sorted l)
theorem leP_iff {p q : Int × Int} : leP p q = true ↔ p.1 < q.1 ∨ (p.1 = q.1 ∧ p.2 ≤ q.2) := by
  unfold leP
  simp
theorem sP_perm (l : List (Int × Int)) : (sP l).Perm l := List.mergeSort_perm l _
theorem sP_sorted (l : List (Int × Int)) : (sP l).Pairwise fun p q => leP p q = true :=
  List.pairwise_mergeSort (le := leP) (fun a b c h1 h2 => by rw [leP_iff] at *; omega) (fun a b => by
    have : leP a b = true ∨ leP b a = true := by
      rw [leP_iff, leP_iff]
      omega
    simpa using this) l
theorem leP_anti (a b : Int × Int) (h1 : leP a b = true) (h2 : leP b a = true) : a = b := by
  rw [leP_iff] at h1 h2
  exact Prod.ext (by omega) (by omega)
theorem sP_unique {l m : List (Int × Int)} (p : m.Perm l) (h : m.Pairwise fun p q => leP p q = true) : m = sP l := sorted_eq (le := fun p q => leP p q = true) leP_anti (p.trans (sP_perm l).symm) h (sP_sorted l)

section
variable {K : PySem.W.Frag} {WX : L2.WX} {W W1 W2 : Wd} {H H0 H1 H2 : Hp} {σ : L2.St} {ρ : List Slot} {S S' : List Cell} {E0 : Hp} {np : Nat} {X : Cx}

/-! ### list(..) -/
def keyV : Key → D
  | .inl i => .int i
  | .inr s => .str s
theorem keyV_rep (k : Key) : RepW K W (keyV k) (kV k) := by
  cases k <;> rfl
def listD : List D → Option Rv
  | [d] => match asS d with
    | some l => some (.new (.lst l))
    | none => match d with
      | .dk l => some (.new (.lst (l.map fun p => keyV p.1)))
      | .dt l => some (.new (.lst (l.map fun p => .tup (p.1.map keyV))))
      | _ => none
  | _ => none
theorem repL_keys : ∀ l : List (Key × D), ∀ vs : List (Key × V), PK K W.F W.al l vs → RepLW K W (l.map fun p => keyV p.1) (vs.map fun p => kV p.1)
  | _, _, .nil => rfl
  | (k, d) :: r, (k', v) :: w, .cons h t => by
    obtain ⟨e, h⟩ := h
    have e' : k = k' := e
    subst e'
    exact ⟨_, _, rfl, keyV_rep k, repL_keys r w t⟩
theorem repL_keysL : ∀ l : List Key, RepLW K W (l.map keyV) (l.map kV)
  | [] => rfl
  | k :: r => ⟨_, _, rfl, keyV_rep k, repL_keysL r⟩
theorem call_list_dK (hc : X.calm = true) : CallR X (.type "list") (fun xs H Q => ∃ d kvs, xs = [V.ref d] ∧ Rd H d (.dK kvs) ∧ ∀ p, H p = none → Q (.ref p) (upd H p (.lst (kvs.map fun q => kV q.1)))) := by
  intro pins s σ H xs us Q I r h
  obtain ⟨a, kvs, rfl, hd, q⟩ := h
  obtain ⟨u, rfl, rx⟩ := r.one
  cases rx
  obtain ⟨z, lo, vs, rel, dd⟩ := dk_rd I.hok hd
  obtain ⟨ep, hat⟩ := dd.dictAt
  have hl : vs.length = kvs.length := rel.length.symm
  refine PySem.W.kdl_call (PySem.W.kdl_dict (knd := mixKind X.prog X.w) (kvs := vs) (ep := ep) lo) (I.ok.hd hc) hat (by rw [hl]; exact z) fun h' tk acc' c' kp e it => ?_
  have rv : Vals (kvs.map fun q => kV q.1) acc'.toList := by
    have hal : acc'.toList.length = vs.length := by rw [Array.length_toList, it.1]
    have key : ∀ (j : Nat) (v : Value), acc'.toList[j]? = some v → ∃ k x, vs[j]? = some (k, x) ∧ (mixKind X.prog X.w).is k v = true := fun j v hv => it.2 j v (by rw [← Array.getElem?_toList]; exact hv)
    clear it e q
    generalize acc'.toList = l at hal key
    clear hat dd
    revert l
    unfold KV at rel
    clear z hd hl
    induction rel with
    | nil =>
      intro l hal key
      cases l with
      | nil => exact .nil
      | cons x r => simp at hal
    | @cons p q l1 l2 h t ih =>
      intro l hal key
      cases l with
      | nil => simp at hal
      | cons x r =>
        obtain ⟨k, x', e1, e2⟩ := key 0 x rfl
        have e1' : q = (k, x') := Option.some.inj e1
        refine .cons ?_ (ih r (by simpa using hal) fun j v hv => ?_)
        · have ek : p.1 = k := by rw [h.1, e1']
          show RelV (kV p.1) x
          rw [ek]
          rcases keyIs_shape (show keyIs k x = true from e2) with ⟨i, t, rfl, rfl⟩ | ⟨y, t, rfl, rfl⟩
          · exact ⟨t, rfl⟩
          · exact ⟨t, rfl⟩
        · obtain ⟨k, x'', a, b⟩ := key (j + 1) v (by simpa using hv)
          exact ⟨k, x'', by simpa using a, b⟩
  refine ⟨.ref s.heap.objs.size, _, I.laid (t' := tk) (o := .lst (kvs.map fun q => kV q.1)) kp (Nat.le_refl _) ?_, rfl, q _ (I.hok.fresh (Nat.le_refl _))⟩
  exact ⟨by rw [List.length_map]; exact z, acc'.toList, c', rv, by rw [Array.toArray_toList]; exact e⟩
theorem repL_tups (w : WOk W H) : ∀ (l : List (List Key × D)) (vs : List (List Key × V)) (bs : List Addr), PK K W.F W.al l vs → IsKeys H vs bs → RepLW K W (l.map fun p => .tup (p.1.map keyV)) (bs.map V.ref)
  | _, _, _, .nil, h => by
    cases h
    exact rfl
  | (k, d) :: r, (k', v) :: u, bs, .cons h t, hb => by
    cases hb with
    | @cons _ b _ bs' hb1 hb2 =>
      obtain ⟨e, h⟩ := h
      have e' : k = k' := e
      subst e'
      exact ⟨_, _, rfl, ⟨b, _, rfl, w.tupF b _ hb1, repL_keysL k⟩, repL_tups w r u bs' t hb2⟩
theorem cr_list (hc : X.calm = true) : CallR X (.type "list") (rND X.K listD) := by
  intro pins s σ H xs us Q I r h
  obtain ⟨W, S, ds, rv, w, o, hx, e, ret⟩ := h
  unfold listD at e
  split at e
  · rename_i d
    obtain ⟨v, rfl, hv⟩ := hx.one
    split at e
    · rename_i l q
      cases e
      obtain ⟨p, vs, rfl, h1, h2⟩ := hv.asS w q
      exact call_list_of pins s σ H _ us Q I r ⟨p, vs, rfl, h1, fun l hl => ret.lst w o h2 hl⟩
    · split at e
      · rename_i l
        cases e
        obtain ⟨p, vs, rfl, h1, h2⟩ := hv.dk w
        exact call_list_dK hc pins s σ H _ us Q I r ⟨p, vs, rfl, h1, fun l hl => ret.lst w o (repL_keys _ _ h2) hl⟩
      · rename_i l
        cases e
        obtain ⟨p, vs, rfl, h1, h2⟩ := hv.dt w
        exact call_list_dT hc pins s σ H _ us Q I r ⟨p, vs, rfl, h1, fun l bs hl hb => ret.lst w o (repL_tups w _ _ bs h2 hb) hl⟩
      · cases e
  · cases e
/-- tuple(..) of a list -/
def tupleD : List D → Option Rv
  | [d] => match asL d with
    | some l => some (.val (.tup l))
    | none => none
  | _ => none
theorem cr_tuple : CallR X (.type "tuple") (rND X.K tupleD) := by
  intro pins s σ H xs us Q I r h
  obtain ⟨W, S, ds, rv, w, o, hx, e, ret⟩ := h
  unfold tupleD at e
  split at e
  · rename_i d
    obtain ⟨v, rfl, hv⟩ := hx.one
    split at e
    · rename_i l q
      cases e
      obtain ⟨p, vs, rfl, h1, h2⟩ := hv.asL w q
      exact call_tuple_of pins s σ H _ us Q I r ⟨p, vs, rfl, .inl ⟨h1, fun l hl => ret.tup w o h2 hl⟩⟩
    · cases e
  · cases e

/-! ### any, all, sum -/
def boolsD : List D → Option (List Bool)
  | [] => some []
  | .bl b :: r => (boolsD r).map fun l => b :: l
  | _ :: _ => none
def intsD : List D → Option (List Int)
  | [] => some []
  | .int i :: r => (intsD r).map fun l => i :: l
  | _ :: _ => none
@[simp] theorem intsD_map : ∀ l : List Int, intsD (l.map D.int) = some l
  | [] => rfl
  | i :: r => by
    show (intsD (r.map D.int)).map _ = _
    rw [intsD_map r] <;> rfl
@[simp] theorem boolsD_map : ∀ l : List Bool, boolsD (l.map D.bl) = some l
  | [] => rfl
  | i :: r => by
    show (boolsD (r.map D.bl)).map _ = _
    rw [boolsD_map r] <;> rfl
theorem boolsD_rep : ∀ {l : List D} {bs : List Bool} {vs : List V}, boolsD l = some bs → RepLW K W l vs → vs = bs.map V.bl
  | [], bs, vs, e, h => by
    cases e
    exact h
  | d :: r, bs, vs, e, h => by
    obtain ⟨v, w, rfl, h1, h2⟩ := h
    cases d with
    | bl b =>
      have e' : (boolsD r).map (fun l => b :: l) = some bs := e
      cases q : boolsD r with
      | none =>
        rw [q] at e'
        cases e'
      | some l =>
        rw [q] at e'
        cases e'
        rw [boolsD_rep q h2, show v = .bl b from h1] <;> rfl
    | _ => cases e
theorem intsD_rep : ∀ {l : List D} {bs : List Int} {vs : List V}, intsD l = some bs → RepLW K W l vs → vs = bs.map V.int
  | [], bs, vs, e, h => by
    cases e
    exact h
  | d :: r, bs, vs, e, h => by
    obtain ⟨v, w, rfl, h1, h2⟩ := h
    cases d with
    | int b =>
      have e' : (intsD r).map (fun l => b :: l) = some bs := e
      cases q : intsD r with
      | none =>
        rw [q] at e'
        cases e'
      | some l =>
        rw [q] at e'
        cases e'
        rw [intsD_rep q h2, show v = .int b from h1] <;> rfl
    | _ => cases e
def anyD : List D → Option Rv
  | [.lst l] => (boolsD l).map fun bs => .val (.bl (bs.any id))
  | _ => none
def allD : List D → Option Rv
  | [.lst l] => (boolsD l).map fun bs => .val (.bl (bs.all id))
  | _ => none
def sumD : List D → Option Rv
  | [.lst l] => (intsD l).map fun bs => .val (.int bs.sum)
  | _ => none
theorem cr_anyD (hc : X.calm = true) : CallR X (.builtin "any") (rND X.K anyD) := by
  intro pins s σ H xs us Q I r h
  obtain ⟨W, S, ds, rv, w, o, hx, e, ret⟩ := h
  unfold anyD at e
  split at e
  · rename_i l
    obtain ⟨v, rfl, hv⟩ := hx.one
    obtain ⟨p, vs, rfl, h1, h2⟩ := hv.lst w
    cases q : boolsD l with
    | none =>
      rw [q] at e
      cases e
    | some bs =>
      rw [q] at e
      cases e
      exact cr_any hc pins s σ H _ us Q I r ⟨p, bs, rfl, by rw [← boolsD_rep q h2]; exact .of h1, ret.val w o rfl⟩
  · cases e
theorem cr_allD (hc : X.calm = true) : CallR X (.builtin "all") (rND X.K allD) := by
  intro pins s σ H xs us Q I r h
  obtain ⟨W, S, ds, rv, w, o, hx, e, ret⟩ := h
  unfold allD at e
  split at e
  · rename_i l
    obtain ⟨v, rfl, hv⟩ := hx.one
    obtain ⟨p, vs, rfl, h1, h2⟩ := hv.lst w
    cases q : boolsD l with
    | none =>
      rw [q] at e
      cases e
    | some bs =>
      rw [q] at e
      cases e
      exact cr_all hc pins s σ H _ us Q I r ⟨p, bs, rfl, by rw [← boolsD_rep q h2]; exact .of h1, ret.val w o rfl⟩
  · cases e
theorem cr_sumD (hc : X.calm = true) : CallR X (.builtin "sum") (rND X.K sumD) := by
  intro pins s σ H xs us Q I r h
  obtain ⟨W, S, ds, rv, w, o, hx, e, ret⟩ := h
  unfold sumD at e
  split at e
  · rename_i l
    obtain ⟨v, rfl, hv⟩ := hx.one
    obtain ⟨p, vs, rfl, h1, h2⟩ := hv.lst w
    cases q : intsD l with
    | none =>
      rw [q] at e
      cases e
    | some bs =>
      rw [q] at e
      cases e
      exact cr_sum hc pins s σ H _ us Q I r ⟨p, bs, rfl, by rw [← intsD_rep q h2]; exact .of h1, ret.val w o rfl⟩
  · cases e
end
end Wz

set_option Elab.async false
set_option linter.all false
set_option maxRecDepth 100000
set_option maxHeartbeats 4000000
namespace Wz
open PySem PySem.Spec PyProof.Rows L2
section
variable {K : PySem.W.Frag} {WX : L2.WX} {W W0 W1 W2 : Wd} {H H0 H1 H2 : Hp} {σ : L2.St} {ρ : List Slot} {S S' : List Cell} {E0 : Hp} {np : Nat} {X : Cx}

/-! ### an answer becomes frozen data -/
def Rv.fz : Rv → Option D
  | .val d => some d
  | .new d => some d
  | _ => none
def fzs : List Rv → Option (List D)
  | [] => some []
  | r :: rs => match r.fz, fzs rs with
    | some d, some ds => some (d :: ds)
    | _, _ => none
@[simp] theorem fz_val (d : D) : (Rv.val d).fz = some d := rfl
@[simp] theorem fz_new (d : D) : (Rv.new d).fz = some d := rfl
@[simp] theorem fzs_nil : fzs [] = some [] := rfl
theorem contX_ho {d : D} {p : Addr} (h : ContX K W H p d) : ∃ u, H p = some u ∧ (∀ o z, u ≠ .frz o z) ∧ (∀ vs, u ≠ .tup vs) := by
  cases d with
  | lst l =>
    obtain ⟨vs, e, _⟩ := h
    exact ⟨_, e, fun _ _ z => (by cases z), fun _ z => (by cases z)⟩
  | dk l =>
    obtain ⟨vs, e, _⟩ := h
    exact ⟨_, e, fun _ _ z => (by cases z), fun _ z => (by cases z)⟩
  | dt l =>
    obtain ⟨vs, e, _⟩ := h
    exact ⟨_, e, fun _ _ z => (by cases z), fun _ z => (by cases z)⟩
  | _ => exact False.elim h
theorem contX_rep {d : D} {p : Addr} (h : ContX K W H p d) (e : W.F p = H p) : RepW K W d (.ref p) := by
  cases d with
  | lst l =>
    obtain ⟨vs, e1, r⟩ := h
    exact ⟨p, vs, rfl, e.trans e1, r⟩
  | dk l =>
    obtain ⟨vs, e1, r⟩ := h
    exact ⟨p, vs, rfl, e.trans e1, r⟩
  | dt l =>
    obtain ⟨vs, e1, r⟩ := h
    exact ⟨p, vs, rfl, e.trans e1, r⟩
  | _ => exact False.elim h
/-- an unowned container that stands is frozen as it stands -/
theorem frzAt_w {p : Addr} {u : HO} (w : WOk W H) (hp : H p = some u) (hf : W.F p = none) (n : ∀ o, W.ow o ≠ some p) : WOk (W.frz p u) H where
  sub a x h := by
    by_cases e : a = p
    · subst e
      have h' : upd W.F a u a = some x := h
      rw [upd_same] at h'
      cases h'
      exact .inl hp
    · have h' : upd W.F p u a = some x := h
      rw [upd_ne e] at h'
      exact w.sub a x h'
  inj := w.inj
  unF x a h := by
    have : a ≠ p := fun e => n x (by rw [← e]; exact h)
    exact (upd_ne this).trans (w.unF x a h)
  alv := w.alv
  tupF a vs h := by
    by_cases e : a = p
    · subst e
      rw [hp] at h
      cases h
      exact upd_same
    · exact (upd_ne e).trans (w.tupF a vs h)
theorem frzAt_F {p : Addr} {u : HO} (hf : W.F p = none) : ∀ a x, W.F a = some x → (W.frz p u).F a = some x := fun a x h => by
  have : a ≠ p := fun e => by rw [e, hf] at h; cases h
  exact (upd_ne this).trans h
theorem frzAt_st {p : Addr} {u : HO} (st : EStep W0 H0 W H) (hf : W.F p = none) (h0 : H0 p = none) : EStep W0 H0 (W.frz p u) H where
  keep := st.keep
  F a x h := frzAt_F hf a x (st.F a x h)
  Fn a h := by
    by_cases e : a = p
    · exact .inr (by rw [e]; exact h0)
    · have h' : upd W.F p u a ≠ none := h
      rw [upd_ne e] at h'
      exact st.Fn a h'
  sl := st.sl
  ob := st.ob
  fl := st.fl
  own := st.own
  liv := st.liv
  fz := st.fz
theorem frzAt_o {p : Addr} {u : HO} (w : WOk W H) (o : ObsOk K W H S) (hf : W.F p = none) : ObsOk K (W.frz p u) H S := o.carry w (frzAt_F hf) (fun _ => rfl) fun _ _ => rfl
/-- the answer, without the word about what is frozen -/
def RF (K : PySem.W.Frag) (W : Wd) (H0 H : Hp) : Rv → V → Prop
  | .val d, v => RepW K W d v
  | .new d, v => ∃ p, v = .ref p ∧ ContX K W H p d ∧ (∀ o, W.ow o ≠ some p) ∧ H0 p = none
  | _, _ => False
theorem RvOk.rf {rv : Rv} {d : D} {v : V} (h : RvOk K W H0 H rv v) (e : rv.fz = some d) : RF K W H0 H rv v := by
  cases rv with
  | val x => exact h
  | new x =>
    obtain ⟨p, e, c, n, o, z⟩ := h
    exact ⟨p, e, c, o, z⟩
  | bor x => cases e
  | lk x => cases e
  | fld n f => cases e
theorem RF.mono {rv : Rv} {v : V} (hF : ∀ a u, W.F a = some u → W1.F a = some u) (ho : W1.ow = W.ow) (h : RF K W H0 H rv v) : RF K W1 H0 H rv v := by
  have ho' : ∀ n a, W.ow (.ob n) = some a → W1.ow (.ob n) = some a := fun n a q => by rw [ho]; exact q
  cases rv with
  | val x => exact Rep.mono hF ho' x v h
  | new x =>
    obtain ⟨p, e, c, o, z⟩ := h
    exact ⟨p, e, c.mono hF ho' rfl, fun y => by rw [ho]; exact o y, z⟩
  | bor x => exact h
  | lk x => exact h
  | fld n f => exact h
theorem RF.freeze {rv : Rv} {d : D} {v : V} (st : EStep W0 H0 W H) (w : WOk W H) (o : ObsOk K W H S) (h : RF K W H0 H rv v) (e : rv.fz = some d) :
    ∃ W', EStep W0 H0 W' H ∧ WOk W' H ∧ ObsOk K W' H S ∧ RepW K W' d v ∧ (∀ a u, W.F a = some u → W'.F a = some u) ∧ W'.ow = W.ow := by
  cases rv with
  | val x =>
    cases e
    exact ⟨W, st, w, o, h, fun _ _ q => q, rfl⟩
  | new x =>
    cases e
    obtain ⟨p, rfl, c, n, z⟩ := h
    obtain ⟨u, hu, hn, ht⟩ := contX_ho c
    cases hf : W.F p with
    | none =>
      refine ⟨W.frz p u, frzAt_st st hf z, frzAt_w w hu hf n, frzAt_o w o hf, contX_rep (c.mono (frzAt_F hf) (fun _ _ q => q) rfl) ?_, frzAt_F hf, rfl⟩
      rw [hu]
      exact upd_same
    | some u' =>
      refine ⟨W, st, w, o, contX_rep c ?_, fun _ _ q => q, rfl⟩
      rcases w.sub p u' hf with q | ⟨_, o', q⟩
      · rw [hf, q]
      · rw [hu] at q
        cases q
        exact absurd rfl (hn _ _)
  | bor x => cases e
  | lk x => cases e
  | fld n f => cases e
def RFL (K : PySem.W.Frag) (W : Wd) (H0 H : Hp) : List Rv → List V → Prop
  | [], vs => vs = []
  | r :: rs, vs => ∃ v w, vs = v :: w ∧ RF K W H0 H r v ∧ RFL K W H0 H rs w
theorem RL.rfl_ : ∀ {rs : List Rv} {vs : List V} {ds : List D}, RL K W H0 H rs vs → fzs rs = some ds → RFL K W H0 H rs vs
  | [], vs, ds, h, e => h
  | r :: rs, vs, ds, h, e => by
    obtain ⟨v, w, e1, h1, h2⟩ := h
    unfold fzs at e
    split at e
    · rename_i d ds' q1 q2
      exact ⟨v, w, e1, h1.rf q1, RL.rfl_ h2 q2⟩
    · cases e
theorem RFL.mono (hF : ∀ a u, W.F a = some u → W1.F a = some u) (ho : W1.ow = W.ow) : ∀ {rs : List Rv} {vs : List V}, RFL K W H0 H rs vs → RFL K W1 H0 H rs vs
  | [], vs, h => h
  | r :: rs, vs, h => by
    obtain ⟨v, w, e1, h1, h2⟩ := h
    exact ⟨v, w, e1, h1.mono hF ho, RFL.mono hF ho h2⟩
theorem RFL.freeze : ∀ {rs : List Rv} {ds : List D} {vs : List V} {W : Wd}, EStep W0 H0 W H → WOk W H → ObsOk K W H S → RFL K W H0 H rs vs → fzs rs = some ds →
    ∃ W', EStep W0 H0 W' H ∧ WOk W' H ∧ ObsOk K W' H S ∧ RepLW K W' ds vs ∧ (∀ a u, W.F a = some u → W'.F a = some u) ∧ W'.ow = W.ow
  | [], ds, vs, W, st, w, o, h, e => by
    cases e
    exact ⟨W, st, w, o, h, fun _ _ q => q, rfl⟩
  | r :: rs, ds, vs, W, st, w, o, h, e => by
    unfold fzs at e
    split at e
    · rename_i d ds' q1 q2
      cases e
      obtain ⟨v, u, rfl, h1, h2⟩ := h
      obtain ⟨W1, st1, w1, o1, r1, hF, ho⟩ := h1.freeze st w o q1
      obtain ⟨W2, st2, w2, o2, r2, hF2, ho2⟩ := RFL.freeze st1 w1 o1 (h2.mono hF ho) q2
      exact ⟨W2, st2, w2, o2, ⟨v, u, rfl, Rep.mono hF2 (fun n a q => (congrFun ho2 (.ob n)).trans q) d v r1, r2⟩, fun a x q => hF2 a x (hF a x q), ho2.trans ho⟩
    · cases e

/-! ### displays -/
def xTup (es : EV (List Rv)) : EV Rv := fun ρ S => (es ρ S).bind fun rs S1 => match fzs rs with
  | some ds => if ds.length ≤ lim then .ok (.val (.tup ds)) S1 else .stuck
  | none => .stuck
def xLst (es : EV (List Rv)) : EV Rv := fun ρ S => (es ρ S).bind fun rs S1 => match fzs rs with
  | some ds => if ds.length ≤ lim then .ok (.new (.lst ds)) S1 else .stuck
  | none => .stuck
theorem RepL.len' {l : List D} {vs : List V} (h : RepLW K W l vs) (hl : l.length ≤ lim) : vs.length ≤ sizeLine := by
  rw [h.length]
  exact lim_le hl
theorem snd_tup {ta : TA} {ea : EV (List Rv)} (h : Snd K WX (RL K) ta ea) : Snd K WX (RvOk K) (tTup ta) (xTup ea) := by
  intro E0 np W ρ S σ H Q r n
  refine h E0 np W ρ S σ H _ r (Need.bind n fun rs S1 e1 vs W1 H1 st1 w1 o1 ra1 n1 => ?_)
  have n2 : Need K WX (RvOk K) W H σ Q ((ea ρ S).bind fun rs S1 => match fzs rs with
    | some ds => if ds.length ≤ lim then .ok (.val (.tup ds)) S1 else .stuck
    | none => .stuck) := n
  rw [e1, Out.bind_ok] at n2
  split at n2
  · rename_i ds q
    split at n2
    · rename_i hl
      obtain ⟨W2, st2, w2, o2, r2, _, _⟩ := (ra1.rfl_ q).freeze st1 w1 o1 q
      refine ⟨RepL.len' r2 hl, fun p hp => ?_⟩
      have s3 := frz_st (o := .tup vs) w2 hp
      exact n2 _ _ _ (st2.trans s3) (frz_w w2 hp) (frz_o w2 o2 hp) ⟨p, vs, rfl, upd_same, RepL.mono (frz_F w2 hp) (fun _ _ q => q) ds vs r2⟩
    · exact n2.elim
  · exact n2.elim
theorem snd_lst {ta : TA} {ea : EV (List Rv)} (h : Snd K WX (RL K) ta ea) : Snd K WX (RvOk K) (tLst ta) (xLst ea) := by
  intro E0 np W ρ S σ H Q r n
  refine h E0 np W ρ S σ H _ r (Need.bind n fun rs S1 e1 vs W1 H1 st1 w1 o1 ra1 n1 => ?_)
  have n2 : Need K WX (RvOk K) W H σ Q ((ea ρ S).bind fun rs S1 => match fzs rs with
    | some ds => if ds.length ≤ lim then .ok (.new (.lst ds)) S1 else .stuck
    | none => .stuck) := n
  rw [e1, Out.bind_ok] at n2
  split at n2
  · rename_i ds q
    split at n2
    · rename_i hl
      obtain ⟨W2, st2, w2, o2, r2, _, _⟩ := (ra1.rfl_ q).freeze st1 w1 o1 q
      refine ⟨RepL.len' r2 hl, fun p hp => ?_⟩
      have hp0 : H p = none := Classical.byContradiction fun z => st1.liv p z hp
      exact n2 _ _ _ (st2.trans (new_st hp)) (new_w w2 hp fun _ z => by cases z) (new_o w2 o2 hp) ⟨p, rfl, ⟨vs, upd_same, r2⟩, w2.fnone hp, w2.onone hp, hp0⟩
    · exact n2.elim
  · exact n2.elim
def xDk : EV Rv := fun _ S => .ok (.new (.dk [])) S
def xDt : EV Rv := fun _ S => .ok (.new (.dt [])) S
theorem snd_dk : Snd K WX (RvOk K) tDNewK xDk := by
  intro E0 np W ρ S σ H Q r n p hp
  exact n _ _ _ (new_st hp) (new_w r.wok hp fun _ z => by cases z) (new_o r.wok r.obs hp) ⟨p, rfl, ⟨[], upd_same, rfl⟩, r.wok.fnone hp, r.wok.onone hp, hp⟩
theorem snd_dt : Snd K WX (RvOk K) tDNewT xDt := by
  intro E0 np W ρ S σ H Q r n p hp
  exact n _ _ _ (new_st hp) (new_w r.wok hp fun _ z => by cases z) (new_o r.wok r.obs hp) ⟨p, rfl, ⟨[], upd_same, rfl⟩, r.wok.fnone hp, r.wok.onone hp, hp⟩

/-! ### tests -/
/-- the truth of a datum -/
def truD : D → Option Bool
  | .non => some false
  | .bl b => some b
  | .int i => some (i != 0)
  | .str z => if z.length ≤ lim then some ((z.length : Int) != 0) else none
  | .dk _ => none
  | .dt _ => none
  | d => (asS d).map fun l => !l.isEmpty
def xTru (e : EV Rv) : EV Bool := fun ρ S => (e ρ S).bind fun r S1 => match r.read S1 with
  | some d => match truD d with
    | some b => .ok b S1
    | none => .stuck
  | none => .stuck
/-- a comparison's test: a bool -/
def xTst (e : EV Rv) : EV Bool := fun ρ S => (e ρ S).bind fun r S1 => match r.read S1 with
  | some (.bl b) => .ok b S1
  | _ => .stuck
def xAnd (a b : EV Bool) : EV Bool := fun ρ S => (a ρ S).bind fun x S1 => if x = true then b ρ S1 else .ok false S1
def xOr (a b : EV Bool) : EV Bool := fun ρ S => (a ρ S).bind fun x S1 => if x = true then .ok true S1 else b ρ S1
def xNot (a : EV Bool) : EV Bool := fun ρ S => (a ρ S).bind fun x S1 => .ok (!x) S1
theorem truD_v {d : D} {b : Bool} {v : V} (w : WOk W H) (e : truD d = some b) (h : Rdg K W H d v) : TruV K v H b := by
  have seq : ∀ {l : List D}, asS d = some l → b = !l.isEmpty → TruV K v H b := fun {l} q eb => by
    obtain ⟨p, vs, rfl, h1, h2⟩ := h.asS w q
    have hl : vs.isEmpty = l.isEmpty := by
      have := h2.length
      cases vs <;> cases l <;> simp at this ⊢
    rcases h1 with h1 | h1
    · exact .inl ⟨vs, h1, by rw [hl]; exact eb⟩
    · exact .inr (.inl ⟨vs, h1, by rw [hl]; exact eb⟩)
  cases d with
  | non =>
    cases e
    rw [h.non]
    exact rfl
  | bl x =>
    cases e
    rw [h.bl]
    exact rfl
  | int x =>
    cases e
    rw [h.int]
    exact rfl
  | str z =>
    have e' : (if z.length ≤ lim then some ((z.length : Int) != 0) else none) = some b := e
    split at e'
    · rename_i hl
      cases e'
      rw [h.str]
      exact ⟨lim_le hl, rfl⟩
    · cases e'
  | tup l =>
    cases e
    exact seq rfl rfl
  | lst l =>
    cases e
    exact seq rfl rfl
  | scr l =>
    cases e
    exact seq rfl rfl
  | wt l =>
    cases e
    exact seq rfl rfl
  | _ => cases e
theorem snd_tru {te : TE} {e : EV Rv} (h : Snd K WX (RvOk K) te e) : Snd K WX RB (fun σ H Q => te σ H fun x H' => ∃ k, TruV K x H' k ∧ Q k H') (xTru e) := by
  intro E0 np W ρ S σ H Q r n
  refine h E0 np W ρ S σ H _ r (Need.bind n fun ra S1 _ x W1 H1 st1 w1 o1 ra1 n1 => ?_)
  split at n1
  · rename_i d q
    split at n1
    · rename_i b q2
      exact ⟨b, truD_v w1 q2 (ra1.read o1 q), n1.ret w1 o1 rfl⟩
    · exact n1.elim
  · exact n1.elim
theorem snd_tst {te : TE} {e : EV Rv} (h : Snd K WX (RvOk K) te e) : Snd K WX RB (tTest te) (xTst e) := by
  intro E0 np W ρ S σ H Q r n
  refine h E0 np W ρ S σ H _ r (Need.bind n fun ra S1 _ x W1 H1 st1 w1 o1 ra1 n1 => ?_)
  split at n1
  · rename_i b q
    exact ⟨b, (ra1.read o1 q).bl, n1.ret w1 o1 rfl⟩
  · exact n1.elim
theorem snd_and {ta tb : TT} {a b : EV Bool} (ha : Snd K WX RB ta a) (hb : Snd K WX RB tb b) : Snd K WX RB (tAnd ta tb) (xAnd a b) := by
  intro E0 np W ρ S σ H Q r n
  refine ha E0 np W ρ S σ H _ r (Need.bind n fun x S1 _ x' W1 H1 st1 w1 o1 e1 n1 => ?_)
  have e1' : x = x' := e1
  subst e1'
  cases x with
  | true => exact hb E0 np W1 ρ S1 σ H1 Q (r.estep st1 w1 o1) n1
  | false => exact n1.ret w1 o1 rfl
theorem snd_or {ta tb : TT} {a b : EV Bool} (ha : Snd K WX RB ta a) (hb : Snd K WX RB tb b) : Snd K WX RB (tOr ta tb) (xOr a b) := by
  intro E0 np W ρ S σ H Q r n
  refine ha E0 np W ρ S σ H _ r (Need.bind n fun x S1 _ x' W1 H1 st1 w1 o1 e1 n1 => ?_)
  have e1' : x = x' := e1
  subst e1'
  cases x with
  | true => exact n1.ret w1 o1 rfl
  | false => exact hb E0 np W1 ρ S1 σ H1 Q (r.estep st1 w1 o1) n1
theorem snd_not {ta : TT} {a : EV Bool} (ha : Snd K WX RB ta a) : Snd K WX RB (tNot ta) (xNot a) := by
  intro E0 np W ρ S σ H Q r n
  refine ha E0 np W ρ S σ H _ r (Need.bind n fun x S1 _ x' W1 H1 st1 w1 o1 e1 n1 => ?_)
  have e1' : x = x' := e1
  subst e1'
  exact n1.ret w1 o1 rfl
/-! .. as values -/
def xAndV (a b : EV Rv) : EV Rv := fun ρ S => (a ρ S).bind fun x S1 => match x.read S1 with
  | some (.bl true) => b ρ S1
  | some (.bl false) => .ok (.val (.bl false)) S1
  | _ => .stuck
def xOrV (a b : EV Rv) : EV Rv := fun ρ S => (a ρ S).bind fun x S1 => match x.read S1 with
  | some (.bl true) => .ok (.val (.bl true)) S1
  | some (.bl false) => b ρ S1
  | _ => .stuck
def xNotV (a : EV Rv) : EV Rv := fun ρ S => (a ρ S).bind fun x S1 => match x.read S1 with
  | some (.bl b) => .ok (.val (.bl (!b))) S1
  | _ => .stuck
def xIfe (c : EV Bool) (a b : EV Rv) : EV Rv := fun ρ S => (c ρ S).bind fun x S1 => if x = true then a ρ S1 else b ρ S1
theorem snd_andV {ta tb : TE} {a b : EV Rv} (ha : Snd K WX (RvOk K) ta a) (hb : Snd K WX (RvOk K) tb b) : Snd K WX (RvOk K) (tAndV ta tb) (xAndV a b) := by
  intro E0 np W ρ S σ H Q r n
  refine ha E0 np W ρ S σ H _ r (Need.bind n fun x S1 _ x' W1 H1 st1 w1 o1 e1 n1 => ?_)
  split at n1
  · rename_i q
    exact ⟨true, (e1.read o1 q).bl, hb E0 np W1 ρ S1 σ H1 Q (r.estep st1 w1 o1) n1⟩
  · rename_i q
    exact ⟨false, (e1.read o1 q).bl, n1.ret w1 o1 rfl⟩
  · exact n1.elim
theorem snd_orV {ta tb : TE} {a b : EV Rv} (ha : Snd K WX (RvOk K) ta a) (hb : Snd K WX (RvOk K) tb b) : Snd K WX (RvOk K) (tOrV ta tb) (xOrV a b) := by
  intro E0 np W ρ S σ H Q r n
  refine ha E0 np W ρ S σ H _ r (Need.bind n fun x S1 _ x' W1 H1 st1 w1 o1 e1 n1 => ?_)
  split at n1
  · rename_i q
    exact ⟨true, (e1.read o1 q).bl, n1.ret w1 o1 rfl⟩
  · rename_i q
    exact ⟨false, (e1.read o1 q).bl, hb E0 np W1 ρ S1 σ H1 Q (r.estep st1 w1 o1) n1⟩
  · exact n1.elim
theorem snd_notV {ta : TE} {a : EV Rv} (ha : Snd K WX (RvOk K) ta a) : Snd K WX (RvOk K) (tNotV ta) (xNotV a) := by
  intro E0 np W ρ S σ H Q r n
  refine ha E0 np W ρ S σ H _ r (Need.bind n fun x S1 _ x' W1 H1 st1 w1 o1 e1 n1 => ?_)
  split at n1
  · rename_i b q
    exact ⟨b, (e1.read o1 q).bl, n1.ret w1 o1 rfl⟩
  · exact n1.elim
theorem snd_ife {tc : TT} {ta tb : TE} {c : EV Bool} {a b : EV Rv} (hc : Snd K WX RB tc c) (ha : Snd K WX (RvOk K) ta a) (hb : Snd K WX (RvOk K) tb b) : Snd K WX (RvOk K) (tIf tc ta tb) (xIfe c a b) := by
  intro E0 np W ρ S σ H Q r n
  refine hc E0 np W ρ S σ H _ r (Need.bind n fun x S1 _ x' W1 H1 st1 w1 o1 e1 n1 => ?_)
  have e1' : x = x' := e1
  subst e1'
  cases x with
  | true => exact ha E0 np W1 ρ S1 σ H1 Q (r.estep st1 w1 o1) n1
  | false => exact hb E0 np W1 ρ S1 σ H1 Q (r.estep st1 w1 o1) n1
/-- a < b < c -/
def xChn (g g' : D → D → Option Rv) (ea eb ec : EV Rv) : EV Rv := fun ρ S => (ea ρ S).bind fun ra S1 => (eb ρ S1).bind fun rb S2 => (ap2 g ra rb S2).bind fun r S3 => match r with
  | .val (.bl true) => (ec ρ S3).bind fun rc S4 => ap2 g' rb rc S4
  | .val (.bl false) => .ok (.val (.bl false)) S3
  | _ => .stuck
theorem snd_chn {g g' : D → D → Option Rv} {ta tb tc : TE} {ea eb ec : EV Rv} (ha : Snd K WX (RvOk K) ta ea) (hb : Snd K WX (RvOk K) tb eb) (hc : Snd K WX (RvOk K) tc ec) :
    Snd K WX (RvOk K) (tChain (r2D K g) (r2D K g') ta tb tc) (xChn g g' ea eb ec) := by
  intro E0 np W ρ S σ H Q r n
  refine ha E0 np W ρ S σ H _ r (Need.bind n fun ra S1 _ x W1 H1 st1 w1 o1 ra1 n1 => ?_)
  have r1 := r.estep st1 w1 o1
  refine hb E0 np W1 ρ S1 σ H1 _ r1 (Need.bind n1 fun rb S2 _ y W2 H2 st2 w2 o2 rb2 n2 => ?_)
  have r2 := r1.estep st2 w2 o2
  unfold ap2 at n2
  split at n2
  · rename_i dx ex
    split at n2
    · rename_i dy ey
      cases eg : g dx dy with
      | none =>
        rw [eg] at n2
        exact n2.elim
      | some rv =>
        rw [eg, lift_some, Out.bind_ok] at n2
        refine ⟨W2, S2, dx, dy, rv, w2, o2, (ra1.step st2).read o2 ex, rb2.read o2 ey, eg, fun z W3 H3 st3 w3 o3 rz => ?_⟩
        split at n2
        · refine ⟨true, rz, ?_⟩
          rw [if_pos rfl]
          have r3 := r2.estep st3 w3 o3
          refine hc E0 np W3 ρ S2 σ H3 _ r3 (Need.bind (Need.step st3 n2) fun rc S4 _ u W4 H4 st4 w4 o4 rc4 n4 => ?_)
          unfold ap2 at n4
          split at n4
          · rename_i dx' ex'
            split at n4
            · rename_i dy' ey'
              cases eg' : g' dx' dy' with
              | none =>
                rw [eg'] at n4
                exact n4.elim
              | some rv' =>
                rw [eg'] at n4
                exact ⟨W4, S4, dx', dy', rv', w4, o4, ((rb2.step st3).step st4).read o4 ex', rc4.read o4 ey', eg', n4⟩
            · exact n4.elim
          · exact n4.elim
        · refine ⟨false, rz, ?_⟩
          rw [if_neg (by decide)]
          exact (Need.step st3 n2).ret w3 o3 rfl
        · exact n2.elim
    · exact n2.elim
  · exact n2.elim
end
end Wz

set_option Elab.async false
set_option linter.all false
set_option maxRecDepth 100000
set_option maxHeartbeats 4000000
namespace Wz
open PySem PySem.Spec PyProof.Rows L2

/-! ### what a def is worth: modes of its parameters, its run on data -/
/-- v: handed in as frozen data; b: read alone; o: a container that is handed over -/
inductive Mode where
  | v | b | o
  deriving DecidableEq
inductive FOut where
  | ok (r : Rv) (outs : List Slot) (S : List Cell) | exc (c : Str) (a : Option D) (S : List Cell) | stuck
structure FnSpec where
  ms : List Mode
  run : List D → List Cell → FOut
def boxAt (S : List Cell) : D → Bool
  | .ref n => match S[n]? with
    | some (.box _) => true
    | some (.lbx _) => true
    | _ => false
  | _ => false
/-- an argument, by its mode -/
def passM (S : List Cell) : Mode → Rv → Option D
  | .v, r => r.fz
  | .b, .val d => if boxAt S d = true then none else some d
  | .b, .new d => some d
  | .b, .bor d => some d
  | .b, .lk d => some d
  | .b, .fld _ _ => none
  | .o, .new d => some d
  | .o, _ => none
def passA (S : List Cell) : List Mode → List Rv → Option (List D)
  | [], [] => some []
  | m :: ms, r :: rs => match passM S m r, passA S ms rs with
    | some d, some ds => some (d :: ds)
    | _, _ => none
  | _, _ => none
/-- nothing is handed over -/
def noO : List Mode → Bool
  | [] => true
  | .o :: _ => false
  | _ :: ms => noO ms
/-- one container is handed over, a new one; the rest is plain data -/
def allVal : List Mode → List Rv → Bool
  | [], [] => true
  | .v :: ms, .val _ :: rs => allVal ms rs
  | .b :: ms, .val _ :: rs => allVal ms rs
  | _, _ => false
def okO1 : List Mode → List Rv → Bool
  | .o :: ms, .new _ :: rs => allVal ms rs
  | .v :: ms, .val _ :: rs => okO1 ms rs
  | .b :: ms, .val _ :: rs => okO1 ms rs
  | _, _ => false
/-- .. or a new list as plain data and a new dict handed over -/
def okV : List Mode → List Rv → Bool
  | [.v, .o], [.new (.lst _), .new (.dk _)] => true
  | _, _ => false
def okO (ms : List Mode) (rs : List Rv) : Bool := okO1 ms rs || okV ms rs
def FOut.out : FOut → Out Rv
  | .ok (.val d) _ S => .ok (.val d) S
  | .ok (.new d) _ S => .ok (.new d) S
  | .ok _ _ _ => .stuck
  | .exc c a S => .exc c a S
  | .stuck => .stuck
def callS (sp : FnSpec) (rs : List Rv) (S : List Cell) : Out Rv := if (noO sp.ms || okO sp.ms rs) = true then match passA S sp.ms rs with
  | some ds => (sp.run ds S).out
  | none => .stuck
  else .stuck
def xCall (sp : FnSpec) (es : EV (List Rv)) : EV Rv := fun ρ S => (es ρ S).bind fun rs S1 => callS sp rs S1

section
variable (K : PySem.W.Frag)
def Rdb (W : Wd) (H : Hp) (d : D) (v : V) : Prop := RepW K W d v ∨ ∃ p, v = .ref p ∧ ContR K W H p d ∧ ∀ o, W.ow o ≠ some p
def ArgOk (W : Wd) (H : Hp) (i : Nat) (d : D) (v : V) : Mode → Prop
  | .v => RepW K W d v
  | .b => Rdb K W H d v
  | .o => ∃ p, v = .ref p ∧ W.ow (.sl i) = some p ∧ ContX K W H p d
def ArgsOk (W : Wd) (H : Hp) : Nat → List Mode → List D → List V → Prop
  | _, [], ds, vs => ds = [] ∧ vs = []
  | i, m :: ms, ds, vs => ∃ d dr v vr, ds = d :: dr ∧ vs = v :: vr ∧ ArgOk K W H i d v m ∧ ArgsOk W H (i + 1) ms dr vr
/-- behind a def: handed-over containers that it still owns -/
def OutsOk (W W' : Wd) (H' : Hp) (outs : List Slot) : Prop := ∀ i,
  (∀ d, outs[i]? = some (.own d) → ∃ p, W.ow (.sl i) = some p ∧ W'.ow (.sl i) = some p ∧ ContX K W' H' p d) ∧ ((∀ d, outs[i]? ≠ some (.own d)) → W'.ow (.sl i) = none)
def FPost (W : Wd) (H : Hp) (n0 : Nat) (Q : VK) (E : XK) : FOut → Prop
  | .ok rv outs S' => ∀ v W' H', SStep n0 W H W' H' → WOk W' H' → ObsOk K W' H' S' → RvOk K W' H H' rv v → OutsOk K W W' H' outs → Q v H'
  | .exc c a S' => ∀ cls dd W' H', SStep n0 W H W' H' → WOk W' H' → ObsOk K W' H' S' → ExcOk K W' H' c a cls dd → (∀ i, W'.ow (.sl i) = none) → E cls dd H'
  | .stuck => False
/-- THE PROMISE of a def -/
def Gsp (sp : FnSpec) : Sp := fun vs H Q E => ∃ (W : Wd) (S : List Cell) (ds : List D), WOk W H ∧ ObsOk K W H S ∧ ArgsOk K W H 0 sp.ms ds vs ∧ (∀ i, sp.ms[i]? ≠ some .o → W.ow (.sl i) = none) ∧ FPost K W H S.length Q E (sp.run ds S)
end
section
variable {K : PySem.W.Frag} {WX : L2.WX} {W W0 W1 W2 Wc : Wd} {H H0 H1 H2 H' : Hp} {σ : L2.St} {ρ : List Slot} {S S' S1 : List Cell} {E0 : Hp} {np : Nat} {X : Cx}
theorem ArgsOk.length : ∀ {ms : List Mode} {i : Nat} {ds : List D} {vs : List V}, ArgsOk K W H i ms ds vs → vs.length = ms.length ∧ ds.length = ms.length
  | [], _, _, _, h => by
    obtain ⟨h1, h2⟩ := h
    rw [h1, h2]
    exact ⟨rfl, rfl⟩
  | m :: ms, i, ds, vs, h => by
    obtain ⟨d, dr, v, vr, e1, e2, h1, h2⟩ := h
    obtain ⟨a, b⟩ := h2.length
    rw [e1, e2, List.length_cons, List.length_cons, List.length_cons, a, b]
    exact ⟨rfl, rfl⟩
theorem Gsp.len {sp : FnSpec} {vs : List V} {Q : VK} {E : XK} (h : Gsp K sp vs H Q E) : vs.length = sp.ms.length := by
  obtain ⟨W, S, ds, _, _, a, _⟩ := h
  exact a.length.1

/-! ### back from a call -/
/-- the caller's slots, the rest as the callee leaves it -/
def mix (W W' : Wd) : Wd := ⟨W'.F, fun o => match o with
  | .sl i => W.ow (.sl i)
  | o => W'.ow o⟩
theorem mix_ob {o : Ow} (h : o.isOb = true) : (mix W W1).ow o = W1.ow o := by
  cases o with
  | sl i => cases h
  | fl n f => rfl
  | ob n => rfl
theorem ObsOk.congr {W W' : Wd} (o : ObsOk K W H S) (hF : ∀ a u, W.F a = some u → W'.F a = some u) (ho : ∀ x, x.isOb = true → W'.ow x = W.ow x) : ObsOk K W' H S where
  at_ n c e := by
    have ho' : ∀ n a, W.ow (.ob n) = some a → W'.ow (.ob n) = some a := fun n a h => (ho (.ob n) rfl).trans h
    have q := o.at_ n c e
    cases c with
    | box d =>
      obtain ⟨p, h1, h2⟩ := q
      exact ⟨p, ho' _ _ h1, h2.mono hF ho' rfl⟩
    | lbx d =>
      obtain ⟨p, h1, h2⟩ := q
      exact ⟨p, ho' _ _ h1, h2.mono hF ho' rfl⟩
    | ins c fs =>
      obtain ⟨a, dx, vs, h1, h2, h3⟩ := q
      refine ⟨a, dx, vs, ho' _ _ h1, h2, ?_⟩
      clear h2 e
      induction fs generalizing vs with
      | nil => exact h3
      | cons x r ih =>
        obtain ⟨f, x⟩ := x
        obtain ⟨v, w', e1, e2, e3⟩ := h3
        refine ⟨v, w', e1, ?_, ih _ e3⟩
        cases x with
        | val d => exact Rep.mono hF ho' d v e2
        | own d =>
          obtain ⟨p, k1, k2, k3⟩ := e2
          exact ⟨p, k1, (ho (.fl n f) rfl).trans k2, k3.mono hF ho' rfl⟩
        | lck d =>
          obtain ⟨p, k1, k2, k3⟩ := e2
          exact ⟨p, k1, (ho (.fl n f) rfl).trans k2, k3.mono hF ho' rfl⟩
  nob n h := ⟨(ho (.ob n) rfl).trans (o.nob n h).1, fun f => (ho (.fl n f) rfl).trans ((o.nob n h).2 f)⟩
  nof n f h := (ho (.fl n f) rfl).trans (o.nof n f h)
theorem back_st (w0 : WOk W0 H0) (st : EStep W0 H0 W1 H1) (hob : ∀ o, o.isOb = true → Wc.ow o = W1.ow o) (hF1 : ∀ a u, W1.F a = some u → Wc.F a = some u) (hF2 : ∀ a, Wc.F a ≠ none → W1.F a ≠ none ∨ H0 a = none)
    (hsl : ∀ i p, Wc.ow (.sl i) = some p → H0 p = none) (o1 : ObsOk K W1 H1 S1) (ss : SStep S1.length Wc H1 W2 H') : EStep W0 H0 (mix W0 W2) H' where
  keep a u h n := by
    have n0 : H0 a ≠ none := by rw [h]; simp
    refine ss.keep a u (st.keep a u h n) fun o z => ?_
    cases o with
    | sl i => exact n0 (hsl i a z)
    | fl m f =>
      rcases st.own _ a ((hob (.fl m f) rfl).symm.trans z) with q | q
      · exact n _ rfl q
      · exact n0 q
    | ob m =>
      rcases st.own _ a ((hob (.ob m) rfl).symm.trans z) with q | q
      · exact n _ rfl q
      · exact n0 q
  F a u h := ss.F a u (hF1 a u (st.F a u h))
  Fn a h := by
    rcases ss.Fn a h with q | q | ⟨i, q⟩
    · rcases hF2 a q with q | q
      · exact st.Fn a q
      · exact .inr q
    · exact .inr (Classical.byContradiction fun z => st.liv a z q)
    · exact .inr (hsl i a q)
  sl i := rfl
  ob n a h := ss.ob n a ((hob (.ob n) rfl).trans (st.ob n a h))
  fl n f a h := by
    have h1 := st.fl n f a h
    refine ss.fl n f a ?_ ((hob (.fl n f) rfl).trans h1)
    rcases Nat.lt_or_ge n S1.length with q | q
    · exact q
    · rw [(o1.nob n q).2 f] at h1
      cases h1
  own o a h := by
    cases o with
    | sl i => exact .inl h
    | fl m f =>
      rcases ss.own _ a h with q | q
      · exact st.own _ a ((hob (.fl m f) rfl).symm.trans q)
      · exact .inr (Classical.byContradiction fun z => st.liv a z q)
    | ob m =>
      rcases ss.own _ a h with q | q
      · exact st.own _ a ((hob (.ob m) rfl).symm.trans q)
      · exact .inr (Classical.byContradiction fun z => st.liv a z q)
  liv a h := ss.liv a (st.liv a h)
  fz a o u h := ss.fz a o u (st.fz a o u h)
theorem back_w (w0 : WOk W0 H0) (st : EStep W0 H0 W1 H1) (w1 : WOk W1 H1) (wc : WOk Wc H1) (hob : ∀ o, o.isOb = true → Wc.ow o = W1.ow o) (hF2 : ∀ a, Wc.F a ≠ none → W1.F a ≠ none ∨ H0 a = none)
    (hsl : ∀ i p, Wc.ow (.sl i) = some p → H0 p = none) (ss : SStep S1.length Wc H1 W2 H') (w2 : WOk W2 H') : WOk (mix W0 W2) H' := by
  have slob : ∀ i o a, o.isOb = true → W0.ow (.sl i) = some a → W2.ow o ≠ some a := fun i o a ho h z => by
    have h1 : W1.ow (.sl i) = some a := (st.sl i).trans h
    rcases ss.own o a z with q | q
    · have := w1.inj _ _ _ h1 ((hob o ho).symm.trans q)
      subst this
      cases ho
    · exact st.liv a (w0.alv _ _ h) q
  refine ⟨w2.sub, fun x y a h1 h2 => ?_, fun x a h => ?_, fun x a h => ?_, w2.tupF⟩
  · cases x with
    | sl i =>
      cases y with
      | sl j => exact w0.inj _ _ a h1 h2
      | fl n f => exact absurd h2 (slob i _ a rfl h1)
      | ob n => exact absurd h2 (slob i _ a rfl h1)
    | fl n f =>
      cases y with
      | sl j => exact absurd h1 (slob j _ a rfl h2)
      | fl n' f' => exact w2.inj _ _ a h1 h2
      | ob n' => exact w2.inj _ _ a h1 h2
    | ob n =>
      cases y with
      | sl j => exact absurd h1 (slob j _ a rfl h2)
      | fl n' f' => exact w2.inj _ _ a h1 h2
      | ob n' => exact w2.inj _ _ a h1 h2
  · cases x with
    | sl i =>
      have h0 : W0.ow (.sl i) = some a := h
      have hal := w0.alv _ _ h0
      refine Classical.byContradiction fun z => ?_
      rcases ss.Fn a z with q | q | ⟨j, q⟩
      · rcases hF2 a q with q | q
        · exact q (w1.unF _ _ ((st.sl i).trans h0))
        · exact hal q
      · exact st.liv a hal q
      · exact hal (hsl j a q)
    | fl n f => exact w2.unF _ a h
    | ob n => exact w2.unF _ a h
  · cases x with
    | sl i => exact ss.liv a (st.liv a (w0.alv _ _ h))
    | fl n f => exact w2.alv _ a h
    | ob n => exact w2.alv _ a h
theorem mix_rep {d : D} {v : V} (h : RepW K W2 d v) : RepW K (mix W0 W2) d v := Rep.mono (fun _ _ q => q) (fun _ _ q => q) d v h
theorem back_rv {rv : Rv} {v : V} (w0 : WOk W0 H0) (st : EStep W0 H0 W1 H1) (hr : RvOk K W2 H1 H' rv v) (hf : rv.fz ≠ none) : RvOk K (mix W0 W2) H0 H' rv v := by
  cases rv with
  | val d => exact mix_rep hr
  | new d =>
    obtain ⟨p, e, c, n, o, z⟩ := hr
    have z0 : H0 p = none := Classical.byContradiction fun q => st.liv p q z
    refine ⟨p, e, c.mono (fun _ _ q => q) (fun _ _ q => q) rfl, n, fun x q => ?_, z0⟩
    cases x with
    | sl i => exact w0.alv _ _ q z0
    | fl n f => exact o _ q
    | ob n => exact o _ q
  | bor d => exact absurd rfl hf
  | lk d => exact absurd rfl hf
  | fld n f => exact absurd rfl hf
theorem back_exc {c : Str} {a : Option D} {cls : Value} {dd : Option Addr} (h : ExcOk K W2 H' c a cls dd) : ExcOk K (mix W0 W2) H' c a cls dd := by
  cases a with
  | none => exact h
  | some d =>
    obtain ⟨h1, x, f, v, h2, h3, h4, h5⟩ := h
    exact ⟨h1, x, f, v, h2, h3, mix_rep h4, h5⟩


/-! ### the way in -/
def RG (K : PySem.W.Frag) (W : Wd) (H0 H : Hp) : Rv → V → Prop
  | .val d, v => RepW K W d v
  | .new d, v => ∃ p, v = .ref p ∧ ContX K W H p d ∧ (∀ o, W.ow o ≠ some p) ∧ H0 p = none
  | .bor d, v => ∃ p, v = .ref p ∧ ContR K W H p d ∧ (∀ o, o.isOb = true → W.ow o ≠ some p)
  | .lk d, v => ∃ p, v = .ref p ∧ ContR K W H p d ∧ (∀ o, o.isOb = true → W.ow o ≠ some p)
  | .fld _ _, _ => True
def RGL (K : PySem.W.Frag) (W : Wd) (H0 H : Hp) : List Rv → List V → Prop
  | [], vs => vs = []
  | r :: rs, vs => ∃ v w, vs = v :: w ∧ RG K W H0 H r v ∧ RGL K W H0 H rs w
theorem RL.rgl : ∀ {rs : List Rv} {vs : List V}, RL K W H0 H rs vs → RGL K W H0 H rs vs
  | [], vs, h => h
  | r :: rs, vs, h => by
    obtain ⟨v, w, e1, h1, h2⟩ := h
    refine ⟨v, w, e1, ?_, RL.rgl h2⟩
    cases r with
    | val d => exact h1
    | new d =>
      obtain ⟨p, e, c, n, o, z⟩ := h1
      exact ⟨p, e, c, o, z⟩
    | bor d => exact h1
    | lk d =>
      obtain ⟨p, e, c, n⟩ := h1
      exact ⟨p, e, c, fun o _ => n o⟩
    | fld n f => exact True.intro
theorem RGL.mono (hF : ∀ a u, W.F a = some u → W1.F a = some u) (ho : W1.ow = W.ow) : ∀ {rs : List Rv} {vs : List V}, RGL K W H0 H rs vs → RGL K W1 H0 H rs vs
  | [], vs, h => h
  | r :: rs, vs, h => by
    have ho' : ∀ n a, W.ow (.ob n) = some a → W1.ow (.ob n) = some a := fun n a q => (congrFun ho (.ob n)).trans q
    obtain ⟨v, w, e1, h1, h2⟩ := h
    refine ⟨v, w, e1, ?_, RGL.mono hF ho h2⟩
    cases r with
    | val d => exact Rep.mono hF ho' d v h1
    | new d =>
      obtain ⟨p, e, c, o, z⟩ := h1
      exact ⟨p, e, c.mono hF ho' rfl, fun x => by rw [ho]; exact o x, z⟩
    | bor d =>
      obtain ⟨p, e, c, o⟩ := h1
      exact ⟨p, e, c.mono hF ho' rfl, fun x hx => by rw [ho]; exact o x hx⟩
    | lk d =>
      obtain ⟨p, e, c, o⟩ := h1
      exact ⟨p, e, c.mono hF ho' rfl, fun x hx => by rw [ho]; exact o x hx⟩
    | fld n f => exact True.intro
/-- the arguments as the callee sees them, ahead of its own slots -/
def ArgP (K : PySem.W.Frag) (W : Wd) (H : Hp) (d : D) (v : V) : Mode → Prop
  | .v => RepW K W d v
  | .b => RepW K W d v ∨ ∃ p, v = .ref p ∧ ContR K W H p d ∧ ∀ o, o.isOb = true → W.ow o ≠ some p
  | .o => False
def ArgsP (K : PySem.W.Frag) (W : Wd) (H : Hp) : List Mode → List D → List V → Prop
  | [], ds, vs => ds = [] ∧ vs = []
  | m :: ms, ds, vs => ∃ d dr v vr, ds = d :: dr ∧ vs = v :: vr ∧ ArgP K W H d v m ∧ ArgsP K W H ms dr vr
theorem ArgP.mono {d : D} {v : V} {m : Mode} (hF : ∀ a u, W.F a = some u → W1.F a = some u) (ho : W1.ow = W.ow) (h : ArgP K W H d v m) : ArgP K W1 H d v m := by
  have ho' : ∀ n a, W.ow (.ob n) = some a → W1.ow (.ob n) = some a := fun n a q => (congrFun ho (.ob n)).trans q
  cases m with
  | v => exact Rep.mono hF ho' d v h
  | b =>
    rcases h with h | ⟨p, e, c, o⟩
    · exact .inl (Rep.mono hF ho' d v h)
    · exact .inr ⟨p, e, c.mono hF ho' rfl, fun x hx => by rw [ho]; exact o x hx⟩
  | o => exact h
theorem way_in : ∀ {ms : List Mode} {rs : List Rv} {ds : List D} {vs : List V} {W : Wd}, noO ms = true → EStep W0 H0 W H → WOk W H → ObsOk K W H S → RGL K W H0 H rs vs → passA S ms rs = some ds →
    ∃ W', EStep W0 H0 W' H ∧ WOk W' H ∧ ObsOk K W' H S ∧ ArgsP K W' H ms ds vs ∧ (∀ a u, W.F a = some u → W'.F a = some u) ∧ (∀ a, W'.F a ≠ none → W.F a ≠ none ∨ H0 a = none) ∧ W'.ow = W.ow
  | [], [], ds, vs, W, _, st, w, o, h, e => by
    cases e
    exact ⟨W, st, w, o, ⟨rfl, h⟩, fun _ _ q => q, fun _ q => .inl q, rfl⟩
  | [], _ :: _, ds, vs, W, _, st, w, o, h, e => by cases e
  | _ :: _, [], ds, vs, W, _, st, w, o, h, e => by cases e
  | m :: ms, r :: rs, ds, vs, W, hn, st, w, o, h, e => by
    unfold passA at e
    split at e
    · rename_i d dr q1 q2
      cases e
      obtain ⟨v, u, rfl, h1, h2⟩ := h
      have hn' : noO ms = true := by
        cases m <;> first | exact hn | cases hn
      -- the first argument
      have one : ∃ W', EStep W0 H0 W' H ∧ WOk W' H ∧ ObsOk K W' H S ∧ ArgP K W' H d v m ∧ (∀ a x, W.F a = some x → W'.F a = some x) ∧ (∀ a, W'.F a ≠ none → W.F a ≠ none ∨ H0 a = none) ∧ W'.ow = W.ow := by
        cases m with
        | o => cases hn
        | b =>
          refine ⟨W, st, w, o, ?_, fun _ _ q => q, fun _ q => .inl q, rfl⟩
          cases r with
          | val x =>
            have q1' : (if boxAt S x = true then none else some x) = some d := q1
            split at q1'
            · cases q1'
            · cases q1'
              exact .inl h1
          | new x =>
            cases q1
            obtain ⟨p, e, c, n, z⟩ := h1
            exact .inr ⟨p, e, c.r, fun x _ => n x⟩
          | bor x =>
            cases q1
            obtain ⟨p, e, c, n⟩ := h1
            exact .inr ⟨p, e, c, n⟩
          | lk x =>
            cases q1
            obtain ⟨p, e, c, n⟩ := h1
            exact .inr ⟨p, e, c, n⟩
          | fld n f => cases q1
        | v =>
          have q1' : r.fz = some d := q1
          cases r with
          | val x =>
            cases q1'
            exact ⟨W, st, w, o, h1, fun _ _ q => q, fun _ q => .inl q, rfl⟩
          | new x =>
            cases q1'
            obtain ⟨p, rfl, c, n, z⟩ := h1
            obtain ⟨u', hu, hnf, ht⟩ := contX_ho c
            cases hf : W.F p with
            | none =>
              refine ⟨W.frz p u', frzAt_st st hf z, frzAt_w w hu hf n, frzAt_o w o hf, contX_rep (c.mono (frzAt_F hf) (fun _ _ q => q) rfl) ?_, frzAt_F hf, fun a q => ?_, rfl⟩
              · rw [hu]
                exact upd_same
              · by_cases ea : a = p
                · exact .inr (by rw [ea]; exact z)
                · have q' : upd W.F p u' a ≠ none := q
                  rw [upd_ne ea] at q'
                  exact .inl q'
            | some u2 =>
              refine ⟨W, st, w, o, contX_rep c ?_, fun _ _ q => q, fun _ q => .inl q, rfl⟩
              rcases w.sub p u2 hf with q | ⟨_, o', q⟩
              · rw [hf, q]
              · rw [hu] at q
                cases q
                exact absurd rfl (hnf _ _)
          | bor x => cases q1'
          | lk x => cases q1'
          | fld n f => cases q1'
      obtain ⟨Wa, sta, wa, oa, pa, hFa, hFna, hoa⟩ := one
      obtain ⟨Wb, stb, wb, ob, pb, hFb, hFnb, hob⟩ := way_in (vs := u) hn' sta wa oa (h2.mono hFa hoa) q2
      refine ⟨Wb, stb, wb, ob, ⟨d, dr, v, u, rfl, rfl, pa.mono hFb hob, pb⟩, fun a x q => hFb a x (hFa a x q), fun a q => ?_, hob.trans hoa⟩
      rcases hFnb a q with q | q
      · exact hFna a q
      · exact .inr q
    · cases e
/-- the callee's world, nothing handed over -/
def bare (W : Wd) : Wd := ⟨W.F, fun o => match o with
  | .sl _ => none
  | o => W.ow o⟩
theorem bare_ob {o : Ow} (h : o.isOb = true) : (bare W).ow o = W.ow o := by
  cases o with
  | sl i => cases h
  | fl n f => rfl
  | ob n => rfl
theorem bare_some {o : Ow} {a : Addr} (h : (bare W).ow o = some a) : o.isOb = true ∧ W.ow o = some a := by
  cases o with
  | sl i => cases h
  | fl n f => exact ⟨rfl, h⟩
  | ob n => exact ⟨rfl, h⟩
theorem bare_w (w : WOk W H) : WOk (bare W) H :=
  ⟨w.sub, fun x y a h1 h2 => w.inj x y a (bare_some h1).2 (bare_some h2).2, fun x a h => w.unF x a (bare_some h).2, fun x a h => w.alv x a (bare_some h).2, w.tupF⟩
theorem bare_o (o : ObsOk K W H S) : ObsOk K (bare W) H S := o.congr (fun _ _ q => q) fun x hx => bare_ob hx
theorem bare_args : ∀ {ms : List Mode} {ds : List D} {vs : List V} {i : Nat}, ArgsP K W H ms ds vs → ArgsOk K (bare W) H i ms ds vs
  | [], _, _, _, h => h
  | m :: ms, ds, vs, i, h => by
    obtain ⟨d, dr, v, vr, e1, e2, h1, h2⟩ := h
    refine ⟨d, dr, v, vr, e1, e2, ?_, bare_args h2⟩
    cases m with
    | v => exact Rep.mono (fun _ _ q => q) (fun _ _ q => q) d v h1
    | b =>
      rcases h1 with h1 | ⟨p, e, c, n⟩
      · exact .inl (Rep.mono (fun _ _ q => q) (fun _ _ q => q) d v h1)
      · exact .inr ⟨p, e, c.mono (fun _ _ q => q) (fun _ _ q => q) rfl, fun x q => n x (bare_some q).1 (bare_some q).2⟩
    | o => exact h1.elim
/-- .. the container at p handed over as the k-th -/
def hand (W : Wd) (k : Nat) (p : Addr) : Wd := ⟨W.F, fun o => match o with
  | .sl i => if i = k then some p else none
  | o => W.ow o⟩
theorem hand_ob {k : Nat} {p : Addr} {o : Ow} (h : o.isOb = true) : (hand W k p).ow o = W.ow o := by
  cases o with
  | sl i => cases h
  | fl n f => rfl
  | ob n => rfl
theorem hand_some {k : Nat} {p : Addr} {o : Ow} {a : Addr} (h : (hand W k p).ow o = some a) : (o.isOb = true ∧ W.ow o = some a) ∨ (o = .sl k ∧ a = p) := by
  cases o with
  | sl i =>
    have h' : (if i = k then some p else none) = some a := h
    split at h'
    · rename_i e
      cases h'
      exact .inr ⟨by rw [e], rfl⟩
    · cases h'
  | fl n f => exact .inl ⟨rfl, h⟩
  | ob n => exact .inl ⟨rfl, h⟩
theorem hand_w {k : Nat} {p : Addr} (w : WOk W H) (hp : H p ≠ none) (hf : W.F p = none) (n : ∀ o, W.ow o ≠ some p) : WOk (hand W k p) H where
  sub := w.sub
  inj x y a h1 h2 := by
    rcases hand_some h1 with ⟨_, q1⟩ | ⟨e1, q1⟩
    · rcases hand_some h2 with ⟨_, q2⟩ | ⟨e2, q2⟩
      · exact w.inj x y a q1 q2
      · rw [q2] at q1
        exact absurd q1 (n x)
    · rcases hand_some h2 with ⟨_, q2⟩ | ⟨e2, q2⟩
      · rw [q1] at q2
        exact absurd q2 (n y)
      · rw [e1, e2]
  unF x a h := by
    rcases hand_some h with ⟨_, q⟩ | ⟨_, q⟩
    · exact w.unF x a q
    · rw [q]
      exact hf
  alv x a h := by
    rcases hand_some h with ⟨_, q⟩ | ⟨_, q⟩
    · exact w.alv x a q
    · rw [q]
      exact hp
  tupF := w.tupF
theorem hand_o {k : Nat} {p : Addr} (o : ObsOk K W H S) : ObsOk K (hand W k p) H S := o.congr (fun _ _ q => q) fun x hx => hand_ob hx
theorem val_args {k : Nat} {p : Addr} (w : WOk W H) (hf : W.F p = none) : ∀ {ms : List Mode} {rs : List Rv} {ds : List D} {vs : List V} {i : Nat}, allVal ms rs = true → RGL K W H0 H rs vs → passA S ms rs = some ds → ArgsOk K (hand W k p) H i ms ds vs
  | [], [], ds, vs, i, _, h, e => by
    cases e
    exact ⟨rfl, h⟩
  | [], _ :: _, ds, vs, i, q, h, e => by cases e
  | _ :: _, [], ds, vs, i, q, h, e => by cases e
  | m :: ms, r :: rs, ds, vs, i, q, h, e => by
    unfold passA at e
    split at e
    · rename_i d dr q1 q2
      cases e
      obtain ⟨v, u, rfl, h1, h2⟩ := h
      cases r with
      | val x =>
        cases m with
        | v =>
          cases q1
          exact ⟨_, _, _, _, rfl, rfl, Rep.mono (fun _ _ q => q) (fun _ _ q => q) _ _ h1, val_args (ms := ms) (rs := rs) w hf q h2 q2⟩
        | b =>
          have q1' : (if boxAt S x = true then none else some x) = some d := q1
          split at q1'
          · cases q1'
          · cases q1'
            exact ⟨_, _, _, _, rfl, rfl, .inl (Rep.mono (fun _ _ q => q) (fun _ _ q => q) _ _ h1), val_args (ms := ms) (rs := rs) w hf q h2 q2⟩
        | o => cases q
      | new x => cases m <;> cases q
      | bor x => cases m <;> cases q
      | lk x => cases m <;> cases q
      | fld n f => cases m <;> cases q
    · cases e
theorem okO_args (w : WOk W H) : ∀ {ms : List Mode} {rs : List Rv} {ds : List D} {vs : List V} {i : Nat}, okO1 ms rs = true → RL K W H0 H rs vs → passA S ms rs = some ds →
    ∃ k p, (∃ j, ms[j]? = some .o ∧ i + j = k) ∧ H p ≠ none ∧ W.F p = none ∧ (∀ o, W.ow o ≠ some p) ∧ H0 p = none ∧ ArgsOk K (hand W k p) H i ms ds vs
  | [], [], ds, vs, i, q, h, e => by cases q
  | [], _ :: _, ds, vs, i, q, h, e => by cases q
  | m :: _, [], ds, vs, i, q, h, e => by cases m <;> cases q
  | m :: ms, r :: rs, ds, vs, i, q, h, e => by
    have e0 := e
    unfold passA at e
    split at e
    · rename_i d dr q1 q2
      cases e
      obtain ⟨v, u, rfl, h1, h2⟩ := h
      cases r with
      | val x =>
        cases m with
        | v =>
          cases q1
          obtain ⟨k, p, a1, a2, a3, a4, a5, a6⟩ := okO_args (ms := ms) (rs := rs) (vs := u) (i := i + 1) w q h2 q2
          obtain ⟨j, a1, a0⟩ := a1
          exact ⟨k, p, ⟨j + 1, by simpa using a1, by omega⟩, a2, a3, a4, a5, ⟨_, _, _, _, rfl, rfl, Rep.mono (fun _ _ q => q) (fun _ _ q => q) _ _ h1, a6⟩⟩
        | b =>
          have q1' : (if boxAt S x = true then none else some x) = some d := q1
          split at q1'
          · cases q1'
          · cases q1'
            obtain ⟨k, p, a1, a2, a3, a4, a5, a6⟩ := okO_args (ms := ms) (rs := rs) (vs := u) (i := i + 1) w q h2 q2
            obtain ⟨j, a1, a0⟩ := a1
            exact ⟨k, p, ⟨j + 1, by simpa using a1, by omega⟩, a2, a3, a4, a5, ⟨_, _, _, _, rfl, rfl, .inl (Rep.mono (fun _ _ q => q) (fun _ _ q => q) _ _ h1), a6⟩⟩
        | o => cases q
      | new x =>
        cases m with
        | v => cases q
        | b => cases q
        | o =>
          cases q1
          obtain ⟨p, rfl, c, n, on, z⟩ := h1
          exact ⟨i, p, ⟨0, rfl, rfl⟩, c.r.some, n, on, z, ⟨_, _, _, _, rfl, rfl, ⟨p, rfl, if_pos rfl, c.mono (fun _ _ q => q) (fun _ _ q => q) rfl⟩, val_args (ms := ms) (rs := rs) w n q h2.rgl q2⟩⟩
      | bor x => cases m <;> cases q
      | lk x => cases m <;> cases q
      | fld n f => cases m <;> cases q
    · cases e
theorem okV_args (w : WOk W H) (o : ObsOk K W H S) {ms : List Mode} {rs : List Rv} {ds : List D} {vs : List V} (q : okV ms rs = true) (h : RL K W H0 H rs vs) (e : passA S ms rs = some ds) :
    ∃ (W' : Wd) (p : Addr), ms = [.v, .o] ∧ WOk W' H ∧ ObsOk K W' H S ∧ (∀ a u, W.F a = some u → W'.F a = some u) ∧ (∀ a, W'.F a ≠ none → W.F a ≠ none ∨ H0 a = none) ∧ W'.ow = W.ow ∧ H p ≠ none ∧ W'.F p = none ∧ (∀ o, W'.ow o ≠ some p) ∧ H0 p = none ∧ ArgsOk K (hand W' 1 p) H 0 ms ds vs := by
  unfold okV at q
  split at q
  · rename_i a b
    obtain ⟨v1, u1, rfl, ⟨p1, rfl, c1, n1, on1, z1⟩, h2⟩ := h
    obtain ⟨v2, u2, rfl, ⟨p2, rfl, c2, n2, on2, z2⟩, h3⟩ := h2
    have h3' : u2 = [] := h3
    subst h3'
    have e' : some [D.lst a, D.dk b] = some ds := e
    cases e'
    obtain ⟨x1, hx1, hr1⟩ := c1
    obtain ⟨x2, hx2, hr2⟩ := c2
    have ne : p2 ≠ p1 := fun z => by
      rw [z, hx1] at hx2
      cases hx2
    have c1 : ContX K W H p1 (.lst a) := ⟨x1, hx1, hr1⟩
    have c2 : ContX K W H p2 (.dk b) := ⟨x2, hx2, hr2⟩
    refine ⟨W.frz p1 (.lst x1), p2, rfl, frzAt_w w hx1 n1 on1, frzAt_o w o n1, frzAt_F n1, fun a q => ?_, rfl, by rw [hx2]; simp, (upd_ne ne).trans n2, on2, z2, ?_⟩
    · by_cases ea : a = p1
      · exact .inr (by rw [ea]; exact z1)
      · have q' : upd W.F p1 (.lst x1) a ≠ none := q
        rw [upd_ne ea] at q'
        exact .inl q'
    · have r1 : RepW K (W.frz p1 (.lst x1)) (D.lst a) (V.ref p1) := contX_rep (c1.mono (frzAt_F n1) (fun _ _ q => q) rfl) (by rw [hx1]; exact upd_same)
      exact ⟨_, _, _, _, rfl, rfl, Rep.mono (fun _ _ q => q) (fun _ _ q => q) _ _ r1, _, _, _, _, rfl, rfl, ⟨p2, rfl, by rfl, c2.mono (frzAt_F n1) (fun _ _ q => q) rfl⟩, rfl, rfl⟩
  · cases q
theorem noO_not : ∀ {ms : List Mode} {i : Nat}, noO ms = true → ms[i]? ≠ some .o
  | [], i, _ => by simp
  | m :: ms, 0, h => by
    cases m with
    | v => simp
    | b => simp
    | o => cases h
  | m :: ms, i + 1, h => by
    have h' : noO ms = true := by
      cases m <;> first | exact h | cases h
    simpa using noO_not h'

/-! ### the call -/
/-- what comes back, and that the cells of W1 stand -/
def RvX (K : PySem.W.Frag) (W1 : Wd) : Wd → Hp → Hp → Rv → V → Prop := fun W' H0 H' rv v => RvOk K W' H0 H' rv v ∧ ∀ n a, W1.ow (.ob n) = some a → W'.ow (.ob n) = some a
theorem call_needX {sp : FnSpec} {rs : List Rv} {vs : List V} {Q : VK} {E : XK} (w0 : WOk W0 H0) (st : EStep W0 H0 W1 H1) (w1 : WOk W1 H1) (o1 : ObsOk K W1 H1 S1) (r1 : RL K W1 H0 H1 rs vs) (hE : E = fun cls d H => WX cls d σ H)
    (n : Need K WX (RvX K W1) W0 H0 σ Q (callS sp rs S1)) : Gsp K sp vs H1 Q E := by
  unfold callS at n
  split at n
  · rename_i hm
    split at n
    · rename_i ds hp
      -- the callee's world
      obtain ⟨Wc, wc, oc, ac, nc, hob, hF1, hF2, hsl⟩ : ∃ Wc : Wd, WOk Wc H1 ∧ ObsOk K Wc H1 S1 ∧ ArgsOk K Wc H1 0 sp.ms ds vs ∧ (∀ i, sp.ms[i]? ≠ some .o → Wc.ow (.sl i) = none) ∧ (∀ o, o.isOb = true → Wc.ow o = W1.ow o) ∧
          (∀ a u, W1.F a = some u → Wc.F a = some u) ∧ (∀ a, Wc.F a ≠ none → W1.F a ≠ none ∨ H0 a = none) ∧ ∀ i p, Wc.ow (.sl i) = some p → H0 p = none := by
        rcases Bool.or_eq_true_iff.mp hm with hm | hm
        · obtain ⟨W', st', w', o', a', hF, hFn, ho⟩ := way_in hm st w1 o1 r1.rgl hp
          exact ⟨bare W', bare_w w', bare_o o', bare_args a', fun i _ => rfl, fun o h => (bare_ob h).trans (congrFun ho o), hF, hFn, fun i p h => by cases h⟩
        · rcases Bool.or_eq_true_iff.mp hm with hm | hm
          rotate_left
          · obtain ⟨W', p, hms, w', o', hF, hFn, ho, a2, a3, a4, a5, a6⟩ := okV_args w1 o1 hm r1 hp
            refine ⟨hand W' 1 p, hand_w w' a2 a3 a4, hand_o o', a6, fun i hi => ?_, fun o h => (hand_ob h).trans (congrFun ho o), hF, hFn, fun i q h => ?_⟩
            · have hik : i ≠ 1 := fun e => hi (by rw [e, hms]; rfl)
              exact if_neg hik
            · rcases hand_some h with ⟨q', _⟩ | ⟨_, q'⟩
              · cases q'
              · rw [q']
                exact a5
          obtain ⟨k, p, a1, a2, a3, a4, a5, a6⟩ := okO_args (i := 0) w1 hm r1 hp
          refine ⟨hand W1 k p, hand_w w1 a2 a3 a4, hand_o o1, a6, fun i hi => ?_, fun o h => hand_ob h, fun _ _ q => q, fun _ q => .inl q, fun i q h => ?_⟩
          · obtain ⟨j, b1, b2⟩ := a1
            have hik : i ≠ k := fun e => hi (by rw [e, ← b2, Nat.zero_add]; exact b1)
            exact if_neg hik
          · rcases hand_some h with ⟨q', _⟩ | ⟨_, q'⟩
            · cases q'
            · rw [q']
              exact a5
      refine ⟨Wc, S1, ds, wc, oc, ac, nc, ?_⟩
      subst hE
      cases hr : sp.run ds S1 with
      | stuck =>
        rw [hr] at n
        exact n
      | exc c a S2 =>
        rw [hr] at n
        exact fun cls dd W2 H2 ss w2 o2 x _ => n cls dd (mix W0 W2) H2 (back_st w0 st hob hF1 hF2 hsl o1 ss) (back_w w0 st w1 wc hob hF2 hsl ss w2) (o2.congr (fun _ _ q => q) fun x hx => mix_ob hx) (back_exc x)
      | ok rv outs S2 =>
        rw [hr] at n
        cases rv with
        | val d => exact fun v W2 H2 ss w2 o2 x _ => n v (mix W0 W2) H2 (back_st w0 st hob hF1 hF2 hsl o1 ss) (back_w w0 st w1 wc hob hF2 hsl ss w2) (o2.congr (fun _ _ q => q) fun x hx => mix_ob hx) ⟨back_rv w0 st x (by simp), fun m a q => ss.ob m a ((hob (.ob m) rfl).trans q)⟩
        | new d => exact fun v W2 H2 ss w2 o2 x _ => n v (mix W0 W2) H2 (back_st w0 st hob hF1 hF2 hsl o1 ss) (back_w w0 st w1 wc hob hF2 hsl ss w2) (o2.congr (fun _ _ q => q) fun x hx => mix_ob hx) ⟨back_rv w0 st x (by simp), fun m a q => ss.ob m a ((hob (.ob m) rfl).trans q)⟩
        | bor d => exact n.elim
        | lk d => exact n.elim
        | fld m f => exact n.elim
    · exact n.elim
  · exact n.elim
theorem call_need {sp : FnSpec} {rs : List Rv} {vs : List V} {Q : VK} {E : XK} (w0 : WOk W0 H0) (st : EStep W0 H0 W1 H1) (w1 : WOk W1 H1) (o1 : ObsOk K W1 H1 S1) (r1 : RL K W1 H0 H1 rs vs) (hE : E = fun cls d H => WX cls d σ H)
    (n : Need K WX (RvOk K) W0 H0 σ Q (callS sp rs S1)) : Gsp K sp vs H1 Q E := by
  refine call_needX w0 st w1 o1 r1 hE ?_
  cases h : callS sp rs S1 with
  | ok a S2 =>
    rw [h] at n
    exact fun b W' H' s w o r => n b W' H' s w o r.1
  | exc c a S2 =>
    rw [h] at n
    exact n
  | stuck =>
    rw [h] at n
    exact n
end
end Wz

set_option Elab.async false
set_option linter.all false
set_option maxRecDepth 100000
set_option maxHeartbeats 4000000
namespace Wz
open PySem PySem.Spec PyProof.Rows L2

inductive SOut where
  | nx (ρ : List Slot) (S : List Cell) | rt (r : Rv) (ρ : List Slot) (S : List Cell) | exc (c : Str) (a : Option D) (ρ : List Slot) (S : List Cell) | stuck
/-- n0: the cells at the def's entry -/
abbrev EVS := Nat → List Slot → List Cell → SOut
/-- locked slots are locked from before, and hold what they held -/
def LK (ρ : List Slot) (σ : L2.St) (ρ' : List Slot) (σ' : L2.St) : Prop := ∀ (i : Nat) (d : D), ρ'[i]? = some (.lck d) → ρ[i]? = some (.lck d) ∧ σ'[i]? = σ[i]?
theorem LK.refl {ρ : List Slot} {σ : L2.St} : LK ρ σ ρ σ := fun _ _ h => ⟨h, rfl⟩
theorem LK.trans {ρ ρ1 ρ2 : List Slot} {σ σ1 σ2 : L2.St} (a : LK ρ σ ρ1 σ1) (b : LK ρ1 σ1 ρ2 σ2) : LK ρ σ ρ2 σ2 := fun i d h => by
  obtain ⟨h1, h2⟩ := b i d h
  obtain ⟨h3, h4⟩ := a i d h1
  exact ⟨h3, h2.trans h4⟩
theorem LK.set {ρ : List Slot} {σ : L2.St} {i : Nat} {s : Slot} {v : Option V} (hs : ∀ d, s ≠ .lck d) : LK ρ σ (ρ.set i s) (σ.set i v) := fun j d h => by
  by_cases e : i = j
  · subst e
    by_cases hi : i < ρ.length
    · rw [List.getElem?_set_self hi] at h
      exact absurd (Option.some.inj h) (hs d)
    · rw [List.getElem?_eq_none (by simpa using hi)] at h
      cases h
  · rw [List.getElem?_set_ne e] at h
    exact ⟨h, List.getElem?_set_ne e⟩
theorem LK.set' {ρ : List Slot} {σ : L2.St} {i : Nat} {s : Slot} (hs : ∀ d, s ≠ .lck d) : LK ρ σ (ρ.set i s) σ := fun j d h => by
  by_cases e : i = j
  · subst e
    by_cases hi : i < ρ.length
    · rw [List.getElem?_set_self hi] at h
      exact absurd (Option.some.inj h) (hs d)
    · rw [List.getElem?_eq_none (by simpa using hi)] at h
      cases h
  · rw [List.getElem?_set_ne e] at h
    exact ⟨h, rfl⟩
section
variable (K : PySem.W.Frag) (WX : L2.WX) (E0 : Hp) (np n0 : Nat)
def SNeed (ρ : List Slot) (W : Wd) (σ : L2.St) (H : Hp) (D : Ends) : SOut → Prop
  | .nx ρ' S' => ∀ W' σ' H', SStep n0 W H W' H' → Rel K E0 np W' ρ' S' σ' H' → n0 ≤ S'.length → LK ρ σ ρ' σ' → D.nx σ' H'
  | .rt rv ρ' S' => ∀ v W' σ' H', SStep n0 W H W' H' → Rel K E0 np W' ρ' S' σ' H' → n0 ≤ S'.length → RvOk K W' E0 H' rv v → D.rt v H'
  | .exc c a ρ' S' => ∀ cls dd W' σ' H', SStep n0 W H W' H' → Rel K E0 np W' ρ' S' σ' H' → n0 ≤ S'.length → LK ρ σ ρ' σ' → ExcOk K W' H' c a cls dd → WX cls dd σ' H'
  | .stuck => False
end
def SndS (K : PySem.W.Frag) (WX : L2.WX) (np : Nat) (t : TS) (ev : EVS) : Prop :=
  ∀ (E0 : Hp) (n0 : Nat) (W : Wd) (ρ : List Slot) (S : List Cell) (σ : L2.St) (H : Hp) (D : Ends), Rel K E0 np W ρ S σ H → n0 ≤ S.length → SNeed K WX E0 np n0 ρ W σ H D (ev n0 ρ S) → t D σ H
section
variable {K : PySem.W.Frag} {WX : L2.WX} {W W0 W1 W2 Wc : Wd} {H H0 H1 H2 H' : Hp} {σ : L2.St} {ρ : List Slot} {S S' S1 : List Cell} {E0 : Hp} {np n0 : Nat} {X : Cx} {D : Ends}
theorem SNeed.step {ρ1 : List Slot} {σ1 : L2.St} {o : SOut} (st : SStep n0 W H W1 H1) (lk : LK ρ σ ρ1 σ1) (n : SNeed K WX E0 np n0 ρ W σ H D o) : SNeed K WX E0 np n0 ρ1 W1 σ1 H1 D o := by
  cases o with
  | nx ρ S => exact fun W' σ' H' s r l k => n W' σ' H' (st.trans s) r l (lk.trans k)
  | rt rv ρ S => exact fun v W' σ' H' s r l x => n v W' σ' H' (st.trans s) r l x
  | exc c a ρ S => exact fun cls dd W' σ' H' s r l k x => n cls dd W' σ' H' (st.trans s) r l (lk.trans k) x
  | stuck => exact n
/-- the cells only grow -/
theorem obs_len (o : ObsOk K W H S) (o1 : ObsOk K W1 H1 S1) (ob : ∀ n a, W.ow (.ob n) = some a → W1.ow (.ob n) = some a) : S.length ≤ S1.length := by
  rcases Nat.lt_or_ge S1.length S.length with h | h
  · exfalso
    have e : S[S1.length]? = some S[S1.length] := List.getElem?_eq_getElem h
    have q := o.at_ _ _ e
    have z := (o1.nob S1.length (Nat.le_refl _)).1
    cases hc : S[S1.length] with
    | ins c fs =>
      rw [hc] at q
      obtain ⟨a, _, _, h1, _⟩ := q
      rw [ob _ _ h1] at z
      cases z
    | box d =>
      rw [hc] at q
      obtain ⟨a, h1, _⟩ := q
      rw [ob _ _ h1] at z
      cases z
    | lbx d =>
      rw [hc] at q
      obtain ⟨a, h1, _⟩ := q
      rw [ob _ _ h1] at z
      cases z
  · exact h
/-- an expression in a statement -/
def sE {α : Type} (x : Out α) (ρ : List Slot) (k : α → List Cell → SOut) : SOut := match x with
  | .ok a S => k a S
  | .exc c a S => .exc c a ρ S
  | .stuck => .stuck
@[simp] theorem sE_ok {α : Type} (a : α) (S : List Cell) (ρ : List Slot) (k : α → List Cell → SOut) : sE (.ok a S) ρ k = k a S := rfl
@[simp] theorem sE_exc {α : Type} (c : Str) (a : Option Wz.D) (S : List Cell) (ρ : List Slot) (k : α → List Cell → SOut) : sE (.exc c a S) ρ k = .exc c a ρ S := rfl
@[simp] theorem sE_stuck {α : Type} (ρ : List Slot) (k : α → List Cell → SOut) : sE (.stuck : Out α) ρ k = .stuck := rfl
theorem SNeed.bind {α β : Type} {R : Wd → Hp → Hp → α → β → Prop} {x : Out α} {k : α → List Cell → SOut} {Q : β → Hp → Prop} (r : Rel K E0 np W ρ S σ H) (hl : n0 ≤ S.length)
    (n : SNeed K WX E0 np n0 ρ W σ H D (sE x ρ k)) (h : ∀ a S', x = .ok a S' → ∀ b W1 H1, EStep W H W1 H1 → Rel K E0 np W1 ρ S' σ H1 → n0 ≤ S'.length → R W1 H H1 a b → SNeed K WX E0 np n0 ρ W σ H D (k a S') → Q b H1) : Need K WX R W H σ Q x := by
  cases x with
  | ok a S' => exact fun b W1 H1 st w o rr => h a S' rfl b W1 H1 st (r.estep st w o) (Nat.le_trans hl (obs_len r.obs o st.ob)) rr n
  | exc c a S' => exact fun cls dd W1 H1 st w o x => n cls dd W1 σ H1 st.st (r.estep st w o) (Nat.le_trans hl (obs_len r.obs o st.ob)) .refl x
  | stuck => exact n

/-! ### blocks -/
def sNil : EVS := fun _ ρ S => .nx ρ S
def sSeq (a b : EVS) : EVS := fun n0 ρ S => match a n0 ρ S with
  | .nx ρ1 S1 => b n0 ρ1 S1
  | o => o
theorem snds_nil : SndS K WX np tNext sNil := by
  intro E0 n0 W ρ S σ H D r hl n
  exact n W σ H .refl r hl .refl
theorem snds_seq {t u : TS} {a b : EVS} (ha : SndS K WX np t a) (hb : SndS K WX np u b) : SndS K WX np (tSeq t u) (sSeq a b) := by
  intro E0 n0 W ρ S σ H D r hl n
  refine ha E0 n0 W ρ S σ H _ r hl ?_
  unfold sSeq at n
  cases q : a n0 ρ S with
  | nx ρ1 S1 =>
    rw [q] at n
    exact fun W1 σ1 H1 st r1 hl1 lk => hb E0 n0 W1 ρ1 S1 σ1 H1 D r1 hl1 (SNeed.step st lk n)
  | rt rv ρ1 S1 =>
    rw [q] at n
    exact n
  | exc c x ρ1 S1 =>
    rw [q] at n
    exact n
  | stuck =>
    rw [q] at n
    exact n
def sDrop (e : EV Rv) : EVS := fun _ ρ S => sE (e ρ S) ρ fun _ S1 => .nx ρ S1
theorem snds_drop {te : TE} {e : EV Rv} (h : Snd K WX (RvOk K) te e) : SndS K WX np (tDrop te) (sDrop e) := by
  intro E0 n0 W ρ S σ H D r hl n
  exact h E0 np W ρ S σ H _ r (SNeed.bind r hl n fun a S' _ b W1 H1 st r1 hl1 _ n1 => n1 W1 σ H1 st.st r1 hl1 .refl)
def sIf (c : EV Bool) (a b : EVS) : EVS := fun n0 ρ S => sE (c ρ S) ρ fun x S1 => if x = true then a n0 ρ S1 else b n0 ρ S1
theorem snds_if {tc : TT} {t u : TS} {c : EV Bool} {a b : EVS} (hc : Snd K WX RB tc c) (ha : SndS K WX np t a) (hb : SndS K WX np u b) : SndS K WX np (tIfS tc t u) (sIf c a b) := by
  intro E0 n0 W ρ S σ H D r hl n
  refine hc E0 np W ρ S σ H _ r (SNeed.bind r hl n fun x S' _ x' W1 H1 st r1 hl1 e n1 => ?_)
  have e' : x = x' := e
  subst e'
  cases x with
  | true => exact ha E0 n0 W1 ρ S' σ H1 D r1 hl1 (SNeed.step st.st .refl n1)
  | false => exact hb E0 n0 W1 ρ S' σ H1 D r1 hl1 (SNeed.step st.st .refl n1)

/-! ### slots -/
/-- an address for an owner, or none -/
def Wd.put (W : Wd) (o : Ow) (a : Option Addr) : Wd := ⟨W.F, fun x => if x = o then a else W.ow x⟩
theorem put_same {o : Ow} {a : Option Addr} : (W.put o a).ow o = a := if_pos rfl
theorem put_ne {o x : Ow} {a : Option Addr} (h : x ≠ o) : (W.put o a).ow x = W.ow x := if_neg h
theorem put_ob {i n : Nat} {a : Option Addr} : (W.put (.sl i) a).ow (.ob n) = W.ow (.ob n) := put_ne fun e => Ow.noConfusion e
theorem put_fl {i n : Nat} {f : Str} {a : Option Addr} : (W.put (.sl i) a).ow (.fl n f) = W.ow (.fl n f) := put_ne fun e => Ow.noConfusion e
theorem drop_w {o : Ow} (w : WOk W H) : WOk (W.put o none) H where
  sub := w.sub
  inj x y a h1 h2 := by
    by_cases ex : x = o
    · rw [ex, put_same] at h1; cases h1
    · by_cases ey : y = o
      · rw [ey, put_same] at h2; cases h2
      · rw [put_ne ex] at h1
        rw [put_ne ey] at h2
        exact w.inj x y a h1 h2
  unF x a h := by
    by_cases ex : x = o
    · rw [ex, put_same] at h; cases h
    · rw [put_ne ex] at h
      exact w.unF x a h
  alv x a h := by
    by_cases ex : x = o
    · rw [ex, put_same] at h; cases h
    · rw [put_ne ex] at h
      exact w.alv x a h
  tupF := w.tupF
theorem own_w {o : Ow} {p : Addr} (w : WOk W H) (hp : H p ≠ none) (hf : W.F p = none) (n : ∀ x, W.ow x ≠ some p) : WOk (W.put o (some p)) H where
  sub := w.sub
  inj x y a h1 h2 := by
    by_cases ex : x = o
    · by_cases ey : y = o
      · rw [ex, ey]
      · rw [ex, put_same] at h1
        rw [put_ne ey, ← h1] at h2
        exact absurd h2 (n y)
    · rw [put_ne ex] at h1
      by_cases ey : y = o
      · rw [ey, put_same] at h2
        rw [← h2] at h1
        exact absurd h1 (n x)
      · rw [put_ne ey] at h2
        exact w.inj x y a h1 h2
  unF x a h := by
    by_cases ex : x = o
    · rw [ex, put_same] at h
      cases h
      exact hf
    · rw [put_ne ex] at h
      exact w.unF x a h
  alv x a h := by
    by_cases ex : x = o
    · rw [ex, put_same] at h
      cases h
      exact hp
    · rw [put_ne ex] at h
      exact w.alv x a h
  tupF := w.tupF
theorem put_sl_o {i : Nat} {a : Option Addr} (o : ObsOk K W H S) : ObsOk K (W.put (.sl i) a) H S := o.congr (fun _ _ q => q) fun x hx => put_ne (by intro e; rw [e] at hx; cases hx)
theorem set_get {α : Type} {l : List α} {i j : Nat} {x y : α} (h : (l.set i x)[j]? = some y) : (i = j ∧ y = x ∧ i < l.length) ∨ (i ≠ j ∧ l[j]? = some y) := by
  by_cases e : i = j
  · subst e
    by_cases hi : i < l.length
    · rw [List.getElem?_set_self hi] at h
      cases h
      exact .inl ⟨rfl, rfl, hi⟩
    · rw [List.getElem?_eq_none (by simpa using hi)] at h
      cases h
  · rw [List.getElem?_set_ne e] at h
    exact .inr ⟨e, h⟩
/-- what does not name the slot's owner is as it was -/
theorem SlotOk.put {i j : Nat} {a : Option Addr} {s : Slot} {σ' : L2.St} (hij : i ≠ j) (hs : ∀ v, σ[j]? = some (some v) → σ'[j]? = some (some v)) (hl : ∀ d p, s = .lck d → σ[j]? = some (some (.ref p)) → a ≠ some p) (h : SlotOk K W H σ j s) : SlotOk K (W.put (.sl i) a) H σ' j s := by
  have ho : ∀ n x, W.ow (.ob n) = some x → (W.put (.sl i) a).ow (.ob n) = some x := fun n x q => put_ob.trans q
  cases s with
  | non => exact True.intro
  | val d =>
    obtain ⟨v, h1, h2⟩ := h
    exact ⟨v, hs v h1, Rep.mono (fun _ _ q => q) ho d v h2⟩
  | own d =>
    obtain ⟨p, h1, h2, h3⟩ := h
    exact ⟨p, hs _ h1, (put_ne (by intro e; exact hij (Ow.sl.inj e).symm)).trans h2, h3.mono (fun _ _ q => q) ho rfl⟩
  | lck d =>
    obtain ⟨p, h1, h2, h3⟩ := h
    refine ⟨p, hs _ h1, fun x => ?_, h3.mono (fun _ _ q => q) ho rfl⟩
    by_cases ex : x = .sl i
    · rw [ex, put_same]
      exact hl d p rfl h1
    · rw [put_ne ex]
      exact h2 x
/-- slot i takes a plain value, whatever it held -/
theorem rel_val {i : Nat} {d : Wz.D} {v : V} (r : Rel K E0 np W ρ S σ H) (h : RepW K W d v) : Rel K E0 np (W.put (.sl i) none) (ρ.set i (.val d)) S (σ.set i (some v)) H where
  wok := drop_w r.wok
  obs := put_sl_o r.obs
  slots j s e := by
    rcases set_get e with ⟨rfl, rfl, hi⟩ | ⟨hij, e⟩
    · exact ⟨v, List.getElem?_set_self (by rw [← r.len]; exact hi), Rep.mono (fun _ _ q => q) (fun n x q => put_ob.trans q) d v h⟩
    · exact (r.slots j s e).put hij (fun v q => by rw [List.getElem?_set_ne hij]; exact q) fun _ _ _ _ z => by cases z
  len := by rw [List.length_set, List.length_set]; exact r.len
  nsl j h := by
    by_cases e : j = i
    · rw [e]
      exact put_same
    · rw [put_ne (by intro q; exact e (Ow.sl.inj q))]
      refine r.nsl j fun d z => h d ?_
      rw [List.getElem?_set_ne (Ne.symm e)]
      exact z
  frs j p h := by
    by_cases e : j = i
    · rw [e, put_same] at h
      cases h
    · rw [put_ne (by intro q; exact e (Ow.sl.inj q))] at h
      exact r.frs j p h
  ent := r.ent
theorem put_none_st {i : Nat} : SStep n0 W H (W.put (.sl i) none) H where
  keep _ _ h _ := h
  F _ _ h := h
  Fn _ h := .inl h
  ob n a h := put_ob.trans h
  fl n f a _ h := put_fl.trans h
  own o a h := by
    by_cases e : o = .sl i
    · rw [e, put_same] at h
      cases h
    · rw [put_ne e] at h
      exact .inl h
  liv _ h := h
  fz _ _ _ h := h
/-- slot i takes a new container; hs: it was made behind the heap Hs, in which the slots' locked containers stand -/
theorem rel_own {i : Nat} {d : Wz.D} {p : Addr} (r : Rel K E0 np W ρ S σ H) (hi : i < ρ.length) (c : ContX K W H p d) (hf : W.F p = none) (n : ∀ x, W.ow x ≠ some p) (h0 : E0 p = none) (hk : ∀ (j : Nat) (d : Wz.D) (q : Addr), ρ[j]? = some (.lck d) → σ[j]? = some (some (.ref q)) → q ≠ p) :
    Rel K E0 np (W.put (.sl i) (some p)) (ρ.set i (.own d)) S (σ.set i (some (.ref p))) H where
  wok := own_w r.wok c.r.some hf n
  obs := put_sl_o r.obs
  slots j s e := by
    rcases set_get e with ⟨rfl, rfl, hi⟩ | ⟨hij, e⟩
    · exact ⟨p, List.getElem?_set_self (by rw [← r.len]; exact hi), put_same, c.mono (fun _ _ q => q) (fun n x q => put_ob.trans q) rfl⟩
    · refine (r.slots j s e).put hij (fun v q => by rw [List.getElem?_set_ne hij]; exact q) fun d' q es eσ z => ?_
      subst es
      exact hk j d' q e eσ (Option.some.inj z).symm
  len := by rw [List.length_set, List.length_set]; exact r.len
  nsl j h := by
    by_cases e : j = i
    · subst e
      exact absurd (List.getElem?_set_self hi) (h d)
    · rw [put_ne (by intro q; exact e (Ow.sl.inj q))]
      refine r.nsl j fun d' z => h d' ?_
      rw [List.getElem?_set_ne (Ne.symm e)]
      exact z
  frs j q h := by
    by_cases e : j = i
    · rw [e, put_same] at h
      cases h
      exact fun _ => h0
    · rw [put_ne (by intro q; exact e (Ow.sl.inj q))] at h
      exact r.frs j q h
  ent := r.ent
theorem put_own_st {i : Nat} {p : Addr} (st : EStep W H W1 H1) (z : H p = none) : SStep n0 W H (W1.put (.sl i) (some p)) H1 where
  keep := st.st (n0 := n0) |>.keep
  F := st.F
  Fn a h := (st.Fn a h).imp id .inl
  ob x a q := put_ob.trans (st.ob x a q)
  fl x f a _ q := put_fl.trans (st.fl x f a q)
  own o a q := by
    by_cases eo : o = .sl i
    · rw [eo, put_same] at q
      cases q
      exact .inr z
    · rw [put_ne eo] at q
      exact st.own o a q
  liv := st.liv
  fz := st.fz
/-- name = e; m: a container that is changed later -/
def sSet (i : Nat) (m : Bool) (e : EV Rv) : EVS := fun _ ρ S => sE (e ρ S) ρ fun r S1 => if i < ρ.length then match r with
  | .val d => .nx (ρ.set i (.val d)) S1
  | .new d => .nx (ρ.set i (if m = true then .own d else .val d)) S1
  | _ => .stuck
  else .stuck
theorem Rel.freeze {rv : Rv} {d : Wz.D} {v : V} (st : EStep W0 H0 W H) (r : Rel K E0 np W ρ S σ H) (h : RF K W H0 H rv v) (e : rv.fz = some d) (hk : ∀ (j : Nat) (d : Wz.D) (q : Addr), ρ[j]? = some (.lck d) → σ[j]? = some (some (.ref q)) → H0 q ≠ none) :
    ∃ W', EStep W0 H0 W' H ∧ Rel K E0 np W' ρ S σ H ∧ RepW K W' d v := by
  obtain ⟨W', st', w', o', r', hF, ho⟩ := h.freeze st r.wok r.obs e
  have ho' : ∀ n a, W.ow (.ob n) = some a → W'.ow (.ob n) = some a := fun n a q => (congrFun ho (.ob n)).trans q
  refine ⟨W', st', ⟨w', o', fun i s es => ?_, r.len, fun i hi => (congrFun ho _).trans (r.nsl i hi), fun i p q => r.frs i p ((congrFun ho _).symm.trans q), r.ent⟩, r'⟩
  have q := r.slots i s es
  cases s with
  | non => exact True.intro
  | val x =>
    obtain ⟨v, h1, h2⟩ := q
    exact ⟨v, h1, Rep.mono hF ho' x v h2⟩
  | own x =>
    obtain ⟨p, h1, h2, h3⟩ := q
    exact ⟨p, h1, (congrFun ho _).trans h2, h3.mono hF ho' rfl⟩
  | lck x =>
    obtain ⟨p, h1, h2, h3⟩ := q
    exact ⟨p, h1, fun y => by rw [ho]; exact h2 y, h3.mono hF ho' rfl⟩
theorem lck_alive (r : Rel K E0 np W ρ S σ H) (j : Nat) (d : Wz.D) (q : Addr) (e : ρ[j]? = some (.lck d)) (eσ : σ[j]? = some (some (.ref q))) : H q ≠ none := by
  obtain ⟨p, h1, _, h3⟩ := r.slots j _ e
  rw [h1] at eσ
  cases eσ
  exact h3.some
theorem snds_set {i : Nat} {m : Bool} {te : TE} {e : EV Rv} (h : Snd K WX (RvOk K) te e) : SndS K WX np (tAsg te (gName i)) (sSet i m e) := by
  intro E0 n0 W ρ S σ H D r hl n
  refine h E0 np W ρ S σ H _ r (SNeed.bind r hl n fun rv S' _ v W1 H1 st r1 hl1 rr n1 => ?_)
  split at n1
  · rename_i hi
    split at n1
    · exact n1 _ _ _ (st.st.trans put_none_st) (rel_val r1 rr) hl1 (.set fun _ z => by cases z)
    · rename_i d _
      cases m with
      | true =>
        rw [if_pos rfl] at n1
        obtain ⟨p, rfl, c, hf, no, z⟩ := rr
        have e0 : E0 p = none := Classical.byContradiction fun q => r.ent p q z
        exact n1 _ _ _ (put_own_st st z) (rel_own r1 hi c hf no e0 fun j d' q ej eσ e => lck_alive r j d' q ej eσ (by rw [e]; exact z)) hl1 (.set fun _ z => by cases z)
      | false =>
        rw [if_neg (by decide)] at n1
        obtain ⟨W2, st2, r2, rep⟩ := Rel.freeze (rv := .new d) (d := d) st r1 (RvOk.rf rr rfl) rfl (lck_alive r)
        exact n1 _ _ _ (st2.st.trans put_none_st) (rel_val r2 rep) hl1 (.set fun _ z => by cases z)
    · exact n1.elim
  · exact n1.elim
end
end Wz

set_option Elab.async false
set_option linter.all false
set_option maxRecDepth 100000
set_option maxHeartbeats 4000000
namespace Wz
open PySem PySem.Spec PyProof.Rows L2

section
variable {K : PySem.W.Frag} {WX : L2.WX} {W W0 W1 W2 Wc : Wd} {H H0 H1 H2 H' : Hp} {σ : L2.St} {ρ : List Slot} {S S' S1 : List Cell} {E0 : Hp} {np n0 : Nat} {X : Cx} {D : Ends}
/-! ### returns -/
def sRet (e : EV Rv) : EVS := fun _ ρ S => sE (e ρ S) ρ fun r S1 => .rt r ρ S1
theorem snds_ret {te : TE} {e : EV Rv} (h : Snd K WX (RvOk K) te e) : SndS K WX np (tRet te) (sRet e) := by
  intro E0 n0 W ρ S σ H D r hl n
  exact h E0 np W ρ S σ H _ r (SNeed.bind r hl n fun rv S' _ v W1 H1 st r1 hl1 rr n1 => n1 v W1 σ H1 st.st r1 hl1 (rr.weak r.ent))
def sRetN : EVS := fun _ ρ S => .rt (.val .non) ρ S
theorem snds_retN : SndS K WX np tRetN sRetN := by
  intro E0 n0 W ρ S σ H D r hl n
  exact n .non W σ H .refl r hl rfl
/-- slot i is forgotten -/
theorem rel_non {i : Nat} (r : Rel K E0 np W ρ S σ H) : Rel K E0 np (W.put (.sl i) none) (ρ.set i .non) S σ H where
  wok := drop_w r.wok
  obs := put_sl_o r.obs
  slots j s e := by
    rcases set_get e with ⟨rfl, rfl, hi⟩ | ⟨hij, e⟩
    · exact True.intro
    · exact (r.slots j s e).put hij (fun v q => q) fun _ _ _ _ z => by cases z
  len := by rw [List.length_set]; exact r.len
  nsl j h := by
    by_cases e : j = i
    · rw [e]
      exact put_same
    · rw [put_ne (by intro q; exact e (Ow.sl.inj q))]
      refine r.nsl j fun d z => h d ?_
      rw [List.getElem?_set_ne (Ne.symm e)]
      exact z
  frs j p h := by
    by_cases e : j = i
    · rw [e, put_same] at h
      cases h
    · rw [put_ne (by intro q; exact e (Ow.sl.inj q))] at h
      exact r.frs j p h
  ent := r.ent
/-- the def's own container is told -/
def sRetSlot (np i : Nat) : EVS := fun _ ρ S => match ρ[i]? with
  | some (.val d) => .rt (.val d) ρ S
  | some (.own d) => if np ≤ i then .rt (.new d) (ρ.set i .non) S else .stuck
  | _ => .stuck
theorem snds_retSlot {i : Nat} : SndS K WX np (tRet (tVar i)) (sRetSlot np i) := by
  intro E0 n0 W ρ S σ H D r hl n
  unfold sRetSlot at n
  cases e : ρ[i]? with
  | none => rw [e] at n; exact n.elim
  | some s =>
    rw [e] at n
    have q := r.slots i s e
    cases s with
    | non => exact n.elim
    | lck d => exact n.elim
    | val d =>
      obtain ⟨v, h1, h2⟩ := q
      exact ⟨v, h1, n v W σ H .refl r hl h2⟩
    | own d =>
      obtain ⟨p, h1, h2, h3⟩ := q
      refine ⟨_, h1, ?_⟩
      have n' : SNeed K WX E0 np n0 ρ W σ H D (if np ≤ i then .rt (.new d) (ρ.set i .non) S else .stuck) := n
      split at n'
      · rename_i hi
        refine n' (.ref p) _ σ H put_none_st (rel_non r) hl ⟨p, rfl, h3.mono (fun _ _ q => q) (fun n x q => put_ob.trans q) rfl, r.wok.unF _ _ h2, fun o z => ?_, r.frs i p h2 hi⟩
        by_cases eo : o = .sl i
        · rw [eo, put_same] at z
          cases z
        · rw [put_ne eo] at z
          exact eo (r.wok.inj _ _ _ z h2)
      · exact n'.elim

/-! ### binding of a turn's item -/
inductive Tg where
  | nm (i : Nat) | tp (l : List Nat) | np (i : Nat) (l : List Nat)
def bindL : List Nat → List Wz.D → List Slot → Option (List Slot)
  | [], [], ρ => some ρ
  | i :: is, d :: ds, ρ => if i < ρ.length then bindL is ds (ρ.set i (.val d)) else none
  | _, _, _ => none
def bindT : Tg → Wz.D → List Slot → Option (List Slot)
  | .nm i, d, ρ => if i < ρ.length then some (ρ.set i (.val d)) else none
  | .tp is, d, ρ => match asT d with
    | some l => bindL is l ρ
    | none => none
  | .np i is, d, ρ => match asT d with
    | some [a, b] => if i < ρ.length then (match asT b with
      | some l => bindL is l (ρ.set i (.val a))
      | none => none) else none
    | _ => none
/-- a target: what the machine's store does to slots that stand for ρ -/
def SndG (K : PySem.W.Frag) (g : TG) (b : Wz.D → List Slot → Option (List Slot)) : Prop :=
  ∀ (E0 : Hp) (np n0 : Nat) (W : Wd) (ρ : List Slot) (S : List Cell) (σ : L2.St) (H : Hp) (v : V) (d : Wz.D) (ρ' : List Slot) (Q : L2.St → Hp → Prop), Rel K E0 np W ρ S σ H → RepW K W d v → b d ρ = some ρ' →
    (∀ W' σ', SStep n0 W H W' H → Rel K E0 np W' ρ' S σ' H → LK ρ σ ρ' σ' → Q σ' H) → g v σ H Q
def gNames : List Nat → TGs
  | [] => gNil
  | i :: is => gCons (gName i) (gNames is)
theorem bindL_ok : ∀ (is : List Nat) (ds : List Wz.D) (vs : List V) (W : Wd) (ρ ρ' : List Slot) (σ : L2.St) (Q : L2.St → Hp → Prop), Rel K E0 np W ρ S σ H → RepLW K W ds vs → bindL is ds ρ = some ρ' →
    (∀ W' σ', SStep n0 W H W' H → Rel K E0 np W' ρ' S σ' H → LK ρ σ ρ' σ' → Q σ' H) → gNames is vs σ H Q
  | [], [], vs, W, ρ, ρ', σ, Q, r, h, e, k => by
    cases e
    exact ⟨h, k W σ .refl r .refl⟩
  | [], _ :: _, vs, W, ρ, ρ', σ, Q, r, h, e, k => by cases e
  | _ :: _, [], vs, W, ρ, ρ', σ, Q, r, h, e, k => by cases e
  | i :: is, d :: ds, vs, W, ρ, ρ', σ, Q, r, h, e, k => by
    obtain ⟨v, w, rfl, h1, h2⟩ := h
    have e' : (if i < ρ.length then bindL is ds (ρ.set i (.val d)) else none) = some ρ' := e
    split at e'
    · refine ⟨v, w, rfl, ?_⟩
      have st : SStep n0 W H (W.put (.sl i) none) H := put_none_st
      exact bindL_ok is ds w _ _ ρ' _ Q (rel_val r h1) (RepL.mono (fun _ _ q => q) (fun n x q => put_ob.trans q) ds w h2) e' fun W' σ' s r' lk => k W' σ' (st.trans s) r' ((LK.set fun _ z => by cases z).trans lk)
    · cases e'
theorem sndg_nm {i : Nat} : SndG K (gName i) (bindT (.nm i)) := by
  intro E0 np n0 W ρ S σ H v d ρ' Q r h e k
  have e' : (if i < ρ.length then some (ρ.set i (.val d)) else none) = some ρ' := e
  split at e'
  · cases e'
    exact k _ _ put_none_st (rel_val r h) (.set fun _ z => by cases z)
  · cases e'
theorem sndg_tp {is : List Nat} : SndG K (gTup K is.length (gNames is)) (bindT (.tp is)) := by
  intro E0 np n0 W ρ S σ H v d ρ' Q r h e k
  have e0 : (match asT d with | some l => bindL is l ρ | none => none) = some ρ' := e
  clear e
  cases el : asT d with
  | none => rw [el] at e0; cases e0
  | some l =>
    rw [el] at e0
    have e : bindL is l ρ = some ρ' := e0
    clear e0
    obtain ⟨p, vs, rfl, hs, hr⟩ := Rdg.asT r.wok (.inl h) el
    refine ⟨p, vs, rfl, hs, ?_, bindL_ok is l vs W ρ ρ' σ Q r hr e k⟩
    rw [hr.length]
    clear hs hr k el r h
    induction is generalizing l ρ with
    | nil =>
      cases l with
      | nil => rfl
      | cons x y => cases e
    | cons i is ih =>
      cases l with
      | nil => cases e
      | cons x y =>
        have e' : (if i < ρ.length then bindL is y (ρ.set i (.val x)) else none) = some ρ' := e
        split at e'
        · simp [ih _ _ e']
        · cases e'

theorem sndg_np {i : Nat} {is : List Nat} : SndG K (gTup K 2 (gCons (gName i) (gCons (gTup K is.length (gNames is)) gNil))) (bindT (.np i is)) := by
  intro E0 np n0 W ρ S σ H v d ρ' Q r h e k
  have e0 : (match asT d with
    | some [a, b] => if i < ρ.length then (match asT b with
      | some l => bindL is l (ρ.set i (.val a))
      | none => none) else none
    | _ => none) = some ρ' := e
  cases el : asT d with
  | none => rw [el] at e0; cases e0
  | some l =>
    rw [el] at e0
    match l, el, e0 with
    | [], _, e0 => cases e0
    | [_], _, e0 => cases e0
    | _ :: _ :: _ :: _, _, e0 => cases e0
    | [a, b], el, e0 =>
      have e1 : (if i < ρ.length then (match asT b with
        | some l => bindL is l (ρ.set i (.val a))
        | none => none) else none) = some ρ' := e0
      split at e1
      · obtain ⟨p, vs, rfl, hs, hr⟩ := Rdg.asT r.wok (.inl h) el
        obtain ⟨va, w, rfl, h1, vb, w2, rfl, h2, h3⟩ := hr
        have h3' : w2 = [] := h3
        subst h3'
        have st : SStep n0 W H (W.put (.sl i) none) H := put_none_st
        refine ⟨p, _, rfl, hs, rfl, va, [vb], rfl, vb, [], rfl, ?_⟩
        exact sndg_tp E0 np n0 _ _ S _ H vb b ρ' _ (rel_val r h1) (Rep.mono (fun _ _ q => q) (fun n x q => put_ob.trans q) b vb h2) e1 fun W' σ' s r' lk => ⟨rfl, k W' σ' (st.trans s) r' ((LK.set fun _ z => by cases z).trans lk)⟩
      · cases e1

/-! ### for -/
/-- the items of an iterator; they stand while the frozen part of the world stands -/
structure Its where
  l : List Wz.D
  g : Option (Nat × Wz.D) := none
/-- the box that is walked is as it was -/
def gdOk (S : List Cell) : Option (Nat × Wz.D) → Prop
  | none => True
  | some q => S[q.1]? = some (.box q.2)
def RI (K : PySem.W.Frag) : Wd → Hp → Hp → Its → It → Prop := fun W _ H its J =>
  ∃ (G : Hp → Prop) (Y : Nat → Hp → V → Hp → Prop), Walk J its.l.length G Y ∧
    (∀ W' H' S', WOk W' H' → ObsOk K W' H' S' → gdOk S' its.g → (∀ a u, W.F a = some u → W'.F a = some u) → (∀ n a, W.ow (.ob n) = some a → W'.ow (.ob n) = some a) → (∀ a o u, H a = some (.frz o u) → H' a = some (.frz o u)) → G H') ∧
    ∀ i H' x H'' W' S, i < its.l.length → G H' → WOk W' H' → ObsOk K W' H' S → gdOk S its.g → (∀ a u, W.F a = some u → W'.F a = some u) → (∀ n a, W.ow (.ob n) = some a → W'.ow (.ob n) = some a) → Y i H' x H'' →
      ∃ W'' d, EStep W' H' W'' H'' ∧ WOk W'' H'' ∧ ObsOk K W'' H'' S ∧ its.l[i]? = some d ∧ RepW K W'' d x
/-- slots are forgotten -/
def clrs : List Nat → List Slot → List Slot
  | [], ρ => ρ
  | i :: r, ρ => clrs r (ρ.set i .non)
theorem rel_clrs {n0 : Nat} : ∀ (l : List Nat) {W : Wd} {ρ : List Slot}, Rel K E0 np W ρ S σ H → ∃ W', SStep n0 W H W' H ∧ Rel K E0 np W' (clrs l ρ) S σ H ∧ LK ρ σ (clrs l ρ) σ
  | [], W, ρ, r => ⟨W, .refl, r, .refl⟩
  | i :: l, W, ρ, r => by
    obtain ⟨W', a, b, c⟩ := rel_clrs l (rel_non (i := i) r)
    have st : SStep n0 W H (W.put (.sl i) none) H := put_none_st
    exact ⟨W', st.trans a, b, (LK.set' (fun _ z => by cases z)).trans c⟩
/-- p or nothing -/
noncomputable def onlyIf {α : Type} (p : Prop) (a b : α) : α := @ite α p (Classical.propDecidable p) a b
theorem only_pos {α : Type} {p : Prop} {a b : α} (h : p) : onlyIf p a b = a := if_pos h
theorem only_neg {α : Type} {p : Prop} {a b : α} (h : ¬ p) : onlyIf p a b = b := if_neg h
noncomputable def forL (gd : Option (Nat × Wz.D)) (b : Wz.D → List Slot → Option (List Slot)) (body : EVS) (clr : List Nat) (n0 : Nat) : List Wz.D → List Slot → List Cell → SOut
  | [], ρ, S => onlyIf (gdOk S gd) (.nx ρ S) .stuck
  | d :: r, ρ, S => onlyIf (gdOk S gd) (match b d ρ with
    | some ρ1 => match body n0 ρ1 S with
      | .nx ρ2 S2 => forL gd b body clr n0 r (clrs clr ρ2) S2
      | o => o
    | none => .stuck) .stuck
noncomputable def sFor (it : EV Its) (b : Wz.D → List Slot → Option (List Slot)) (body : EVS) (clr : List Nat) : EVS := fun n0 ρ S => sE (it ρ S) ρ fun its S1 => forL its.g b body clr n0 its.l ρ S1
theorem forL_gd {gd : Option (Nat × Wz.D)} {its : List Wz.D} {b : Wz.D → List Slot → Option (List Slot)} {body : EVS} {clr : List Nat} (n : SNeed K WX E0 np n0 ρ W σ H D (forL gd b body clr n0 its ρ S)) : gdOk S gd := by
  refine Classical.byContradiction fun h => ?_
  cases its with
  | nil =>
    rw [show forL gd b body clr n0 [] ρ S = onlyIf (gdOk S gd) (.nx ρ S) .stuck from rfl, only_neg h] at n
    exact n
  | cons d r =>
    rw [show forL gd b body clr n0 (d :: r) ρ S = onlyIf (gdOk S gd) _ .stuck from rfl, only_neg h] at n
    exact n
/-- the walk of a loop; J's items stand in the world W1 -/
theorem for_run {J : It} {gd : Option (Nat × Wz.D)} {its : List Wz.D} {g : TG} {tb : TS} {b : Wz.D → List Slot → Option (List Slot)} {body : EVS} {clr : List Nat} (hg : SndG K g b) (hb : SndS K WX np tb body) {G : Hp → Prop} {Y : Nat → Hp → V → Hp → Prop}
    (w : Walk J its.length G Y) (hG : ∀ W' σ' H' ρ' S', SStep n0 W1 H1 W' H' → Rel K E0 np W' ρ' S' σ' H' → LK ρ σ ρ' σ' → gdOk S' gd → G H')
    (hY : ∀ i H' x H'' W' S, i < its.length → G H' → WOk W' H' → ObsOk K W' H' S → gdOk S gd → (∀ a u, W1.F a = some u → W'.F a = some u) → (∀ n a, W1.ow (.ob n) = some a → W'.ow (.ob n) = some a) → Y i H' x H'' →
      ∃ W'' d, EStep W' H' W'' H'' ∧ WOk W'' H'' ∧ ObsOk K W'' H'' S ∧ its[i]? = some d ∧ RepW K W'' d x)
    (r : Rel K E0 np W1 ρ S σ H1) (hl : n0 ≤ S.length) (n : SNeed K WX E0 np n0 ρ W1 σ H1 D (forL gd b body clr n0 its ρ S)) :
    ∃ W : Nat → Nat → L2.St → Hp → Prop, (∃ m, W 0 m σ H1) ∧ ∀ i m σ H, W i m σ H →
      (J.stop i H ∧ D.nx σ H) ∨ (J.go i H ∧ ∃ N : L2.St → Hp → Prop, (∀ σ' H', N σ' H' → ∃ m', m' < m ∧ W (i + 1) m' σ' H') ∧ ∀ x H', J.yld i H x H' → g x σ H' fun σ2 H2 => tb { D with nx := N, ct := N, bk := D.nx } σ2 H2) := by
  refine for_it w (fun i σ' H' => ∃ W' ρ' S', i ≤ its.length ∧ SStep n0 W1 H1 W' H' ∧ Rel K E0 np W' ρ' S' σ' H' ∧ n0 ≤ S'.length ∧ LK ρ σ ρ' σ' ∧ SNeed K WX E0 np n0 ρ' W' σ' H' D (forL gd b body clr n0 (its.drop i) ρ' S'))
    ⟨W1, ρ, S, Nat.zero_le _, .refl, r, hl, .refl, n⟩ (fun i σ' H' hi ⟨W', ρ', S', a1, a2, a3, a4, a5, a6⟩ => hG W' σ' H' ρ' S' a2 a3 a5 (forL_gd a6)) ?_ ?_
  · rintro i x σ' H' H'' hi ⟨W', ρ', S', a1, a2, a3, a4, a5, a6⟩ y
    have gk := forL_gd a6
    have gg := hG W' σ' H' ρ' S' a2 a3 a5 gk
    obtain ⟨W'', d, s1, w1, o1, e1, rp⟩ := hY i H' x H'' W' S' hi gg a3.wok a3.obs gk a2.F a2.ob y
    have r1 := a3.estep s1 w1 o1
    have ed : its.drop i = d :: its.drop (i + 1) := by
      rw [List.drop_eq_getElem_cons hi]
      rw [List.getElem?_eq_getElem hi] at e1
      rw [Option.some.inj e1]
    rw [ed] at a6
    unfold forL at a6
    rw [only_pos gk] at a6
    cases eb : b d ρ' with
    | none => rw [eb] at a6; exact a6.elim
    | some ρ1 =>
      rw [eb] at a6
      dsimp only at a6
      refine hg E0 np n0 W'' ρ' S' σ' H'' x d ρ1 _ r1 rp eb fun W3 σ3 s3 r3 lk3 => ?_
      have st3 : SStep n0 W' H' W3 H'' := s1.st.trans s3
      refine hb E0 n0 W3 ρ1 S' σ3 H'' _ r3 a4 ?_
      cases eo : body n0 ρ1 S' with
      | nx ρ2 S2 =>
        rw [eo] at a6
        intro W4 σ4 H4 s4 r4 l4 k4
        obtain ⟨W5, s5, r5, k5⟩ := rel_clrs (n0 := n0) clr r4
        exact ⟨W5, clrs clr ρ2, S2, hi, (a2.trans st3).trans (s4.trans s5), r5, l4, (a5.trans lk3).trans (k4.trans k5), SNeed.step (st3.trans (s4.trans s5)) (lk3.trans (k4.trans k5)) a6⟩
      | rt rv ρ2 S2 => rw [eo] at a6; exact SNeed.step st3 lk3 (D := D) a6
      | exc c a ρ2 S2 => rw [eo] at a6; exact SNeed.step st3 lk3 (D := D) a6
      | stuck => rw [eo] at a6; exact a6
  · rintro σ' H' ⟨W', ρ', S', a1, a2, a3, a4, a5, a6⟩
    have gk := forL_gd a6
    rw [List.drop_length] at a6
    rw [show forL gd b body clr n0 [] ρ' S' = onlyIf (gdOk S' gd) (.nx ρ' S') .stuck from rfl, only_pos gk] at a6
    exact a6 W' σ' H' .refl a3 a4 .refl
theorem snds_for {wi : TI} {g : TG} {tb : TS} {it : EV Its} {b : Wz.D → List Slot → Option (List Slot)} {body : EVS} {clr : List Nat} (hi : Snd K WX (RI K) wi it) (hg : SndG K g b) (hb : SndS K WX np tb body) :
    SndS K WX np (tFor wi g tb) (sFor it b body clr) := by
  intro E0 n0 W ρ S σ H D r hl n
  refine hi E0 np W ρ S σ H _ r (SNeed.bind r hl n fun its S' _ J W1 H1 st r1 hl1 rr n1 => ?_)
  obtain ⟨G, Y, w, hG, hY⟩ := rr
  exact for_run (S := S') hg hb w (fun W' σ' H' ρ' S2 s2 r2 _ gk => hG W' H' S2 r2.wok r2.obs gk s2.F s2.ob s2.fz) (fun i H' x H'' W' S2 h1 h2 h3 h4 gk h5 h6 h7 => hY i H' x H'' W' S2 h1 h2 h3 h4 gk h5 h6 h7) r1 hl1 (SNeed.step st.st .refl n1)

/-- slot i's container is locked -/
theorem rel_lck {i : Nat} {d : Wz.D} (r : Rel K E0 np W ρ S σ H) (e : ρ[i]? = some (.own d)) : Rel K E0 np (W.put (.sl i) none) (ρ.set i (.lck d)) S σ H where
  wok := drop_w r.wok
  obs := put_sl_o r.obs
  slots j s es := by
    rcases set_get es with ⟨rfl, rfl, hi⟩ | ⟨hij, es⟩
    · obtain ⟨p, h1, h2, h3⟩ := r.slots _ _ e
      refine ⟨p, h1, fun o z => ?_, (h3.mono (fun _ _ q => q) (fun n x q => put_ob.trans q) rfl).r⟩
      by_cases eo : o = .sl i
      · rw [eo, put_same] at z
        cases z
      · rw [put_ne eo] at z
        exact eo (r.wok.inj _ _ _ z h2)
    · exact (r.slots j s es).put hij (fun v q => q) fun _ _ _ _ z => by cases z
  len := by rw [List.length_set]; exact r.len
  nsl j h := by
    by_cases e : j = i
    · rw [e]
      exact put_same
    · rw [put_ne (by intro q; exact e (Ow.sl.inj q))]
      refine r.nsl j fun d z => h d ?_
      rw [List.getElem?_set_ne (Ne.symm e)]
      exact z
  frs j p h := by
    by_cases e : j = i
    · rw [e, put_same] at h
      cases h
    · rw [put_ne (by intro q; exact e (Ow.sl.inj q))] at h
      exact r.frs j p h
  ent := r.ent
end
end Wz

set_option Elab.async false
set_option linter.all false
set_option maxRecDepth 100000
set_option maxHeartbeats 4000000
namespace Wz
open PySem PySem.Spec PyProof.Rows L2

section
variable {K : PySem.W.Frag} {WX : L2.WX} {W W0 W1 W2 Wc : Wd} {H H0 H1 H2 H' : Hp} {σ : L2.St} {ρ : List Slot} {S S' S1 : List Cell} {E0 : Hp} {np n0 : Nat} {X : Cx} {D : Ends}
theorem PI.or {tg e : Expr} {w1 w2 : TI} (h1 : PI X tg e w1) (h2 : PI X tg e w2) : PI X tg e (fun σ H R => w1 σ H R ∨ w2 σ H R) :=
  ⟨fun pins s σ H R I h => h.elim (h1.run pins s σ H R I) (h2.run pins s σ H R I)⟩
theorem PS.or {st : Stmt} {t1 t2 : TS} (h1 : PS X st t1) (h2 : PS X st t2) : PS X st (fun D σ H => t1 D σ H ∨ t2 D σ H) :=
  ⟨fun pins s σ H D I h => h.elim (h1.run pins s σ H D I) (h2.run pins s σ H D I)⟩
theorem PE.or {e : Expr} {t1 t2 : TE} (h1 : PE X e t1) (h2 : PE X e t2) : PE X e (fun σ H Q => t1 σ H Q ∨ t2 σ H Q) :=
  ⟨fun pins s σ H Q I h => h.elim (h1.run pins s σ H Q I) (h2.run pins s σ H Q I)⟩
/-! ### items -/
def strD (s : Str) : List Wz.D := s.cps.toList.map fun c => .str ⟨#[c]⟩
def itsD : Wz.D → Option (List Wz.D)
  | .str s => some (strD s)
  | d => asS d
/-- the box that a value is, with a list in it -/
def boxL (S : List Cell) : Rv → Option (Nat × List Wz.D)
  | .val (.ref n) => match S[n]? with
    | some (.box (.lst l)) => some (n, l)
    | _ => none
  | _ => none
def xIts (e : EV Rv) : EV Its := fun ρ S => (e ρ S).bind fun r S1 => match boxL S1 r with
  | some q => .ok ⟨q.2, some (q.1, .lst q.2)⟩ S1
  | none => match r.fz with
    | some d => match itsD d with
      | some l => .ok ⟨l, none⟩ S1
      | none => .stuck
    | none => .stuck
/-- the items of a value, by its kind -/
def iAny (K : PySem.W.Frag) (te : TE) : TI := fun σ H R => (iList K te σ H R ∨ iTup K te σ H R) ∨ iStr te σ H R
theorem pi_any {tg e : Expr} {te : TE} (hl : PI X tg e (iList X.K te)) (ht : PI X tg e (iTup X.K te)) (hs : PI X tg e (iStr te)) : PI X tg e (iAny X.K te) := PI.or (PI.or hl ht) hs
theorem frzL {d : Wz.D} {l : List Wz.D} {v : V} (h : RepW K W d v) (e : asL d = some l) : ∃ a vs, v = .ref a ∧ RepLW K W l vs ∧ ∀ W' H', WOk W' H' → (∀ a u, W.F a = some u → W'.F a = some u) → SqL K H' a vs := by
  cases d with
  | lst m =>
    cases e
    obtain ⟨a, vs, e, h1, h2⟩ := h
    refine ⟨a, vs, e, h2, fun W' H' w hF => ?_⟩
    rcases w.sub a _ (hF _ _ h1) with q | ⟨q, _⟩
    · exact .of q
    · exact q.elim
  | scr m =>
    cases e
    obtain ⟨a, e, h1⟩ := h
    exact ⟨a, _, e, RepL.of_ints m, fun W' H' w hF => w.sql (sqL_mono hF h1)⟩
  | _ => cases e
theorem frzT {d : Wz.D} {l : List Wz.D} {v : V} (h : RepW K W d v) (e : asT d = some l) : ∃ a vs, v = .ref a ∧ RepLW K W l vs ∧ ∀ W' H', WOk W' H' → (∀ a u, W.F a = some u → W'.F a = some u) → SqT K H' a vs := by
  cases d with
  | tup m =>
    cases e
    obtain ⟨a, vs, e, h1, h2⟩ := h
    refine ⟨a, vs, e, h2, fun W' H' w hF => ?_⟩
    rcases w.sub a _ (hF _ _ h1) with q | ⟨q, _⟩
    · exact .of q
    · exact q.elim
  | wt m =>
    cases e
    obtain ⟨a, vs, e, h1, h2⟩ := h
    exact ⟨a, vs, e, h2, fun W' H' w hF => h1 H'⟩
  | _ => cases e
theorem ri_at {l : List Wz.D} {vs : List V} {J : It} {G : Hp → Prop} (h : RepLW K W l vs) (w : Walk J vs.length G (YAt vs)) (hG : ∀ W' H', WOk W' H' → (∀ a u, W.F a = some u → W'.F a = some u) → G H') : RI K W H0 H ⟨l, none⟩ J := by
  refine ⟨G, YAt vs, by rw [← h.length]; exact w, fun W' H' _ w _ _ hF _ _ => hG W' H' w hF, fun i H' x H'' W' S hi g w' o' _ hF ho y => ?_⟩
  obtain ⟨e, y⟩ := y
  subst e
  obtain ⟨d, e1, r⟩ := h.get' y
  exact ⟨W', d, .refl, w', o', e1, Rep.mono hF ho d x r⟩
/-- a list in a box, whatever its values are now -/
theorem walk_any {K : PySem.W.Frag} {a : Addr} {n : Nat} : Walk (Itl K a) n (fun H => ∃ xs, SqL K H a xs ∧ xs.length = n) (fun i H x H' => H' = H ∧ ∀ xs, SqL K H a xs → xs[i]? = some x) where
  goes i H hi h := by
    obtain ⟨xs, h1, h2⟩ := h
    exact ⟨xs, xs[i]'(by omega), h1, List.getElem?_eq_getElem (by omega)⟩
  stops H h := by
    obtain ⟨xs, h1, h2⟩ := h
    exact ⟨xs, h1, by omega⟩
  yields i H x H' hi h y := y
theorem boxL_at {rv : Rv} {n : Nat} {l : List Wz.D} {v : V} (h : RvOk K W H0 H rv v) (e : boxL S rv = some (n, l)) : S[n]? = some (.box (.lst l)) ∧ ∃ p, v = .ref p ∧ W.ow (.ob n) = some p := by
  cases rv with
  | val d =>
    cases d with
    | ref m =>
      have e' : (match S[m]? with | some (.box (.lst l)) => some (m, l) | _ => none) = some (n, l) := e
      split at e'
      · rename_i x q
        cases e'
        exact ⟨q, h⟩
      · cases e'
    | _ => cases e
  | _ => cases e
theorem snd_its {te : TE} {e : EV Rv} (h : Snd K WX (RvOk K) te e) : Snd K WX (RI K) (iAny K te) (xIts e) := by
  intro E0 np W ρ S σ H Q r n
  cases hx : e ρ S with
  | stuck =>
    unfold xIts at n
    rw [hx] at n
    exact n.elim
  | exc c a S1 =>
    unfold xIts at n
    rw [hx] at n
    exact .inl (.inl (h E0 np W ρ S σ H _ r (by rw [hx]; exact n)))
  | ok rv S1 =>
    unfold xIts at n
    rw [hx, Out.bind_ok] at n
    cases eb : boxL S1 rv with
    | some q =>
      obtain ⟨m, l⟩ := q
      simp only [eb] at n
      refine .inl (.inl (h E0 np W ρ S σ H _ r ?_))
      rw [hx]
      intro v W1 H1 st w o rr
      obtain ⟨em, p, rfl, hp⟩ := boxL_at rr eb
      obtain ⟨p2, hp2, vs, c1, c2⟩ := o.at_ _ _ em
      have ep : p2 = p := Option.some.inj (hp2.symm.trans hp)
      subst ep
      refine ⟨_, rfl, ⟨vs, .of c1⟩, n _ W1 H1 st w o ?_⟩
      refine ⟨_, _, walk_any, fun W' H' S' w' o' gk hF ho _ => ?_, fun i H' x H'' W' S' hi g w' o' gk hF ho y => ?_⟩
      · obtain ⟨p3, hp3, us, d1, d2⟩ := o'.at_ _ _ gk
        have ep : p3 = p2 := Option.some.inj (hp3.symm.trans (ho _ _ hp))
        subst ep
        exact ⟨us, .of d1, d2.length⟩
      · obtain ⟨rfl, y⟩ := y
        obtain ⟨p3, hp3, us, d1, d2⟩ := o'.at_ _ _ gk
        have ep : p3 = p2 := Option.some.inj (hp3.symm.trans (ho _ _ hp))
        subst ep
        obtain ⟨d, e1, r2⟩ := d2.get' (y us (.of d1))
        exact ⟨W', d, .refl, w', o', e1, r2⟩
    | none =>
    simp only [eb] at n
    cases ef : rv.fz with
    | none => simp only [ef] at n; exact n.elim
    | some d =>
      simp only [ef] at n
      cases el : itsD d with
      | none => simp only [el] at n; exact n.elim
      | some l =>
        simp only [el] at n
        have go : ∀ Q' : VK, (∀ v W1 H1, EStep W H W1 H1 → WOk W1 H1 → ObsOk K W1 H1 S1 → RepW K W1 d v → Q' v H1) → te σ H Q' := fun Q' k => h E0 np W ρ S σ H Q' r (by
          rw [hx]
          intro v W1 H1 st w o rr
          obtain ⟨W2, st2, w2, o2, rp, hF, ho⟩ := (RvOk.rf rr ef).freeze st w o ef
          exact k v W2 H1 st2 w2 o2 rp)
        have toL : asL d = some l → iList K te σ H Q := fun q => go _ fun v W1 H1 st w o rp => by
          obtain ⟨a, vs, rfl, rl, hs⟩ := frzL rp q
          exact ⟨a, rfl, ⟨vs, hs W1 H1 w fun _ _ z => z⟩, n _ W1 H1 st w o (ri_at rl walk_list hs)⟩
        have toT : asT d = some l → iTup K te σ H Q := fun q => go _ fun v W1 H1 st w o rp => by
          obtain ⟨a, vs, rfl, rl, hs⟩ := frzT rp q
          exact ⟨a, rfl, ⟨vs, hs W1 H1 w fun _ _ z => z⟩, n _ W1 H1 st w o (ri_at rl walk_tup hs)⟩
        cases d with
        | str z =>
          cases el
          refine .inr (go _ fun v W1 H1 st w o rp => ⟨z, rp, n _ W1 H1 st w o ?_⟩)
          refine ⟨fun _ => True, (fun i H v H' => H' = H ∧ ∃ c, z.cps[i]? = some c ∧ v = .str ⟨#[c]⟩), ?_, fun _ _ _ _ _ _ _ _ _ => True.intro, ?_⟩
          · have : (strD z).length = z.cps.size := by simp [strD]
            rw [this]
            exact walk_str
          · intro i H' x H'' W' S hi _ w' o' _ _ _ y
            obtain ⟨rfl, c, e1, e2⟩ := y
            refine ⟨W', .str ⟨#[c]⟩, .refl, w', o', ?_, e2⟩
            simp [strD, e1]
        | lst m => exact .inl (.inl (toL (by simpa [itsD, asS, Wz.asT] using el)))
        | scr m => exact .inl (.inl (toL (by simpa [itsD, asS, Wz.asT] using el)))
        | tup m => exact .inl (.inr (toT (by simpa [itsD, asS, Wz.asL] using el)))
        | wt m => exact .inl (.inr (toT (by simpa [itsD, asS, Wz.asL] using el)))
        | _ => cases el
/-! ### ranges -/
def rng1 : List Wz.D → Option (List Wz.D)
  | [.int j] => if -(2 ^ 62) ≤ j ∧ j < 2 ^ 62 then some ((List.range j.toNat).map fun (k : Nat) => .int k) else none
  | _ => none
def rng2 : List Wz.D → Option (List Wz.D)
  | [.int i, .int j] => if -(2 ^ 62) ≤ i ∧ i < 2 ^ 62 ∧ -(2 ^ 62) ≤ j ∧ j < 2 ^ 62 then some ((List.range (j - i).toNat).map fun (k : Nat) => .int (i + k)) else none
  | _ => none
def rng3 : List Wz.D → Option (List Wz.D)
  | [.int i, .int j, .int (-1)] => if -(2 ^ 62) ≤ i ∧ i < 2 ^ 62 ∧ -(2 ^ 62) ≤ j ∧ j < 2 ^ 62 then some ((List.range (i - j).toNat).map fun (k : Nat) => .int (i + (k : Nat) * (-1))) else none
  | _ => none
def xRng (f : List Wz.D → Option (List Wz.D)) (es : EV (List Rv)) : EV Its := fun ρ S => (es ρ S).bind fun rs S1 => match reads S1 rs with
  | some ds => match f ds with
    | some l => .ok ⟨l, none⟩ S1
    | none => .stuck
  | none => .stuck
theorem ri_fn {J : It} {m : Nat} {f : Nat → Int} {F : Nat → V} (hf : ∀ k, F k = .int (f k)) (w : Walk J m (fun _ => True) (YFn F)) : RI K W H0 H ⟨(List.range m).map fun k => Wz.D.int (f k), none⟩ J := by
  refine ⟨_, _, by rw [List.length_map, List.length_range]; exact w, fun _ _ _ _ _ _ _ _ _ => True.intro, fun i H' x H'' W' S hi _ w' o' _ _ _ y => ?_⟩
  obtain ⟨rfl, rfl⟩ := y
  have hi : i < ((List.range m).map fun k => Wz.D.int (f k)).length := hi
  rw [List.length_map, List.length_range] at hi
  refine ⟨W', .int (f i), .refl, w', o', by simp [hi], ?_⟩
  rw [hf]
  rfl
theorem RdgL.ints {xs : List V} : ∀ {l : List Int}, RdgL K W H (l.map .int) xs → xs = l.map V.int
  | [], h => h
  | i :: r, h => by
    obtain ⟨v, w, e, h1, h2⟩ := h
    rw [e, h1.int, RdgL.ints h2]
    rfl
theorem snd_rng {ta : TA} {ea : EV (List Rv)} {f : List Wz.D → Option (List Wz.D)} (B : List V → Hp → (It → Hp → Prop) → Prop) (h : Snd K WX (RL K) ta ea)
    (hB : ∀ W H0 H ds l vs (R : It → Hp → Prop), RdgL K W H ds vs → f ds = some l → (∀ J, RI K W H0 H ⟨l, none⟩ J → R J H) → B vs H R) : Snd K WX (RI K) (fun σ H R => ta σ H fun vs H1 => B vs H1 R) (xRng f ea) := by
  intro E0 np W ρ S σ H Q r n
  refine h E0 np W ρ S σ H _ r ?_
  unfold xRng at n
  cases hx : ea ρ S with
  | stuck => rw [hx] at n; exact n
  | exc c a S1 => rw [hx] at n; exact n
  | ok rs S1 =>
    rw [hx, Out.bind_ok] at n
    intro vs W1 H1 st w o rr
    cases er : reads S1 rs with
    | none => simp only [er] at n; exact n.elim
    | some ds =>
      simp only [er] at n
      cases el : f ds with
      | none => simp only [el] at n; exact n.elim
      | some l =>
        simp only [el] at n
        exact hB W1 H H1 ds l vs Q (RL.reads o rr er) el fun J ri => n J W1 H1 st w o ri
theorem snd_rng1 {ta : TA} {ea : EV (List Rv)} (h : Snd K WX (RL K) ta ea) : Snd K WX (RI K) (iRng1 ta) (xRng rng1 ea) := snd_rng (fun vs H1 R => ∃ j : Int, vs = [.int j] ∧ -(2 ^ 62) ≤ j ∧ j < 2 ^ 62 ∧ R (Itr 0 j.toNat) H1) h fun W H0 H ds l vs R hr e k => by
  unfold rng1 at e
  split at e
  · rename_i j
    split at e
    · rename_i hb
      cases e
      obtain ⟨v, rfl, h1⟩ := hr.one
      rw [h1.int]
      exact ⟨j, rfl, hb.1, hb.2, k _ (ri_fn (f := fun k => (k : Int)) (fun k => by simp) walk_range)⟩
    · cases e
  · cases e
theorem snd_rng2 {ta : TA} {ea : EV (List Rv)} (h : Snd K WX (RL K) ta ea) : Snd K WX (RI K) (iRng2 ta) (xRng rng2 ea) := snd_rng (fun vs H1 R => ∃ i j : Int, vs = [.int i, .int j] ∧ (-(2 ^ 62) ≤ i ∧ i < 2 ^ 62 ∧ -(2 ^ 62) ≤ j ∧ j < 2 ^ 62) ∧ R (Itr i (j - i).toNat) H1) h fun W H0 H ds l vs R hr e k => by
  unfold rng2 at e
  split at e
  · rename_i i j
    split at e
    · rename_i hb
      cases e
      obtain ⟨v, u, rfl, h1, h2⟩ := hr.two
      rw [h1.int, h2.int]
      exact ⟨i, j, rfl, hb, k _ (ri_fn (f := fun k => i + (k : Int)) (fun k => rfl) walk_range)⟩
    · cases e
  · cases e
theorem snd_rng3 {ta : TA} {ea : EV (List Rv)} (h : Snd K WX (RL K) ta ea) : Snd K WX (RI K) (iRng3 ta) (xRng rng3 ea) := snd_rng (fun vs H1 R => ∃ (i j c : Int) (n : Nat), vs = [.int i, .int j, .int c] ∧ RgC i j c n ∧ R (Itc i c n) H1) h fun W H0 H ds l vs R hr e k => by
  unfold rng3 at e
  split at e
  · rename_i i j
    split at e
    · rename_i hb
      cases e
      obtain ⟨v, w, rfl, h1, u, w2, rfl, h2, u3, w3, rfl, h3, h4⟩ := hr
      have h4' : w3 = [] := h4
      rw [h1.int, h2.int, h3.int, h4']
      exact ⟨i, j, -1, _, rfl, RgC.neg hb.1 hb.2.1 hb.2.2.1 hb.2.2.2, k _ (ri_fn (f := fun k => i + (k : Nat) * (-1)) (fun k => rfl) walk_rangeC)⟩
    · cases e
  · cases e
end
end Wz

set_option Elab.async false
set_option linter.all false
set_option maxRecDepth 100000
set_option maxHeartbeats 4000000
namespace Wz
open PySem PySem.Spec PyProof.Rows L2

section
variable {K : PySem.W.Frag} {WX : L2.WX} {W W0 W1 W2 Wc : Wd} {H H0 H1 H2 H' : Hp} {σ : L2.St} {ρ : List Slot} {S S' S1 : List Cell} {E0 : Hp} {np n0 : Nat} {X : Cx} {D : Ends}
/-! ### an owned container changes -/
theorem ObsOk.keepO (o : ObsOk K W H S) (hk : ∀ x a, x.isOb = true → W.ow x = some a → H' a = H a) : ObsOk K W H' S where
  at_ n c e := by
    have q := o.at_ n c e
    cases c with
    | box d =>
      obtain ⟨p, h1, h2⟩ := q
      exact ⟨p, h1, h2.mono (fun _ _ q => q) (fun _ _ q => q) (hk _ _ rfl h1)⟩
    | lbx d =>
      obtain ⟨p, h1, h2⟩ := q
      exact ⟨p, h1, h2.mono (fun _ _ q => q) (fun _ _ q => q) (hk _ _ rfl h1)⟩
    | ins c fs =>
      obtain ⟨a, dx, vs, h1, h2, h3⟩ := q
      refine ⟨a, dx, vs, h1, (hk _ _ rfl h1).trans h2, ?_⟩
      clear h2 e
      induction fs generalizing vs with
      | nil => exact h3
      | cons x r ih =>
        obtain ⟨f, x⟩ := x
        obtain ⟨v, w', e1, e2, e3⟩ := h3
        refine ⟨v, w', e1, ?_, ih _ e3⟩
        cases x with
        | val d => exact e2
        | own d =>
          obtain ⟨p, k1, k2, k3⟩ := e2
          exact ⟨p, k1, k2, k3.mono (fun _ _ q => q) (fun _ _ q => q) (hk _ _ rfl k2)⟩
        | lck d =>
          obtain ⟨p, k1, k2, k3⟩ := e2
          exact ⟨p, k1, k2, k3.mono (fun _ _ q => q) (fun _ _ q => q) (hk _ _ rfl k2)⟩
  nob n h := o.nob n h
  nof n f h := o.nof n f h
theorem rel_mut {i : Nat} {d d' : Wz.D} {p : Addr} {u : HO} (r : Rel K E0 np W ρ S σ H) (e : ρ[i]? = some (.own d)) (eσ : σ[i]? = some (some (.ref p))) (c : ContX K W (upd H p u) p d') (hu : ∀ vs, u ≠ .tup vs) :
    Rel K E0 np W (ρ.set i (.own d')) S σ (upd H p u) ∧ SStep n0 W H W (upd H p u) := by
  obtain ⟨p', h1, h2, h3⟩ := r.slots i _ e
  rw [eσ] at h1
  cases h1
  have other : ∀ x a, x ≠ .sl i → W.ow x = some a → upd H p u a = H a := fun x a hx h => upd_ne fun q => hx (r.wok.inj x _ a h (by rw [q]; exact h2))
  refine ⟨⟨⟨fun a v h => ?_, r.wok.inj, r.wok.unF, fun x a h => ?_, fun a vs h => ?_⟩, r.obs.keepO fun x a hx h => other x a (by intro q; rw [q] at hx; cases hx) h, fun j s es => ?_, ?_, fun j h => ?_, r.frs, fun a h => ?_⟩, ⟨fun a v h n => ?_, fun _ _ h => h, fun _ h => .inl h, fun _ _ h => h, fun _ _ _ _ h => h, fun _ _ h => .inl h, fun a h => ?_, fun a o u h => (upd_ne fun q => h3.nofz (by rw [← q]; exact h)).trans h⟩⟩
  · have : a ≠ p := fun q => by rw [q, r.wok.unF _ _ h2] at h; cases h
    rw [upd_ne this]
    exact r.wok.sub a v h
  · by_cases q : a = p
    · rw [q, upd_same]; simp
    · rw [upd_ne q]; exact r.wok.alv x a h
  · by_cases q : a = p
    · rw [q, upd_same] at h
      exact absurd (Option.some.inj h) (hu vs)
    · rw [upd_ne q] at h
      exact r.wok.tupF a vs h
  · rcases set_get es with ⟨rfl, rfl, hi⟩ | ⟨hij, es⟩
    · exact ⟨p, eσ, h2, c⟩
    · have q := r.slots j s es
      cases s with
      | non => exact True.intro
      | val d => exact q
      | own d =>
        obtain ⟨p2, k1, k2, k3⟩ := q
        exact ⟨p2, k1, k2, k3.mono (fun _ _ q => q) (fun _ _ q => q) (other _ _ (fun z => hij (Ow.sl.inj z).symm) k2)⟩
      | lck d =>
        obtain ⟨p2, k1, k2, k3⟩ := q
        exact ⟨p2, k1, k2, k3.mono (fun _ _ q => q) (fun _ _ q => q) (upd_ne fun z => k2 _ (by rw [z]; exact h2))⟩
  · rw [List.length_set]; exact r.len
  · refine r.nsl j fun d2 z => ?_
    by_cases q : i = j
    · subst q
      exact h d' (List.getElem?_set_self (by rcases Nat.lt_or_ge i ρ.length with z2 | z2; exact z2; rw [List.getElem?_eq_none z2] at e; cases e))
    · exact h d2 (by rw [List.getElem?_set_ne q]; exact z)
  · by_cases q : a = p
    · rw [q, upd_same]; simp
    · rw [upd_ne q]; exact r.ent a h
  · exact (upd_ne fun q => n (.sl i) (by rw [q]; exact h2)).trans h
  · by_cases q : a = p
    · rw [q, upd_same]; simp
    · rw [upd_ne q]; exact h
/-! ### o[i] = e -/
def putD (d x v : Wz.D) : Option Wz.D := match d with
  | .dk l => match keyD x with
    | some k => if l.length < lim then some (.dk (setK l k v)) else none
    | none => none
  | .dt l => match x with
    | .tup m => match keysD m with
      | some k => if l.length < lim then some (.dt (setK l k v)) else none
      | none => none
    | _ => none
  | .lst l => match x with
    | .int k => match L2.ixN l.length k with
      | some j => some (.lst (l.set j v))
      | none => none
    | _ => none
  | _ => none
/-- value first, then the index -/
def sSub (o : Nat) (i e : EV Rv) : EVS := fun _ ρ S => match ρ[o]? with
  | some (.own d) => sE (e ρ S) ρ fun r S1 => sE (i ρ S1) ρ fun x S2 => match x.read S2 with
    | some dx => match r.fz with
      | some v => match putD d dx v with
        | some d' => .nx (ρ.set o (.own d')) S2
        | none => .stuck
      | none => .stuck
    | none => .stuck
  | _ => .stuck
theorem mut_fin {o : Nat} {p : Addr} {d : Wz.D} {W2 : Wd} {H2 : Hp} {S2 : List Cell} {rv : Rv} {v : V} {dv d' : Wz.D} {u : HO} (r : Rel K E0 np W ρ S σ H) (es : ρ[o]? = some (.own d)) (eσ : σ[o]? = some (some (.ref p))) (st : EStep W H W2 H2) (r2 : Rel K E0 np W2 ρ S2 σ H2) (q2 : rv.fz = some dv) (rr : RvOk K W2 H H2 rv v) (hl2 : n0 ≤ S2.length)
    (n : SNeed K WX E0 np n0 ρ W σ H D (.nx (ρ.set o (.own d')) S2)) (hu : ∀ vs, u ≠ .tup vs) (hcx : ∀ W3, RepW K W3 dv v → (∀ a u, W2.F a = some u → W3.F a = some u) → (∀ n a, W2.ow (.ob n) = some a → W3.ow (.ob n) = some a) → ContX K W3 H2 p d → ContX K W3 (upd H2 p u) p d') : D.nx σ (upd H2 p u) := by
  obtain ⟨W3, st3, w3, o3, rp, hF, ho⟩ := (RvOk.rf rr q2).freeze st r2.wok r2.obs q2
  have r3 : Rel K E0 np W3 ρ S2 σ H2 := r.estep st3 w3 o3
  obtain ⟨p2, k1, k2, k3⟩ := r3.slots o _ es
  rw [eσ] at k1
  cases k1
  obtain ⟨r4, s4⟩ := rel_mut (n0 := n0) r3 es eσ (hcx W3 rp hF (fun n a q => (congrFun ho _).trans q) k3) hu
  exact n W3 σ _ (st3.st.trans s4) r4 hl2 (.set' fun _ z => by cases z)
theorem snds_sub {o : Nat} {ti te : TE} {i e : EV Rv} (hi : Snd K WX (RvOk K) ti i) (he : Snd K WX (RvOk K) te e) :
    SndS K WX np (fun D σ H => sDPut (tVar o) ti te D σ H ∨ tAsg te (gSub (tVar o) ti rSetL) D σ H) (sSub o i e) := by
  intro E0 n0 W ρ S σ H D r hl n
  unfold sSub at n
  cases es : ρ[o]? with
  | none => simp only [es] at n; exact n.elim
  | some s =>
    simp only [es] at n
    cases s with
    | non => exact n.elim
    | val d => exact n.elim
    | lck d => exact n.elim
    | own d =>
      simp only at n
      obtain ⟨p, eσ, hp, hc⟩ := r.slots o _ es
      have go : ∀ (B : V → V → V → Hp → Prop), (∀ v y rv dx dv d' S2 W2 H2, EStep W H W2 H2 → Rel K E0 np W2 ρ S2 σ H2 → Rdg K W2 H2 dx y → rv.fz = some dv → RvOk K W2 H H2 rv v → putD d dx dv = some d' → n0 ≤ S2.length →
          SNeed K WX E0 np n0 ρ W σ H D (.nx (ρ.set o (.own d')) S2) → B v (.ref p) y H2) → te σ H fun v H1 => tVar o σ H1 fun x H2 => ti σ H2 fun y H3 => B v x y H3 := fun B k => by
        refine he E0 np W ρ S σ H _ r (SNeed.bind r hl n fun rv S1 e1 v W1 H1 st1 r1 hl1 rr1 n1 => ⟨_, eσ, ?_⟩)
        refine hi E0 np W1 ρ S1 σ H1 _ r1 (SNeed.bind r1 hl1 (SNeed.step st1.st .refl n1) fun x S2 e2 y W2 H2 st2 r2 hl2 rr2 n2 => ?_)
        rw [e1, sE_ok, e2, sE_ok] at n
        cases q1 : x.read S2 with
        | none => simp only [q1] at n; exact n.elim
        | some dx =>
          simp only [q1] at n
          cases q2 : rv.fz with
          | none => simp only [q2] at n; exact n.elim
          | some dv =>
            simp only [q2] at n
            cases q3 : putD d dx dv with
            | none => simp only [q3] at n; exact n.elim
            | some d' =>
              simp only [q3] at n
              exact k v y rv dx dv d' S2 W2 H2 (st1.trans st2) r2 (rr2.read r2.obs q1) q2 (rr1.step st2) q3 hl2 n
      have fin : ∀ {W2 : Wd} {H2 : Hp} {S2 : List Cell} {rv : Rv} {v : V} {dv d' : Wz.D} {u : HO}, EStep W H W2 H2 → Rel K E0 np W2 ρ S2 σ H2 → rv.fz = some dv → RvOk K W2 H H2 rv v → n0 ≤ S2.length →
          SNeed K WX E0 np n0 ρ W σ H D (.nx (ρ.set o (.own d')) S2) → (∀ vs, u ≠ .tup vs) → (∀ W3, RepW K W3 dv v → (∀ a u, W2.F a = some u → W3.F a = some u) → (∀ n a, W2.ow (.ob n) = some a → W3.ow (.ob n) = some a) → ContX K W3 H2 p d → ContX K W3 (upd H2 p u) p d') → D.nx σ (upd H2 p u) :=
        fun st r2 q2 rr hl2 n hu hcx => mut_fin r es eσ st r2 q2 rr hl2 n hu hcx
      cases d with
      | dk l =>
        refine .inl (go (fun v x y H3 => ∃ a H4, x = .ref a ∧ DPut H3 a y v H4 ∧ D.nx σ H4) fun v y rv dx dv d' S2 W2 H2 st r2 rx q2 rr q3 hl2 n => ?_)
        unfold putD at q3
        cases ek : keyD dx with
        | none => simp only [ek] at q3; cases q3
        | some k =>
          simp only [ek] at q3
          split at q3
          · rename_i hl
            cases q3
            rw [keyD_rdg ek rx]
            obtain ⟨p2, k1, k2, k3⟩ := r2.slots o _ es
            rw [eσ] at k1
            cases k1
            obtain ⟨vs, c1, c2⟩ := k3
            refine ⟨p, _, rfl, .k c1 (by rw [c2.pk.len]; exact Nat.lt_of_lt_of_le hl (lim_le (Nat.le_refl _))), fin st r2 q2 rr hl2 n (fun _ z => by cases z) fun W3 rp hF ho c => ?_⟩
            exact ⟨_, upd_same, ((RepK.mono hF ho l vs c2).pk.put rp).repK⟩
          · cases q3
      | dt l =>
        refine .inl (go (fun v x y H3 => ∃ a H4, x = .ref a ∧ DPut H3 a y v H4 ∧ D.nx σ H4) fun v y rv dx dv d' S2 W2 H2 st r2 rx q2 rr q3 hl2 n => ?_)
        unfold putD at q3
        cases dx with
        | tup m =>
          simp only at q3
          cases ek : keysD m with
          | none => simp only [ek] at q3; cases q3
          | some k =>
            simp only [ek] at q3
            split at q3
            · rename_i hl
              cases q3
              obtain ⟨b, ks, rfl, hb, _, rk⟩ := rx.tup r2.wok
              rw [keysD_rep ek rk] at hb
              obtain ⟨p2, k1, k2, k3⟩ := r2.slots o _ es
              rw [eσ] at k1
              cases k1
              obtain ⟨vs, c1, c2⟩ := k3
              refine ⟨p, _, rfl, .t c1 hb (by rw [c2.pk.len]; exact Nat.lt_of_lt_of_le hl (lim_le (Nat.le_refl _))), fin st r2 q2 rr hl2 n (fun _ z => by cases z) fun W3 rp hF ho c => ?_⟩
              exact ⟨_, upd_same, ((RepT.mono hF ho l vs c2).pk.put rp).repT⟩
            · cases q3
        | _ => cases q3
      | lst l =>
        refine .inr (go (fun v x y H3 => rSetL x y v H3 fun H4 => D.nx σ H4) fun v y rv dx dv d' S2 W2 H2 st r2 rx q2 rr q3 hl2 n => ?_)
        unfold putD at q3
        cases dx with
        | int k =>
          simp only at q3
          cases ej : L2.ixN l.length k with
          | none => simp only [ej] at q3; cases q3
          | some j =>
            simp only [ej] at q3
            cases q3
            obtain ⟨p2, k1, k2, k3⟩ := r2.slots o _ es
            rw [eσ] at k1
            cases k1
            obtain ⟨vs, c1, c2⟩ := k3
            exact ⟨p, vs, k, j, rfl, rx.int, c1, by rw [c2.length]; exact ej, fin st r2 q2 rr hl2 n (fun _ z => by cases z) fun W3 rp hF ho c => ⟨_, upd_same, (RepL.mono hF ho l vs c2).set j rp⟩⟩
        | _ => cases q3
      | _ => exact hc.elim
/-! ### o.append(e) -/
def sApp (o : Nat) (e : EV Rv) : EVS := fun _ ρ S => match ρ[o]? with
  | some (.own (.lst l)) => sE (e ρ S) ρ fun r S1 => match r.fz with
    | some v => if l.length < lim then .nx (ρ.set o (.own (.lst (l ++ [v])))) S1 else .stuck
    | none => .stuck
  | _ => .stuck
theorem snds_app {o : Nat} {te : TE} {e : EV Rv} (he : Snd K WX (RvOk K) te e) :
    SndS K WX np (tDrop (tBM K "list" rAppend (tVar o) (tCons te tNil))) (sApp o e) := by
  intro E0 n0 W ρ S σ H D r hl n
  unfold sApp at n
  cases es : ρ[o]? with
  | none => simp only [es] at n; exact n.elim
  | some s =>
    simp only [es] at n
    cases s with
    | non => exact n.elim
    | val d => exact n.elim
    | lck d => exact n.elim
    | own d =>
      cases d with
      | lst l =>
        simp only at n
        obtain ⟨p, eσ, hp, vs0, hc, hr⟩ := r.slots o _ es
        refine ⟨_, eσ, .inl ⟨rfl, vs0, .of hc⟩, ?_⟩
        refine he E0 np W ρ S σ H _ r (SNeed.bind r hl n fun rv S1 e1 v W1 H1 st1 r1 hl1 rr1 n1 => ?_)
        rw [e1, sE_ok] at n
        cases q2 : rv.fz with
        | none => simp only [q2] at n; exact n.elim
        | some dv =>
          simp only [q2] at n
          split at n
          · rename_i hz
            obtain ⟨p2, k1, k2, vs, c1, c2⟩ := r1.slots o _ es
            rw [eσ] at k1
            cases k1
            refine ⟨p, vs, v, rfl, rfl, c1, by rw [c2.length]; exact Nat.lt_of_lt_of_le hz (lim_le (Nat.le_refl _)), mut_fin r es eσ st1 r1 q2 rr1 hl1 n (fun _ z => by cases z) fun W3 rp hF ho c => ?_⟩
            exact ⟨_, upd_same, (RepL.mono hF ho l vs c2).snoc rp⟩
          · exact n.elim
      | _ => exact n.elim
end
end Wz

set_option Elab.async false
set_option linter.all false
set_option maxRecDepth 100000
set_option maxHeartbeats 4000000
namespace Wz
open PySem PySem.Spec PyProof.Rows L2

/-! ### sorted, of a dict of any size with whole-number keys -/
/-- its keys, rising, as a new list -/
def rSrtK : List V → Hp → VK → Prop := fun xs H Q => ∃ (a : Addr) (kvs : List (Key × V)) (ks : List Int), xs = [.ref a] ∧ Rd H a (.dK kvs) ∧ kvs.map (·.1) = ks.map Sum.inl ∧
  ∀ (ys : List Int) (p : Addr), ys.Perm ks → ys.Pairwise (· ≤ ·) → H p = none → Q (.ref p) (upd H p (.lst (ys.map V.int)))
theorem cr_srtK {X : Cx} (hcm : X.calm = true) : CallR X (.builtin "sorted") rSrtK := by
  intro pins s σ H xs us Q I rr0 q
  obtain ⟨a, kvs, ks, rfl, hd, hks, q⟩ := q
  obtain ⟨u, rfl, rx⟩ := vals1 rr0
  cases rx
  obtain ⟨zl, lo, vs, rel, dd⟩ := dk_rd I.hok hd
  obtain ⟨ep, hat⟩ := dd.dictAt
  have hkeys : vs.map (·.1) = ks.map Sum.inl := rel.keys.symm.trans hks
  have hlen0 : vs.length = ks.length := by simpa using congrArg List.length hkeys
  have hvk : vs.length = kvs.length := (Paired.length rel).symm
  have hzs : vs.length ≤ sizeLine := by
    rw [hvk]
    exact zl
  refine Calls.call_function_entry PyProof.Rows.kind_sorted PyProof.Rows.plain_sorted
    PyProof.Rows.entry_sorted (PyProof.Rows.args_sorted1 _) ?_
  unfold Builtin.«sorted»
  refine wpAny_bind
    (m := checkCount "sorted" 1 1 _) (wpAny_pure ?_)
  refine wpAny_bind (PySem.W.kdu_collect (A := X.A.in1)
    (PySem.W.kdl_dict (knd := mixKind X.prog X.w) (kvs := vs) (ep := ep) lo) (I.ok.hd hcm) hat hzs fun h' tk acc hk hacc => ?_)
  have hal : acc.toList.length = ks.length := by
    rw [Array.length_toList, hacc.1, hlen0]
  have hS : IntsAre acc.toList ks := ints_each hal fun j v e => by
    obtain ⟨k, x, e1, e2⟩ := hacc.2 j v (by
      rw [← Array.getElem?_toList]
      exact e)
    have e3 : (vs.map (·.1))[j]? = some k := by simp [e1]
    rw [hkeys, List.getElem?_map] at e3
    cases e4 : ks[j]? with
    | none => simp [e4] at e3
    | some y =>
      have e5 : Sum.inl y = k := by simpa [e4] using e3
      subst e5
      rcases keyIs_shape (show keyIs (Sum.inl y) v = true from e2) with ⟨i, t, ek, ev⟩ | ⟨z, t, ek, ev⟩
      · cases ek
        exact ⟨y, t, rfl, ev⟩
      · cases ek
  have I1 : Inv X pins σ H { s with heap := h', toks := tk } := I.kept hk
  have hacz : acc.toList.length ≤ sizeLine := by
    rw [hal, ← hlen0]
    exact hzs
  refine wpAny_bind (wpAny_newList ?_ hacz)
  have hoL : (h'.push (seqObj "list" acc.toList.toArray 0)).get? h'.objs.size
      = some (seqObj "list" acc.toList.toArray 0) := Heap.get?_push_size _ rfl
  show wpAny _ _ _ _ _ { s with heap := h'.push (seqObj "list" acc.toList.toArray 0), toks := tk }
  refine wpAny_bind (wpAny_holding (wpAny_call_entry PyProof.Rows.slot_list_sort ⟨_, hoL, rfl⟩
    PyProof.Rows.entry_list_sort
    (SrtO.list_sort_ord SrtO.swo_int hoL hacz (fun h2 => SrtO.ints_sortable hS h2) fun out h1 h2 => ⟨_, rfl, ?_⟩)
    (PyProof.Rows.args_list_sort _)))
  obtain ⟨k1, k2, k3⟩ := SrtO.ints_out hS h1 h2
  obtain ⟨e', he'⟩ := PyProof.Rows.sortedHeap_at (vs := acc.toList) (out := out.toArray) hoL
  have hlen : ((out.map SrtO.iv).map V.int).length ≤ sizeLine := by
    rw [List.length_map, k2.length_eq, ← hal]
    exact hacz
  refine wpAny_pure ⟨_, rfl, .ref h'.objs.size, upd H h'.objs.size (.lst ((out.map SrtO.iv).map V.int)),
    I1.laid (t' := tk) (fun b u e => ?_) (Nat.le_refl _)
    (show ObjOk X.prog X.w _ _ _ (.lst ((out.map SrtO.iv).map V.int)) from ⟨hlen, out, e', vals_of_ints k1, he'⟩), rfl,
    q _ _ k2 k3 (I1.hok.fresh (Nat.le_refl _))⟩
  have hb : b < h'.objs.size := Heap.lt_size e
  rw [PyProof.Rows.sortedHeap_old (Nat.ne_of_lt hb)
    (by rw [size_push']; exact Nat.lt_succ_of_lt hb)]
  exact Heap.get?_push_of_some _ e
section
variable {K : PySem.W.Frag} {WX : L2.WX} {W W0 W1 W2 Wc : Wd} {H H0 H1 H2 H' : Hp} {σ : L2.St} {ρ : List Slot} {S S' S1 : List Cell} {E0 : Hp} {np n0 : Nat} {X : Cx} {D : Ends}
/-- whole-number keys -/
def intKs : List (Key × Wz.D) → Option (List Int)
  | [] => some []
  | (.inl i, _) :: r => match intKs r with
    | some l => some (i :: l)
    | none => none
  | (.inr _, _) :: _ => none
theorem intKs_eq : ∀ {l : List (Key × Wz.D)} {ks : List Int}, intKs l = some ks → l.map (·.1) = ks.map Sum.inl
  | [], ks, e => by
    cases e
    rfl
  | (.inl i, d) :: r, ks, e => by
    unfold intKs at e
    split at e
    · rename_i l q
      cases e
      simp [intKs_eq q]
    · cases e
  | (.inr s, d) :: r, ks, e => by cases e
def srtKD : List Wz.D → Option Rv
  | [.dk l] => match intKs l with
    | some ks => some (.new (.lst ((sI ks).map .int)))
    | none => none
  | _ => none
theorem PK.fst {κ : Type} {F : Hp} {al : Nat → Option Addr} {l : List (κ × Wz.D)} {vs : List (κ × V)} (h : PK K F al l vs) : vs.map (·.1) = l.map (·.1) := by
  induction h with
  | nil => rfl
  | cons a b ih => simp only [List.map_cons, ih, a.1]
theorem cr_srtKD (hcm : X.calm = true) : CallR X (.builtin "sorted") (rND X.K srtKD) := by
  intro pins s σ H xs us Q I rr0 q
  refine cr_srtK hcm pins s σ H xs us Q I rr0 ?_
  obtain ⟨W, S, ds, rv, w, o, rd, e, ret⟩ := q
  unfold srtKD at e
  split at e
  · rename_i l
    split at e
    · rename_i ks q
      cases e
      obtain ⟨v, rfl, h1⟩ := rd.one
      obtain ⟨p, vs, rfl, hd, pk⟩ := h1.dk w
      refine ⟨p, vs, ks, rfl, hd, pk.fst.trans (intKs_eq q), fun ys p hp hs hn => ?_⟩
      rw [sI_unique hp hs]
      exact ret.lst w o (RepL.of_ints _) hn
    · cases e
  · cases e
/-! ### sorted, of a list of whole numbers -/
def srtID : List Wz.D → Option Rv
  | [d] => match asL d with
    | some l => match intsD l with
      | some ks => some (.new (.lst ((sI ks).map .int)))
      | none => none
    | none => none
  | _ => none
theorem cr_srtID : CallR X (.builtin "sorted") (rND X.K srtID) := by
  intro pins s σ H xs us Q I rr0 q
  refine cr_sortedI pins s σ H xs us Q I rr0 ?_
  obtain ⟨W, S, ds, rv, w, o, rd, e, ret⟩ := q
  unfold srtID at e
  split at e
  · split at e
    · rename_i l el
      split at e
      · rename_i ks q
        cases e
        obtain ⟨v, rfl, h1⟩ := rd.one
        obtain ⟨p, vs, rfl, hs, rl⟩ := h1.asL w el
        rw [intsD_rep q rl] at hs
        refine ⟨p, ks, rfl, hs, fun ys p hp hs hn => ?_⟩
        rw [sI_unique hp hs]
        exact ret.lst w o (RepL.of_ints _) hn
      · cases e
    · cases e
  · cases e
end
end Wz

set_option Elab.async false
set_option linter.all false
set_option maxRecDepth 100000
set_option maxHeartbeats 4000000
namespace Wz
open PySem PySem.Spec PyProof.Rows L2

section
variable {K : PySem.W.Frag} {WX : L2.WX} {W W0 W1 W2 Wc : Wd} {H H0 H1 H2 H' : Hp} {σ : L2.St} {ρ : List Slot} {S S' S1 : List Cell} {E0 : Hp} {np n0 : Nat} {X : Cx} {D : Ends}
/-! ### comprehensions -/
theorem put_id {o : Ow} (h : W.ow o = none) : W.put o none = W := by
  obtain ⟨F, ow⟩ := W
  unfold Wd.put
  congr 1
  funext x
  by_cases e : x = o
  · rw [if_pos e, e]; exact h.symm
  · rw [if_neg e]
def notOwn (ρ : List Slot) (i : Nat) : Bool := match ρ[i]? with
  | some (.own _) => false
  | _ => true
theorem notOwn_iff {i : Nat} (h : notOwn ρ i = true) : ∀ d, ρ[i]? ≠ some (.own d) := fun d e => by
  unfold notOwn at h
  rw [e] at h
  cases h
theorem set_notOwn {i j : Nat} {s : Slot} (hs : ∀ d, s ≠ .own d) (h : ∀ d, ρ[j]? ≠ some (.own d)) : ∀ d, (ρ.set i s)[j]? ≠ some (.own d) := fun d e => by
  rcases set_get e with ⟨_, e2, _⟩ | ⟨_, e2⟩
  · exact hs d e2.symm
  · exact h d e2
theorem rel_wipe : ∀ (vs : List Nat) {ρ : List Slot}, Rel K E0 np W ρ S σ H → (∀ i ∈ vs, ∀ d, ρ[i]? ≠ some (.own d)) → ∃ ρ' : List Slot, ρ' = clrs vs ρ ∧ Rel K E0 np W ρ' S σ H ∧ (∀ i ∈ vs, i < ρ.length → ρ'[i]? = some .non) ∧ (∀ i : Nat, (∀ d, ρ[i]? ≠ some (Slot.own d)) → ∀ d, ρ'[i]? ≠ some (Slot.own d))
  | [], ρ, r, _ => ⟨ρ, rfl, r, fun i h => absurd h (by simp), fun i h => h⟩
  | v :: vs, ρ, r, h => by
    have r1 := rel_non (i := v) r
    rw [put_id (r.nsl v (h v List.mem_cons_self))] at r1
    obtain ⟨ρ', e, r2, k, m⟩ := rel_wipe vs r1 fun i hi d => set_notOwn (fun _ z => by cases z) (h i (List.mem_cons_of_mem _ hi)) d
    refine ⟨ρ', e, r2, fun i hi hl => ?_, fun i hi => m i fun d => set_notOwn (fun _ z => by cases z) hi d⟩
    by_cases hv : i ∈ vs
    · exact k i hv (by rw [List.length_set]; exact hl)
    · have e0 : i = v := by
        rcases List.mem_cons.mp hi with q | q
        · exact q
        · exact absurd q hv
      subst e0
      rw [e]
      clear k m r2 e
      have base : (ρ.set i .non)[i]? = some .non := List.getElem?_set_self hl
      generalize ρ.set i Slot.non = ρ2 at base
      clear r1 r h hi hl
      induction vs generalizing ρ2 with
      | nil => exact base
      | cons w ws ih => exact ih (fun z => hv (List.mem_cons_of_mem _ z)) _ (by rw [List.getElem?_set_ne (fun z => hv (by rw [z]; exact List.mem_cons_self))]; exact base)
theorem clrs_len : ∀ (vs : List Nat) (ρ : List Slot), (clrs vs ρ).length = ρ.length
  | [], ρ => rfl
  | v :: vs, ρ => (clrs_len vs _).trans (List.length_set ..)
theorem wipe_in {i : Nat} : ∀ {vs : List Nat}, i ∈ vs → i < σ.length → (wipe σ vs)[i]? = some none
  | [], h, _ => absurd h (by simp)
  | v :: vs, h, hl => by
    show ((wipe σ vs).set v none)[i]? = some none
    by_cases e : v = i
    · rw [e]
      exact List.getElem?_set_self (by rw [wipe_length]; exact hl)
    · rw [List.getElem?_set_ne e]
      exact wipe_in ((List.mem_cons.mp h).resolve_left fun z => e z.symm) hl
theorem wipe_idem {vs : List Nat} : wipe (wipe σ vs) vs = wipe σ vs := by
  refine List.ext_getElem? fun i => ?_
  by_cases hi : i ∈ vs
  · rcases Nat.lt_or_ge i σ.length with z | z
    · rw [wipe_in hi (by rw [wipe_length]; exact z), wipe_in hi z]
    · rw [List.getElem?_eq_none (by rw [wipe_length, wipe_length]; exact z), List.getElem?_eq_none (by rw [wipe_length]; exact z)]
  · rw [wipe_out hi]
/-- slots that stand for nothing may be wiped -/
theorem rel_wiped : ∀ (vs : List Nat), Rel K E0 np W ρ S σ H → (∀ i ∈ vs, i < ρ.length → ρ[i]? = some .non) → Rel K E0 np W ρ S (wipe σ vs) H := fun vs r h =>
  ⟨r.wok, r.obs, fun i s e => by
    have q := r.slots i s e
    have hl : i < ρ.length := by
      rcases Nat.lt_or_ge i ρ.length with z | z
      · exact z
      · rw [List.getElem?_eq_none z] at e; cases e
    have keep : ∀ v, s ≠ .non → σ[i]? = some (some v) → (wipe σ vs)[i]? = some (some v) := fun v hs hv => by
      by_cases hi : i ∈ vs
      · rw [h i hi hl] at e
        exact absurd (Option.some.inj e).symm hs
      · rw [wipe_out hi]; exact hv
    cases s with
    | non => exact True.intro
    | val d => obtain ⟨v, h1, h2⟩ := q; exact ⟨v, keep v (fun z => by cases z) h1, h2⟩
    | own d => obtain ⟨p, h1, h2⟩ := q; exact ⟨p, keep _ (fun z => by cases z) h1, h2⟩
    | lck d => obtain ⟨p, h1, h2⟩ := q; exact ⟨p, keep _ (fun z => by cases z) h1, h2⟩, r.len.trans (wipe_length σ vs).symm, r.nsl, r.frs, r.ent⟩
def Tg.ixs : Tg → List Nat
  | .nm i => [i]
  | .tp l => l
  | .np i l => i :: l
/-- a target that binds slots of its own -/
def SndGC (K : PySem.W.Frag) (g : TG) (ix : List Nat) (b : Wz.D → List Slot → Option (List Slot)) : Prop :=
  ∀ (E0 : Hp) (np : Nat) (W : Wd) (ρ : List Slot) (S : List Cell) (σ : L2.St) (H : Hp) (v : V) (d : Wz.D) (ρ' : List Slot) (vs : List Nat) (Q : L2.St → Hp → Prop), Rel K E0 np W ρ S σ H → RepW K W d v → b d ρ = some ρ' → (∀ i ∈ ix, ∀ d, ρ[i]? ≠ some (.own d)) → (∀ i ∈ ix, i ∈ vs) →
    (∀ σ', Rel K E0 np W ρ' S σ' H → wipe σ' vs = wipe σ vs → Q σ' H) → g v σ H Q
theorem set_none_comm {σ : L2.St} {i v : Nat} {x : Option V} (h : i ≠ v) : (σ.set i x).set v none = (σ.set v none).set i x := List.set_comm _ _ h
theorem wipe_set : ∀ {vs : List Nat} {σ : L2.St} {i : Nat} {x : Option V}, i ∈ vs → wipe (σ.set i x) vs = wipe σ vs
  | [], _, _, _, h => absurd h (by simp)
  | v :: vs, σ, i, x, h => by
    unfold wipe
    by_cases hv : i ∈ vs
    · rw [wipe_set hv]
    · have e : i = v := by
        rcases List.mem_cons.mp h with q | q
        · exact q
        · exact absurd q hv
      subst e
      have out : wipe (σ.set i x) vs = (wipe σ vs).set i x := by
        clear h
        induction vs with
        | nil => rfl
        | cons w ws ih =>
          show (wipe (σ.set i x) ws).set w none = ((wipe σ ws).set w none).set i x
          rw [ih fun z => hv (List.mem_cons_of_mem _ z)]
          exact set_none_comm fun z => hv (by rw [z]; exact List.mem_cons_self)
      rw [out, List.set_set]
theorem sndgc_nm {i : Nat} : SndGC K (gName i) [i] (bindT (.nm i)) := by
  intro E0 np W ρ S σ H v d ρ' vs Q r h e hn hi k
  have e' : (if i < ρ.length then some (ρ.set i (.val d)) else none) = some ρ' := e
  split at e'
  · cases e'
    have q := rel_val (i := i) r h
    rw [put_id (r.nsl i (hn i List.mem_cons_self))] at q
    exact k _ q (wipe_set (hi i List.mem_cons_self))
  · cases e'
theorem bindLc_ok : ∀ (is : List Nat) (ds : List Wz.D) (us : List V) (ρ ρ' : List Slot) (σ : L2.St) (vs : List Nat) (Q : L2.St → Hp → Prop), Rel K E0 np W ρ S σ H → RepLW K W ds us → bindL is ds ρ = some ρ' → (∀ i ∈ is, ∀ d, ρ[i]? ≠ some (.own d)) → (∀ i ∈ is, i ∈ vs) →
    (∀ σ', Rel K E0 np W ρ' S σ' H → wipe σ' vs = wipe σ vs → Q σ' H) → gNames is us σ H Q
  | [], [], us, ρ, ρ', σ, vs, Q, r, h, e, hn, hi, k => by
    cases e
    exact ⟨h, k σ r rfl⟩
  | [], _ :: _, us, ρ, ρ', σ, vs, Q, r, h, e, hn, hi, k => by cases e
  | _ :: _, [], us, ρ, ρ', σ, vs, Q, r, h, e, hn, hi, k => by cases e
  | i :: is, d :: ds, us, ρ, ρ', σ, vs, Q, r, h, e, hn, hi, k => by
    obtain ⟨v, w, rfl, h1, h2⟩ := h
    have e' : (if i < ρ.length then bindL is ds (ρ.set i (.val d)) else none) = some ρ' := e
    split at e'
    · refine ⟨v, w, rfl, ?_⟩
      have q := rel_val (i := i) r h1
      rw [put_id (r.nsl i (hn i List.mem_cons_self))] at q
      exact bindLc_ok is ds w _ ρ' _ vs Q q h2 e' (fun j hj d => set_notOwn (fun _ z => by cases z) (hn j (List.mem_cons_of_mem _ hj)) d) (fun j hj => hi j (List.mem_cons_of_mem _ hj)) fun σ' r' z => k σ' r' (z.trans (wipe_set (hi i List.mem_cons_self)))
    · cases e'
theorem bindL_len : ∀ {is : List Nat} {ds : List Wz.D} {ρ ρ' : List Slot}, bindL is ds ρ = some ρ' → ds.length = is.length
  | [], [], _, _, _ => rfl
  | [], _ :: _, _, _, e => by cases e
  | _ :: _, [], _, _, e => by cases e
  | i :: is, d :: ds, ρ, ρ', e => by
    have e' : (if i < ρ.length then bindL is ds (ρ.set i (.val d)) else none) = some ρ' := e
    split at e'
    · simp [bindL_len e']
    · cases e'
theorem sndgc_tp {is : List Nat} : SndGC K (gTup K is.length (gNames is)) is (bindT (.tp is)) := by
  intro E0 np W ρ S σ H v d ρ' vs Q r h e hn hi k
  have e0 : (match asT d with | some l => bindL is l ρ | none => none) = some ρ' := e
  cases el : asT d with
  | none => rw [el] at e0; cases e0
  | some l =>
    rw [el] at e0
    have e1 : bindL is l ρ = some ρ' := e0
    obtain ⟨p, us, rfl, hs, hr⟩ := Rdg.asT r.wok (.inl h) el
    exact ⟨p, us, rfl, hs, by rw [hr.length, bindL_len e1], bindLc_ok is l us ρ ρ' σ vs Q r hr e1 hn hi k⟩
theorem sndgc_np {i : Nat} {is : List Nat} : SndGC K (gTup K 2 (gCons (gName i) (gCons (gTup K is.length (gNames is)) gNil))) (i :: is) (bindT (.np i is)) := by
  intro E0 np W ρ S σ H v d ρ' vs Q r h e hn hi k
  have e0 : (match asT d with
    | some [a, b] => if i < ρ.length then (match asT b with
      | some l => bindL is l (ρ.set i (.val a))
      | none => none) else none
    | _ => none) = some ρ' := e
  cases el : asT d with
  | none => rw [el] at e0; cases e0
  | some l =>
    rw [el] at e0
    match l, el, e0 with
    | [], _, e0 => cases e0
    | [_], _, e0 => cases e0
    | _ :: _ :: _ :: _, _, e0 => cases e0
    | [a, b], el, e0 =>
      have e1 : (if i < ρ.length then (match asT b with
        | some l => bindL is l (ρ.set i (.val a))
        | none => none) else none) = some ρ' := e0
      split at e1
      · obtain ⟨p, us, rfl, hs, hr⟩ := Rdg.asT r.wok (.inl h) el
        obtain ⟨va, w, rfl, h1, vb, w2, rfl, h2, h3⟩ := hr
        have h3' : w2 = [] := h3
        subst h3'
        refine ⟨p, _, rfl, hs, rfl, va, [vb], rfl, vb, [], rfl, ?_⟩
        have q := rel_val (i := i) r h1
        rw [put_id (r.nsl i (hn i List.mem_cons_self))] at q
        exact sndgc_tp E0 np W _ S _ H vb b ρ' vs _ q h2 e1 (fun j hj d => set_notOwn (fun _ z => by cases z) (hn j (List.mem_cons_of_mem _ hj)) d) (fun j hj => hi j (List.mem_cons_of_mem _ hj)) fun σ' r' z => ⟨rfl, k σ' r' (z.trans (wipe_set (hi i List.mem_cons_self)))⟩
      · cases e1
noncomputable def lcL (gd : Option (Nat × Wz.D)) (b : Wz.D → List Slot → Option (List Slot)) (c : EV Bool) (e : EV Rv) (ρ : List Slot) : List Wz.D → List Wz.D → List Cell → Out Rv
  | [], acc, S => onlyIf (gdOk S gd) (.ok (.new (.lst acc)) S) .stuck
  | d :: r, acc, S => onlyIf (gdOk S gd) (match b d ρ with
    | some ρ1 => match c ρ1 S with
      | .ok true S1 => match e ρ1 S1 with
        | .ok rv S2 => match rv.fz with
          | some v => if acc.length < lim then lcL gd b c e ρ r (acc ++ [v]) S2 else .stuck
          | none => .stuck
        | _ => .stuck
      | .ok false S1 => lcL gd b c e ρ r acc S1
      | _ => .stuck
    | none => .stuck) .stuck
theorem lcL_gd {gd : Option (Nat × Wz.D)} {its acc : List Wz.D} {b : Wz.D → List Slot → Option (List Slot)} {c : EV Bool} {e : EV Rv} {Q : VK} (n : Need K WX (RvOk K) W H σ Q (lcL gd b c e ρ its acc S)) : gdOk S gd := by
  refine Classical.byContradiction fun h => ?_
  cases its with
  | nil =>
    rw [show lcL gd b c e ρ [] acc S = onlyIf (gdOk S gd) _ .stuck from rfl, only_neg h] at n
    exact n
  | cons d r =>
    rw [show lcL gd b c e ρ (d :: r) acc S = onlyIf (gdOk S gd) _ .stuck from rfl, only_neg h] at n
    exact n
noncomputable def xLc (it : EV Its) (vs ix : List Nat) (b : Wz.D → List Slot → Option (List Slot)) (c : EV Bool) (e : EV Rv) : EV Rv := fun ρ S => (it ρ S).bind fun its S1 =>
  if (vs.all (notOwn ρ) && ix.all fun i => vs.contains i) = true then lcL its.g b c e (clrs vs ρ) its.l [] S1 else .stuck
def xYes : EV Bool := fun _ S => .ok true S
theorem snd_yes : Snd K WX RB tYes xYes := by
  intro E0 np W ρ S σ H Q r n
  exact Need.ret n r.wok r.obs rfl
abbrev WXF : L2.WX := fun _ _ _ _ => False
/-- a list that nobody knows grows -/
theorem grow {p : Addr} {u : HO} (st : EStep W0 H0 W H) (hp : H0 p = none) (hF : W.F p = none) (ho : ∀ o, W.ow o ≠ some p) (hu : ∀ vs, u ≠ .tup vs) (w : WOk W H) (o : ObsOk K W H S) :
    EStep W0 H0 W (upd H p u) ∧ WOk W (upd H p u) ∧ ObsOk K W (upd H p u) S := by
  have ne : ∀ a, H0 a ≠ none → a ≠ p := fun a h e => h (by rw [e]; exact hp)
  refine ⟨⟨fun a v h n => (upd_ne (ne a (by rw [h]; simp))).trans (st.keep a v h n), st.F, st.Fn, st.sl, st.ob, st.fl, st.own, fun a h => by rw [upd_ne (ne a h)]; exact st.liv a h, fun a o u h => (upd_ne (ne a (by rw [h]; simp))).trans (st.fz a o u h)⟩,
    ⟨fun a v h => ?_, w.inj, w.unF, fun x a h => ?_, fun a vs h => ?_⟩, o.keepO fun x a _ h => upd_ne fun e => ho x (by rw [← e]; exact h)⟩
  · have : a ≠ p := fun e => by rw [e, hF] at h; cases h
    rw [upd_ne this]
    exact w.sub a v h
  · have : a ≠ p := fun e => ho x (by rw [← e]; exact h)
    rw [upd_ne this]
    exact w.alv x a h
  · by_cases e : a = p
    · rw [e, upd_same] at h
      exact absurd (Option.some.inj h) (hu vs)
    · rw [upd_ne e] at h
      exact w.tupF a vs h
theorem snd_lc {wi : TI} {g : TG} {tt : TT} {te : TE} {it : EV Its} {vs ix : List Nat} {b : Wz.D → List Slot → Option (List Slot)} {c : EV Bool} {e : EV Rv} (hi : Snd K WX (RI K) wi it) (hg : SndGC K g ix b) (hc : Snd K WXF RB tt c) (he : Snd K WXF (RvOk K) te e) :
    Snd K WX (RvOk K) (tLc wi g tt te vs) (xLc it vs ix b c e) := by
  intro E0 np W ρ S σ H Q r n
  unfold xLc at n
  refine hi E0 np W ρ S σ H _ r ?_
  cases hx : it ρ S with
  | stuck => rw [hx] at n; exact n
  | exc c a S1 => rw [hx] at n; exact n
  | ok its S1 =>
    rw [hx, Out.bind_ok] at n
    intro J W1 H1 st1 w1 o1 ri
    split at n
    · rename_i hall
      rw [Bool.and_eq_true, List.all_eq_true, List.all_eq_true] at hall
      obtain ⟨G, Y, wk, hG, hY⟩ := ri
      have r1 := r.estep st1 w1 o1
      obtain ⟨ρ', eρ, r2, hnon, hno⟩ := rel_wipe vs r1 fun i hi => notOwn_iff (hall.1 i hi)
      have r3 := rel_wiped vs r2 fun i hi hl => hnon i hi (by rw [eρ, clrs_len] at hl; exact hl)
      rw [← eρ] at n
      intro D hD
      have first := grow (u := .lst []) (EStep.refl (W := W1) (H := H1)) hD (w1.fnone hD) (w1.onone hD) (fun _ z => by cases z) w1 o1
      refine lc_it wk (fun i H' => ∃ W' S' acc us, EStep W1 H1 W' H' ∧ Rel K E0 np W' ρ' S' (wipe σ vs) H' ∧ H' D = some (.lst us) ∧ RepLW K W' acc us ∧ W'.F D = none ∧ (∀ o, W'.ow o ≠ some D) ∧ Need K WX (RvOk K) W H σ Q (lcL its.g b c e ρ' (its.l.drop i) acc S'))
        ⟨W1, S1, [], [], first.1, r3.estep first.1 first.2.1 first.2.2, upd_same, rfl, w1.fnone hD, w1.onone hD, n⟩ (fun i H' _ ⟨W', S', acc, us, a1, a2, _, _, _, _, a7⟩ => hG W' H' S' a2.wok a2.obs (lcL_gd a7) a1.F a1.ob a1.fz) ?_ ?_
      · rintro i x H2 H3 hil ⟨W2, S2, acc, us, a1, a2, a3, a4, a5, a6, a7⟩ y
        have gk := lcL_gd a7
        obtain ⟨W3, d, s3, w3, o3, ei, rp⟩ := hY i H2 x H3 W2 S2 hil (hG W2 H2 S2 a2.wok a2.obs gk a1.F a1.ob a1.fz) a2.wok a2.obs gk a1.F a1.ob y
        have ed : its.l.drop i = d :: its.l.drop (i + 1) := by
          rw [List.drop_eq_getElem_cons hil]
          rw [List.getElem?_eq_getElem hil] at ei
          rw [Option.some.inj ei]
        rw [ed] at a7
        unfold lcL at a7
        rw [only_pos gk] at a7
        cases eb : b d ρ' with
        | none => simp only [eb] at a7; exact a7.elim
        | some ρ1 =>
          simp only [eb] at a7
          have r4 := a2.estep s3 w3 o3
          refine hg E0 np W3 ρ' S2 (wipe σ vs) H3 x d ρ1 vs _ r4 rp eb (fun j hj d => ?_) (fun j hj => by simpa using hall.2 j hj) fun σ' r5 ew => ⟨ew.trans wipe_idem, ?_⟩
          · have jv : j ∈ vs := by simpa using hall.2 j hj
            exact hno j (notOwn_iff (hall.1 j jv)) d
          · refine hc E0 np W3 ρ1 S2 σ' H3 _ r5 ?_
            cases ec : c ρ1 S2 with
            | stuck => simp only [ec] at a7; exact a7.elim
            | exc cc a S3 => simp only [ec] at a7; exact a7.elim
            | ok bb S3 =>
              intro b' W4 H4 s4 w4 o4 eb'
              have eb2 : bb = b' := eb'
              subst eb2
              have r6 := r5.estep s4 w4 o4
              have keepD : ∀ {W' : Wd} {H' : Hp}, EStep W2 H2 W' H' → H' D = some (.lst us) ∧ W'.F D = none ∧ ∀ o, W'.ow o ≠ some D := fun {W' H'} s => by
                have hD2 : H2 D ≠ none := by rw [a3]; simp
                refine ⟨s.keep D _ a3 fun o _ => a6 o, Classical.byContradiction fun z => ?_, fun o z => ?_⟩
                · rcases s.Fn D z with q | q
                  · exact q a5
                  · exact hD2 q
                · rcases s.own o D z with q | q
                  · exact a6 o q
                  · exact hD2 q
              cases bb with
              | false =>
                simp only [ec] at a7
                have sx := s3.trans s4
                obtain ⟨k1, k2, k3⟩ := keepD sx
                exact ⟨W4, S3, acc, us, a1.trans sx, a2.estep sx w4 o4, k1, RepL.mono sx.F sx.ob acc us a4, k2, k3, a7⟩
              | true =>
                simp only [ec] at a7
                refine he E0 np W4 ρ1 S3 σ' H4 _ r6 ?_
                cases ee : e ρ1 S3 with
                | stuck => simp only [ee] at a7; exact a7.elim
                | exc cc a S4 => simp only [ee] at a7; exact a7.elim
                | ok rv S4 =>
                  simp only [ee] at a7
                  intro y2 W5 H5 s5 w5 o5 rr
                  cases ef : rv.fz with
                  | none => simp only [ef] at a7; exact a7.elim
                  | some v =>
                    simp only [ef] at a7
                    split at a7
                    · rename_i hz
                      have sx := (s3.trans s4).trans s5
                      have rr2 : RvOk K W5 H2 H5 rv y2 := rr.weak (s3.trans s4).liv
                      obtain ⟨W6, s6, w6, o6, rp6, _, _⟩ := (RvOk.rf rr2 ef).freeze sx w5 o5 ef
                      obtain ⟨k1, k2, k3⟩ := keepD s6
                      have hD1 : H1 D = none := hD
                      obtain ⟨g1, g2, g3⟩ := grow (u := .lst (us ++ [y2])) (a1.trans s6) hD1 k2 k3 (fun _ z => by cases z) w6 o6
                      have rl : RepLW K W6 acc us := RepL.mono s6.F s6.ob acc us a4
                      refine ⟨us, k1, by rw [rl.length]; exact Nat.lt_of_lt_of_le hz (lim_le (Nat.le_refl _)), W6, S4, acc ++ [v], us ++ [y2], g1, r3.estep g1 g2 g3, upd_same, rl.snoc rp6, k2, k3, a7⟩
                    · exact a7.elim
      · rintro H' ⟨W', S', acc, us, a1, a2, a3, a4, a5, a6, a7⟩
        have gk := lcL_gd a7
        rw [List.drop_length] at a7
        rw [show lcL its.g b c e ρ' [] acc S' = onlyIf (gdOk S' its.g) (.ok (.new (.lst acc)) S') .stuck from rfl, only_pos gk] at a7
        have hD0 : H D = none := Classical.byContradiction fun z => st1.liv D z hD
        exact a7 (.ref D) W' H' (st1.trans a1) a2.wok a2.obs ⟨D, rfl, ⟨us, a3, a4⟩, a5, a6, hD0⟩
    · exact n.elim
end
end Wz

set_option Elab.async false
set_option linter.all false
set_option maxRecDepth 100000
set_option maxHeartbeats 4000000
namespace Wz
open PySem PySem.Spec PyProof.Rows L2

section
variable {K : PySem.W.Frag} {WX : L2.WX} {W W0 W1 W2 Wc : Wd} {H H0 H1 H2 H' : Hp} {σ : L2.St} {ρ : List Slot} {S S' S1 : List Cell} {E0 : Hp} {np n0 : Nat} {X : Cx} {D : Ends}
/-! ### list(reversed(x)), x a list -/
def tLstRev (K : PySem.W.Frag) (te : TE) : TE := fun σ H Q => te σ H fun v H1 => ∃ (a : Addr) (xs : List V), v = .ref a ∧ SqL K H1 a xs ∧ ∀ q, H1 q = none → Q (.ref q) (upd H1 q (.lst xs.reverse))
theorem pe_lstRev {e : Expr} {te : TE} {p p2 pos pos2 : Pos} (hc : X.calm = true) (hg : Gl X "list") (hm : X.mg "list" = none) (hg2 : Gl X "reversed") (hm2 : X.mg "reversed" = none) (he : PE X e te)
    (hs : starEach [e] X.env = (false, eval e X.env) :: starEach [] X.env)
    (hs2 : starEach [.Call (.Name "reversed" p2) [e] [] pos2] X.env = (false, eval (.Call (.Name "reversed" p2) [e] [] pos2) X.env) :: starEach [] X.env) :
    PE X (.Call (.Name "list" p) [.Call (.Name "reversed" p2) [e] [] pos2] [] pos) (tLstRev X.K te) := by
  refine ⟨fun pins s σ H Q I h => ?_⟩
  refine Call_ (ld_blt I hg hm boot_list (PyProof.Rows.callWith_type1 (args_cons (Call_ (ld_blt I hg2 hm2 PyProof.Rows.boot_reversed
    (PyProof.Rows.callWith_type1 (args_cons (thn (he.run pins s σ H _ I h) fun u s1 ⟨v, H1, I1, r1, q1⟩ => args_nil ?_) hs) hs rfl))) hs2) hs2 rfl))
  obtain ⟨a, xs, rfl, hq, q⟩ := q1
  cases r1
  obtain ⟨its, rv, p', hz⟩ := I1.list hq
  refine call_reversed_list p'.isList (args_nil ?_)
  have hl := p'.isList
  obtain ⟨ol, hol, _⟩ := id hl
  have hne : a ≠ s1.heap.objs.size := Nat.ne_of_lt (Heap.lt_size hol)
  have hn : its.toArray.size ≤ sizeLine := by
    rw [List.size_toArray, ← rv.length]
    exact hz
  refine WzR.call_list_rev (s := { s1 with heap := s1.heap.push (revObj a ((its.toArray.size : Int) - 1)) }) (I1.ok.hd hc) ⟨_, Heap.get?_push_size _ rfl, rfl, rfl⟩
    (hl.push _) hne hn fun h' tk acc c hk hS hi => ?_
  have hsz : (s1.heap.push (revObj a ((its.toArray.size : Int) - 1))).objs.size = s1.heap.objs.size + 1 := size_push' ..
  rw [hsz] at hS ⊢
  have kk : ∀ b o, s1.heap.get? b = some o → h'.get? b = some o := fun b o e => hk b o (Nat.ne_of_lt (Heap.lt_size e)) (Heap.get?_push_of_some _ e)
  refine ⟨.ref (s1.heap.objs.size + 1), upd H1 (s1.heap.objs.size + 1) (.lst xs.reverse), I1.laid (t' := tk) kk (Nat.le_succ _) ⟨by
    rw [List.length_reverse]
    exact hz, acc.toList, c, RT.vals_rev rv hi, by rw [Array.toArray_toList]; exact hS⟩, rfl, q _ (I1.hok.fresh (Nat.le_succ _))⟩
def revD : Wz.D → Option Rv := fun d => match asL d with
  | some l => some (.new (.lst l.reverse))
  | none => none
def xRev (e : EV Rv) : EV Rv := xOp1 revD e
theorem RepL.rev {l : List Wz.D} {vs : List V} (h : RepLW K W l vs) : RepLW K W l.reverse vs.reverse := by
  induction l generalizing vs with
  | nil =>
    have h' : vs = [] := h
    rw [h']
    rfl
  | cons d r ih =>
    obtain ⟨v, w, rfl, h1, h2⟩ := h
    rw [List.reverse_cons, List.reverse_cons]
    exact (ih h2).snoc h1
theorem snd_rev {te : TE} {e : EV Rv} (h : Snd K WX (RvOk K) te e) : Snd K WX (RvOk K) (tLstRev K te) (xRev e) := by
  intro E0 np W ρ S σ H Q r n
  refine h E0 np W ρ S σ H _ r (Need.bind n fun rv S1 e1 v W1 H1 st w o rr n1 => ?_)
  unfold ap1 at n1
  cases q1 : rv.read S1 with
  | none => simp only [q1] at n1; exact n1.elim
  | some d =>
    simp only [q1] at n1
    unfold revD at n1
    cases q2 : asL d with
    | none => simp only [q2] at n1; exact n1.elim
    | some l =>
      simp only [q2] at n1
      obtain ⟨p, vs, rfl, hs, hr⟩ := (rr.read o q1).asL w q2
      refine ⟨p, vs, rfl, hs, fun q hq => ?_⟩
      have hq0 : H q = none := Classical.byContradiction fun z => st.liv q z hq
      exact n1 _ W1 _ (new_st hq) (new_w w hq fun _ z => by cases z) (new_o w o hq) ⟨q, rfl, ⟨_, upd_same, hr.rev⟩, w.fnone hq, w.onone hq, hq⟩
/-! ### d.get(k), d.get(k, x) -/
def isDct : Wz.D → Bool
  | .dk _ => true
  | .dt _ => true
  | _ => false
def xGet2 (d k x : EV Rv) : EV Rv := fun ρ S => (d ρ S).bind fun rd S1 => match rd.read S1 with
  | some d1 => if isDct d1 = true then (k ρ S1).bind fun rk S2 => (x ρ S2).bind fun rx S3 => match rd.read S3 with
    | some d3 => match rk.read S3 with
      | some kk => match dget d3 kk with
        | some (some v) => .ok (.val v) S3
        | some none => .ok rx S3
        | none => .stuck
      | none => .stuck
    | none => .stuck
    else .stuck
  | none => .stuck
def xGet1 (d k : EV Rv) : EV Rv := fun ρ S => (d ρ S).bind fun rd S1 => match rd.read S1 with
  | some d1 => if isDct d1 = true then (k ρ S1).bind fun rk S2 => match rd.read S2 with
    | some d3 => match rk.read S2 with
      | some kk => match dget d3 kk with
        | some (some v) => .ok (.val v) S2
        | some none => .ok (.val .non) S2
        | none => .stuck
      | none => .stuck
    | none => .stuck
    else .stuck
  | none => .stuck
theorem isD_rdg {d : Wz.D} {v : V} (w : WOk W H) (h : isDct d = true) (r : Rdg K W H d v) : ∃ a, v = .ref a ∧ IsD H a := by
  cases d with
  | dk l =>
    obtain ⟨p, vs, rfl, h1, _⟩ := r.dk w
    exact ⟨p, rfl, .inl ⟨vs, h1⟩⟩
  | dt l =>
    obtain ⟨p, vs, rfl, h1, _⟩ := r.dt w
    exact ⟨p, rfl, .inr ⟨vs, h1⟩⟩
  | _ => cases h
theorem snd_get2 {td tk tx : TE} {d k x : EV Rv} (hd : Snd K WX (RvOk K) td d) (hk : Snd K WX (RvOk K) tk k) (hx : Snd K WX (RvOk K) tx x) : Snd K WX (RvOk K) (tDGet2 td tk tx) (xGet2 d k x) := by
  intro E0 np W ρ S σ H Q r n
  refine hd E0 np W ρ S σ H _ r (Need.bind n fun rd S1 e1 v W1 H1 st1 w1 o1 rr1 n1 => ?_)
  cases q1 : rd.read S1 with
  | none => simp only [q1] at n1; exact n1.elim
  | some d1 =>
    simp only [q1] at n1
    split at n1
    · rename_i hD
      obtain ⟨a, rfl, ha⟩ := isD_rdg w1 hD (rr1.read o1 q1)
      have r1 := r.estep st1 w1 o1
      refine ⟨a, rfl, ha, hk E0 np W1 ρ S1 σ H1 _ r1 (Need.bind n1 fun rk S2 e2 y W2 H2 st2 w2 o2 rr2 n2 => ?_)⟩
      have r2 := r1.estep st2 w2 o2
      refine hx E0 np W2 ρ S2 σ H2 _ r2 (Need.bind n2 fun rx S3 e3 z W3 H3 st3 w3 o3 rr3 n3 => ?_)
      cases q3 : rd.read S3 with
      | none => simp only [q3] at n3; exact n3.elim
      | some d3 =>
        simp only [q3] at n3
        cases q4 : rk.read S3 with
        | none => simp only [q4] at n3; exact n3.elim
        | some kk =>
          simp only [q4] at n3
          cases q5 : dget d3 kk with
          | none => simp only [q5] at n3; exact n3.elim
          | some ov =>
            simp only [q5] at n3
            obtain ⟨a', u, ea, g, hz⟩ := dget_rdg w3 q5 (((rr1.step st2).step st3).read o3 q3) ((rr2.step st3).read o3 q4)
            cases ea
            rcases hz with ⟨rfl, rfl⟩ | ⟨dv, vv, rfl, rfl, rp⟩
            · refine ⟨none, g, ?_⟩
              -- the default as it came
              unfold xGet2 at n
              rw [e1, Out.bind_ok] at n
              simp only [q1, hD, if_true] at n
              rw [e2, Out.bind_ok, e3, Out.bind_ok] at n
              simp only [q3, q4, q5] at n
              exact n z W3 H3 ((st1.trans st2).trans st3) w3 o3 (rr3.weak (st1.trans st2).liv)
            · exact ⟨some vv, g, n3 vv W3 H3 .refl w3 o3 rp⟩
    · exact n1.elim
theorem snd_get1 {td tk : TE} {d k : EV Rv} (hd : Snd K WX (RvOk K) td d) (hk : Snd K WX (RvOk K) tk k) : Snd K WX (RvOk K) (tDGet1 td tk) (xGet1 d k) := by
  intro E0 np W ρ S σ H Q r n
  refine hd E0 np W ρ S σ H _ r (Need.bind n fun rd S1 e1 v W1 H1 st1 w1 o1 rr1 n1 => ?_)
  cases q1 : rd.read S1 with
  | none => simp only [q1] at n1; exact n1.elim
  | some d1 =>
    simp only [q1] at n1
    split at n1
    · rename_i hD
      obtain ⟨a, rfl, ha⟩ := isD_rdg w1 hD (rr1.read o1 q1)
      have r1 := r.estep st1 w1 o1
      refine ⟨a, rfl, ha, hk E0 np W1 ρ S1 σ H1 _ r1 (Need.bind n1 fun rk S2 e2 y W2 H2 st2 w2 o2 rr2 n2 => ?_)⟩
      cases q3 : rd.read S2 with
      | none => simp only [q3] at n2; exact n2.elim
      | some d3 =>
        simp only [q3] at n2
        cases q4 : rk.read S2 with
        | none => simp only [q4] at n2; exact n2.elim
        | some kk =>
          simp only [q4] at n2
          cases q5 : dget d3 kk with
          | none => simp only [q5] at n2; exact n2.elim
          | some ov =>
            simp only [q5] at n2
            obtain ⟨a', u, ea, g, hz⟩ := dget_rdg w2 q5 ((rr1.step st2).read o2 q3) (rr2.read o2 q4)
            cases ea
            rcases hz with ⟨rfl, rfl⟩ | ⟨dv, vv, rfl, rfl, rp⟩
            · exact ⟨none, g, n2 .non W2 H2 .refl w2 o2 rfl⟩
            · exact ⟨some vv, g, n2 vv W2 H2 .refl w2 o2 rp⟩
    · exact n1.elim
/-! ### isinstance(x, T), T a built-in class -/
def tyD : Wz.D → Option String
  | .non => some "NoneType"
  | .bl _ => some "bool"
  | .int _ => some "int"
  | .str _ => some "str"
  | .tup _ => some "tuple"
  | .lst _ => some "list"
  | .dk _ => some "dict"
  | _ => none
def tys : List String := ["NoneType", "bool", "int", "str", "tuple", "list", "dict"]
def isiB (t T : String) : Bool := t == T || (t == "bool" && T == "int")
theorem kitB_all : (tys.all fun t => tys.all fun T => decide (kitB t T = some (isiB t T))) = true := by decide +kernel
theorem tyD_mem {d : Wz.D} {t : String} (e : tyD d = some t) : t ∈ tys := by
  cases d <;> cases e <;> decide
theorem tyD_ty {d : Wz.D} {t : String} {v : V} (w : WOk W H) (e : tyD d = some t) (r : Rdg K W H d v) : TyX K H v (.type t) := by
  cases d with
  | non => cases e; rw [r.non]; exact .base .non
  | bl b => cases e; rw [r.bl]; exact .base (.bl b)
  | int b => cases e; rw [r.int]; exact .base (.int b)
  | str b => cases e; rw [r.str]; exact .base (.str b)
  | tup l =>
    cases e
    obtain ⟨p, vs, rfl, h, _⟩ := r.tup w
    exact .base (.tup h)
  | lst l =>
    cases e
    obtain ⟨p, vs, rfl, h, _⟩ := r.lst w
    exact .base (.lst h)
  | dk l =>
    cases e
    obtain ⟨p, vs, rfl, h, _⟩ := r.dk w
    rcases h with h | ⟨o, h⟩
    · exact .base (.dK h)
    · exact .fDict h
  | _ => cases e
def isiD (T : String) (d : Wz.D) : Option Rv := match tyD d with
  | some t => some (.val (.bl (isiB t T)))
  | none => none
def xIsi (T : String) (e : EV Rv) : EV Rv := xOp1 (isiD T) e
theorem snd_isi {te : TE} {e : EV Rv} {T : String} (hT : T ∈ tys) (h : Snd K WX (RvOk K) te e) : Snd K WX (RvOk K) (tCB (rIsi K) (tCons te (tCons (tC (.ty T)) tNil))) (xIsi T e) := by
  intro E0 np W ρ S σ H Q r n
  refine h E0 np W ρ S σ H _ r (Need.bind n fun rv S1 e1 v W1 H1 st w o rr n1 => ?_)
  unfold ap1 at n1
  cases q1 : rv.read S1 with
  | none => simp only [q1] at n1; exact n1.elim
  | some d =>
    simp only [q1] at n1
    unfold isiD at n1
    cases q2 : tyD d with
    | none => simp only [q2] at n1; exact n1.elim
    | some t =>
      simp only [q2] at n1
      have k := kitB_all
      rw [List.all_eq_true] at k
      have k2 := k t (tyD_mem q2)
      rw [List.all_eq_true] at k2
      have k3 := of_decide_eq_true (k2 T hT)
      exact ⟨v, .ty T, .type t, .type T, isiB t T, rfl, .ty T, tyD_ty w q2 (rr.read o q1), kit_ty k3, n1 _ W1 H1 .refl w o rfl⟩
end
end Wz

set_option Elab.async false
set_option linter.all false
set_option maxRecDepth 100000
set_option maxHeartbeats 4000000
namespace Wz
open PySem PySem.Spec PyProof.Rows L2

/-! ### containers that the store knows: boxes, fields -/
def noF (f : Str) : List (Str × Fld) → Bool
  | [] => true
  | q :: r => !(q.1 == f) && noF f r
def oneF (f : Str) : List (Str × Fld) → Bool
  | [] => false
  | q :: r => if (q.1 == f) = true then noF f r else oneF f r
def fset (f : Str) (x : Fld) : List (Str × Fld) → List (Str × Fld)
  | [] => []
  | q :: r => if (q.1 == f) = true then (q.1, x) :: r else q :: fset f x r
def oget (S : List Cell) : Ow → Option Wz.D
  | .sl _ => none
  | .ob n => match S[n]? with
    | some (.box d) => some d
    | _ => none
  | .fl n f => match S[n]? with
    | some (.ins _ fs) => if oneF f fs = true then match fs.lookup f with
        | some (.own d) => some d
        | _ => none
      else none
    | _ => none
def ocell (b : Bool) (d : Wz.D) : Cell := if b = true then .lbx d else .box d
def ofld (b : Bool) (d : Wz.D) : Fld := if b = true then .lck d else .own d
/-- b: locked -/
def oputB (b : Bool) (S : List Cell) (o : Ow) (d : Wz.D) : List Cell := match o with
  | .sl _ => S
  | .ob n => S.set n (ocell b d)
  | .fl n f => match S[n]? with
    | some (.ins c fs) => S.set n (.ins c (fset f (ofld b d) fs))
    | _ => S
abbrev oput (S : List Cell) (o : Ow) (d : Wz.D) : List Cell := oputB false S o d
section
variable {K : PySem.W.Frag} {WX : L2.WX} {W W0 W1 W2 Wc : Wd} {H H0 H1 H2 H' : Hp} {σ : L2.St} {ρ : List Slot} {S S' S1 : List Cell} {E0 : Hp} {np n0 : Nat} {X : Cx} {D : Ends}
theorem FldOk.keep {n : Nat} {f : Str} {x : Fld} {v : V} (h : FldOk K W H n f x v) (hk : ∀ a, W.ow (.fl n f) = some a → H' a = H a) : FldOk K W H' n f x v := by
  cases x with
  | val d => exact h
  | own d =>
    obtain ⟨p, e, h1, h2⟩ := h
    exact ⟨p, e, h1, h2.mono (fun _ _ q => q) (fun _ _ q => q) (hk p h1)⟩
  | lck d =>
    obtain ⟨p, e, h1, h2⟩ := h
    exact ⟨p, e, h1, h2.mono (fun _ _ q => q) (fun _ _ q => q) (hk p h1)⟩
theorem FldsOk.keep {n : Nat} : ∀ {fs : List (Str × Fld)} {vs : List (Str × V)}, FldsOk K W H n fs vs → (∀ q ∈ fs, ∀ a, W.ow (.fl n q.1) = some a → H' a = H a) → FldsOk K W H' n fs vs
  | [], vs, h, _ => h
  | (f, x) :: r, vs, h, hk => by
    obtain ⟨v, w, e, h1, h2⟩ := h
    exact ⟨v, w, e, FldOk.keep h1 (hk _ List.mem_cons_self), FldsOk.keep h2 fun q hq => hk q (List.mem_cons_of_mem _ hq)⟩
theorem noF_ne {f : Str} : ∀ {fs : List (Str × Fld)}, noF f fs = true → ∀ q ∈ fs, q.1 ≠ f
  | [], _, q, hq => by cases hq
  | (g, x) :: r, h, q, hq => by
    have h' : (!(g == f) && noF f r) = true := h
    rw [Bool.and_eq_true, Bool.not_eq_true', beq_eq_false_iff_ne] at h'
    rcases List.mem_cons.mp hq with e | e
    · rw [e]; exact h'.1
    · exact noF_ne h'.2 q e
/-- the field that stands once -/
theorem FldsOk.at_ {n : Nat} {f : Str} {x : Fld} : ∀ {fs : List (Str × Fld)} {vs : List (Str × V)}, FldsOk K W H n fs vs → oneF f fs = true → fs.lookup f = some x → ∃ v, vs.lookup f = some v ∧ FldOk K W H n f x v :=
  fun h _ e => h.look e
theorem fset_ok {n : Nat} {f : Str} {y : Fld} : ∀ {fs : List (Str × Fld)} {vs : List (Str × V)} {v : V}, FldsOk K W H n fs vs → oneF f fs = true → vs.lookup f = some v → (∀ q ∈ fs, q.1 ≠ f → ∀ a, W.ow (.fl n q.1) = some a → H' a = H a) →
    FldOk K W H' n f y v → FldsOk K W H' n (fset f y fs) vs
  | [], vs, v, h, o, _, _, _ => by cases o
  | (g, x) :: r, vs, v, h, o, e, hk, hy => by
    obtain ⟨u, w, rfl, h1, h2⟩ := h
    have o' : (if (g == f) = true then noF f r else oneF f r) = true := o
    show FldsOk K W H' n (if (g == f) = true then (g, y) :: r else (g, x) :: fset f y r) _
    by_cases q : (g == f) = true
    · rw [if_pos q] at o' ⊢
      have eg : g = f := eq_of_beq q
      subst eg
      rw [List.lookup_cons_self] at e
      cases e
      exact ⟨_, w, rfl, hy, FldsOk.keep h2 fun z hz => hk z (List.mem_cons_of_mem _ hz) (noF_ne o' z hz)⟩
    · rw [if_neg q] at o' ⊢
      have ne : g ≠ f := fun z => q (by rw [z]; exact beq_self_eq_true f)
      have q2 : (f == g) = false := by
        rw [beq_eq_false_iff_ne]
        exact fun z => ne z.symm
      have e2 : w.lookup f = some v := by
        rw [List.lookup_cons, q2] at e
        exact e
      exact ⟨u, _, rfl, h1.keep (hk _ List.mem_cons_self ne), fset_ok h2 o' e2 (fun z hz => hk z (List.mem_cons_of_mem _ hz)) hy⟩
theorem oget_at {o : Ow} {d : Wz.D} (ob : ObsOk K W H S) (e : oget S o = some d) : ∃ p, W.ow o = some p ∧ ContX K W H p d := by
  cases o with
  | sl i => cases e
  | ob n =>
    have e' : (match S[n]? with | some (.box d) => some d | _ => none) = some d := e
    split at e'
    · rename_i x q
      cases e'
      exact ob.at_ n _ q
    · cases e'
  | fl n f =>
    have e' : (match S[n]? with
      | some (.ins _ fs) => if oneF f fs = true then match fs.lookup f with
          | some (.own d) => some d
          | _ => none
        else none
      | _ => none) = some d := e
    split at e'
    · rename_i c fs q
      split at e'
      · rename_i h1
        split at e'
        · rename_i x q2
          cases e'
          obtain ⟨a, dx, vs, k1, k2, k3⟩ := ob.at_ n _ q
          obtain ⟨v, k4, p, k5, k6, k7⟩ := k3.look q2
          exact ⟨p, k6, k7⟩
        · cases e'
      · cases e'
    · cases e'
theorem fset_look {f g : Str} {y : Fld} : ∀ {fs : List (Str × Fld)}, isOw (fs.lookup f) = true → isOw (some y) = true → isOw ((fset f y fs).lookup g) = isOw (fs.lookup g)
  | [], h, _ => by cases h
  | (k, x) :: r, h, hy => by
    show isOw ((if (k == f) = true then (k, y) :: r else (k, x) :: fset f y r).lookup g) = _
    by_cases q : (k == f) = true
    · rw [if_pos q]
      have e : k = f := eq_of_beq q
      subst e
      by_cases z : (g == k) = true
      · have e : g = k := eq_of_beq z
        subst e
        rw [List.lookup_cons_self] at h ⊢
        rw [List.lookup_cons_self, h, hy]
      · have z' : (g == k) = false := by simpa using z
        rw [List.lookup_cons, z', List.lookup_cons, z']
    · rw [if_neg q]
      have q' : (f == k) = false := by
        rw [beq_eq_false_iff_ne]
        exact fun e => q (by rw [e]; exact beq_self_eq_true k)
      rw [List.lookup_cons, q'] at h
      have ih := fset_look (g := g) h hy
      by_cases z : (g == k) = true
      · rw [List.lookup_cons, z, List.lookup_cons, z]
      · have z' : (g == k) = false := by simpa using z
        rw [List.lookup_cons, z', List.lookup_cons, z']
        exact ih
theorem ofld_ow {b : Bool} {d : Wz.D} : isOw (some (ofld b d)) = true := by cases b <;> rfl
/-- the store with another content at o, which stands at p -/
theorem obs_put {o : Ow} {p : Addr} {d d' : Wz.D} {b : Bool} (w : WOk W H) (ob : ObsOk K W H S) (e : oget S o = some d ∨ ∃ d0, oput S o d0 = S ∧ False) (hp : W.ow o = some p) (hk : ∀ a, a ≠ p → H' a = H a) (c : if b = true then ContR K W H' p d' else ContX K W H' p d') : ObsOk K W H' (oputB b S o d') := by
  rcases e with e | ⟨_, _, z⟩
  · have other : ∀ {n : Nat} {cc : Cell}, (∀ x, W.ow x = some p → ∀ g, x ≠ .ob n ∧ x ≠ .fl n g) → CellOk K W H n cc → CellOk K W H' n cc := fun {n cc} hx q => by
      cases cc with
      | box d =>
        obtain ⟨a, h1, h2⟩ := q
        exact ⟨a, h1, h2.mono (fun _ _ q => q) (fun _ _ q => q) (hk a fun z => (hx _ (by rw [← z]; exact h1) default).1 rfl)⟩
      | lbx d =>
        obtain ⟨a, h1, h2⟩ := q
        exact ⟨a, h1, h2.mono (fun _ _ q => q) (fun _ _ q => q) (hk a fun z => (hx _ (by rw [← z]; exact h1) default).1 rfl)⟩
      | ins cl fs =>
        obtain ⟨a, dx, vs, h1, h2, h3⟩ := q
        exact ⟨a, dx, vs, h1, (hk a fun z => (hx _ (by rw [← z]; exact h1) default).1 rfl).trans h2, h3.keep fun q _ a' ha => hk a' fun z => (hx _ (by rw [← z]; exact ha) q.1).2 rfl⟩
    have own : ∀ x, W.ow x = some p → x = o := fun x hx => w.inj x o p hx hp
    cases o with
    | sl i => cases e
    | ob n =>
      have e' : (match S[n]? with | some (.box d) => some d | _ => none) = some d := e
      split at e'
      · rename_i x q
        have hn : n < S.length := by
          rcases Nat.lt_or_ge n S.length with z | z
          · exact z
          · rw [List.getElem?_eq_none z] at q; cases q
        refine ⟨fun m cc em => ?_, fun m hm => ?_, fun m g hg => ?_⟩
        · have em' : (S.set n (ocell b d'))[m]? = some cc := em
          rcases set_get em' with ⟨rfl, rfl, _⟩ | ⟨ne, em'⟩
          · cases b with
            | false => exact ⟨p, hp, c⟩
            | true => exact ⟨p, hp, c⟩
          · refine other (fun x hx g => ?_) (ob.at_ m cc em')
            rw [own x hx]
            exact ⟨fun z => ne (Ow.ob.inj z), fun z => Ow.noConfusion z⟩
        · have hm' : (S.set n (ocell b d')).length ≤ m := hm
          rw [List.length_set] at hm'
          exact ob.nob m hm'
        · refine ob.nof m g ?_
          have hg' : ownF (S.set n (ocell b d')) m g = false := hg
          unfold ownF at hg' ⊢
          by_cases e : n = m
          · subst e
            rw [q]
          · rwa [List.getElem?_set_ne e] at hg'
      · cases e'
    | fl n f =>
      have e' : (match S[n]? with
        | some (.ins _ fs) => if oneF f fs = true then match fs.lookup f with
            | some (.own d) => some d
            | _ => none
          else none
        | _ => none) = some d := e
      split at e'
      · rename_i cl fs q
        split at e'
        · rename_i h1
          split at e'
          · rename_i x q2
            have hn : n < S.length := by
              rcases Nat.lt_or_ge n S.length with z | z
              · exact z
              · rw [List.getElem?_eq_none z] at q; cases q
            have eo : oputB b S (.fl n f) d' = S.set n (.ins cl (fset f (ofld b d') fs)) := by
              show (match S[n]? with
                | some (.ins c fs) => S.set n (.ins c (fset f (ofld b d') fs))
                | _ => S) = _
              rw [q]
            rw [eo]
            refine ⟨fun m cc em => ?_, fun m hm => ?_, fun m g hg => ?_⟩
            · rcases set_get em with ⟨rfl, rfl, _⟩ | ⟨ne, em'⟩
              · obtain ⟨a, dx, vs, k1, k2, k3⟩ := ob.at_ _ _ q
                obtain ⟨v, k4, p2, k5, k6, k7⟩ := k3.look q2
                have ep : p2 = p := Option.some.inj (k6.symm.trans hp)
                subst ep
                refine ⟨a, dx, vs, k1, (hk a fun z => ?_).trans k2, fset_ok k3 h1 k4 (fun y _ ny a' ha => hk a' fun z => ?_) ?_⟩
                · have := own _ (by rw [← z]; exact k1)
                  cases this
                · have := own _ (by rw [← z]; exact ha)
                  exact ny (Ow.fl.inj this).2
                · cases b with
                  | false => exact ⟨_, k5, hp, c⟩
                  | true => exact ⟨_, k5, hp, c⟩
              · refine other (fun x hx g => ?_) (ob.at_ m cc em')
                rw [own x hx]
                exact ⟨fun z => Ow.noConfusion z, fun z => ne (Ow.fl.inj z).1⟩
            · rw [List.length_set] at hm
              exact ob.nob m hm
            · refine ob.nof m g ?_
              unfold ownF at hg ⊢
              by_cases e : n = m
              · subst e
                rw [List.getElem?_set_self hn] at hg
                rw [q]
                have hf : isOw (fs.lookup f) = true := by rw [q2]; rfl
                exact (fset_look (y := ofld b d') hf ofld_ow).symm.trans hg
              · rwa [List.getElem?_set_ne e] at hg
          · cases e'
        · cases e'
      · cases e'
  · exact z.elim
theorem w_upd {o : Ow} {p : Addr} {u : HO} (w : WOk W H) (hp : W.ow o = some p) (hu : ∀ vs, u ≠ .tup vs) : WOk W (upd H p u) where
  sub a v h := by
    have : a ≠ p := fun q => by rw [q, w.unF _ _ hp] at h; cases h
    rw [upd_ne this]
    exact w.sub a v h
  inj := w.inj
  unF := w.unF
  alv x a h := by
    by_cases q : a = p
    · rw [q, upd_same]; simp
    · rw [upd_ne q]; exact w.alv x a h
  tupF a vs h := by
    by_cases q : a = p
    · rw [q, upd_same] at h
      exact absurd (Option.some.inj h) (hu vs)
    · rw [upd_ne q] at h
      exact w.tupF a vs h
theorem st_upd {o : Ow} {p : Addr} {u : HO} (hp : W.ow o = some p) (ho : o.isOb = true) (hz : ∀ o u, H p ≠ some (.frz o u)) : EStep W H W (upd H p u) :=
  ⟨fun a v h n => (upd_ne fun q => n o ho (by rw [q]; exact hp)).trans h, fun _ _ h => h, fun _ h => .inl h, fun _ => rfl, fun _ _ h => h, fun _ _ _ h => h, fun _ _ h => .inl h, fun a h => by
    by_cases q : a = p
    · rw [q, upd_same]; simp
    · rw [upd_ne q]; exact h, fun a o u h => (upd_ne fun q => hz o u (by rw [← q]; exact h)).trans h⟩
theorem oget_ob {o : Ow} {d : Wz.D} (e : oget S o = some d) : o.isOb = true := by
  cases o with
  | sl i => cases e
  | _ => rfl
/-- a container of the store changes -/
theorem obs_mut {o : Ow} {p : Addr} {d d' : Wz.D} {u : HO} (w : WOk W H) (ob : ObsOk K W H S) (e : oget S o = some d) (hp : W.ow o = some p) (hu : ∀ vs, u ≠ .tup vs) (c : ContX K W (upd H p u) p d') :
    WOk W (upd H p u) ∧ ObsOk K W (upd H p u) (oput S o d') ∧ EStep W H W (upd H p u) :=
  ⟨w_upd w hp hu, obs_put w ob (.inl e) hp (fun a h => upd_ne h) c, st_upd hp (oget_ob e) fun o u q => by
    obtain ⟨p2, hp2, cx⟩ := oget_at ob e
    have ep : p2 = p := Option.some.inj (hp2.symm.trans hp)
    subst ep
    exact cx.nofz q⟩
/-- where a value's container stands -/
def placeOf : Rv → Option Ow
  | .val (.ref n) => some (.ob n)
  | .fld n f => some (.fl n f)
  | _ => none
theorem place_at {rv : Rv} {o : Ow} {v : V} (h : RvOk K W H0 H rv v) (e : placeOf rv = some o) : ∃ p, v = .ref p ∧ W.ow o = some p := by
  cases rv with
  | val d =>
    cases d with
    | ref n => cases e; exact h
    | _ => cases e
  | fld n f => cases e; exact h
  | _ => cases e

/-! ### o[i] = e, o.append(e), for such a container -/
def sSubE (c i e : EV Rv) : EVS := fun _ ρ S => sE (e ρ S) ρ fun r S1 => sE (c ρ S1) ρ fun rc S2 => sE (i ρ S2) ρ fun x S3 => match placeOf rc with
  | some o => match oget S3 o with
    | some d => match x.read S3 with
      | some dx => match r.fz with
        | some v => match putD d dx v with
          | some d' => .nx ρ (oput S3 o d')
          | none => .stuck
        | none => .stuck
      | none => .stuck
    | none => .stuck
  | none => .stuck
theorem putD_kind {d x v d' : Wz.D} (h : putD d x v = some d') : (∃ l, d = .dk l) ∨ (∃ l, d = .dt l) ∨ ∃ l, d = .lst l := by
  cases d with
  | dk l => exact .inl ⟨l, rfl⟩
  | dt l => exact .inr (.inl ⟨l, rfl⟩)
  | lst l => exact .inr (.inr ⟨l, rfl⟩)
  | _ => cases h
def isL : Wz.D → Bool
  | .lst _ => true
  | _ => false
/-- is it a list that the store changes -/
def kindOf (c i e : EV Rv) (ρ : List Slot) (S : List Cell) : Bool := match e ρ S with
  | .ok _ S1 => match c ρ S1 with
    | .ok rc S2 => match i ρ S2 with
      | .ok _ S3 => match placeOf rc with
        | some o => match oget S3 o with
          | some d => isL d
          | none => false
        | none => false
      | _ => false
    | _ => false
  | _ => false
theorem snds_subE {tc ti te : TE} {c i e : EV Rv} (hc : Snd K WX (RvOk K) tc c) (hi : Snd K WX (RvOk K) ti i) (he : Snd K WX (RvOk K) te e) :
    SndS K WX np (fun D σ H => sDPut tc ti te D σ H ∨ tAsg te (gSub tc ti rSetL) D σ H) (sSubE c i e) := by
  intro E0 n0 W ρ S σ H D r hl n
  -- all three parts behind one another
  have go : ∀ (B : V → V → V → Hp → Prop), (∀ v x y rv rc o d dx dv d' S3 W3 H3, EStep W H W3 H3 → Rel K E0 np W3 ρ S3 σ H3 → RvOk K W3 H H3 rv v → RvOk K W3 H H3 rc x → Rdg K W3 H3 dx y → placeOf rc = some o → oget S3 o = some d → rv.fz = some dv → putD d dx dv = some d' → isL d = kindOf c i e ρ S →
      SNeed K WX E0 np n0 ρ W σ H D (.nx ρ (oput S3 o d')) → B v x y H3) → te σ H fun v H1 => tc σ H1 fun x H2 => ti σ H2 fun y H3 => B v x y H3 := fun B k => by
    refine he E0 np W ρ S σ H _ r (SNeed.bind r hl n fun rv S1 e1 v W1 H1 st1 r1 hl1 rr1 n1 => ?_)
    refine hc E0 np W1 ρ S1 σ H1 _ r1 (SNeed.bind r1 hl1 (SNeed.step st1.st .refl n1) fun rc S2 e2 x W2 H2 st2 r2 hl2 rr2 n2 => ?_)
    refine hi E0 np W2 ρ S2 σ H2 _ r2 (SNeed.bind r2 hl2 (SNeed.step st2.st .refl n2) fun rx S3 e3 y W3 H3 st3 r3 hl3 rr3 n3 => ?_)
    unfold sSubE at n
    rw [e1, sE_ok, e2, sE_ok, e3, sE_ok] at n
    cases q0 : placeOf rc with
    | none => simp only [q0] at n; exact n.elim
    | some o =>
      simp only [q0] at n
      cases q1 : oget S3 o with
      | none => simp only [q1] at n; exact n.elim
      | some d =>
        simp only [q1] at n
        cases q2 : rx.read S3 with
        | none => simp only [q2] at n; exact n.elim
        | some dx =>
          simp only [q2] at n
          cases q3 : rv.fz with
          | none => simp only [q3] at n; exact n.elim
          | some dv =>
            simp only [q3] at n
            cases q4 : putD d dx dv with
            | none => simp only [q4] at n; exact n.elim
            | some d' =>
              simp only [q4] at n
              refine k v x y rv rc o d dx dv d' S3 W3 H3 ((st1.trans st2).trans st3) r3 (rr1.step (st2.trans st3)) ((rr2.step st3).weak st1.liv) (rr3.read r3.obs q2) q0 q1 q3 q4 ?_ n
              unfold kindOf
              rw [e1]
              dsimp only
              rw [e2]
              dsimp only
              rw [e3]
              dsimp only
              rw [q0]
              dsimp only
              rw [q1]
  have fin : ∀ {v : V} {rv : Rv} {o : Ow} {d dv d' : Wz.D} {S3 : List Cell} {W3 : Wd} {H3 : Hp} {p : Addr} {u : HO}, EStep W H W3 H3 → Rel K E0 np W3 ρ S3 σ H3 → RvOk K W3 H H3 rv v → W3.ow o = some p → oget S3 o = some d → rv.fz = some dv →
      SNeed K WX E0 np n0 ρ W σ H D (.nx ρ (oput S3 o d')) → (∀ vs, u ≠ .tup vs) → (∀ W4, RepW K W4 dv v → (∀ a u, W3.F a = some u → W4.F a = some u) → (∀ n a, W3.ow (.ob n) = some a → W4.ow (.ob n) = some a) → ContX K W4 (upd H3 p u) p d') → D.nx σ (upd H3 p u) := by
    intro v rv o d dv d' S3 W3 H3 p u st r3 rr hp q1 q3 n hu hcx
    obtain ⟨W4, st4, w4, o4, rp, hF, ho⟩ := (RvOk.rf rr q3).freeze st r3.wok r3.obs q3
    obtain ⟨g1, g2, g3⟩ := obs_mut w4 o4 q1 ((congrFun ho o).trans hp) hu (hcx W4 rp hF (fun n a q => (congrFun ho _).trans q))
    have st5 := st4.trans g3
    exact n W4 σ _ st5.st (r.estep st5 g1 g2) (Nat.le_trans hl (obs_len r.obs g2 st5.ob)) .refl
  cases hk : kindOf c i e ρ S with
  | false =>
    refine .inl (go (fun v x y H3 => ∃ a H4, x = .ref a ∧ DPut H3 a y v H4 ∧ D.nx σ H4) fun v x y rv rc o d dx dv d' S3 W3 H3 st r3 rr rrc rx q0 q1 q3 q4 ek n => ?_)
    obtain ⟨p, rfl, hp⟩ := place_at rrc q0
    obtain ⟨p2, hp2, cx⟩ := oget_at r3.obs q1
    have ep : p2 = p := Option.some.inj (hp2.symm.trans hp)
    subst ep
    cases d with
    | dk l =>
      unfold putD at q4
      cases ekk : keyD dx with
      | none => simp only [ekk] at q4; cases q4
      | some k =>
        simp only [ekk] at q4
        split at q4
        · rename_i hz
          cases q4
          rw [keyD_rdg ekk rx]
          obtain ⟨vs, c1, c2⟩ := cx
          refine ⟨_, _, rfl, .k c1 (by rw [c2.pk.len]; exact Nat.lt_of_lt_of_le hz (lim_le (Nat.le_refl _))), fin st r3 rr hp q1 q3 n (fun _ z => by cases z) fun W4 rp hF ho => ?_⟩
          exact ⟨_, upd_same, ((RepK.mono hF ho l vs c2).pk.put rp).repK⟩
        · cases q4
    | dt l =>
      unfold putD at q4
      cases dx with
      | tup m =>
        simp only at q4
        cases ekk : keysD m with
        | none => simp only [ekk] at q4; cases q4
        | some k =>
          simp only [ekk] at q4
          split at q4
          · rename_i hz
            cases q4
            obtain ⟨b, ks, rfl, hb, _, rk⟩ := rx.tup r3.wok
            rw [keysD_rep ekk rk] at hb
            obtain ⟨vs, c1, c2⟩ := cx
            refine ⟨_, _, rfl, .t c1 hb (by rw [c2.pk.len]; exact Nat.lt_of_lt_of_le hz (lim_le (Nat.le_refl _))), fin st r3 rr hp q1 q3 n (fun _ z => by cases z) fun W4 rp hF ho => ?_⟩
            exact ⟨_, upd_same, ((RepT.mono hF ho l vs c2).pk.put rp).repT⟩
          · cases q4
      | _ => cases q4
    | lst l => rw [hk] at ek; cases ek
    | _ => cases q4
  | true =>
    refine .inr (go (fun v x y H3 => rSetL x y v H3 fun H4 => D.nx σ H4) fun v x y rv rc o d dx dv d' S3 W3 H3 st r3 rr rrc rx q0 q1 q3 q4 ek n => ?_)
    obtain ⟨p, rfl, hp⟩ := place_at rrc q0
    obtain ⟨p2, hp2, cx⟩ := oget_at r3.obs q1
    have ep : p2 = p := Option.some.inj (hp2.symm.trans hp)
    subst ep
    cases d with
    | lst l =>
      unfold putD at q4
      cases dx with
      | int k =>
        simp only at q4
        cases ej : L2.ixN l.length k with
        | none => simp only [ej] at q4; cases q4
        | some j =>
          simp only [ej] at q4
          cases q4
          obtain ⟨vs, c1, c2⟩ := cx
          exact ⟨_, vs, k, j, rfl, rx.int, c1, by rw [c2.length]; exact ej, fin st r3 rr hp q1 q3 n (fun _ z => by cases z) fun W4 rp hF ho => ⟨_, upd_same, (RepL.mono hF ho l vs c2).set j rp⟩⟩
      | _ => cases q4
    | _ => rw [hk] at ek; cases ek
/-! ### methods of such a container -/
def xMut1 (g : Wz.D → Option (Wz.D × Wz.D)) (c : EV Rv) : EV Rv := fun ρ S => (c ρ S).bind fun rc S1 => match placeOf rc with
  | some o => match oget S1 o with
    | some d => match g d with
      | some (d', dv) => .ok (.val dv) (oput S1 o d')
      | none => .stuck
    | none => .stuck
  | none => .stuck
theorem snd_mut1 {tc : TE} {c : EV Rv} {g : Wz.D → Option (Wz.D × Wz.D)} {B : V → Hp → VK → Prop} (hc : Snd K WX (RvOk K) tc c)
    (hB : ∀ (p : Addr) (H1 : Hp) (Q : VK) (W1 : Wd) (d d' dv : Wz.D), WOk W1 H1 → ContX K W1 H1 p d → g d = some (d', dv) → (∀ u v, (∀ vs, u ≠ .tup vs) → ContX K W1 (upd H1 p u) p d' → RepW K W1 dv v → Q v (upd H1 p u)) → B (.ref p) H1 Q) :
    Snd K WX (RvOk K) (fun σ H Q => tc σ H fun x H1 => B x H1 Q) (xMut1 g c) := by
  intro E0 np W ρ S σ H Q r n
  refine hc E0 np W ρ S σ H _ r ?_
  unfold xMut1 at n
  cases ec : c ρ S with
  | stuck => rw [ec] at n; exact n
  | exc cc a S1 => rw [ec] at n; exact n
  | ok rc S1 =>
    rw [ec, Out.bind_ok] at n
    intro x W1 H1 st w ob rr
    cases q0 : placeOf rc with
    | none => simp only [q0] at n; exact n.elim
    | some o =>
      simp only [q0] at n
      cases q1 : oget S1 o with
      | none => simp only [q1] at n; exact n.elim
      | some d =>
        simp only [q1] at n
        cases q2 : g d with
        | none => simp only [q2] at n; exact n.elim
        | some dd =>
          obtain ⟨d', dv⟩ := dd
          simp only [q2] at n
          obtain ⟨p, rfl, hp⟩ := place_at rr q0
          obtain ⟨p2, hp2, cx⟩ := oget_at ob q1
          have ep : p2 = p := Option.some.inj (hp2.symm.trans hp)
          subst ep
          refine hB _ H1 Q W1 d d' dv w cx q2 fun u v hu cx2 rv => ?_
          obtain ⟨g1, g2, g3⟩ := obs_mut w ob q1 hp hu cx2
          exact n v W1 _ (st.trans g3) g1 g2 rv
def clrD : Wz.D → Option (Wz.D × Wz.D)
  | .lst _ => some (.lst [], .non)
  | _ => none
def popD : Wz.D → Option (Wz.D × Wz.D)
  | .lst l => match l[l.length - 1]? with
    | some d => some (.lst l.dropLast, d)
    | none => none
  | _ => none
theorem snd_clrE {tc : TE} {c : EV Rv} (hc : Snd K WX (RvOk K) tc c) : Snd K WX (RvOk K) (tBM0 K "list" rClear tc) (xMut1 clrD c) := by
  refine snd_mut1 (B := fun x H1 Q => tyV K "list" x H1 ∧ rClear x [] H1 Q) hc fun p H1 Q W1 d d' dv w cx e k => ?_
  cases d with
  | lst l =>
    cases e
    obtain ⟨vs, h1, h2⟩ := cx
    exact ⟨.inl ⟨rfl, vs, .of h1⟩, p, vs, rfl, rfl, h1, k (.lst []) .non (fun _ z => by cases z) ⟨[], upd_same, rfl⟩ rfl⟩
  | _ => cases e
theorem RepL.dropLast : ∀ {l : List Wz.D} {vs : List V} {F : Hp} {al : Nat → Option Addr}, RepL K F al l vs → RepL K F al l.dropLast vs.dropLast := fun {l vs F al} h => by
  rw [List.dropLast_eq_take, List.dropLast_eq_take, h.length]
  exact h.take _
theorem snd_popE {tc : TE} {c : EV Rv} (hc : Snd K WX (RvOk K) tc c) : Snd K WX (RvOk K) (tBM0 K "list" rPop tc) (xMut1 popD c) := by
  refine snd_mut1 (B := fun x H1 Q => tyV K "list" x H1 ∧ rPop x [] H1 Q) hc fun p H1 Q W1 d d' dv w cx e k => ?_
  cases d with
  | lst l =>
    unfold popD at e
    dsimp only at e
    cases q : l[l.length - 1]? with
    | none => rw [q] at e; cases e
    | some y =>
      rw [q] at e
      cases e
      obtain ⟨vs, h1, h2⟩ := cx
      obtain ⟨v, e1, e2⟩ := h2.get q
      exact ⟨.inl ⟨rfl, vs, .of h1⟩, p, vs, v, rfl, rfl, h1, by rw [h2.length]; exact e1, k (.lst vs.dropLast) v (fun _ z => by cases z) ⟨vs.dropLast, upd_same, RepL.dropLast h2⟩ e2⟩
  | _ => cases e
/-- o.append(e) -/
def xAppE (c e : EV Rv) : EV Rv := fun ρ S => (c ρ S).bind fun rc S1 => match placeOf rc with
  | some o => match oget S1 o with
    | some (.lst _) => (e ρ S1).bind fun r S2 => match oget S2 o with
      | some (.lst l) => match r.fz with
        | some v => if l.length < lim then .ok (.val .non) (oput S2 o (.lst (l ++ [v]))) else .stuck
        | none => .stuck
      | _ => .stuck
    | _ => .stuck
  | none => .stuck
theorem snd_appE {tc te : TE} {c e : EV Rv} (hc : Snd K WX (RvOk K) tc c) (he : Snd K WX (RvOk K) te e) : Snd K WX (RvOk K) (tBM K "list" rAppend tc (tCons te tNil)) (xAppE c e) := by
  intro E0 np W ρ S σ H Q r n
  refine hc E0 np W ρ S σ H _ r ?_
  unfold xAppE at n
  cases ec : c ρ S with
  | stuck => rw [ec] at n; exact n
  | exc cc a S1 => rw [ec] at n; exact n
  | ok rc S1 =>
    rw [ec, Out.bind_ok] at n
    intro x W1 H1 st1 w1 o1 rr
    cases q0 : placeOf rc with
    | none => simp only [q0] at n; exact n.elim
    | some o =>
      simp only [q0] at n
      cases q1 : oget S1 o with
      | none => simp only [q1] at n; exact n.elim
      | some d =>
        simp only [q1] at n
        cases d with
        | lst l0 =>
          dsimp only at n
          obtain ⟨p, rfl, hp⟩ := place_at rr q0
          obtain ⟨p2, hp2, vs0, cx1, cx2⟩ := oget_at o1 q1
          have ep : p2 = p := Option.some.inj (hp2.symm.trans hp)
          subst ep
          refine ⟨.inl ⟨rfl, vs0, .of cx1⟩, ?_⟩
          have r1 := r.estep st1 w1 o1
          refine he E0 np W1 ρ S1 σ H1 _ r1 ?_
          cases ee : e ρ S1 with
          | stuck => rw [ee] at n; exact n.elim
          | exc cc a S2 =>
            rw [ee] at n
            exact fun cls dd W2 H2 st2 w2 o2 x => n cls dd W2 H2 (st1.trans st2) w2 o2 x
          | ok rv S2 =>
            rw [ee, Out.bind_ok] at n
            intro v W2 H2 st2 w2 o2 rr2
            cases q2 : oget S2 o with
            | none => simp only [q2] at n; exact n.elim
            | some d2 =>
              simp only [q2] at n
              cases d2 with
              | lst l =>
                dsimp only at n
                cases q3 : rv.fz with
                | none => simp only [q3] at n; exact n.elim
                | some dv =>
                  simp only [q3] at n
                  split at n
                  · rename_i hz
                    have hp2' : W2.ow o = some p2 := by
                      cases o with
                      | sl i => cases q1
                      | ob m => exact st2.ob _ _ hp
                      | fl m f => exact st2.fl _ _ _ hp
                    obtain ⟨p3, hp3, vs, c1, c2⟩ := oget_at o2 q2
                    have ep : p3 = p2 := Option.some.inj (hp3.symm.trans hp2')
                    subst ep
                    obtain ⟨W3, st3, w3, o3, rp, hF, ho⟩ := (RvOk.rf (rr2.weak st1.liv) q3).freeze (st1.trans st2) w2 o2 q3
                    obtain ⟨g1, g2, g3⟩ := obs_mut (u := .lst (vs ++ [v])) (d' := .lst (l ++ [dv])) w3 o3 q2 ((congrFun ho o).trans hp2') (fun _ z => by cases z) ⟨_, upd_same, (RepL.mono hF (fun n a q => (congrFun ho _).trans q) l vs c2).snoc rp⟩
                    exact ⟨_, vs, v, rfl, rfl, c1, by rw [c2.length]; exact Nat.lt_of_lt_of_le hz (lim_le (Nat.le_refl _)), n .non W3 _ (st3.trans g3) g1 g2 rfl⟩
                  · exact n.elim
              | _ => exact n.elim
        | _ => exact n.elim
/-- d.pop(k) of a dict -/
def xPopE (c e : EV Rv) : EV Rv := fun ρ S => (c ρ S).bind fun rc S1 => match placeOf rc with
  | some o => match oget S1 o with
    | some (.dk _) => (e ρ S1).bind fun r S2 => match oget S2 o with
      | some (.dk l) => match r.read S2 with
        | some x => match keyD x with
          | some k => match getK l k with
            | some v => .ok (.val v) (oput S2 o (.dk (delK l k)))
            | none => .stuck
          | none => .stuck
        | none => .stuck
      | _ => .stuck
    | _ => .stuck
  | none => .stuck
theorem snd_popD {tc te : TE} {c e : EV Rv} (hc : Snd K WX (RvOk K) tc c) (he : Snd K WX (RvOk K) te e) : Snd K WX (RvOk K) (tDPop1 tc te) (xPopE c e) := by
  intro E0 np W ρ S σ H Q r n
  refine hc E0 np W ρ S σ H _ r ?_
  unfold xPopE at n
  cases ec : c ρ S with
  | stuck => rw [ec] at n; exact n
  | exc cc a S1 => rw [ec] at n; exact n
  | ok rc S1 =>
    rw [ec, Out.bind_ok] at n
    intro x W1 H1 st1 w1 o1 rr
    cases q0 : placeOf rc with
    | none => simp only [q0] at n; exact n.elim
    | some o =>
      simp only [q0] at n
      cases q1 : oget S1 o with
      | none => simp only [q1] at n; exact n.elim
      | some d =>
        simp only [q1] at n
        cases d with
        | dk l0 =>
          dsimp only at n
          obtain ⟨p, rfl, hp⟩ := place_at rr q0
          obtain ⟨p2, hp2, vs0, cx1, cx2⟩ := oget_at o1 q1
          have ep : p2 = p := Option.some.inj (hp2.symm.trans hp)
          subst ep
          refine ⟨_, rfl, .inl ⟨vs0, .inl cx1⟩, ?_⟩
          have r1 := r.estep st1 w1 o1
          refine he E0 np W1 ρ S1 σ H1 _ r1 ?_
          cases ee : e ρ S1 with
          | stuck => rw [ee] at n; exact n.elim
          | exc cc a S2 =>
            rw [ee] at n
            exact fun cls dd W2 H2 st2 w2 o2 x => n cls dd W2 H2 (st1.trans st2) w2 o2 x
          | ok rv S2 =>
            rw [ee, Out.bind_ok] at n
            intro v W2 H2 st2 w2 o2 rr2
            cases q2 : oget S2 o with
            | none => simp only [q2] at n; exact n.elim
            | some d2 =>
              simp only [q2] at n
              cases d2 with
              | dk l =>
                dsimp only at n
                cases q3 : rv.read S2 with
                | none => simp only [q3] at n; exact n.elim
                | some dx =>
                  simp only [q3] at n
                  cases q4 : keyD dx with
                  | none => simp only [q4] at n; exact n.elim
                  | some k =>
                    simp only [q4] at n
                    cases q5 : getK l k with
                    | none => simp only [q5] at n; exact n.elim
                    | some dv =>
                      simp only [q5] at n
                      have hp2' : W2.ow o = some p2 := by
                        cases o with
                        | sl i => cases q1
                        | ob m => exact st2.ob _ _ hp
                        | fl m f => exact st2.fl _ _ _ hp
                      obtain ⟨p3, hp3, vs, c1, c2⟩ := oget_at o2 q2
                      have ep : p3 = p2 := Option.some.inj (hp3.symm.trans hp2')
                      subst ep
                      obtain ⟨v2, e1, e2⟩ := (c2.pk.get (k := k)).2 dv q5
                      obtain ⟨g1, g2, g3⟩ := obs_mut (u := .dK (dropK vs k)) (d' := .dk (delK l k)) w2 o2 q2 hp2' (fun _ z => by cases z) ⟨_, upd_same, c2.pk.del.repK⟩
                      exact ⟨vs, k, v2, c1, keyD_rdg q4 (rr2.read o2 q3), e1, n v2 W2 _ ((st1.trans st2).trans g3) g1 g2 e2⟩
              | _ => exact n.elim
        | _ => exact n.elim
end
end Wz

set_option Elab.async false
set_option linter.all false
set_option maxRecDepth 100000
set_option maxHeartbeats 4000000
namespace Wz
open PySem PySem.Spec PyProof.Rows L2

section
variable {K : PySem.W.Frag} {WX : L2.WX} {W W0 W1 W2 Wc : Wd} {H H0 H1 H2 H' : Hp} {σ : L2.St} {ρ : List Slot} {S S' S1 : List Cell} {E0 : Hp} {np n0 : Nat} {X : Cx} {D : Ends}
/-! ### a new container gets a cell of the store -/
def xBox (e : EV Rv) : EV Rv := fun ρ S => (e ρ S).bind fun r S1 => match r with
  | .new d => .ok (.val (.ref S1.length)) (S1 ++ [.box d])
  | .val d => .ok (.val d) S1
  | _ => .stuck
theorem box_ob {n m : Nat} {p a : Addr} (ob : ObsOk K W H S) (h : W.ow (.ob n) = some a) : (W.put (.ob S.length) (some p)).ow (.ob n) = some a := by
  refine (put_ne fun e => ?_).trans h
  have en : n = S.length := Ow.ob.inj e
  rw [en, (ob.nob S.length (Nat.le_refl _)).1] at h
  cases h
theorem box_all {p : Addr} {d : Wz.D} (st : EStep W0 H0 W H) (w : WOk W H) (ob : ObsOk K W H S) (c : ContX K W H p d) (hf : W.F p = none) (no : ∀ o, W.ow o ≠ some p) (z : H0 p = none) :
    EStep W0 H0 (W.put (.ob S.length) (some p)) H ∧ WOk (W.put (.ob S.length) (some p)) H ∧ ObsOk K (W.put (.ob S.length) (some p)) H (S ++ [.box d]) ∧ RepW K (W.put (.ob S.length) (some p)) (.ref S.length) (.ref p) := by
  have hob : ∀ n a, W.ow (.ob n) = some a → (W.put (.ob S.length) (some p)).ow (.ob n) = some a := fun n a h => box_ob (m := n) ob h
  have hfl : ∀ n f, (W.put (.ob S.length) (some p)).ow (.fl n f) = W.ow (.fl n f) := fun n f => put_ne fun e => Ow.noConfusion e
  have hF : ∀ a u, W.F a = some u → (W.put (.ob S.length) (some p)).F a = some u := fun _ _ q => q
  refine ⟨⟨st.keep, st.F, st.Fn, fun i => (put_ne fun e => Ow.noConfusion e).trans (st.sl i), fun n a h => hob n a (st.ob n a h), fun n f a h => (hfl n f).trans (st.fl n f a h), fun o a h => ?_, st.liv, st.fz⟩, own_w w c.r.some hf no, ⟨fun n cc e => ?_, fun n hn => ?_, fun n f hf => (hfl n f).trans (ob.nof n f ?_)⟩, ⟨p, rfl, put_same⟩⟩
  · by_cases e : o = .ob S.length
    · rw [e, put_same] at h
      cases h
      exact .inr z
    · rw [put_ne e] at h
      exact st.own o a h
  · rcases Nat.lt_or_ge n S.length with q | q
    · rw [List.getElem?_append_left q] at e
      have k := ob.at_ n cc e
      cases cc with
      | box d =>
        obtain ⟨a, h1, h2⟩ := k
        exact ⟨a, hob _ _ h1, h2.mono hF hob rfl⟩
      | lbx d =>
        obtain ⟨a, h1, h2⟩ := k
        exact ⟨a, hob _ _ h1, h2.mono hF hob rfl⟩
      | ins cl fs =>
        obtain ⟨a, dx, vs, h1, h2, h3⟩ := k
        refine ⟨a, dx, vs, hob _ _ h1, h2, ?_⟩
        clear h2 e
        induction fs generalizing vs with
        | nil => exact h3
        | cons x r ih =>
          obtain ⟨f, x⟩ := x
          obtain ⟨v, w', e1, e2, e3⟩ := h3
          refine ⟨v, w', e1, ?_, ih _ e3⟩
          cases x with
          | val d => exact Rep.mono hF hob d v e2
          | own d =>
            obtain ⟨a, k1, k2, k3⟩ := e2
            exact ⟨a, k1, (hfl _ _).trans k2, k3.mono hF hob rfl⟩
          | lck d =>
            obtain ⟨a, k1, k2, k3⟩ := e2
            exact ⟨a, k1, (hfl _ _).trans k2, k3.mono hF hob rfl⟩
    · rw [List.getElem?_append_right q] at e
      have en : n = S.length := by
        cases q2 : n - S.length with
        | zero => omega
        | succ m => rw [q2] at e; simp at e
      subst en
      simp at e
      subst e
      exact ⟨p, put_same, c.mono hF hob rfl⟩
  · rw [List.length_append, List.length_singleton] at hn
    have k := ob.nob n (by omega)
    exact ⟨(put_ne fun e => by have := Ow.ob.inj e; omega).trans k.1, fun f => (hfl n f).trans (k.2 f)⟩
  · unfold ownF at hf ⊢
    rcases Nat.lt_or_ge n S.length with q | q
    · rwa [List.getElem?_append_left q] at hf
    · rw [List.getElem?_eq_none q]
theorem snd_box {te : TE} {e : EV Rv} (h : Snd K WX (RvOk K) te e) : Snd K WX (RvOk K) te (xBox e) := by
  intro E0 np W ρ S σ H Q r n
  refine h E0 np W ρ S σ H Q r ?_
  unfold xBox at n
  cases ee : e ρ S with
  | stuck => rw [ee] at n; exact n
  | exc c a S1 => rw [ee] at n; exact n
  | ok rv S1 =>
    rw [ee, Out.bind_ok] at n
    intro v W1 H1 st w o rr
    cases rv with
    | new d =>
      obtain ⟨p, rfl, c, hf, no, z⟩ := rr
      obtain ⟨a1, a2, a3, a4⟩ := box_all st w o c hf no z
      exact n _ _ H1 a1 a2 a3 a4
    | val d => exact n v W1 H1 st w o rr
    | _ => exact n.elim

/-! ### a slot's container is frozen (no text) -/
def sFrz (i : Nat) : EVS := fun _ ρ S => match ρ[i]? with
  | some (.own d) => .nx (ρ.set i (.val d)) S
  | some (.val _) => .nx ρ S
  | _ => .stuck
theorem rel_frz {i : Nat} {d : Wz.D} (r : Rel K E0 np W ρ S σ H) (e : ρ[i]? = some (.own d)) : ∃ W', SStep n0 W H W' H ∧ Rel K E0 np W' (ρ.set i (.val d)) S σ H ∧ LK ρ σ (ρ.set i (.val d)) σ := by
  obtain ⟨p, h1, h2, h3⟩ := r.slots i _ e
  have r1 := rel_non (i := i) r
  have st1 : SStep n0 W H (W.put (.sl i) none) H := put_none_st
  have c1 : ContX K (W.put (.sl i) none) H p d := h3.mono (fun _ _ q => q) (fun n x q => put_ob.trans q) rfl
  have no : ∀ o, (W.put (.sl i) none).ow o ≠ some p := fun o z => by
    by_cases eo : o = .sl i
    · rw [eo, put_same] at z; cases z
    · rw [put_ne eo] at z
      exact eo (r.wok.inj _ _ _ z h2)
  obtain ⟨u, hu, hnf, ht⟩ := contX_ho c1
  have hf : (W.put (.sl i) none).F p = none := r.wok.unF _ _ h2
  have hi : i < ρ.length := by
    rcases Nat.lt_or_ge i ρ.length with z | z
    · exact z
    · rw [List.getElem?_eq_none z] at e; cases e
  have w2 := frzAt_w r1.wok hu hf no
  have o2 := frzAt_o (u := u) r1.wok r1.obs hf
  have hF := frzAt_F (W := W.put (.sl i) none) (u := u) hf
  have rp : RepW K ((W.put (.sl i) none).frz p u) d (.ref p) := contX_rep (c1.mono hF (fun _ _ q => q) rfl) (by
    rw [hu]
    exact upd_same)
  refine ⟨(W.put (.sl i) none).frz p u, ⟨st1.keep, fun a v q => hF a v q, fun a q => ?_, st1.ob, st1.fl, st1.own, st1.liv, st1.fz⟩, ⟨w2, o2, fun j s es => ?_, ?_, fun j h => ?_, r1.frs, r1.ent⟩, LK.set' fun _ z => by cases z⟩
  · by_cases ea : a = p
    · exact .inr (.inr ⟨i, by rw [ea]; exact h2⟩)
    · have q' : upd W.F p u a ≠ none := q
      rw [upd_ne ea] at q'
      exact .inl q'
  · rcases set_get es with ⟨rfl, rfl, _⟩ | ⟨hij, es⟩
    · exact ⟨.ref p, h1, rp⟩
    · have q := r1.slots j s (by rw [List.getElem?_set_ne hij]; exact es)
      cases s with
      | non => exact True.intro
      | val x =>
        obtain ⟨v, k1, k2⟩ := q
        exact ⟨v, k1, Rep.mono hF (fun _ _ q => q) x v k2⟩
      | own x =>
        obtain ⟨p2, k1, k2, k3⟩ := q
        exact ⟨p2, k1, k2, k3.mono hF (fun _ _ q => q) rfl⟩
      | lck x =>
        obtain ⟨p2, k1, k2, k3⟩ := q
        exact ⟨p2, k1, k2, k3.mono hF (fun _ _ q => q) rfl⟩
  · rw [List.length_set]; exact r.len
  · by_cases ej : j = i
    · rw [ej]; exact put_same
    · refine r1.nsl j fun d2 z => h d2 ?_
      rw [List.getElem?_set_ne (Ne.symm ej)] at z ⊢
      exact z
theorem snds_frz {i : Nat} {t : TS} {b : EVS} (h : SndS K WX np t b) : SndS K WX np t (sSeq (sFrz i) b) := by
  intro E0 n0 W ρ S σ H D r hl n
  unfold sSeq sFrz at n
  cases e : ρ[i]? with
  | none => simp only [e] at n; exact n.elim
  | some s =>
    simp only [e] at n
    cases s with
    | non => exact n.elim
    | lck d => exact n.elim
    | val d => exact h E0 n0 W ρ S σ H D r hl n
    | own d =>
      dsimp only at n
      obtain ⟨W', a, b2, c⟩ := rel_frz (n0 := n0) r e
      exact h E0 n0 W' _ S σ H D b2 hl (SNeed.step a c n)

/-! ### while -/
def whileN (t : EV Bool) (body : EVS) (clr : List Nat) (n0 : Nat) : Nat → List Slot → List Cell → SOut
  | 0, _, _ => .stuck
  | k + 1, ρ, S => sE (t ρ S) ρ fun b S1 => if b = true then match body n0 ρ S1 with
      | .nx ρ2 S2 => whileN t body clr n0 k (clrs clr ρ2) S2
      | o => o
    else .nx ρ S1
def sWhile (m : Nat) (t : EV Bool) (body : EVS) (clr : List Nat) : EVS := fun n0 ρ S => whileN t body clr n0 m ρ S
theorem snds_while {tc : TT} {tb : TS} {m : Nat} {t : EV Bool} {body : EVS} {clr : List Nat} (hc : Snd K WX RB tc t) (hb : SndS K WX np tb body) : SndS K WX np (tWhile tc tb) (sWhile m t body clr) := by
  intro E0 n0 W ρ S σ H D r hl n
  refine ⟨fun k σ' H' => ∃ W' ρ' S', SStep n0 W H W' H' ∧ Rel K E0 np W' ρ' S' σ' H' ∧ n0 ≤ S'.length ∧ LK ρ σ ρ' σ' ∧ SNeed K WX E0 np n0 ρ' W' σ' H' D (whileN t body clr n0 k ρ' S'), ⟨m, W, ρ, S, .refl, r, hl, .refl, n⟩, ?_⟩
  rintro k σ' H' ⟨W', ρ', S', a1, a2, a3, a4, a5⟩
  cases k with
  | zero => exact a5.elim
  | succ k =>
    refine hc E0 np W' ρ' S' σ' H' _ a2 (SNeed.bind a2 a3 a5 fun x S1 _ x' W1 H1 st r1 hl1 e n1 => ?_)
    have e' : x = x' := e
    subst e'
    cases x with
    | false => exact n1 W1 σ' H1 st.st r1 hl1 .refl
    | true =>
      rw [if_pos rfl] at n1 ⊢
      refine ⟨fun σ2 H2 => ∃ W2 ρ2 S2, SStep n0 W H W2 H2 ∧ Rel K E0 np W2 ρ2 S2 σ2 H2 ∧ n0 ≤ S2.length ∧ LK ρ σ ρ2 σ2 ∧ SNeed K WX E0 np n0 ρ2 W2 σ2 H2 D (whileN t body clr n0 k ρ2 S2), fun σ2 H2 q => ⟨k, Nat.lt_succ_self k, q⟩, ?_⟩
      refine hb E0 n0 W1 ρ' S1 σ' H1 _ r1 hl1 ?_
      cases eo : body n0 ρ' S1 with
      | nx ρ2 S2 =>
        rw [eo] at n1
        intro W4 σ4 H4 s4 r4 l4 k4
        obtain ⟨W5, s5, r5, k5⟩ := rel_clrs (n0 := n0) clr r4
        exact ⟨W5, clrs clr ρ2, S2, a1.trans ((st.st.trans s4).trans s5), r5, l4, a4.trans (k4.trans k5), SNeed.step ((st.st.trans s4).trans s5) (k4.trans k5) n1⟩
      | rt rv ρ2 S2 => rw [eo] at n1; exact SNeed.step st.st .refl (D := D) n1
      | exc c a ρ2 S2 => rw [eo] at n1; exact SNeed.step st.st .refl (D := D) n1
      | stuck => rw [eo] at n1; exact n1

/-! ### a, b = e -/
def sTup (is : List Nat) (e : EV Rv) : EVS := fun _ ρ S => sE (e ρ S) ρ fun r S1 => match r.fz with
  | some d => match bindT (.tp is) d ρ with
    | some ρ' => .nx ρ' S1
    | none => .stuck
  | none => .stuck
theorem snds_tup {is : List Nat} {te : TE} {e : EV Rv} (h : Snd K WX (RvOk K) te e) : SndS K WX np (tAsg te (gTup K is.length (gNames is))) (sTup is e) := by
  intro E0 n0 W ρ S σ H D r hl n
  refine h E0 np W ρ S σ H _ r (SNeed.bind r hl n fun rv S' e1 v W1 H1 st r1 hl1 rr n1 => ?_)
  cases q : rv.fz with
  | none => simp only [q] at n1; exact n1.elim
  | some d =>
    simp only [q] at n1
    obtain ⟨W2, st2, r2, rep⟩ := Rel.freeze st r1 (RvOk.rf rr q) q (lck_alive r)
    cases qb : bindT (.tp is) d ρ with
    | none => simp only [qb] at n1; exact n1.elim
    | some ρ' =>
      simp only [qb] at n1
      exact sndg_tp E0 np n0 W2 ρ S' σ H1 v d ρ' _ r2 rep qb fun W3 σ3 s3 r3 lk => n1 W3 σ3 H1 (st2.st.trans s3) r3 hl1 lk
/-! ### x += e, whole numbers and texts and lists that nobody else knows -/
end
end Wz

set_option Elab.async false
set_option linter.all false
set_option maxRecDepth 100000
set_option maxHeartbeats 4000000
namespace Wz
open PySem PySem.Spec PyProof.Rows L2
section
variable {K : PySem.W.Frag} {WX : L2.WX} {W W0 W1 W2 Wc : Wd} {H H0 H1 H2 H' : Hp} {σ : L2.St} {ρ : List Slot} {S S' S1 : List Cell} {E0 : Hp} {np n0 : Nat} {X : Cx} {D : Ends}
/-! ### sorted, of either kind; dict(d); min of a list -/
def srtD (ds : List Wz.D) : Option Rv := (srtKD ds).or (srtID ds)
theorem cr_srtD (hc : X.calm = true) : CallR X (.builtin "sorted") (rND X.K srtD) := by
  intro pins s σ H xs us Q I r h
  obtain ⟨W, S, ds, rv, w, o, hx, e, ret⟩ := h
  unfold srtD at e
  cases q : srtKD ds with
  | some rv2 =>
    rw [q] at e
    cases e
    exact cr_srtKD hc pins s σ H xs us Q I r ⟨W, S, ds, _, w, o, hx, q, ret⟩
  | none =>
    rw [q] at e
    exact cr_srtID pins s σ H xs us Q I r ⟨W, S, ds, _, w, o, hx, e, ret⟩
def dictD : List Wz.D → Option Rv
  | [.dk l] => some (.new (.dk l))
  | _ => none
theorem cr_dictD : CallR X (.type "dict") (rND X.K dictD) := by
  intro pins s σ H xs us Q I r h
  obtain ⟨W, S, ds, rv, w, o, hx, e, ret⟩ := h
  unfold dictD at e
  split at e
  · rename_i l
    cases e
    obtain ⟨v, rfl, hv⟩ := hx.one
    obtain ⟨p, vs, rfl, h1, h2⟩ := hv.dk w
    refine call_dictD pins s σ H _ us Q I r ⟨p, vs, rfl, h1, fun q hq => ?_⟩
    refine ret _ W _ (new_st hq) (new_w w hq fun _ z => by cases z) (new_o w o hq) ⟨q, rfl, ⟨vs, upd_same, h2.repK⟩, w.fnone hq, w.onone hq, hq⟩
  · cases e
def minI : List Int → Option Int
  | [] => none
  | i :: r => match minI r with
    | some j => some (if j < i then j else i)
    | none => some i
theorem minI_ok : ∀ {l : List Int} {m : Int}, minI l = some m → ∀ n, n ∈ l → (∀ y ∈ l, n ≤ y) → n = m
  | [], _, e, _, h, _ => by cases h
  | i :: r, m, e, n, h, hn => by
    unfold minI at e
    cases q : minI r with
    | none =>
      rw [q] at e
      cases e
      cases r with
      | nil => exact List.mem_singleton.mp h
      | cons j r =>
        unfold minI at q
        split at q <;> cases q
    | some j =>
      rw [q] at e
      cases e
      have jm : j ∈ r ∧ ∀ y ∈ r, j ≤ y := by
        clear h hn
        induction r generalizing j with
        | nil => cases q
        | cons k r ih =>
          unfold minI at q
          cases q2 : minI r with
          | none =>
            rw [q2] at q
            cases q
            cases r with
            | nil => exact ⟨List.mem_cons_self, fun y hy => by rw [List.mem_singleton.mp hy]; exact Int.le_refl _⟩
            | cons j r =>
              unfold minI at q2
              split at q2 <;> cases q2
          | some j2 =>
            rw [q2] at q
            cases q
            obtain ⟨a1, a2⟩ := ih j2 q2
            split
            · exact ⟨List.mem_cons_of_mem _ a1, fun y hy => by
                rcases List.mem_cons.mp hy with z | z
                · omega
                · exact a2 y z⟩
            · exact ⟨List.mem_cons_self, fun y hy => by
                rcases List.mem_cons.mp hy with z | z
                · omega
                · have := a2 y z; omega⟩
      have h1 := hn i List.mem_cons_self
      have h2 := hn j (List.mem_cons_of_mem _ jm.1)
      rcases List.mem_cons.mp h with z | z
      · split <;> omega
      · have h3 := jm.2 n z
        split <;> omega
def minD : List Wz.D → Option Rv
  | [d] => match asL d with
    | some l => match intsD l with
      | some ns => match minI ns with
        | some m => some (.val (.int m))
        | none => none
      | none => none
    | none => none
  | _ => none
theorem cr_minD (hc : X.calm = true) : CallR X (.builtin "min") (rND X.K minD) := by
  intro pins s σ H xs us Q I r h
  obtain ⟨W, S, ds, rv, w, o, hx, e, ret⟩ := h
  unfold minD at e
  split at e
  · rename_i d
    split at e
    · rename_i l el
      split at e
      · rename_i ns q
        split at e
        · rename_i m qm
          cases e
          obtain ⟨v, rfl, h1⟩ := hx.one
          obtain ⟨p, vs, rfl, hs, rl⟩ := h1.asL w el
          have ev : vs = ns.map V.int := intsD_rep q rl
          rw [ev] at hs
          refine cr_min hc pins s σ H _ us Q I r ⟨p, ns, rfl, hs, ?_, fun m2 hm hle => ?_⟩
          · cases ns with
            | nil => cases qm
            | cons _ _ => exact Nat.succ_pos _
          · rw [minI_ok qm m2 hm hle]
            exact ret _ W _ .refl w o rfl
        · cases e
      · cases e
    · cases e
  · cases e
end
end Wz

set_option Elab.async false
set_option linter.all false
set_option maxRecDepth 100000
set_option maxHeartbeats 4000000
namespace Wz
open PySem PySem.Spec PyProof.Rows L2

section
variable {K : PySem.W.Frag} {WX : L2.WX} {W W0 W1 W2 Wc : Wd} {H H0 H1 H2 H' : Hp} {σ : L2.St} {ρ : List Slot} {S S' S1 : List Cell} {E0 : Hp} {np n0 : Nat} {X : Cx} {D : Ends}
/-! ### e.f, a field of an instance -/
def xFld (cs : List Str) (f : Str) (a : EV Rv) : EV Rv := fun ρ S => (a ρ S).bind fun r S1 => match r with
  | .val (.ref n) => match S1[n]? with
    | some (.ins c fs) => if cs.contains c = true then match fs.lookup f with
        | some (.val d) => .ok (.val d) S1
        | some _ => .ok (.fld n f) S1
        | none => .stuck
      else .stuck
    | _ => .stuck
  | _ => .stuck
theorem snd_fld {cs : List Str} {f : Str} {ta : TE} {a : EV Rv} (hc : ∀ c ∈ cs, Cls K (He.ga K c) ∧ NoAttr K (He.ga K c) f) (h : Snd K WX (RvOk K) ta a) : Snd K WX (RvOk K) (tFld K ta f) (xFld cs f a) := by
  intro E0 np W ρ S σ H Q r n
  unfold xFld at n
  refine h E0 np W ρ S σ H _ r (Need.bind n fun rv S1 e v W1 H1 st w o rr n1 => ?_)
  cases rv with
  | val d =>
    cases d with
    | ref m =>
      dsimp only at n1
      cases q : S1[m]? with
      | none => rw [q] at n1; exact n1.elim
      | some cl =>
        rw [q] at n1
        cases cl with
        | ins c fs =>
          dsimp only at n1
          split at n1
          · rename_i hcc
            obtain ⟨p, rfl, hp⟩ := rr
            obtain ⟨a2, dx, vs, k1, k2, k3⟩ := o.at_ m _ q
            have ep : a2 = p := Option.some.inj (k1.symm.trans hp)
            subst ep
            obtain ⟨g1, g2⟩ := hc c (List.contains_iff_mem.mp hcc)
            cases q2 : fs.lookup f with
            | none => rw [q2] at n1; exact n1.elim
            | some x =>
              rw [q2] at n1
              obtain ⟨u, l1, l2⟩ := k3.look q2
              refine ⟨a2, _, dx, vs, u, rfl, k2, g1, g2, l1, ?_⟩
              cases x with
              | val d => exact n1 u W1 H1 .refl w o l2
              | own d =>
                obtain ⟨p, e1, e2, _⟩ := l2
                exact n1 u W1 H1 .refl w o ⟨p, e1, e2⟩
              | lck d =>
                obtain ⟨p, e1, e2, _⟩ := l2
                exact n1 u W1 H1 .refl w o ⟨p, e1, e2⟩
          · exact n1.elim
        | _ => exact n1.elim
    | _ => exact n1.elim
  | _ => exact n1.elim

/-! ### e.f = value -/
def fputD (f : Str) (x : Fld) : List (Str × Fld) → List (Str × Fld)
  | [] => [(f, x)]
  | q :: r => if q.1 = f then (q.1, x) :: r else q :: fputD f x r
theorem fputD_look {f g : Str} {x : Fld} : ∀ {fs : List (Str × Fld)}, (fputD f x fs).lookup g = if g = f then some x else fs.lookup g
  | [] => by
    show List.lookup g [(f, x)] = _
    by_cases h : g = f
    · rw [if_pos h, h, List.lookup_cons_self]
    · have hb : (g == f) = false := beq_eq_false_iff_ne.mpr h
      rw [if_neg h, List.lookup_cons, hb]
  | (k, y) :: r => by
    show List.lookup g (if k = f then (k, x) :: r else (k, y) :: fputD f x r) = _
    by_cases hk : k = f
    · rw [if_pos hk]
      subst hk
      by_cases h : g = k
      · rw [if_pos h, h, List.lookup_cons_self]
      · have hb : (g == k) = false := beq_eq_false_iff_ne.mpr h
        rw [if_neg h, List.lookup_cons, hb, List.lookup_cons, hb]
    · rw [if_neg hk]
      have ih := fputD_look (f := f) (g := g) (x := x) (fs := r)
      by_cases h : g = k
      · subst h
        rw [List.lookup_cons_self, if_neg hk, List.lookup_cons_self]
      · have hb : (g == k) = false := beq_eq_false_iff_ne.mpr h
        rw [List.lookup_cons, hb, List.lookup_cons, hb]
        exact ih
theorem fputD_ok {n : Nat} {f : Str} {y : Fld} {v : V} (hy : FldOk K W1 H1 n f y v) : ∀ {fs : List (Str × Fld)} {vs : List (Str × V)}, FldsOk K W H n fs vs → (∀ g x u, g ≠ f → FldOk K W H n g x u → FldOk K W1 H1 n g x u) → noF f fs = true ∨ oneF f fs = true →
    FldsOk K W1 H1 n (fputD f y fs) (putF f v vs)
  | [], vs, h, _, _ => by
    have h' : vs = [] := h
    subst h'
    exact ⟨v, [], rfl, hy, rfl⟩
  | (k, x) :: r, vs, h, hk, o => by
    obtain ⟨u, w, rfl, h1, h2⟩ := h
    have all : ∀ {fs : List (Str × Fld)} {vs : List (Str × V)}, noF f fs = true → FldsOk K W H n fs vs → FldsOk K W1 H1 n fs vs := by
      intro fs
      induction fs with
      | nil => exact fun _ h => h
      | cons q r ih =>
        obtain ⟨k2, x2⟩ := q
        intro vs hq hh
        obtain ⟨u2, w2, rfl, a1, a2⟩ := hh
        have hq' : (!(k2 == f) && noF f r) = true := hq
        rw [Bool.and_eq_true, Bool.not_eq_true', beq_eq_false_iff_ne] at hq'
        exact ⟨u2, w2, rfl, hk _ _ _ hq'.1 a1, ih hq'.2 a2⟩
    show FldsOk K W1 H1 n (if k = f then (k, y) :: r else (k, x) :: fputD f y r) (if k = f then (k, v) :: w else (k, u) :: putF f v w)
    by_cases e : k = f
    · rw [if_pos e, if_pos e]
      have hb : (k == f) = true := beq_iff_eq.mpr e
      rcases o with o | o
      · have o' : (!(k == f) && noF f r) = true := o
        rw [hb] at o'
        cases o'
      · have o' : (if (k == f) = true then noF f r else oneF f r) = true := o
        rw [if_pos hb] at o'
        subst e
        exact ⟨v, w, rfl, hy, all o' h2⟩
    · rw [if_neg e, if_neg e]
      have hb : (k == f) = false := beq_eq_false_iff_ne.mpr e
      refine ⟨u, _, rfl, hk _ _ _ e h1, fputD_ok hy h2 hk ?_⟩
      rcases o with o | o
      · have o' : (!(k == f) && noF f r) = true := o
        rw [hb] at o'
        exact .inl o'
      · have o' : (if (k == f) = true then noF f r else oneF f r) = true := o
        rw [hb, if_neg (by decide)] at o'
        exact .inr o'
theorem FldsOk.length {n : Nat} : ∀ {fs : List (Str × Fld)} {vs : List (Str × V)}, FldsOk K W H n fs vs → vs.length = fs.length
  | [], vs, h => by
    have h' : vs = [] := h
    rw [h']
    rfl
  | (k, x) :: r, vs, h => by
    obtain ⟨u, w, rfl, h1, h2⟩ := h
    rw [List.length_cons, List.length_cons, h2.length]
/-- an instance's field is set: own: to a new container that the field alone will know -/
def sAtt (own : Bool) (cs : List Str) (f : Str) (a e : EV Rv) : EVS := fun n0 ρ S => sE (e ρ S) ρ fun r S1 => sE (a ρ S1) ρ fun ra S2 => match ra with
  | .val (.ref n) => match S2[n]? with
    | some (.ins c fs) => if ((cs.contains c && decide (fs.length < 900)) && ((noF f fs || oneF f fs) && (decide (n0 ≤ n) || !ownF S2 n f))) = true then
        (if own = true then match r with
          | .new d => .nx ρ (S2.set n (.ins c (fputD f (.own d) fs)))
          | _ => .stuck
        else match r.fz with
          | some d => .nx ρ (S2.set n (.ins c (fputD f (.val d) fs)))
          | none => .stuck)
      else .stuck
    | _ => .stuck
  | _ => .stuck
/-- the store and the world behind such a statement; q: the container that the field gets -/
theorem att_all {n : Nat} {c f : Str} {fs : List (Str × Fld)} {a dx : Addr} {vs : List (Str × V)} {y : Fld} {v : V} {q : Option Addr} (st : EStep W0 H0 W H) (r : Rel K E0 np W ρ S σ H) (e : S[n]? = some (.ins c fs)) (ha : W.ow (.ob n) = some a) (hH : H a = some (.ins (He.ga K c) dx vs))
    (hf : FldsOk K W H n fs vs) (h1 : noF f fs = true ∨ oneF f fs = true) (h2 : n0 ≤ n ∨ ownF S n f = false) (hq : isOw (some y) = q.isSome) (hn : ∀ p, q = some p → H p ≠ none ∧ W.F p = none ∧ (∀ o, W.ow o ≠ some p) ∧ H0 p = none ∧ (∀ (j : Nat) (d : Wz.D) (z : Addr), ρ[j]? = some (.lck d) → σ[j]? = some (some (.ref z)) → z ≠ p))
    (hy : FldOk K (W.put (.fl n f) q) (upd H a (.ins (He.ga K c) dx (putF f v vs))) n f y v) :
    SStep n0 W0 H0 (W.put (.fl n f) q) (upd H a (.ins (He.ga K c) dx (putF f v vs))) ∧ Rel K E0 np (W.put (.fl n f) q) ρ (S.set n (.ins c (fputD f y fs))) σ (upd H a (.ins (He.ga K c) dx (putF f v vs))) := by
  have hob : ∀ m x, W.ow (.ob m) = some x → (W.put (.fl n f) q).ow (.ob m) = some x := fun m x h => (put_ne fun z => Ow.noConfusion z).trans h
  have hF : ∀ x u, W.F x = some u → (W.put (.fl n f) q).F x = some u := fun _ _ h => h
  have ne : ∀ x p, x ≠ Ow.ob n → W.ow x = some p → p ≠ a := fun x p hx hp z => hx (r.wok.inj _ _ a (by rw [← z]; exact hp) ha)
  have hl : n < S.length := by
    rcases Nat.lt_or_ge n S.length with z | z
    · exact z
    · rw [List.getElem?_eq_none z] at e; cases e
  have w1 : WOk (W.put (.fl n f) q) H := by
    cases q with
    | none => exact drop_w r.wok
    | some p =>
      obtain ⟨z1, z2, z3, _, _⟩ := hn p rfl
      exact own_w r.wok z1 z2 z3
  have w2 : WOk (W.put (.fl n f) q) (upd H a (.ins (He.ga K c) dx (putF f v vs))) := w_upd w1 (hob _ _ ha) fun _ z => by cases z
  have lift : ∀ m g x u, (m ≠ n ∨ g ≠ f) → FldOk K W H m g x u → FldOk K (W.put (.fl n f) q) (upd H a (.ins (He.ga K c) dx (putF f v vs))) m g x u := fun m g x u hm z => by
    have hfl : (W.put (.fl n f) q).ow (.fl m g) = W.ow (.fl m g) := put_ne fun e2 => by
      have := Ow.fl.inj e2
      rcases hm with q | q
      · exact q this.1
      · exact q this.2
    cases x with
    | val d => exact Rep.mono hF hob d u z
    | own d =>
      obtain ⟨p, k1, k2, k3⟩ := z
      exact ⟨p, k1, hfl.trans k2, k3.mono hF hob (upd_ne (ne _ _ (fun z => Ow.noConfusion z) k2))⟩
    | lck d =>
      obtain ⟨p, k1, k2, k3⟩ := z
      exact ⟨p, k1, hfl.trans k2, k3.mono hF hob (upd_ne (ne _ _ (fun z => Ow.noConfusion z) k2))⟩
  have o2 : ObsOk K (W.put (.fl n f) q) (upd H a (.ins (He.ga K c) dx (putF f v vs))) (S.set n (.ins c (fputD f y fs))) := by
    refine ⟨fun m cc em => ?_, fun m hm => ?_, fun m g hg => ?_⟩
    · rcases set_get em with ⟨rfl, rfl, _⟩ | ⟨nm, em'⟩
      · exact ⟨a, dx, _, hob _ _ ha, upd_same, fputD_ok hy hf (fun g x u hg z => lift _ g x u (.inr hg) z) h1⟩
      · have k := r.obs.at_ m cc em'
        have nob : Ow.ob m ≠ Ow.ob n := fun z => nm (Ow.ob.inj z).symm
        cases cc with
        | box d =>
          obtain ⟨p, k1, k2⟩ := k
          exact ⟨p, hob _ _ k1, k2.mono hF hob (upd_ne (ne _ _ nob k1))⟩
        | lbx d =>
          obtain ⟨p, k1, k2⟩ := k
          exact ⟨p, hob _ _ k1, k2.mono hF hob (upd_ne (ne _ _ nob k1))⟩
        | ins cl gs =>
          obtain ⟨p, dx2, us, k1, k2, k3⟩ := k
          refine ⟨p, dx2, us, hob _ _ k1, (upd_ne (ne _ _ nob k1)).trans k2, ?_⟩
          clear k2 em' em
          induction gs generalizing us with
          | nil => exact k3
          | cons x t ih =>
            obtain ⟨g, x⟩ := x
            obtain ⟨u, w', e1, e2, e3⟩ := k3
            exact ⟨u, w', e1, lift _ _ _ _ (.inl fun z => nm z.symm) e2, ih _ e3⟩
    · rw [List.length_set] at hm
      have k := r.obs.nob m hm
      exact ⟨(put_ne fun z => Ow.noConfusion z).trans k.1, fun g => (put_ne fun z => by have := (Ow.fl.inj z).1; omega).trans (k.2 g)⟩
    · by_cases z : m = n ∧ g = f
      · obtain ⟨rfl, rfl⟩ := z
        unfold ownF at hg
        rw [List.getElem?_set_self hl] at hg
        have hg' : isOw ((fputD g y fs).lookup g) = false := hg
        rw [fputD_look, if_pos rfl, hq] at hg'
        cases q with
        | none => exact put_same
        | some p => cases hg'
      · have en : Ow.fl m g ≠ Ow.fl n f := fun z2 => z (Ow.fl.inj z2)
        refine (put_ne en).trans (r.obs.nof m g ?_)
        unfold ownF at hg ⊢
        by_cases zm : n = m
        · subst zm
          rw [List.getElem?_set_self hl] at hg
          have hg' : isOw ((fputD f y fs).lookup g) = false := hg
          rw [fputD_look, if_neg fun z2 => z ⟨rfl, z2⟩] at hg'
          rw [e]
          exact hg'
        · rwa [List.getElem?_set_ne zm] at hg
  refine ⟨⟨fun x u h z => ?_, st.F, fun x h => (st.Fn x h).imp id .inl, fun m x h => hob m x (st.ob m x h), fun m g x hm h => ?_, fun o x h => ?_, fun x h => ?_, fun x o u h => ?_⟩, ⟨w2, o2, fun i s es => ?_, r.len, fun i h => (put_ne fun z => Ow.noConfusion z).trans (r.nsl i h), fun i p h hi => r.frs i p ((put_ne fun z => Ow.noConfusion z).symm.trans h) hi, fun x h => ?_⟩⟩
  · have k1 := st.keep x u h fun o _ => z o
    refine (upd_ne fun z2 => ?_).trans k1
    rcases st.own _ _ ha with k | k
    · exact z _ (by rw [z2]; exact k)
    · rw [z2, k] at h; cases h
  · have k := st.fl m g x h
    refine (put_ne fun z => ?_).trans k
    obtain ⟨z1, z2⟩ := Ow.fl.inj z
    subst z1 z2
    rcases h2 with h2 | h2
    · omega
    · rw [r.obs.nof m g h2] at k
      cases k
  · by_cases z : o = .fl n f
    · rw [z, put_same] at h
      exact .inr (hn x h).2.2.2.1
    · rw [put_ne z] at h
      exact st.own o x h
  · have k := st.liv x h
    by_cases z : x = a
    · rw [z, upd_same]; simp
    · rw [upd_ne z]; exact k
  · have k := st.fz x o u h
    refine (upd_ne fun z => ?_).trans k
    rw [z, hH] at k
    cases k
  · have k := r.slots i s es
    cases s with
    | non => exact True.intro
    | val d =>
      obtain ⟨u, k1, k2⟩ := k
      exact ⟨u, k1, Rep.mono hF hob d u k2⟩
    | own d =>
      obtain ⟨p, k1, k2, k3⟩ := k
      exact ⟨p, k1, (put_ne fun z => Ow.noConfusion z).trans k2, k3.mono hF hob (upd_ne (ne _ _ (fun z => Ow.noConfusion z) k2))⟩
    | lck d =>
      obtain ⟨p, k1, k2, k3⟩ := k
      refine ⟨p, k1, fun o z => ?_, k3.mono hF hob (upd_ne fun z => k2 (.ob n) (by rw [z]; exact ha))⟩
      by_cases zo : o = .fl n f
      · rw [zo, put_same] at z
        exact (hn p z).2.2.2.2 i d p es k1 rfl
      · rw [put_ne zo] at z
        exact k2 o z
  · have k := r.ent x h
    by_cases z : x = a
    · rw [z, upd_same]; simp
    · rw [upd_ne z]; exact k
theorem Rel.freeze2 {rv : Rv} {d : Wz.D} {v : V} (st : EStep W0 H0 W H) (r : Rel K E0 np W ρ S σ H) (h : RF K W H0 H rv v) (e : rv.fz = some d) :
    ∃ W', EStep W0 H0 W' H ∧ Rel K E0 np W' ρ S σ H ∧ RepW K W' d v ∧ W'.ow = W.ow := by
  obtain ⟨W', st', w', o', rep, hF, ho⟩ := h.freeze st r.wok r.obs e
  have h2 : ∀ n a, W.ow (.ob n) = some a → W'.ow (.ob n) = some a := fun n a q => (congrFun ho (.ob n)).trans q
  refine ⟨W', st', ⟨w', o', fun i s es => ?_, r.len, fun i hi => (congrFun ho _).trans (r.nsl i hi), fun i p q => r.frs i p ((congrFun ho _).symm.trans q), r.ent⟩, rep, ho⟩
  have q := r.slots i s es
  cases s with
  | non => exact True.intro
  | val x =>
    obtain ⟨u, k1, k2⟩ := q
    exact ⟨u, k1, Rep.mono hF h2 x u k2⟩
  | own x =>
    obtain ⟨p, k1, k2, k3⟩ := q
    exact ⟨p, k1, (congrFun ho _).trans k2, k3.mono hF h2 rfl⟩
  | lck x =>
    obtain ⟨p, k1, k2, k3⟩ := q
    exact ⟨p, k1, fun y => by rw [ho]; exact k2 y, k3.mono hF h2 rfl⟩
theorem snds_att {own : Bool} {cs : List Str} {f : Str} {ta te : TE} {a e : EV Rv} (hc : ∀ c ∈ cs, Cls K (He.ga K c) ∧ NoAttr K (He.ga K c) f) (ha : Snd K WX (RvOk K) ta a) (he : Snd K WX (RvOk K) te e) :
    SndS K WX np (sFld K ta te f) (sAtt own cs f a e) := by
  intro E0 n0 W ρ S σ H D r hl n
  unfold sAtt at n
  refine he E0 np W ρ S σ H _ r (SNeed.bind r hl n fun rv S1 e1 v W1 H1 st1 r1 hl1 rr1 n1 => ?_)
  refine ha E0 np W1 ρ S1 σ H1 _ r1 (SNeed.bind r1 hl1 (SNeed.step st1.st .refl n1) fun ra S2 e2 x W2 H2 st2 r2 hl2 rr2 _ => ?_)
  have n2 := n1
  rw [e2, sE_ok] at n2
  clear n1
  cases ra with
  | val d =>
    cases d with
    | ref m =>
      dsimp only at n2
      cases q : S2[m]? with
      | none => rw [q] at n2; exact n2.elim
      | some cl =>
        rw [q] at n2
        cases cl with
        | ins c fs =>
          dsimp only at n2
          split at n2
          · rename_i hh
            simp only [Bool.and_eq_true, Bool.or_eq_true, decide_eq_true_eq, Bool.not_eq_true'] at hh
            obtain ⟨⟨hcc, hlen⟩, hone, hold⟩ := hh
            obtain ⟨p, rfl, hp⟩ := rr2
            obtain ⟨a2, dx, vs, k1, k2, k3⟩ := r2.obs.at_ m _ q
            have ep : a2 = p := Option.some.inj (k1.symm.trans hp)
            subst ep
            obtain ⟨g1, g2⟩ := hc c (List.contains_iff_mem.mp hcc)
            refine ⟨a2, _, dx, vs, rfl, k2, g1, g2, ?_, ?_⟩
            · rw [k3.length]
              omega
            · have rr := rr1.step st2
              cases own with
              | true =>
                rw [if_pos rfl] at n2
                cases rv with
                | new d =>
                  dsimp only at n2
                  obtain ⟨p, rfl, cx, hf, no, z⟩ := rr
                  have z0 : H p = none := z
                  have npa : p ≠ a2 := fun zz => no (.ob m) (by rw [zz]; exact hp)
                  obtain ⟨s1, s2⟩ := att_all (n0 := n0) (y := .own d) (v := .ref p) (q := some p) (st1.trans st2) r2 q k1 k2 k3 hone hold rfl (fun p' hp' => by
                    cases hp'
                    exact ⟨cx.r.some, hf, no, z0, fun j d' z' ej eσ e3 => lck_alive r j d' z' ej eσ (by rw [e3]; exact z0)⟩)
                    ⟨p, rfl, put_same, cx.mono (fun _ _ q => q) (fun _ _ q => (put_ne fun z => Ow.noConfusion z).trans q) (upd_ne npa)⟩
                  exact n2 _ σ _ s1 s2 (by rw [List.length_set]; exact hl2) .refl
                | _ => exact n2.elim
              | false =>
                rw [if_neg (by decide)] at n2
                cases qf : rv.fz with
                | none => rw [qf] at n2; exact n2.elim
                | some d =>
                  rw [qf] at n2
                  dsimp only at n2
                  obtain ⟨W3, st3, r3, rep, ho⟩ := Rel.freeze2 (st1.trans st2) r2 (RvOk.rf rr qf) qf
                  obtain ⟨a3, dx3, vs3, k1', k2', k3'⟩ := r3.obs.at_ m _ q
                  have h1 : W3.ow (.ob m) = some a2 := (congrFun ho _).trans k1
                  have ea : a3 = a2 := Option.some.inj (k1'.symm.trans h1)
                  subst ea
                  rw [k2] at k2'
                  cases k2'
                  obtain ⟨s1, s2⟩ := att_all (n0 := n0) (y := .val d) (v := v) (q := none) st3 r3 q h1 k2 k3' hone hold rfl (fun p' hp' => by cases hp') (Rep.mono (fun _ _ q => q) (fun _ _ q => (put_ne fun z => Ow.noConfusion z).trans q) d v rep)
                  exact n2 _ σ _ s1 s2 (by rw [List.length_set]; exact hl2) .refl
          · exact n2.elim
        | _ => exact n2.elim
    | _ => exact n2.elim
  | _ => exact n2.elim
end
end Wz

set_option Elab.async false
set_option linter.all false
set_option maxRecDepth 100000
set_option maxHeartbeats 4000000
namespace Wz
open PySem PySem.Spec PyProof.Rows L2

section
variable {K : PySem.W.Frag} {WX : L2.WX} {W W0 W1 W2 Wc : Wd} {H H0 H1 H2 H' : Hp} {σ : L2.St} {ρ : List Slot} {S S' S1 : List Cell} {E0 : Hp} {np n0 : Nat} {X : Cx} {D : Ends}
/-! ### o.m(..) -/
def tMethS (C : Addr) (m : Str) (sp : Sp) (E : L2.St → XK) (ta : TE) (t : TA) : TE := fun σ H Q => ta σ H fun x H1 => ∃ a dx fs, x = .ref a ∧ H1 a = some (.ins C dx fs) ∧ fs.lookup m = none ∧ t σ H1 fun vs H2 => sp (x :: vs) H2 Q (E σ)
def xMeth (c m : Str) (sp : FnSpec) (a : EV Rv) (es : EV (List Rv)) : EV Rv := fun ρ S => (a ρ S).bind fun ra S1 => match ra with
  | .val (.ref n) => match S1[n]? with
    | some (.ins c' fs) => if (decide (c' = c) && (fs.lookup m).isNone) = true then (es ρ S1).bind fun rs S2 => callS sp (.val (.ref n) :: rs) S2 else .stuck
    | _ => .stuck
  | _ => .stuck
theorem snd_meth {c m : Str} {sp : FnSpec} {ta : TE} {t : TA} {a : EV Rv} {es : EV (List Rv)} (ha : Snd K WX (RvOk K) ta a) (hs : Snd K WX (RL K) t es) : Snd K WX (RvOk K) (tMethS (He.ga K c) m (Gsp K sp) (WE WX) ta t) (xMeth c m sp a es) := by
  intro E0 np W ρ S σ H Q r n
  refine ha E0 np W ρ S σ H _ r ?_
  unfold xMeth at n
  cases ea : a ρ S with
  | stuck => rw [ea] at n; exact n
  | exc cc d S1 => rw [ea] at n; exact n
  | ok ra S1 =>
    rw [ea, Out.bind_ok] at n
    intro x W1 H1 st1 w1 o1 rr
    cases ra with
    | val d =>
      cases d with
      | ref k =>
        dsimp only at n
        cases q : S1[k]? with
        | none => rw [q] at n; exact n.elim
        | some cl =>
          rw [q] at n
          cases cl with
          | ins c' fs =>
            dsimp only at n
            split at n
            · rename_i hh
              simp only [Bool.and_eq_true, decide_eq_true_eq, Option.isNone_iff_eq_none] at hh
              obtain ⟨rfl, hm⟩ := hh
              obtain ⟨p, rfl, hp⟩ := id rr
              obtain ⟨a2, dx, vs, k1, k2, k3⟩ := o1.at_ k _ q
              have ep : a2 = p := Option.some.inj (k1.symm.trans hp)
              subst ep
              refine ⟨a2, dx, vs, rfl, k2, k3.none hm, ?_⟩
              have r1 := r.estep st1 w1 o1
              refine hs E0 np W1 ρ S1 σ H1 _ r1 ?_
              cases ee : es ρ S1 with
              | stuck => rw [ee] at n; exact n.elim
              | exc cc d S2 =>
                rw [ee] at n
                exact fun cls dd W2 H2 st2 w2 o2 z => n cls dd W2 H2 (st1.trans st2) w2 o2 z
              | ok rs S2 =>
                rw [ee, Out.bind_ok] at n
                intro us W2 H2 st2 w2 o2 rr2
                have hl : RL K W2 H H2 (.val (.ref k) :: rs) (.ref a2 :: us) := ⟨_, us, rfl, rr.step st2, RL.lax st1.liv rr2⟩
                exact call_need r.wok (st1.trans st2) w2 o2 hl rfl n
            · exact n.elim
          | _ => exact n.elim
      | _ => exact n.elim
    | _ => exact n.elim

/-! ### C(..) -/
def xMake (c : Str) (sp : FnSpec) (es : EV (List Rv)) : EV Rv := fun ρ S => (es ρ S).bind fun rs S1 => match callS sp (.val (.ref S1.length) :: rs) (S1 ++ [.ins c []]) with
  | .ok (.val .non) S2 => .ok (.val (.ref S1.length)) S2
  | _ => .stuck
/-- a new instance gets its cell -/
theorem ins_all {c : Str} {x dx : Addr} (st : EStep W0 H0 W H) (w : WOk W H) (ob : ObsOk K W H S) (hx : H x = none) (hd : H dx = none) (ne : dx ≠ x) :
    EStep W0 H0 (W.put (.ob S.length) (some x)) (upd (upd H dx (.own x)) x (.ins (He.ga K c) dx [])) ∧ EStep W H (W.put (.ob S.length) (some x)) (upd (upd H dx (.own x)) x (.ins (He.ga K c) dx [])) ∧ WOk (W.put (.ob S.length) (some x)) (upd (upd H dx (.own x)) x (.ins (He.ga K c) dx [])) ∧
      ObsOk K (W.put (.ob S.length) (some x)) (upd (upd H dx (.own x)) x (.ins (He.ga K c) dx [])) (S ++ [.ins c []]) := by
  have hx1 : upd H dx (.own x) x = none := (upd_ne (Ne.symm ne)).trans hx
  have w1 : WOk W (upd H dx (.own x)) := new_w w hd fun _ z => by cases z
  have o1 : ObsOk K W (upd H dx (.own x)) S := new_o w ob hd
  have w2 : WOk W (upd (upd H dx (.own x)) x (.ins (He.ga K c) dx [])) := new_w w1 hx1 fun _ z => by cases z
  have o2 : ObsOk K W (upd (upd H dx (.own x)) x (.ins (He.ga K c) dx [])) S := new_o w1 o1 hx1
  have s2 : EStep W H W (upd (upd H dx (.own x)) x (.ins (He.ga K c) dx [])) := (new_st hd).trans (new_st hx1)
  have hob : ∀ n a, W.ow (.ob n) = some a → (W.put (.ob S.length) (some x)).ow (.ob n) = some a := fun n a h => box_ob (m := n) ob h
  have hfl : ∀ n f, (W.put (.ob S.length) (some x)).ow (.fl n f) = W.ow (.fl n f) := fun n f => put_ne fun e => Ow.noConfusion e
  have hF : ∀ a u, W.F a = some u → (W.put (.ob S.length) (some x)).F a = some u := fun _ _ q => q
  have w3 : WOk (W.put (.ob S.length) (some x)) (upd (upd H dx (.own x)) x (.ins (He.ga K c) dx [])) := own_w w2 (by rw [upd_same]; simp) (w.fnone hx) (w.onone hx)
  have st3 : EStep W H (W.put (.ob S.length) (some x)) (upd (upd H dx (.own x)) x (.ins (He.ga K c) dx [])) := by
    refine ⟨s2.keep, s2.F, s2.Fn, fun i => put_ne fun e => Ow.noConfusion e, hob, fun n f a h => (hfl n f).trans h, fun o a h => ?_, s2.liv, s2.fz⟩
    by_cases e : o = .ob S.length
    · rw [e, put_same] at h
      cases h
      exact .inr hx
    · rw [put_ne e] at h
      exact .inl h
  refine ⟨st.trans st3, st3, w3, ⟨fun n cc e => ?_, fun n hn => ?_, fun n f hf => (hfl n f).trans (ob.nof n f ?_)⟩⟩
  · rcases Nat.lt_or_ge n S.length with q | q
    · rw [List.getElem?_append_left q] at e
      have k := o2.at_ n cc e
      cases cc with
      | box d =>
        obtain ⟨a, h1, h2⟩ := k
        exact ⟨a, hob _ _ h1, h2.mono hF hob rfl⟩
      | lbx d =>
        obtain ⟨a, h1, h2⟩ := k
        exact ⟨a, hob _ _ h1, h2.mono hF hob rfl⟩
      | ins cl fs =>
        obtain ⟨a, dx, vs, h1, h2, h3⟩ := k
        refine ⟨a, dx, vs, hob _ _ h1, h2, ?_⟩
        clear h2 e
        induction fs generalizing vs with
        | nil => exact h3
        | cons y r ih =>
          obtain ⟨f, y⟩ := y
          obtain ⟨v, w', e1, e2, e3⟩ := h3
          refine ⟨v, w', e1, ?_, ih _ e3⟩
          cases y with
          | val d => exact Rep.mono hF hob d v e2
          | own d =>
            obtain ⟨a, k1, k2, k3⟩ := e2
            exact ⟨a, k1, (hfl _ _).trans k2, k3.mono hF hob rfl⟩
          | lck d =>
            obtain ⟨a, k1, k2, k3⟩ := e2
            exact ⟨a, k1, (hfl _ _).trans k2, k3.mono hF hob rfl⟩
    · rw [List.getElem?_append_right q] at e
      have en : n = S.length := by
        cases q2 : n - S.length with
        | zero => omega
        | succ m => rw [q2] at e; simp at e
      subst en
      simp at e
      subst e
      exact ⟨x, dx, [], put_same, upd_same, rfl⟩
  · rw [List.length_append, List.length_singleton] at hn
    have k := ob.nob n (by omega)
    exact ⟨(put_ne fun e => by have := Ow.ob.inj e; omega).trans k.1, fun f => (hfl n f).trans (k.2 f)⟩
  · unfold ownF at hf ⊢
    rcases Nat.lt_or_ge n S.length with q | q
    · rwa [List.getElem?_append_left q] at hf
    · rw [List.getElem?_eq_none q]
theorem snd_make {c : Str} {sp : FnSpec} {t : TA} {es : EV (List Rv)} (hs : Snd K WX (RL K) t es) : Snd K WX (RvOk K) (tMake (He.ga K c) (Gsp K sp) [] (fun _ _ _ => False) t) (xMake c sp es) := by
  intro E0 np W ρ S σ H Q r n
  unfold xMake at n
  refine hs E0 np W ρ S σ H _ r ?_
  cases ee : es ρ S with
  | stuck => rw [ee] at n; exact n
  | exc cc d S1 => rw [ee] at n; exact n
  | ok rs S1 =>
    rw [ee, Out.bind_ok] at n
    intro vs W1 H1 st w o rr x dx hx hd ne
    obtain ⟨a1, a2, a3, a4⟩ := ins_all (c := c) st w o hx hd ne
    rw [List.append_nil]
    have hl : RL K (W1.put (.ob S1.length) (some x)) H (upd (upd H1 dx (.own x)) x (.ins (He.ga K c) dx [])) (.val (.ref S1.length) :: rs) (.ref x :: vs) := ⟨.ref x, vs, rfl, ⟨x, rfl, put_same⟩, RL.step a2 rr⟩
    refine call_needX (WX := WXF) (σ := σ) r.wok a1 a3 a4 hl rfl ?_
    cases hc : callS sp (.val (.ref S1.length) :: rs) (S1 ++ [.ins c []]) with
    | stuck => rw [hc] at n; exact n.elim
    | exc cc d S2 => rw [hc] at n; exact n.elim
    | ok rv S2 =>
      rw [hc] at n
      cases rv with
      | val d =>
        cases d with
        | non =>
          intro b W' H' s' w' o' z
          obtain ⟨z1, z2⟩ := z
          exact ⟨z1, n (.ref x) W' H' s' w' o' ⟨x, rfl, z2 _ _ put_same⟩⟩
        | _ => exact n.elim
      | _ => exact n.elim
end
end Wz

set_option Elab.async false
set_option linter.all false
set_option maxRecDepth 100000
set_option maxHeartbeats 4000000
namespace Wz
open PySem PySem.Spec PyProof.Rows L2

/-! ### walks over dicts: the dict is locked meanwhile -/
def keysI : Wz.D → Option (List Wz.D)
  | .dk l => some (l.map fun p => keyV p.1)
  | .dt l => some (l.map fun p => .tup (p.1.map keyV))
  | _ => none
def ogetL (S : List Cell) : Ow → Option Wz.D
  | .sl _ => none
  | .ob n => match S[n]? with
    | some (.lbx d) => some d
    | _ => none
  | .fl n f => match S[n]? with
    | some (.ins _ fs) => if oneF f fs = true then match fs.lookup f with
        | some (.lck d) => some d
        | _ => none
      else none
    | _ => none
def okPl (n0 : Nat) : Ow → Prop
  | .sl _ => False
  | .ob _ => True
  | .fl n _ => n < n0
noncomputable def unlk (o : Ow) (d : Wz.D) : SOut → SOut
  | .nx ρ S => onlyIf (ogetL S o = some d) (.nx ρ (oput S o d)) .stuck
  | .rt r ρ S => onlyIf (ogetL S o = some d) (.rt r ρ (oput S o d)) .stuck
  | _ => .stuck
def noXS : SOut → SOut
  | .exc _ _ _ _ => .stuck
  | o => o
noncomputable def sForD (c : EV Rv) (b : Wz.D → List Slot → Option (List Slot)) (body : EVS) (clr : List Nat) : EVS := fun n0 ρ S => match c ρ S with
  | .ok rc S1 => match placeOf rc with
    | some o => match oget S o with
      | some d => match keysI d with
        | some its => onlyIf ((S1 = S ∧ okPl n0 o) ∧ c ρ (oputB true S o d) = .ok rc (oputB true S o d)) (unlk o d (forL none b body clr n0 its ρ (oputB true S o d))) .stuck
        | none => .stuck
      | none => .stuck
    | none => .stuck
  | _ => .stuck
section
variable {K : PySem.W.Frag} {WX : L2.WX} {W W' W0 W1 W2 Wc : Wd} {H H0 H1 H2 H' : Hp} {σ σ' : L2.St} {ρ : List Slot} {S S' S1 : List Cell} {E0 : Hp} {np n0 : Nat} {X : Cx} {D : Ends} {p : Addr} {u : HO} {od : Obj}
theorem obs_unput {o : Ow} {d : Wz.D} (w : WOk W H) (ob : ObsOk K W H S) (e : ogetL S o = some d) (hp : W.ow o = some p) (hk : ∀ a, a ≠ p → H' a = H a) (c : ContX K W H' p d) : ObsOk K W H' (oput S o d) := by
  have other : ∀ {n : Nat} {cc : Cell}, (∀ x, W.ow x = some p → ∀ g, x ≠ .ob n ∧ x ≠ .fl n g) → CellOk K W H n cc → CellOk K W H' n cc := fun {n cc} hx q => by
    cases cc with
    | box d =>
      obtain ⟨a, h1, h2⟩ := q
      exact ⟨a, h1, h2.mono (fun _ _ q => q) (fun _ _ q => q) (hk a fun z => (hx _ (by rw [← z]; exact h1) default).1 rfl)⟩
    | lbx d =>
      obtain ⟨a, h1, h2⟩ := q
      exact ⟨a, h1, h2.mono (fun _ _ q => q) (fun _ _ q => q) (hk a fun z => (hx _ (by rw [← z]; exact h1) default).1 rfl)⟩
    | ins cl fs =>
      obtain ⟨a, dx, vs, h1, h2, h3⟩ := q
      exact ⟨a, dx, vs, h1, (hk a fun z => (hx _ (by rw [← z]; exact h1) default).1 rfl).trans h2, h3.keep fun q _ a' ha => hk a' fun z => (hx _ (by rw [← z]; exact ha) q.1).2 rfl⟩
  have own : ∀ x, W.ow x = some p → x = o := fun x hx => w.inj x o p hx hp
  cases o with
  | sl i => cases e
  | ob n =>
    have e' : (match S[n]? with | some (.lbx d) => some d | _ => none) = some d := e
    split at e'
    · rename_i x q
      refine ⟨fun m cc em => ?_, fun m hm => ?_, fun m g hg => ?_⟩
      · have em' : (S.set n (ocell false d))[m]? = some cc := em
        rcases set_get em' with ⟨rfl, rfl, _⟩ | ⟨ne, em'⟩
        · exact ⟨p, hp, c⟩
        · refine other (fun x hx g => ?_) (ob.at_ m cc em')
          rw [own x hx]
          exact ⟨fun z => ne (Ow.ob.inj z), fun z => Ow.noConfusion z⟩
      · have hm' : (S.set n (ocell false d)).length ≤ m := hm
        rw [List.length_set] at hm'
        exact ob.nob m hm'
      · refine ob.nof m g ?_
        have hg' : ownF (S.set n (ocell false d)) m g = false := hg
        unfold ownF at hg' ⊢
        by_cases e : n = m
        · subst e
          rw [q]
        · rwa [List.getElem?_set_ne e] at hg'
    · cases e'
  | fl n f =>
    have e' : (match S[n]? with
      | some (.ins _ fs) => if oneF f fs = true then match fs.lookup f with
          | some (.lck d) => some d
          | _ => none
        else none
      | _ => none) = some d := e
    split at e'
    · rename_i cl fs q
      split at e'
      · rename_i h1
        split at e'
        · rename_i x q2
          have hn : n < S.length := by
            rcases Nat.lt_or_ge n S.length with z | z
            · exact z
            · rw [List.getElem?_eq_none z] at q; cases q
          have eo : oput S (.fl n f) d = S.set n (.ins cl (fset f (ofld false d) fs)) := by
            show (match S[n]? with
              | some (.ins c fs) => S.set n (.ins c (fset f (ofld false d) fs))
              | _ => S) = _
            rw [q]
          rw [eo]
          refine ⟨fun m cc em => ?_, fun m hm => ?_, fun m g hg => ?_⟩
          · rcases set_get em with ⟨rfl, rfl, _⟩ | ⟨ne, em'⟩
            · obtain ⟨a, dx, vs, k1, k2, k3⟩ := ob.at_ _ _ q
              obtain ⟨v, k4, p2, k5, k6, k7⟩ := k3.look q2
              have ep : p2 = p := Option.some.inj (k6.symm.trans hp)
              subst ep
              refine ⟨a, dx, vs, k1, (hk a fun z => ?_).trans k2, fset_ok k3 h1 k4 (fun y _ ny a' ha => hk a' fun z => ?_) ?_⟩
              · have := own _ (by rw [← z]; exact k1)
                cases this
              · have := own _ (by rw [← z]; exact ha)
                exact ny (Ow.fl.inj this).2
              · exact ⟨_, k5, hp, c⟩
            · refine other (fun x hx g => ?_) (ob.at_ m cc em')
              rw [own x hx]
              exact ⟨fun z => Ow.noConfusion z, fun z => ne (Ow.fl.inj z).1⟩
          · rw [List.length_set] at hm
            exact ob.nob m hm
          · refine ob.nof m g ?_
            unfold ownF at hg ⊢
            by_cases e : n = m
            · subst e
              rw [List.getElem?_set_self hn] at hg
              rw [q]
              have hf : isOw (fs.lookup f) = true := by rw [q2]; rfl
              exact (fset_look (y := ofld false d) hf ofld_ow).symm.trans hg
            · rwa [List.getElem?_set_ne e] at hg
        · cases e'
      · cases e'
    · cases e'
theorem len_oput {b : Bool} {o : Ow} {d : Wz.D} : (oputB b S o d).length = S.length := by
  cases o with
  | sl i => rfl
  | ob n => exact List.length_set ..
  | fl n f =>
    show (match S[n]? with
      | some (.ins c fs) => S.set n (.ins c (fset f (ofld b d) fs))
      | _ => S).length = _
    split
    · exact List.length_set ..
    · rfl
/-- another heap at p, which the store owns -/
theorem rel_at {o : Ow} {d : Wz.D} (r : Rel K E0 np W ρ S σ H) (hp : W.ow o = some p) (ho : o.isOb = true) (w : WOk W (upd H p u)) (ob : ObsOk K W (upd H p u) S') : Rel K E0 np W ρ S' σ (upd H p u) where
  wok := w
  obs := ob
  slots i s e := by
    have q := r.slots i s e
    cases s with
    | non => exact True.intro
    | val d => exact q
    | own d =>
      obtain ⟨a, h1, h2, h3⟩ := q
      refine ⟨a, h1, h2, h3.mono (fun _ _ q => q) (fun _ _ q => q) (upd_ne fun z => ?_)⟩
      have := r.wok.inj _ _ _ (by rw [← z]; exact h2) hp
      subst this
      cases ho
    | lck d =>
      obtain ⟨a, h1, h2, h3⟩ := q
      refine ⟨a, h1, h2, h3.mono (fun _ _ q => q) (fun _ _ q => q) (upd_ne fun z => ?_)⟩
      exact h2 o (by rw [z]; exact hp)
  len := r.len
  nsl := r.nsl
  frs := r.frs
  ent a h := by
    by_cases z : a = p
    · rw [z, upd_same]; simp
    · rw [upd_ne z]; exact r.ent a h
/-- .. or which is frozen -/
theorem rel_fz (r : Rel K E0 np W ρ S σ H) (hp : ∀ o, W.ow o ≠ some p) (w : WOk W (upd H p u)) (hl : ∀ d, ContR K W H p d → ContR K W (upd H p u) p d) : Rel K E0 np W ρ S σ (upd H p u) where
  wok := w
  obs := by
    refine ⟨fun n c e => ?_, r.obs.nob, r.obs.nof⟩
    have q := r.obs.at_ n c e
    cases c with
    | box d =>
      obtain ⟨a, h1, h2⟩ := q
      exact ⟨a, h1, h2.mono (fun _ _ q => q) (fun _ _ q => q) (upd_ne fun z => hp _ (by rw [← z]; exact h1))⟩
    | lbx d =>
      obtain ⟨a, h1, h2⟩ := q
      exact ⟨a, h1, h2.mono (fun _ _ q => q) (fun _ _ q => q) (upd_ne fun z => hp _ (by rw [← z]; exact h1))⟩
    | ins cl fs =>
      obtain ⟨a, dx, vs, h1, h2, h3⟩ := q
      exact ⟨a, dx, vs, h1, (upd_ne fun z => hp _ (by rw [← z]; exact h1)).trans h2, h3.keep fun q _ a' ha => upd_ne fun z => hp _ (by rw [← z]; exact ha)⟩
  slots i s e := by
    have q := r.slots i s e
    cases s with
    | non => exact True.intro
    | val d => exact q
    | own d =>
      obtain ⟨a, h1, h2, h3⟩ := q
      exact ⟨a, h1, h2, h3.mono (fun _ _ q => q) (fun _ _ q => q) (upd_ne fun z => hp _ (by rw [← z]; exact h2))⟩
    | lck d =>
      obtain ⟨a, h1, h2, h3⟩ := q
      by_cases z : a = p
      · subst z
        exact ⟨a, h1, h2, hl d h3⟩
      · exact ⟨a, h1, h2, h3.mono (fun _ _ q => q) (fun _ _ q => q) (upd_ne z)⟩
  len := r.len
  nsl := r.nsl
  frs := r.frs
  ent a h := by
    by_cases z : a = p
    · rw [z, upd_same]; simp
    · rw [upd_ne z]; exact r.ent a h
theorem lock_step (hu : H p = some u) (nz : ∀ o v, u ≠ .frz o v) (s : SStep n0 W (upd H p (.frz od u)) W' H') : SStep n0 W H W' (upd H' p u) where
  keep a v h n := by
    by_cases z : a = p
    · subst z
      rw [upd_same]
      exact hu.symm.trans h
    · rw [upd_ne z]
      exact s.keep a v ((upd_ne z).trans h) n
  F := s.F
  Fn a h := by
    rcases s.Fn a h with q | q | q
    · exact .inl q
    · by_cases z : a = p
      · rw [z, upd_same] at q; cases q
      · rw [upd_ne z] at q; exact .inr (.inl q)
    · exact .inr (.inr q)
  ob := s.ob
  fl := s.fl
  own o a h := by
    rcases s.own o a h with q | q
    · exact .inl q
    · by_cases z : a = p
      · rw [z, upd_same] at q; cases q
      · rw [upd_ne z] at q; exact .inr q
  liv a h := by
    by_cases z : a = p
    · rw [z, upd_same]; simp
    · rw [upd_ne z]; exact s.liv a (by rw [upd_ne z]; exact h)
  fz a o v h := by
    by_cases z : a = p
    · subst z
      rw [hu] at h
      exact absurd (Option.some.inj h) (nz o v)
    · rw [upd_ne z]
      exact s.fz a o v ((upd_ne z).trans h)
theorem rv_at {rv : Rv} {v : V} (hp : (∃ o, o.isOb = true ∧ W.ow o = some p) ∨ ((∀ o, W.ow o ≠ some p) ∧ ∃ x, W.F p = some x)) (hl : ∀ d, ContR K W H p d → ContR K W (upd H p u) p d) (hx : ∀ d, ¬ ContX K W H p d) (h : RvOk K W E0 H rv v) : RvOk K W E0 (upd H p u) rv v := by
  cases rv with
  | val d => exact h
  | new d =>
    obtain ⟨a, e, c, n, o, z⟩ := h
    exact ⟨a, e, c.mono (fun _ _ q => q) (fun _ _ q => q) (upd_ne fun q => hx d (by rw [← q]; exact c)), n, o, z⟩
  | bor d =>
    obtain ⟨a, e, c, n⟩ := h
    by_cases q : a = p
    · subst q; exact ⟨a, e, hl d c, n⟩
    · exact ⟨a, e, c.mono (fun _ _ q => q) (fun _ _ q => q) (upd_ne q), n⟩
  | lk d =>
    obtain ⟨a, e, c, n⟩ := h
    by_cases q : a = p
    · subst q; exact ⟨a, e, hl d c, n⟩
    · exact ⟨a, e, c.mono (fun _ _ q => q) (fun _ _ q => q) (upd_ne q), n⟩
  | fld n f => exact h
theorem repL_keysK : ∀ {l : List (Key × Wz.D)} {vs : List (Key × V)}, RepK K H W.al l vs → True := fun _ => True.intro
theorem keys_rep (k : List Key) : RepLW K W (k.map keyV) (k.map kV) := by
  induction k with
  | nil => exact rfl
  | cons x r ih => exact ⟨_, _, rfl, keyV_rep x, ih⟩
def DU (K : PySem.W.Frag) (F : Hp) (al : Nat → Option Addr) (u : HO) : Wz.D → Prop
  | .dk l => ∃ vs, u = .dK vs ∧ RepK K F al l vs
  | .dt l => ∃ vs, u = .dT vs ∧ RepT K F al l vs
  | _ => False
/-- the turns of a walk over a locked dict -/
theorem dict_walk {d : Wz.D} {its : List Wz.D} (hu : keysI d = some its) {F : Hp} {al : Nat → Option Addr} (hr : DU K F al u d) (q : H1 p = some (.frz od u)) (R : L2.It → Hp → Prop)
    (hR : ∀ (J : L2.It) (Y : Nat → Hp → V → Hp → Prop), Walk J its.length (fun H => H p = some (.frz od u)) Y →
      (∀ i H' x H'' W' S, i < its.length → H' p = some (.frz od u) → WOk W' H' → ObsOk K W' H' S → Y i H' x H'' → ∃ W'' d, EStep W' H' W'' H'' ∧ WOk W'' H'' ∧ ObsOk K W'' H'' S ∧ its[i]? = some d ∧ RepW K W'' d x) → R J H1) :
    (∃ kvs, H1 p = some (.frz od (.dK kvs)) ∧ R (Itk p od kvs) H1) ∨ ∃ kvs, H1 p = some (.frz od (.dT kvs)) ∧ R (Itkt p od kvs) H1 := by
  cases d with
  | dk l =>
    cases hu
    obtain ⟨vs, rfl, rep⟩ := hr
    refine .inl ⟨vs, q, hR _ _ (by rw [List.length_map, ← rep.pk.len]; exact walk_keys) fun i H' x H'' W' S hi _ w ob y => ?_⟩
    obtain ⟨rfl, k, v, h1, rfl⟩ := y
    refine ⟨W', keyV k, .refl, w, ob, ?_, keyV_rep k⟩
    have hk := rep.pk.keys
    have h2 : (vs.map (·.1))[i]? = some k := by rw [List.getElem?_map, h1]; rfl
    rw [hk, List.getElem?_map] at h2
    rw [List.getElem?_map]
    cases e : l[i]? with
    | none => rw [e] at h2; cases h2
    | some z => rw [e] at h2; cases h2; rfl
  | dt l =>
    cases hu
    obtain ⟨vs, rfl, rep⟩ := hr
    refine .inr ⟨vs, q, hR _ _ (by rw [List.length_map, ← rep.pk.len]; exact walk_keysT) fun i H' x H'' W' S hi _ w ob y => ?_⟩
    obtain ⟨rfl, k, v, a, h1, rfl, h3⟩ := y
    refine ⟨W', .tup (k.map keyV), .refl, w, ob, ?_, a, _, rfl, w.tupF a _ h3, keys_rep k⟩
    have hk := rep.pk.keys
    have h2 : (vs.map (·.1))[i]? = some k := by rw [List.getElem?_map, h1]; rfl
    rw [hk, List.getElem?_map] at h2
    rw [List.getElem?_map]
    cases e : l[i]? with
    | none => rw [e] at h2; cases h2
    | some z => rw [e] at h2; cases h2; rfl
  | _ => cases hu
theorem contR_lock {u : HO} (hu : H p = some u) (d : Wz.D) (h : ContR K W H p d) (hd : lockable u) : ContR K W (upd H p (.frz od u)) p d := by
  cases d with
  | lst l =>
    obtain ⟨vs, h1, _⟩ := h
    rw [hu] at h1
    cases h1
    cases hd
  | dk l =>
    obtain ⟨vs, h1, h2⟩ := h
    rcases h1 with h1 | ⟨o2, h1⟩
    · rw [hu] at h1; cases h1; exact ⟨vs, .inr ⟨od, upd_same⟩, h2⟩
    · rw [hu] at h1; cases h1; cases hd
  | dt l =>
    obtain ⟨vs, h1, h2⟩ := h
    rcases h1 with h1 | ⟨o2, h1⟩
    · rw [hu] at h1; cases h1; exact ⟨vs, .inr ⟨od, upd_same⟩, h2⟩
    · rw [hu] at h1; cases h1; cases hd
  | _ => exact h.elim
theorem contR_unlock {u : HO} (b1 : H p = some (.frz od u)) (d' : Wz.D) (cd : ContR K W H p d') : ContR K W (upd H p u) p d' := by
  cases d' with
  | lst l => obtain ⟨vs, h1, _⟩ := cd; rw [b1] at h1; cases h1
  | dk l =>
    obtain ⟨vs, h1, h2⟩ := cd
    rcases h1 with h1 | ⟨o2, h1⟩
    · rw [b1] at h1; cases h1
    · rw [b1] at h1; cases h1; exact ⟨vs, .inl upd_same, h2⟩
  | dt l =>
    obtain ⟨vs, h1, h2⟩ := cd
    rcases h1 with h1 | ⟨o2, h1⟩
    · rw [b1] at h1; cases h1
    · rw [b1] at h1; cases h1; exact ⟨vs, .inl upd_same, h2⟩
  | _ => exact cd.elim
theorem contX_lock {u : HO} (b1 : H p = some (.frz od u)) (d' : Wz.D) (cd : ContX K W H p d') : False := by
  cases d' with
  | lst l => obtain ⟨vs, h1, _⟩ := cd; rw [b1] at h1; cases h1
  | dk l => obtain ⟨vs, h1, _⟩ := cd; rw [b1] at h1; cases h1
  | dt l => obtain ⟨vs, h1, _⟩ := cd; rw [b1] at h1; cases h1
  | _ => exact cd.elim
def ForR (g : TG) (tb : TS) (D : Ends) (σ : L2.St) (J : L2.It) (H1 : Hp) : Prop := ∃ W : Nat → Nat → L2.St → Hp → Prop, (∃ m, W 0 m σ H1) ∧ ∀ i m σ H, W i m σ H →
  (J.stop i H ∧ D.nx σ H) ∨ (J.go i H ∧ ∃ N : L2.St → Hp → Prop, (∀ σ' H', N σ' H' → ∃ m', m' < m ∧ W (i + 1) m' σ' H') ∧ ∀ x H', J.yld i H x H' → g x σ H' fun σ2 H2 => tb { D with nx := N, ct := N, bk := D.nx } σ2 H2)
def lockE (D : Ends) (d : Addr) (u : HO) (od : Obj) : Ends := ⟨fun σ' H' => H' d = some (.frz od u) ∧ D.nx σ' (upd H' d u), fun v H' => H' d = some (.frz od u) ∧ D.rt v (upd H' d u), fun σ' H' => H' d = some (.frz od u) ∧ D.bk σ' (upd H' d u), fun σ' H' => H' d = some (.frz od u) ∧ D.ct σ' (upd H' d u)⟩
theorem snds_forD {td : TE} {g : TG} {tb : TS} {c : EV Rv} {b : Wz.D → List Slot → Option (List Slot)} {body : EVS} {clr : List Nat} (hc : Snd K WX (RvOk K) td c) (hg : SndG K g b) (hb : SndS K WX np tb body) :
    SndS K WX np (fun D σ H => tLock (tFor (iKeys td) g tb) D σ H ∨ tFor (iKeys td) g tb D σ H) (sForD c b body clr) := by
  intro E0 n0 W ρ S σ H D r hl n
  unfold sForD at n
  cases ec : c ρ S with
  | exc _ _ _ => rw [ec] at n; exact n.elim
  | stuck => rw [ec] at n; exact n.elim
  | ok rc S1 =>
    rw [ec] at n
    dsimp only at n
    cases ep : placeOf rc with
    | some o =>
      rw [ep] at n
      dsimp only at n
      cases eg : oget S o with
      | none => rw [eg] at n; exact n.elim
      | some d =>
        rw [eg] at n
        dsimp only at n
        cases ei : keysI d with
        | none => rw [ei] at n; exact n.elim
        | some its =>
          rw [ei] at n
          dsimp only at n
          by_cases hq : (S1 = S ∧ okPl n0 o) ∧ c ρ (oputB true S o d) = .ok rc (oputB true S o d)
          · rw [only_pos hq] at n
            obtain ⟨⟨_, hpl⟩, hc2⟩ := hq
            obtain ⟨p, hp, cx⟩ := oget_at r.obs eg
            have ho := oget_ob eg
            obtain ⟨u, hu, mu, nz, hr⟩ : ∃ u, H p = some u ∧ Mut (some u) ∧ (∀ o v, u ≠ .frz o v) ∧ DU K W.F W.al u d := by
              cases d with
              | dk l => obtain ⟨vs, h1, h2⟩ := cx; exact ⟨_, h1, trivial, (fun _ _ z => by cases z), vs, rfl, h2⟩
              | dt l => obtain ⟨vs, h1, h2⟩ := cx; exact ⟨_, h1, trivial, (fun _ _ z => by cases z), vs, rfl, h2⟩
              | _ => cases ei
            refine .inl ⟨p, u, hu, mu, fun od => ?_⟩
            have wl : WOk W (upd H p (.frz od u)) := w_upd r.wok hp fun _ z => by cases z
            have cr : ContR K W (upd H p (.frz od u)) p d := by
              cases d with
              | dk l => obtain ⟨vs, rfl, h2⟩ := hr; exact ⟨vs, .inr ⟨od, upd_same⟩, h2⟩
              | dt l => obtain ⟨vs, rfl, h2⟩ := hr; exact ⟨vs, .inr ⟨od, upd_same⟩, h2⟩
              | _ => cases ei
            have ol : ObsOk K W (upd H p (.frz od u)) (oputB true S o d) := obs_put r.wok r.obs (.inl eg) hp (fun a h => upd_ne h) cr
            have rl : Rel K E0 np W ρ (oputB true S o d) σ (upd H p (.frz od u)) := rel_at (d := d) r hp ho wl ol
            have hl' : n0 ≤ (oputB true S o d).length := by rw [len_oput]; exact hl
            refine hc E0 np W ρ _ σ _ _ rl ?_
            rw [hc2]
            intro v W1 H1 st w1 o1 rv
            obtain ⟨p1, rfl, hp1⟩ := place_at rv ep
            have hpW : W1.ow o = some p := by
              cases o with
              | sl i => cases ho
              | ob m => exact st.ob _ _ hp
              | fl m f => exact st.fl _ _ _ hp
            have e1 : p1 = p := Option.some.inj (hp1.symm.trans hpW)
            subst e1
            have q1 := st.fz p1 od u upd_same
            refine ⟨p1, od, rfl, dict_walk ei hr q1 (ForR g tb (lockE D p1 u od) σ) fun J Y w hY => ?_⟩
            refine for_run (gd := none) (clr := clr) hg hb w (fun W' σ' H' ρ' S2 s2 r2 _ _ => s2.fz p1 od u q1) (fun i H' x H'' W' S2 h1 h2 h3 h4 _ _ _ h7 => hY i H' x H'' W' S2 h1 h2 h3 h4 h7) (rl.estep st w1 o1) hl' ?_
            revert n
            generalize forL none b body clr n0 its ρ (oputB true S o d) = res
            intro n
            have back : ∀ {W' : Wd} {σ' : L2.St} {H' : Hp} {ρ2 : List Slot} {S2 : List Cell}, SStep n0 W1 H1 W' H' → Rel K E0 np W' ρ2 S2 σ' H' → ogetL S2 o = some d →
                H' p1 = some (.frz od u) ∧ SStep n0 W H W' (upd H' p1 u) ∧ Rel K E0 np W' ρ2 (oput S2 o d) σ' (upd H' p1 u) ∧ W'.ow o = some p1 := by
              intro W' σ' H' ρ2 S2 s2 r2 hg2
              have s3 := st.st (n0 := n0) |>.trans s2
              have hpW' : W'.ow o = some p1 := by
                cases o with
                | sl i => cases ho
                | ob m => exact s3.ob _ _ hp
                | fl m f => exact s3.fl _ _ _ hpl hp
              have cX : ContX K W' (upd H' p1 u) p1 d := by
                cases d with
                | dk l => obtain ⟨vs, rfl, h2⟩ := hr; exact ⟨vs, upd_same, RepK.mono s3.F s3.ob l vs h2⟩
                | dt l => obtain ⟨vs, rfl, h2⟩ := hr; exact ⟨vs, upd_same, RepT.mono s3.F s3.ob l vs h2⟩
                | _ => cases ei
              have w2 : WOk W' (upd H' p1 u) := w_upd r2.wok hpW' fun vs z => by
                cases d with
                | dk l => obtain ⟨vs, rfl, h2⟩ := hr; cases z
                | dt l => obtain ⟨vs, rfl, h2⟩ := hr; cases z
                | _ => cases ei
              exact ⟨s2.fz p1 od u q1, lock_step hu nz s3, rel_at (d := d) r2 hpW' ho w2 (obs_unput r2.wok r2.obs hg2 hpW' (fun a h => upd_ne h) cX), hpW'⟩
            cases res with
            | stuck => exact n.elim
            | exc _ _ _ _ => exact n.elim
            | nx ρ2 S2 =>
              intro W' σ' H' s2 r2 l2 k2
              by_cases hg2 : ogetL S2 o = some d
              · have n' : SNeed K WX E0 np n0 ρ W σ H D (onlyIf (ogetL S2 o = some d) (.nx ρ2 (oput S2 o d)) .stuck) := n
                rw [only_pos hg2] at n'
                obtain ⟨b1, b2, b3, b4⟩ := back s2 r2 hg2
                exact ⟨b1, n' W' σ' _ b2 b3 (by rw [len_oput]; exact l2) k2⟩
              · have n' : SNeed K WX E0 np n0 ρ W σ H D (onlyIf (ogetL S2 o = some d) (.nx ρ2 (oput S2 o d)) .stuck) := n
                rw [only_neg hg2] at n'
                exact n'.elim
            | rt rv2 ρ2 S2 =>
              intro v2 W' σ' H' s2 r2 l2 x2
              by_cases hg2 : ogetL S2 o = some d
              · have n' : SNeed K WX E0 np n0 ρ W σ H D (onlyIf (ogetL S2 o = some d) (.rt rv2 ρ2 (oput S2 o d)) .stuck) := n
                rw [only_pos hg2] at n'
                obtain ⟨b1, b2, b3, b4⟩ := back s2 r2 hg2
                exact ⟨b1, n' v2 W' σ' _ b2 b3 (by rw [len_oput]; exact l2) (rv_at (.inl ⟨o, ho, b4⟩) (fun d h => contR_unlock b1 d h) (fun d h => contX_lock b1 d h) x2)⟩
              · have n' : SNeed K WX E0 np n0 ρ W σ H D (onlyIf (ogetL S2 o = some d) (.rt rv2 ρ2 (oput S2 o d)) .stuck) := n
                rw [only_neg hg2] at n'
                exact n'.elim
          · rw [only_neg hq] at n; exact n.elim
    | none => rw [ep] at n; exact n.elim
noncomputable def sForS (i : Nat) (b : Wz.D → List Slot → Option (List Slot)) (body : EVS) (clr : List Nat) : EVS := fun n0 ρ S => match ρ[i]? with
  | some (.val (.ref _)) => sForD (xSlot i) b body clr n0 ρ S
  | some (.val d) => match keysI d with
    | some its => noXS (forL none b body clr n0 its ρ S)
    | none => .stuck
  | _ => .stuck
theorem w_fz {u v : HO} (w : WOk W H) (hF : W.F p = some u) (hv : v = u ∨ (lockable u ∧ ∃ o, v = .frz o u)) (nt : ∀ vs, v ≠ .tup vs) : WOk W (upd H p v) where
  sub a x h := by
    by_cases z : a = p
    · subst z
      rw [hF] at h
      cases h
      rw [upd_same]
      rcases hv with rfl | ⟨q, o, rfl⟩
      · exact .inl rfl
      · exact .inr ⟨q, o, rfl⟩
    · rw [upd_ne z]
      exact w.sub a x h
  inj := w.inj
  unF := w.unF
  alv x a h := by
    by_cases z : a = p
    · rw [z, upd_same]; simp
    · rw [upd_ne z]; exact w.alv x a h
  tupF a vs h := by
    by_cases z : a = p
    · rw [z, upd_same] at h
      exact absurd (Option.some.inj h) (nt vs)
    · rw [upd_ne z] at h
      exact w.tupF a vs h
theorem noO_F (w : WOk W H) (hF : W.F p = some u) : ∀ o, W.ow o ≠ some p := fun o z => by rw [w.unF o p z] at hF; cases hF
theorem snds_forS {i : Nat} {g : TG} {tb : TS} {b : Wz.D → List Slot → Option (List Slot)} {body : EVS} {clr : List Nat} (hc : Snd K WX (RvOk K) (tVar i) (xSlot i)) (hg : SndG K g b) (hb : SndS K WX np tb body) :
    SndS K WX np (fun D σ H => tLock (tFor (iKeys (tVar i)) g tb) D σ H ∨ tFor (iKeys (tVar i)) g tb D σ H) (sForS i b body clr) := by
  intro E0 n0 W ρ S σ H D r hl n
  unfold sForS at n
  have data : ∀ (d : Wz.D) (its : List Wz.D), ρ[i]? = some (.val d) → keysI d = some its → SNeed K WX E0 np n0 ρ W σ H D (noXS (forL none b body clr n0 its ρ S)) → tLock (tFor (iKeys (tVar i)) g tb) D σ H ∨ tFor (iKeys (tVar i)) g tb D σ H := by
    intro d its es ei n
    obtain ⟨v, hσ, rep⟩ := r.slots i _ es
    obtain ⟨p, u, rfl, hF, hr, lk⟩ : ∃ p u, v = .ref p ∧ W.F p = some u ∧ DU K W.F W.al u d ∧ lockable u := by
      cases d with
      | dk l => obtain ⟨p, vs, e, h1, h2⟩ := rep; exact ⟨p, _, e, h1, ⟨vs, rfl, h2⟩, trivial⟩
      | dt l => obtain ⟨p, vs, e, h1, h2⟩ := rep; exact ⟨p, _, e, h1, ⟨vs, rfl, h2⟩, trivial⟩
      | _ => cases ei
    have nz : ∀ o v, u ≠ .frz o v := fun o v z => by rw [z] at lk; exact lk
    have nt : ∀ vs, u ≠ .tup vs := fun vs z => by rw [z] at lk; exact lk
    have mu : Mut (some u) := by cases u <;> first | trivial | exact lk.elim
    rcases r.wok.sub p u hF with hu | ⟨_, od, hu⟩
    · refine .inl ⟨p, u, hu, mu, fun od => ?_⟩
      have wl : WOk W (upd H p (.frz od u)) := w_fz r.wok hF (.inr ⟨lk, od, rfl⟩) fun _ z => by cases z
      have rl : Rel K E0 np W ρ S σ (upd H p (.frz od u)) := rel_fz r (noO_F r.wok hF) wl fun d h => contR_lock hu d h lk
      have q1 : upd H p (.frz od u) p = some (.frz od u) := upd_same
      refine ⟨.ref p, hσ, p, od, rfl, dict_walk ei hr q1 (ForR g tb (lockE D p u od) σ) fun J Y w hY => ?_⟩
      refine for_run (gd := none) (clr := clr) hg hb w (fun W' σ' H' ρ' S2 s2 r2 _ _ => s2.fz p od u q1) (fun i H' x H'' W' S2 h1 h2 h3 h4 _ _ _ h7 => hY i H' x H'' W' S2 h1 h2 h3 h4 h7) rl hl ?_
      revert n
      generalize forL none b body clr n0 its ρ S = res
      intro n
      have back : ∀ {W' : Wd} {σ' : L2.St} {H' : Hp} {ρ2 : List Slot} {S2 : List Cell}, SStep n0 W (upd H p (.frz od u)) W' H' → Rel K E0 np W' ρ2 S2 σ' H' →
          H' p = some (.frz od u) ∧ SStep n0 W H W' (upd H' p u) ∧ Rel K E0 np W' ρ2 S2 σ' (upd H' p u) ∧ W'.F p = some u := by
        intro W' σ' H' ρ2 S2 s2 r2
        have b1 := s2.fz p od u q1
        have hF' := s2.F p u hF
        exact ⟨b1, lock_step hu nz s2, rel_fz r2 (noO_F r2.wok hF') (w_fz r2.wok hF' (.inl rfl) nt) fun d h => contR_unlock b1 d h, hF'⟩
      cases res with
      | stuck => exact n.elim
      | exc _ _ _ _ => exact n.elim
      | nx ρ2 S2 =>
        intro W' σ' H' s2 r2 l2 k2
        obtain ⟨b1, b2, b3, b4⟩ := back s2 r2
        exact ⟨b1, n W' σ' _ b2 b3 l2 k2⟩
      | rt rv2 ρ2 S2 =>
        intro v2 W' σ' H' s2 r2 l2 x2
        obtain ⟨b1, b2, b3, b4⟩ := back s2 r2
        exact ⟨b1, n v2 W' σ' _ b2 b3 l2 (rv_at (.inr ⟨noO_F r2.wok b4, u, b4⟩) (fun d h => contR_unlock b1 d h) (fun d h => contX_lock b1 d h) x2)⟩
    · refine .inr ⟨.ref p, hσ, p, od, rfl, dict_walk ei hr hu (ForR g tb D σ) fun J Y w hY => ?_⟩
      refine for_run (gd := none) (clr := clr) hg hb w (fun W' σ' H' ρ' S2 s2 r2 _ _ => s2.fz p od u hu) (fun i H' x H'' W' S2 h1 h2 h3 h4 _ _ _ h7 => hY i H' x H'' W' S2 h1 h2 h3 h4 h7) r hl ?_
      revert n
      generalize forL none b body clr n0 its ρ S = res
      intro n
      cases res with
      | stuck => exact n.elim
      | exc _ _ _ _ => exact n.elim
      | nx ρ2 S2 => exact n
      | rt rv2 ρ2 S2 => exact n
  cases es : ρ[i]? with
  | none => rw [es] at n; exact n.elim
  | some s =>
    rw [es] at n
    cases s with
    | val d =>
      cases d with
      | ref m => exact snds_forD hc hg hb E0 n0 W ρ S σ H D r hl n
      | dk l => exact data _ _ es rfl n
      | dt l => exact data _ _ es rfl n
      | _ => exact n.elim
    | _ => exact n.elim
end
end Wz

set_option Elab.async false
set_option linter.all false
set_option maxRecDepth 100000
set_option maxHeartbeats 4000000
namespace Wz
open PySem PySem.Spec PyProof.Rows L2

/-! ### sorted, of a dict of any size whose keys are pairs of whole numbers -/
def kOf (H : Hp) : V → Int × Int
  | .ref t => match H t with
    | some (.tup [.int i, .int j]) => (i, j)
    | _ => (0, 0)
  | _ => (0, 0)
def rSrtT : List V → Hp → VK → Prop := fun xs H Q => ∃ (a : Addr) (kvs : List (List Key × V)) (ks : List (Int × Int)), xs = [.ref a] ∧ Rd H a (.dT kvs) ∧ kvs.map (·.1) = ks.map (fun p => [Sum.inl p.1, Sum.inl p.2]) ∧
  ∀ (ys : List V) (p : Addr), (∀ y ∈ ys, ∃ t, y = .ref t ∧ H t = some (.tup [.int (kOf H y).1, .int (kOf H y).2])) → (ys.map (kOf H)).Perm ks → (ys.map (kOf H)).Pairwise (fun p q => leP p q = true) → H p = none → Q (.ref p) (upd H p (.lst ys))
theorem keys_of {H : Hp} : ∀ {kvs : List (List Key × V)} {bs : List Addr} {ks : List (Int × Int)}, IsKeys H kvs bs → kvs.map (·.1) = ks.map (fun p => [Sum.inl p.1, Sum.inl p.2]) → (∀ b ∈ bs, ∃ i j, H b = some (.tup [.int i, .int j])) ∧ bs.map (fun b => kOf H (.ref b)) = ks
  | _, _, ks, .nil, e => by
    cases ks with
    | nil => exact ⟨fun b hb => (by cases hb), rfl⟩
    | cons k r => cases e
  | (k0, v) :: kvs, b :: bs, ks, .cons h t, e => by
    cases ks with
    | nil => cases e
    | cons k r =>
      rw [List.map_cons, List.map_cons] at e
      injection e with e1 e2
      obtain ⟨h1, h2⟩ := keys_of (show IsKeys H kvs bs from t) e2
      have h' : H b = some (.tup [.int k.1, .int k.2]) := by
        have h0 : H b = some (.tup (k0.map kV)) := h
        rw [h0, show k0 = [Sum.inl k.1, Sum.inl k.2] from e1]
        rfl
      refine ⟨fun c hc => ?_, ?_⟩
      · rcases List.mem_cons.mp hc with rfl | hc
        · exact ⟨_, _, h'⟩
        · exact h1 c hc
      · rw [List.map_cons, h2]
        have : kOf H (.ref b) = k := by
          unfold kOf
          dsimp only
          rw [h']
        rw [this]
theorem cr_srtT {X : Cx} (hcm : X.calm = true) : CallR X (.builtin "sorted") rSrtT := by
  intro pins s σ H xs us Q I rr0 q
  obtain ⟨a, kvs, ks0, rfl, hd, hks, q⟩ := q
  obtain ⟨u, rfl, rx⟩ := vals1 rr0
  cases rx
  obtain ⟨z, hs, ks, pr, o, es, ep, ho, hx, hdt, he, hn⟩ := (show ObjOk X.prog X.w H s.heap a (.dT kvs) from hd.ok I.hok)
  have l1 : es.size = ks.length := size_of_entries he
  have l2 : kvs.length = ks.length := Paired.length pr
  have ik := isKeys_of pr
  obtain ⟨kt1, kt2⟩ := keys_of ik hks
  refine Calls.call_function_entry PyProof.Rows.kind_sorted PyProof.Rows.plain_sorted
    PyProof.Rows.entry_sorted (PyProof.Rows.args_sorted1 _) ?_
  unfold Builtin.«sorted»
  refine wpAny_bind
    (m := checkCount "sorted" 1 1 _) (wpAny_pure ?_)
  refine wpAny_bind (PySem.W.kdu_collect (A := X.A.in1)
    (kdl_raw hs hx hdt) (I.ok.hd hcm) ho (by omega) fun h' tk acc' hk it => ?_)
  have ea : acc'.toList = ks.map fun x => Value.ref x.2.1 := by
    have hl : acc'.toList.length = ks.length := by rw [Array.length_toList, it.1]; exact l1
    apply List.ext_getElem?
    intro j
    rw [List.getElem?_map]
    cases hj : acc'.toList[j]? with
    | none =>
      have h1 := List.getElem?_eq_none_iff.mp hj
      rw [List.getElem?_eq_none (by omega)]
      all_goals rfl
    | some v =>
      obtain ⟨en, hen, hv⟩ := it.2 j v (by rw [← Array.getElem?_toList]; exact hj)
      have qe := entry_at he j
      rw [hen] at qe
      cases hb : ks[j]? with
      | none =>
        rw [hb] at qe
        exact nomatch (show some en = none from qe)
      | some b =>
        rw [hb] at qe
        have e2 : en = entryOfKey (tupleKind (mixKind X.prog X.w)) b := Option.some.inj qe
        rw [hv, e2]
        all_goals rfl
  have eb : acc'.toList = (ks.map fun x => x.2.1).map Value.ref := by rw [ea, List.map_map]; all_goals rfl
  have I1 : Inv X pins σ H { s with heap := h', toks := tk } := I.kept hk
  have hacz : acc'.toList.length ≤ sizeLine := by rw [ea, List.length_map]; omega
  refine wpAny_bind (wpAny_newList ?_ hacz)
  have hoL : (h'.push (seqObj "list" acc'.toList.toArray 0)).get? h'.objs.size
      = some (seqObj "list" acc'.toList.toArray 0) := Heap.get?_push_size _ rfl
  show wpAny _ _ _ _ _ { s with heap := h'.push (seqObj "list" acc'.toList.toArray 0), toks := tk }
  have hpair : ∀ v ∈ acc'.toList, Srt.IsPair (h'.push (seqObj "list" acc'.toList.toArray 0)) v (kOf H (backV v)).1 (kOf H (backV v)).2 := by
    intro v hv
    rw [eb] at hv
    obtain ⟨b, hb, rfl⟩ := List.mem_map.mp hv
    obtain ⟨i, j, ht⟩ := kt1 b hb
    have ek : kOf H (backV (Value.ref b)) = (i, j) := by
      show kOf H (.ref b) = _
      unfold kOf
      dsimp only
      rw [ht]
    rw [ek]
    obtain ⟨_, its2, r2, o, ho, hc, n, hd⟩ := I1.hok _ _ ht
    obtain ⟨u1, u2, rfl, ri, rj⟩ := vals2 r2
    obtain ⟨t1, rfl⟩ := ri
    obtain ⟨t2, rfl⟩ := rj
    exact ⟨b, o, t1, t2, n, rfl, Heap.get?_push_of_some _ ho, hc, hd⟩
  refine wpAny_bind (wpAny_holding (wpAny_call_entry PyProof.Rows.slot_list_sort ⟨_, hoL, rfl⟩
    PyProof.Rows.entry_list_sort
    (SrtO.list_sort_ord (SrtO.swo_lex fun u => kOf H (backV u)) hoL hacz (fun h2 => SrtO.pairs_sortableO (by omega) hpair (fun o e => ?_)) fun out h1 h2 => ⟨_, rfl, ?_⟩)
    (PyProof.Rows.args_list_sort _)))
  · have e' : some o = some (seqObj "list" acc'.toList.toArray 0) := e.symm.trans hoL
    cases e'
    intro c
    exact absurd (Value.type.inj c) (by decide)
  obtain ⟨e', he'⟩ := PyProof.Rows.sortedHeap_at (vs := acc'.toList) (out := out.toArray) hoL
  have h3 : ∀ u ∈ out, ∃ b, u = Value.ref b ∧ b ∈ ks.map fun x => x.2.1 := fun u hu => by
    have hm := h2.perm.mem_iff.mp hu
    rw [eb] at hm
    obtain ⟨b, hb, rfl⟩ := List.mem_map.mp hm
    exact ⟨b, rfl, hb⟩
  have hlen : (out.map backV).length ≤ sizeLine := by
    rw [List.length_map, h2.len]
    exact hacz
  have hperm : ((out.map backV).map (kOf H)).Perm ks0 := by
    have p1 : (out.map backV).Perm (acc'.toList.map backV) := h2.perm.map _
    refine (p1.map (kOf H)).trans ?_
    rw [eb, List.map_map, List.map_map]
    have : List.map ((kOf H ∘ backV) ∘ Value.ref) (ks.map fun x => x.2.1) = ks0 := kt2
    rw [this]
  have hsort : ((out.map backV).map (kOf H)).Pairwise fun p q => leP p q = true := by
    rw [List.map_map]
    refine List.pairwise_map.mpr (h1.imp fun {x y} h => ?_)
    have hq := SrtO.lexB_no.mp h
    rw [leP_iff]
    show (kOf H (backV x)).1 < (kOf H (backV y)).1 ∨ _
    show _ ∨ ((kOf H (backV x)).1 = (kOf H (backV y)).1 ∧ (kOf H (backV x)).2 ≤ (kOf H (backV y)).2)
    omega
  have hys : ∀ y ∈ out.map backV, ∃ t, y = .ref t ∧ H t = some (.tup [.int (kOf H y).1, .int (kOf H y).2]) := by
    intro y hy
    obtain ⟨u, hu, rfl⟩ := List.mem_map.mp hy
    obtain ⟨b, rfl, hb⟩ := h3 u hu
    obtain ⟨i, j, ht⟩ := kt1 b hb
    refine ⟨b, rfl, ?_⟩
    have ek : kOf H (backV (Value.ref b)) = (i, j) := by
      show kOf H (.ref b) = _
      unfold kOf
      dsimp only
      rw [ht]
    rw [ek, ht]
  refine wpAny_pure ⟨_, rfl, .ref h'.objs.size, upd H h'.objs.size (.lst (out.map backV)),
    I1.laid (t' := tk) (fun b u e => ?_) (Nat.le_refl _)
    (show ObjOk X.prog X.w _ _ _ (.lst (out.map backV)) from ⟨hlen, out, e', vals_back fun u hu => by
      obtain ⟨b, e, _⟩ := h3 u hu
      exact ⟨b, e⟩, he'⟩), rfl,
    q _ _ hys hperm hsort (I1.hok.fresh (Nat.le_refl _))⟩
  have hb : b < h'.objs.size := Heap.lt_size e
  rw [PyProof.Rows.sortedHeap_old (Nat.ne_of_lt hb)
    (by rw [size_push']; exact Nat.lt_succ_of_lt hb)]
  exact Heap.get?_push_of_some _ e
section
variable {K : PySem.W.Frag} {WX : L2.WX} {W W0 W1 W2 Wc : Wd} {H H0 H1 H2 H' : Hp} {σ : L2.St} {ρ : List Slot} {S S' S1 : List Cell} {E0 : Hp} {np n0 : Nat} {X : Cx} {D : Ends}
def pairKs : List (List Key × Wz.D) → Option (List (Int × Int))
  | [] => some []
  | ([.inl i, .inl j], _) :: r => match pairKs r with
    | some l => some ((i, j) :: l)
    | none => none
  | _ :: _ => none
theorem pairKs_eq : ∀ {l : List (List Key × Wz.D)} {ks : List (Int × Int)}, pairKs l = some ks → l.map (·.1) = ks.map fun p => [Sum.inl p.1, Sum.inl p.2]
  | [], ks, e => by
    cases e
    rfl
  | (k, d) :: r, ks, e => by
    unfold pairKs at e
    split at e
    · cases e; rename_i h; cases h
    · rename_i i j d' r' h
      cases h
      split at e
      · rename_i l q
        cases e
        simp [pairKs_eq q]
      · cases e
    · cases e
def srtTD : List Wz.D → Option Rv
  | [.dt l] => match pairKs l with
    | some ks => some (.new (.lst ((sP ks).map fun p => .tup [.int p.1, .int p.2])))
    | none => none
  | _ => none
theorem rep_pairs (w : WOk W H) : ∀ (ys : List V), (∀ y ∈ ys, ∃ t, y = .ref t ∧ H t = some (.tup [.int (kOf H y).1, .int (kOf H y).2])) → RepLW K W ((ys.map (kOf H)).map fun p => .tup [.int p.1, .int p.2]) ys
  | [], _ => rfl
  | y :: r, h => by
    obtain ⟨t, e, ht⟩ := h y List.mem_cons_self
    refine ⟨y, r, rfl, ?_, rep_pairs w r fun z hz => h z (List.mem_cons_of_mem _ hz)⟩
    exact ⟨t, _, e, w.tupF t _ ht, _, _, rfl, rfl, _, _, rfl, rfl, rfl⟩
theorem cr_srtTD (hcm : X.calm = true) : CallR X (.builtin "sorted") (rND X.K srtTD) := by
  intro pins s σ H xs us Q I rr0 q
  refine cr_srtT hcm pins s σ H xs us Q I rr0 ?_
  obtain ⟨W, S, ds, rv, w, o, rd, e, ret⟩ := q
  unfold srtTD at e
  split at e
  · rename_i l
    split at e
    · rename_i ks q
      cases e
      obtain ⟨v, rfl, h1⟩ := rd.one
      obtain ⟨p, vs, rfl, hd, pk⟩ := h1.dt w
      refine ⟨p, vs, ks, rfl, hd, pk.fst.trans (pairKs_eq q), fun ys p hy hp hs hn => ?_⟩
      have e1 : sP ks = ys.map (kOf H) := (sP_unique hp hs).symm
      rw [e1] at ret
      exact ret.lst w o (rep_pairs w ys hy) hn
    · cases e
  · cases e
def srt3D (ds : List Wz.D) : Option Rv := (srtD ds).or (srtTD ds)
theorem cr_srt3D (hc : X.calm = true) : CallR X (.builtin "sorted") (rND X.K srt3D) := by
  intro pins s σ H xs us Q I r h
  obtain ⟨W, S, ds, rv, w, o, hx, e, ret⟩ := h
  unfold srt3D at e
  cases q : srtD ds with
  | some rv2 =>
    rw [q] at e
    cases e
    exact cr_srtD hc pins s σ H xs us Q I r ⟨W, S, ds, _, w, o, hx, q, ret⟩
  | none =>
    rw [q] at e
    cases e2 : srtTD ds with
    | none => rw [e2] at e; cases e
    | some rv3 =>
      rw [e2] at e
      cases e
      exact cr_srtTD hc pins s σ H xs us Q I r ⟨W, S, ds, _, w, o, hx, e2, ret⟩
/-! ### enumerate(list), reversed(list) -/
def xItsL (f : List Wz.D → List Wz.D) (e : EV Rv) : EV Its := fun ρ S => (e ρ S).bind fun r S1 => match boxL S1 r with
  | some q => .ok ⟨f q.2, some (q.1, .lst q.2)⟩ S1
  | none => match r.fz with
    | some d => match asL d with
      | some l => .ok ⟨f l, none⟩ S1
      | none => .stuck
    | none => .stuck
def enumD (l : List Wz.D) : List Wz.D := ((List.range l.length).zip l).map fun p => .tup [.int p.1, p.2]
theorem enumD_len (l : List Wz.D) : (enumD l).length = l.length := by simp [enumD]
theorem enumD_get {l : List Wz.D} {i : Nat} {d : Wz.D} (h : l[i]? = some d) : (enumD l)[i]? = some (.tup [.int i, d]) := by
  obtain ⟨hi, e⟩ := List.getElem?_eq_some_iff.mp h
  unfold enumD
  rw [List.getElem?_map, List.getElem?_zip_eq_some (z := (i, d)) |>.mpr ⟨by simp [hi], h⟩]
  rfl
/-- a walk's facts over a list that is frozen | lies in a box -/
theorem snd_itsL {te : TE} {e : EV Rv} {f : List Wz.D → List Wz.D} {iF : TE → TI} {J0 : Addr → Nat → L2.It} {Y0 : Addr → Nat → Nat → Hp → V → Hp → Prop}
    (hi : ∀ σ H R, te σ H (fun v H1 => ∃ (a : Addr) (vs : List V), [v] = [V.ref a] ∧ SqL K H1 a vs ∧ R (J0 a vs.length) H1) → iF te σ H R)
    (hw : ∀ a n, Walk (J0 a n) n (fun H => ∃ xs, SqL K H a xs ∧ xs.length = n) (Y0 a n))
    (hy : ∀ (a : Addr) (n i : Nat) (H' : Hp) (x : V) (H'' : Hp) (W' : Wd) (S : List Cell) (l : List Wz.D) (vs : List V), i < n → l.length = n → SqL K H' a vs → RepLW K W' l vs → WOk W' H' → ObsOk K W' H' S → Y0 a n i H' x H'' →
      ∃ W'' d, EStep W' H' W'' H'' ∧ WOk W'' H'' ∧ ObsOk K W'' H'' S ∧ (f l)[i]? = some d ∧ RepW K W'' d x)
    (hf : ∀ l, (f l).length = l.length) (h : Snd K WX (RvOk K) te e) : Snd K WX (RI K) (iF te) (xItsL f e) := by
  intro E0 np W ρ S σ H Q r n
  refine hi σ H Q ?_
  cases hx : e ρ S with
  | stuck =>
    unfold xItsL at n
    rw [hx] at n
    exact n.elim
  | exc c a S1 =>
    unfold xItsL at n
    rw [hx] at n
    exact h E0 np W ρ S σ H _ r (by rw [hx]; exact n)
  | ok rv S1 =>
    unfold xItsL at n
    rw [hx, Out.bind_ok] at n
    cases eb : boxL S1 rv with
    | some q =>
      obtain ⟨m, l⟩ := q
      simp only [eb] at n
      refine h E0 np W ρ S σ H _ r ?_
      rw [hx]
      intro v W1 H1 st w o rr
      obtain ⟨em, p, rfl, hp⟩ := boxL_at rr eb
      obtain ⟨p2, hp2, vs, c1, c2⟩ := o.at_ _ _ em
      have ep : p2 = p := Option.some.inj (hp2.symm.trans hp)
      subst ep
      refine ⟨p2, vs, rfl, .of c1, n _ W1 H1 st w o ?_⟩
      refine ⟨fun H => ∃ xs, SqL K H p2 xs ∧ xs.length = vs.length, Y0 p2 vs.length, by rw [hf, ← c2.length]; exact hw p2 vs.length, fun W' H' S' w' o' gk hF ho _ => ?_, fun i H' x H'' W' S' hi g w' o' gk hF ho y => ?_⟩
      · obtain ⟨p3, hp3, us, d1, d2⟩ := o'.at_ _ _ gk
        have ep : p3 = p2 := Option.some.inj (hp3.symm.trans (ho _ _ hp))
        subst ep
        exact ⟨us, .of d1, by rw [d2.length, c2.length]⟩
      · obtain ⟨p3, hp3, us, d1, d2⟩ := o'.at_ _ _ gk
        have ep : p3 = p2 := Option.some.inj (hp3.symm.trans (ho _ _ hp))
        subst ep
        have hi' : i < (f l).length := hi
        rw [hf] at hi'
        exact hy p3 vs.length i H' x H'' W' S' l us (by rw [c2.length]; exact hi') c2.length.symm (.of d1) d2 w' o' y
    | none =>
    simp only [eb] at n
    cases ef : rv.fz with
    | none => simp only [ef] at n; exact n.elim
    | some d =>
      simp only [ef] at n
      cases el : asL d with
      | none => simp only [el] at n; exact n.elim
      | some l =>
        simp only [el] at n
        refine h E0 np W ρ S σ H _ r ?_
        rw [hx]
        intro v W1 H1 st w o rr
        obtain ⟨W2, st2, w2, o2, rp, hF, ho⟩ := (RvOk.rf rr ef).freeze st w o ef
        obtain ⟨a, vs, rfl, rl, hs⟩ := frzL rp el
        refine ⟨a, vs, rfl, hs W2 H1 w2 fun _ _ z => z, n _ W2 H1 st2 w2 o2 ?_⟩
        refine ⟨fun H => ∃ xs, SqL K H a xs ∧ xs.length = vs.length, Y0 a vs.length, by rw [hf, ← rl.length]; exact hw a vs.length, fun W' H' S' w' o' _ hF' ho' _ => ⟨vs, hs W' H' w' hF', rfl⟩, fun i H' x H'' W' S' hi g w' o' _ hF' ho' y => ?_⟩
        have hi' : i < (f l).length := hi
        rw [hf] at hi'
        exact hy a vs.length i H' x H'' W' S' l vs (by rw [rl.length]; exact hi') rl.length.symm (hs W' H' w' hF') (RepL.mono hF' ho' l vs rl) w' o' y
theorem snd_enum {te : TE} {e : EV Rv} (h : Snd K WX (RvOk K) te e) : Snd K WX (RI K) (iEnum K (tCons te tNil)) (xItsL enumD e) := by
  refine snd_itsL (iF := fun te => iEnum K (tCons te tNil)) (J0 := fun a _ => Ite K a) (Y0 := fun a n i H v H' => ∃ T x, v = .ref T ∧ H T = none ∧ H' = upd H T (.tup [.int (i : Nat), x]) ∧ ∀ xs, SqL K H a xs → xs[i]? = some x) ?_ ?_ ?_ enumD_len h
  · intro σ H R q
    exact q
  · intro a n
    refine ⟨fun i H hi q => ?_, fun H q => ?_, fun i H v H' hi q y => ?_⟩
    · obtain ⟨xs, h1, h2⟩ := q
      exact ⟨xs, xs[i]'(by omega), h1, List.getElem?_eq_getElem (by omega)⟩
    · obtain ⟨xs, h1, h2⟩ := q
      exact ⟨xs, h1, by omega⟩
    · exact y
  · rintro a n i H' x H'' W' S l vs hi hl hs rl w o ⟨T, v, rfl, hT, rfl, hv⟩
    obtain ⟨d, e1, r1⟩ := rl.get' (hv vs hs)
    refine ⟨W'.frz T (.tup [.int (i : Nat), v]), .tup [.int i, d], frz_st w hT, frz_w w hT, frz_o w o hT, enumD_get e1, (show ∃ (a : Addr) (vs : List V), V.ref T = .ref a ∧ (W'.frz T (.tup [.int (i : Nat), v])).F a = some (.tup vs) ∧ RepL K (W'.frz T (.tup [.int (i : Nat), v])).F (W'.frz T (.tup [.int (i : Nat), v])).al [.int i, d] vs from ⟨T, [.int (i : Nat), v], rfl, upd_same, ?_⟩)⟩
    exact ⟨.int (i : Nat), [v], rfl, rfl, v, [], rfl, Rep.mono (frz_F w hT) (fun _ _ q => q) d v r1, rfl⟩
theorem snd_revI {te : TE} {e : EV Rv} (h : Snd K WX (RvOk K) te e) : Snd K WX (RI K) (iRev K (tCons te tNil)) (xItsL List.reverse e) := by
  refine snd_itsL (iF := fun te => iRev K (tCons te tNil)) (J0 := fun a n => Itv K a n) (Y0 := fun a n i H v H' => H' = H ∧ ∀ xs, SqL K H a xs → xs[n - 1 - i]? = some v) ?_ ?_ ?_ (fun l => List.length_reverse) h
  · intro σ H R q
    exact q
  · intro a n
    refine ⟨fun i H hi q => ?_, fun H q => ?_, fun i H v H' hi q y => ?_⟩
    · obtain ⟨xs, h1, h2⟩ := q
      exact ⟨hi, xs, xs[n - 1 - i]'(by omega), h1, List.getElem?_eq_getElem (by omega)⟩
    · exact Nat.le_refl _
    · exact y
  · rintro a n i H' x H'' W' S l vs hi hl hs rl w o ⟨rfl, hv⟩
    obtain ⟨d, e1, r1⟩ := rl.get' (hv vs hs)
    refine ⟨W', d, .refl, w, o, ?_, r1⟩
    rw [List.getElem?_reverse (by omega), ← e1, hl]
end
end Wz

set_option Elab.async false
set_option linter.all false
set_option maxRecDepth 100000
set_option maxHeartbeats 4000000
namespace Wz
open PySem PySem.Spec PyProof.Rows L2

section
variable {K : PySem.W.Frag} {WX : L2.WX} {W W1 W2 : Wd} {H H1 H2 : Hp} {σ : L2.St} {ρ : List Slot} {S S1 : List Cell} {X : Cx}
/-! ### int(b) -/
def intD : List Wz.D → Option Rv
  | [.bl k] => some (.val (.int (if k then 1 else 0)))
  | [.int i] => some (.val (.int i))
  | _ => none
theorem cr_intD : CallR X (.type "int") (rND X.K intD) := by
  intro pins s σ H xs us Q I r h
  obtain ⟨W, S, ds, rv, w, o, hx, e, ret⟩ := h
  unfold intD at e
  split at e
  · rename_i k
    cases e
    obtain ⟨v, rfl, hv⟩ := hx.one
    exact call_int1 pins s σ H _ us Q I r (.inr ⟨k, by rw [hv.bl], ret.val w o rfl⟩)
  · rename_i i
    cases e
    obtain ⟨v, rfl, hv⟩ := hx.one
    exact call_int1 pins s σ H _ us Q I r (.inl ⟨i, by rw [hv.int], ret.val w o rfl⟩)
  · cases e
/-! ### len(set(xs)), xs a list of whole numbers -/
def fstM (ns : List Int) : List Int := firstMet (fun i => ns.getD i 0) ns.length
/-- the unlike ones -/
def ddM : List (List Int) → List (List Int)
  | [] => []
  | k :: r => if k ∈ r then ddM r else k :: ddM r
theorem mem_ddM {x : List Int} : ∀ {l : List (List Int)}, x ∈ ddM l ↔ x ∈ l
  | [] => Iff.rfl
  | k :: r => by
    have ih := mem_ddM (x := x) (l := r)
    unfold ddM
    split
    · rename_i h
      rw [ih, List.mem_cons]
      exact ⟨.inr, fun z => z.elim (fun e => e ▸ h) id⟩
    · rw [List.mem_cons, List.mem_cons, ih]
theorem nodup_ddM : ∀ (l : List (List Int)), (ddM l).Nodup
  | [] => List.nodup_nil
  | k :: r => by
    unfold ddM
    split
    · exact nodup_ddM r
    · rename_i h
      exact List.nodup_cons.mpr ⟨fun z => h (mem_ddM.mp z), nodup_ddM r⟩
theorem ddM_nodup : ∀ {l : List (List Int)}, l.Nodup → ddM l = l
  | [], _ => rfl
  | k :: r, h => by
    obtain ⟨h1, h2⟩ := List.nodup_cons.mp h
    unfold ddM
    rw [if_neg h1, ddM_nodup h2]
theorem ddM_len {a b : List (List Int)} (nd : a.Nodup) (h1 : ∀ x ∈ a, x ∈ b) (h2 : ∀ x ∈ b, x ∈ a) : a.length = (ddM b).length :=
  ((List.perm_ext_iff_of_nodup nd (nodup_ddM b)).mpr fun x => ⟨fun h => mem_ddM.mpr (h1 x h), fun h => h2 x (mem_ddM.mp h)⟩).length_eq
def tupsM : List Wz.D → Option (List (List Int))
  | [] => some []
  | .tup l :: r => (intsD l).bind fun a => (tupsM r).map fun b => a :: b
  | _ :: _ => none
theorem tupsM_rep : ∀ {l : List Wz.D} {ks : List (List Int)} {vs : List V}, tupsM l = some ks → RepLW K W l vs → WOk W H → ∃ qs : List (Addr × List Int), vs = qs.map (fun p => V.ref p.1) ∧ qs.map (·.2) = ks ∧ ∀ p ∈ qs, SqT K H p.1 (p.2.map V.int)
  | [], ks, vs, e, h, w => by
    cases e
    exact ⟨[], h, rfl, fun _ z => by cases z⟩
  | d :: r, ks, vs, e, h, w => by
    obtain ⟨v, ws, rfl, h1, h2⟩ := h
    cases d with
    | tup l =>
      have e' : ((intsD l).bind fun a => (tupsM r).map fun b => a :: b) = some ks := e
      cases q : intsD l with
      | none => rw [q] at e'; cases e'
      | some a =>
        rw [q] at e'
        cases q2 : tupsM r with
        | none => rw [q2] at e'; cases e'
        | some b =>
          rw [q2] at e'
          cases e'
          obtain ⟨qs, rfl, rfl, h3⟩ := tupsM_rep q2 h2 w
          obtain ⟨p, us, rfl, hF, hr⟩ := h1
          have hu := intsD_rep q hr
          subst hu
          refine ⟨(p, a) :: qs, rfl, rfl, fun y hy => ?_⟩
          rcases List.mem_cons.mp hy with rfl | hy
          · rcases w.sub _ _ hF with z | ⟨z, _⟩
            · exact .of z
            · cases z
          · exact h3 y hy
    | _ => cases e
def SetN (K : PySem.W.Frag) (H : Hp) (l : Addr) (n : Nat) : Prop :=
  (∃ ns : List Int, SqL K H l (ns.map V.int) ∧ ns.length ≤ 4000 ∧ n = (fstM ns).length) ∨
  ∃ qs : List (Addr × List Int), SqL K H l (qs.map fun p => V.ref p.1) ∧ (∀ p ∈ qs, SqT K H p.1 (p.2.map V.int)) ∧ qs.length < 64 ∧ n = (ddM (qs.map (·.2))).length
def tSetLen (K : PySem.W.Frag) (ta : TE) : TE := fun σ H Q => ta σ H fun x H1 => ∃ (l : Addr) (n : Nat), x = .ref l ∧ SetN K H1 l n ∧ Q (.int (n : Nat)) H1
theorem pe_setLen {a : Expr} {ta : TE} {p p2 q pos : Pos} (hu : X.A.units + 64 < cLine) (hc : X.calm = true) (hg : Gl X "len") (hm : X.mg "len" = none) (hg2 : Gl X "set") (hm2 : X.mg "set" = none) (ha : PE X a ta)
    (na : starEach [a] X.env = (false, eval a X.env) :: starEach [] X.env) : PE X (.Call (.Name "len" p) [.Call (.Name "set" p2) [a] [] q] [] pos) (tSetLen X.K ta) := by
  refine ⟨fun pins s σ H Q I h => ?_⟩
  refine Call_ (ld_blt I hg hm boot_len (PyProof.Rows.callWith_builtin1 (args_cons (Call_ (ld_blt I hg2 hm2 PyProof.Rows.boot_set
    (PyProof.Rows.callWith_type1 (args_cons (thn (ha.run pins s σ H _ I h) fun v s1 ⟨x, H1, I1, r1, q1⟩ => args_nil ?_) na) na rfl))) rfl) rfl rfl))
  obtain ⟨l, n, rfl, hN, q1⟩ := q1
  cases r1
  rcases hN with ⟨ns, hq, hl, rfl⟩ | ⟨qs, hq, hk, hl, rfl⟩
  · obtain ⟨its, r, pl, hz⟩ := I1.list hq
    have hlen : its.toArray.size = ns.length := by rw [List.size_toArray, ← r.length, List.length_map]
    refine call_set_list (I1.ok.hd hc) pl.isList (by simpa using RZ.intsAre_vals r) (by rw [hlen]; unfold scanBound; omega) fun h' tk hS hk => ?_
    refine args_nil ?_
    rw [hlen] at hS
    obtain ⟨o, es, ep, t, ho, hex, hd, _, _, _, hf, hn⟩ := hS
    have hle := firstMet_length_le (fun i => ns.getD i 0) ns.length
    have I2 : Inv X pins σ H1 { s1 with heap := h', toks := tk } := I1.kept fun b o e => hk b o (Heap.lt_size e) e
    exact call_len_set ho hex hd hf (by rw [hn]; omega) ⟨.int (fstM ns).length, H1, I2.tok _, ⟨_, by rw [hn]; rfl⟩, q1⟩
  · obtain ⟨its, rv, pl, hz⟩ := I1.list hq
    refine call_set_tups (P := X.prog) (w := X.w) qs (I1.ok.hd hc) pl.isList (by simpa using refs_of_vals rv) (fun p hp => I1.isT (hk p hp)) hl (by omega) fun h' tk L es ep t R g k => ?_
    refine args_nil ?_
    have I2 : Inv X pins σ H1 { s1 with heap := h', toks := tk } := I1.kept fun b o e => k b o e
    obtain ⟨o, ho, hex, hd⟩ := R.ob
    have hn : es.size = (ddM (qs.map (·.2))).length := by
      have e1 : es.size = L.length := by
        have h := congrArg List.length R.rows
        unfold rowsOf at h
        rw [List.length_map] at h
        exact (Array.length_toList).symm.trans h
      rw [e1, ← List.length_map (f := fun p : Addr × List Int => p.2)]
      refine ddM_len R.nd (fun x hx => ?_) fun x hx => ?_
      · obtain ⟨p, hp, rfl⟩ := List.mem_map.mp hx
        exact List.mem_map.mpr ⟨p, List.mem_of_mem_take (g.sub p hp), rfl⟩
      · obtain ⟨p, hp, rfl⟩ := List.mem_map.mp hx
        exact g.all p (by rw [List.take_length]; exact hp)
    have hfw := R.few
    have hf : t.fits es.size = true := SetTR.fits (s := { s1 with heap := h', toks := tk }) R
    have e2 : es.size = L.length := SetTR.size (s := { s1 with heap := h', toks := tk }) R
    exact call_len_set ho hex hd hf (by rw [e2]; omega) ⟨.int (ddM (qs.map (·.2))).length, H1, I2.tok _, ⟨_, by rw [hn]⟩, q1⟩
def lsetD : Wz.D → Option Rv := fun d => match asL d with
  | some l => match intsD l with
    | some ns => if ns.length ≤ 4000 then some (.val (.int ((fstM ns).length : Nat))) else none
    | none => match tupsM l with
      | some ks => if ks.length < 64 then some (.val (.int ((ddM ks).length : Nat))) else none
      | none => none
  | none => none
theorem snd_setLen {te : TE} {e : EV Rv} (h : Snd K WX (RvOk K) te e) : Snd K WX (RvOk K) (tSetLen K te) (xOp1 lsetD e) := by
  intro E0 np W ρ S σ H Q r n
  refine h E0 np W ρ S σ H _ r (Need.bind n fun rv S1 e1 v W1 H1 st w o rr n1 => ?_)
  unfold ap1 at n1
  cases q1 : rv.read S1 with
  | none => simp only [q1] at n1; exact n1.elim
  | some d =>
    simp only [q1] at n1
    unfold lsetD at n1
    cases q2 : asL d with
    | none => simp only [q2] at n1; exact n1.elim
    | some l =>
      simp only [q2] at n1
      obtain ⟨p, vs, rfl, hs, hr⟩ := (rr.read o q1).asL w q2
      cases q3 : intsD l with
      | none =>
        simp only [q3] at n1
        cases q4 : tupsM l with
        | none => simp only [q4] at n1; exact n1.elim
        | some ks =>
          simp only [q4] at n1
          split at n1
          · rename_i hl
            obtain ⟨qs, rfl, rfl, hk⟩ := tupsM_rep q4 hr w
            exact ⟨p, _, rfl, .inr ⟨qs, hs, hk, by rw [List.length_map] at hl; exact hl, rfl⟩, n1 _ W1 _ .refl w o rfl⟩
          · exact n1.elim
      | some ns =>
        simp only [q3] at n1
        split at n1
        · rename_i hl
          rw [intsD_rep q3 hr] at hs
          exact ⟨p, _, rfl, .inl ⟨ns, hs, hl, rfl⟩, n1 _ W1 _ .refl w o rfl⟩
        · exact n1.elim
end
end Wz

set_option Elab.async false
set_option linter.all false
set_option maxRecDepth 100000
set_option maxHeartbeats 4000000
namespace Wz
open PySem PySem.Spec PyProof.Rows L2

/-! ### enumerate(list, start=k) -/
section
variable {M : Model} {A : Around} {E : Value → Shared → Prop} {s : Shared} {env : Env}
theorem cw_typeKw {pos : Pos} {T : String} {e : Expr} {rest : List Expr} {kws : List Keyword} {Q : Value → Shared → Prop}
    (h : wpAny M A (spliced (backTo pos (starEach (e :: rest) env))) (fun vs s₁ => wpAny M A (evalAll ((backToKw pos (keywordEach kws env)).map (·.2)))
      (fun kvs s₂ => wpAny M A (call (.type T) vs (((backToKw pos (keywordEach kws env)).filterMap (·.1)).zip kvs)) Q E s₂) E s₁) E s)
    (he : starEach (e :: rest) env = (false, eval e env) :: starEach rest env)
    (hplain : (backTo pos (starEach rest env)).any (·.1) = false)
    (hall : (backToKw pos (keywordEach kws env)).all (·.1.isSome) = true)
    (hkw : (backToKw pos (keywordEach kws env)).any (·.1.isNone) = false) :
    wpAny M A (callWith pos (.type T) [] (backTo pos (starEach (e :: rest) env)) (backToKw pos (keywordEach kws env))) Q E s := by
  have key : wpAny M A (evalArgs (.type T) true (backTo pos (starEach (e :: rest) env)) (backToKw pos (keywordEach kws env))) (fun a s₁ => wpAny M A (call (.type T) ([] ++ a.pos) a.kw) Q E s₁) E s := by
    rw [he] at h ⊢
    exact evalArgs_kwB hall h
  unfold callWith
  refine wpAny_bind (wpAny_holding (wpAny_mono key (fun a s₁ h₁ => wpAny_bind (wpAny_standAt ?_)) fun _ _ x => x))
  have hp : (backTo pos (starEach (e :: rest) env)).any (·.1) = false := by
    rw [he]
    show (false || (backTo pos (starEach rest env)).any (·.1)) = false
    rw [hplain]; rfl
  simp only [hp, hkw, Bool.or_false]
  refine wpAny_bind (wpAny_pure ?_)
  exact wpAny_bind (wpAny_mono h₁ (fun r s₂ hr => wpAny_bind (wpAny_holding (wpAny_point (wpAny_pure hr)))) fun _ _ x => x)
end
def Itek (K : PySem.W.Frag) (c : Int) (a : Addr) : L2.It :=
  ⟨fun i H => ∃ (xs : List V) (x : V), SqL K H a xs ∧ xs[i]? = some x, fun i H v H' => ∃ T x, v = .ref T ∧ H T = none ∧ H' = upd H T (.tup [.int (c + (i : Nat)), x]) ∧ ∀ xs, SqL K H a xs → xs[i]? = some x, fun i H => ∃ xs : List V, SqL K H a xs ∧ xs.length = i⟩
theorem turn_enumK {P : Program} {w : World} {K : PySem.W.Frag} {elts : List Expr} {kk : Nat} {tpos : Pos} (c : Int) (a e it : Addr) :
    Turn P w K (.Tuple elts kk tpos) (Itek K c a) [e, it] e (fun i h => (∃ od, IsEnum h e it (c + ((i : Nat) : Int)) od) ∧ h.IsListIter it a i ∧ e ≠ it) where
  mem := by simp
  obj := fun i h sst b hb => by
    obtain ⟨⟨od, hen⟩, ⟨o, ho, hc, hd⟩, _⟩ := sst
    have ee : b = e ∨ b = it := by simpa using hb
    rcases ee with z | z
    · rw [z]; exact ⟨_, hen, fun v q => nomatch q⟩
    · rw [z]; exact ⟨o, ho, fun v q => by rw [hd] at q; cases q⟩
  keep := fun i h h' sst k => let ⟨⟨od, hen⟩, hi, hdf⟩ := sst; ⟨⟨od, k e (by simp) _ hen⟩, hi.at fun o q => k it (by simp) o q, hdf⟩
  item := by
    intro X hP hw hK hcalm i pn s σ H E I hfp sst hg
    subst hP hw hK
    obtain ⟨⟨od, hen⟩, hlt, hdf⟩ := sst
    obtain ⟨xs, x, sq, hx⟩ := hg
    obtain ⟨ms, rr, p, hz⟩ := I.list sq
    obtain ⟨u, hu, ru⟩ := rr.get hx
    have el9 : e < s.heap.objs.size := Heap.lt_size hen
    have il9 : it < s.heap.objs.size := by obtain ⟨_, q, _⟩ := hlt; exact Heap.lt_size q
    have hne2 : a ≠ it := by
      obtain ⟨o1, q1, c1, _⟩ := hlt
      obtain ⟨o2, q2, c2, _⟩ := p.isList
      intro z
      rw [z, q1] at q2
      cases q2
      rw [c1] at c2
      injection c2 with c3
      exact absurd c3 (by decide)
    have hea : e ≠ a := by
      obtain ⟨o2, q2, c2, _⟩ := p.isList
      intro z
      rw [← z] at q2
      have q1 := hen
      unfold IsEnum at q1
      rw [q1] at q2
      cases q2
      injection c2 with c3
      exact absurd c3 (by decide)
    refine wpAny_pyNext_enum_itemC (Draws.list (A := X.A.in1) (show X.A.in1.handled = none from I.ok.hd hcalm) it a hne2 ms.toArray) hen ⟨hlt, p.isList⟩ (i := i) (by
      rcases Nat.lt_or_ge i ms.length with z | z
      · simpa using z
      · rw [List.getElem?_eq_none z] at hu; cases hu) hdf (by simp [hdf, hea]) fun x' h' tk hP ho hit' hT sz9 hk => ?_
    obtain ⟨hit', hl'⟩ := hit'
    have ex : x' = u := by
      have hP' : ms.toArray[i]? = some x' := hP
      rw [List.getElem?_toArray, hu] at hP'
      exact (Option.some.inj hP').symm
    subst ex
    refine ⟨_, rfl, wpAny_letOwnedTupleGo_enum (s := { s with heap := h', toks := tk + 1 }) ho fun h'' he' sb => ?_⟩
    have hT2 : h''.get? s.heap.objs.size = some { cls := .type "tuple", data := .seq #[.int (c + (i : Nat)) tk, x'] } := (sb.2 _ (Nat.ne_of_gt el9)).trans hT
    have new : ObjOk X.prog X.w (upd H s.heap.objs.size (.tup [.int (c + (i : Nat)), x])) h'' s.heap.objs.size (.tup [.int (c + (i : Nat)), x]) :=
      ⟨by show 2 ≤ sizeLine; decide, [.int (c + (i : Nat)) tk, x'], .cons ⟨_, rfl⟩ (.cons ru .nil), ⟨_, hT2, rfl, _, rfl⟩⟩
    have I1 : Inv X pn σ (upd H s.heap.objs.size (.tup [.int (c + (i : Nat)), x])) { s with heap := h'', toks := tk + 1 } :=
      I.turnedNew (ch := [e, it]) (fun b ob hb q => (sb.2 b (fun z => hb (by simp [z]))).trans (hk b ob (fun z => hb (by simp [z])) (fun z => hb (by simp [z])) q)) hfp (Nat.le_refl _) new
    refine ⟨.ref s.heap.objs.size, _, I1, rfl, ⟨_, x, rfl, I.hok.fresh (Nat.le_refl _), rfl, fun ys hy => by rw [I.list_inj hy sq]; exact hx⟩, ⟨⟨x', ?_⟩, hit'.at fun o q => (sb.2 it (Ne.symm hdf)).trans q, hdf⟩, fun b hb => ?_⟩
    · have e1 : c + ((i + 1 : Nat) : Int) = c + (i : Int) + 1 := by omega
      rw [e1]; exact he'
    · have qb : b < s.heap.objs.size := by
        have ee : b = e ∨ b = it := by simpa using hb
        rcases ee with z | z
        · rw [z]; exact el9
        · rw [z]; exact il9
      rw [upd_ne (Nat.ne_of_lt qb)]
      exact (hfp b hb).1
  done := by
    intro X hP hw hK hcalm i pn s σ H E I hfp sst hg
    subst hP hw hK
    obtain ⟨⟨od, hen⟩, hlt, hdf⟩ := sst
    obtain ⟨xs, sq, hx⟩ := hg
    obtain ⟨ms, rr, p, hz⟩ := I.list sq
    obtain ⟨f0, f1, f2, f3, f4, f5⟩ := hfp it (by simp)
    have hl := rr.length
    have hne2 : a ≠ it := by
      obtain ⟨o1, q1, c1, _⟩ := hlt
      obtain ⟨o2, q2, c2, _⟩ := p.isList
      intro z
      rw [z, q1] at q2
      cases q2
      rw [c1] at c2
      injection c2 with c3
      exact absurd c3 (by decide)
    refine wpAny_pyNext_enum_endD (Draws.list (A := X.A.in1) (show X.A.in1.handled = none from I.ok.hd hcalm) it a hne2 ms.toArray) hen (i := c + (i : Nat)) ⟨?_, p.isList⟩ fun h' eb => ⟨rfl, I.turned (t' := s.toks) (fun b o hb q => eb b o hb q) f0 f1 f3 f4 f5⟩
    rw [show ms.toArray.size = i by rw [List.size_toArray]; omega]
    exact hlt
  self := fun A i s Q E sst h => let ⟨⟨_, hen⟩, _⟩ := sst; wpAny_pyIter_enum hen h

def iEnumK (K : PySem.W.Frag) (c : Int) (ta : TA) : TI := fun σ H R => ta σ H fun vs H1 => ∃ a xs, vs = [.ref a] ∧ SqL K H1 a xs ∧ R (Itek K c a) H1
theorem pi_enumK {X : Cx} {e : Expr} {ta : TA} {p pos tpos kp p2 : Pos} {elts : List Expr} {kk k0 : Nat} {c : Int} (hg : Gl X "enumerate") (hm : X.mg "enumerate" = none) (hc0 : -(2 ^ 63) ≤ c) (hc1 : c < 2 ^ 63) (ha : PA X [e] ta) (hs : starEach [e] X.env = [(false, eval e X.env)]) :
    PI X (.Tuple elts kk tpos) (.Call (.Name "enumerate" p) [e] [⟨some "start", .Constant (.int c) k0 p2, kp⟩] pos) (iEnumK X.K c ta) := by
  refine ⟨fun pins s σ H R I h => ?_⟩
  refine wpAny_bind (ld_blt I hg hm boot_enumerate (cw_typeKw (thn (ha.run pos pins s σ H _ I h) fun us s1 ⟨vs, H1, I1, r1, q1⟩ => ?_) hs rfl rfl rfl))
  refine thn ((pk_cons (nm := some "start") (kpos := kp) (pe_int (X := X) (i := c) (j := k0) (pos := p2)) pk_nil).run pos pins s1 σ H1 (fun ws H2 => ws = [.int c] ∧ H2 = H1) I1 ⟨rfl, rfl⟩) fun kvs s2 ⟨ws, H2, I2, r2, q2⟩ => ?_
  obtain ⟨rfl, rfl⟩ := q2
  obtain ⟨a, xs, ex, sq, q⟩ := q1
  subst ex
  cases r1 with
  | cons r rr =>
    cases rr
    cases r
    cases r2 with
    | cons r' rr' =>
      cases rr'
      obtain ⟨t, rfl⟩ := r'
      obtain ⟨ms, rv, p', hz⟩ := I2.list sq
      show wpAny _ _ (call (.type "enumerate") [.ref a] [(Str.ofString "start", .int c t)]) _ _ _
      refine enum_begins_start (begins_list a ms.toArray) p'.isList hc0 hc1 fun h' en lit sz9 hk => wpAny_pyIter_enum en ?_
      have I3 : Inv X pins σ H2 { s2 with heap := h' } := I2.kept (t' := s2.toks) hk
      refine ⟨s2.heap.objs.size + 1, [s2.heap.objs.size + 1, s2.heap.objs.size], _, _, H2, rfl, I3, turn_enumK c a (s2.heap.objs.size + 1) s2.heap.objs.size, ⟨⟨.none, ?_⟩, ⟨_, lit, rfl, rfl⟩, Nat.succ_ne_self _⟩, fun b hb => ?_, q⟩
      · rw [show c + ((0 : Nat) : Int) = c by omega]
        exact en
      · have ee : b = s2.heap.objs.size + 1 ∨ b = s2.heap.objs.size := by simpa using hb
        have le : s2.heap.objs.size ≤ b := by
          rcases ee with z | z
          · rw [z]; exact Nat.le_add_right _ _
          · rw [z]; exact Nat.le_refl _
        exact I2.fpOk le (I2.hok.fresh le)
def enumDk (c : Int) (l : List Wz.D) : List Wz.D := ((List.range l.length).zip l).map fun p => .tup [.int (c + (p.1 : Nat)), p.2]
theorem enumDk_len (c : Int) (l : List Wz.D) : (enumDk c l).length = l.length := by simp [enumDk]
theorem enumDk_get {c : Int} {l : List Wz.D} {i : Nat} {d : Wz.D} (h : l[i]? = some d) : (enumDk c l)[i]? = some (.tup [.int (c + (i : Nat)), d]) := by
  obtain ⟨hi, e⟩ := List.getElem?_eq_some_iff.mp h
  unfold enumDk
  rw [List.getElem?_map, List.getElem?_zip_eq_some (z := (i, d)) |>.mpr ⟨by simp [hi], h⟩]
  rfl
section
variable {K : PySem.W.Frag} {WX : L2.WX}
theorem snd_enumK {c : Int} {te : TE} {e : EV Rv} (h : Snd K WX (RvOk K) te e) : Snd K WX (RI K) (iEnumK K c (tCons te tNil)) (xItsL (enumDk c) e) := by
  refine snd_itsL (iF := fun te => iEnumK K c (tCons te tNil)) (J0 := fun a _ => Itek K c a) (Y0 := fun a n i H v H' => ∃ T x, v = .ref T ∧ H T = none ∧ H' = upd H T (.tup [.int (c + (i : Nat)), x]) ∧ ∀ xs, SqL K H a xs → xs[i]? = some x) ?_ ?_ ?_ (enumDk_len c) h
  · intro σ H R q
    exact q
  · intro a n
    refine ⟨fun i H hi q => ?_, fun H q => ?_, fun i H v H' hi q y => ?_⟩
    · obtain ⟨xs, h1, h2⟩ := q
      exact ⟨xs, xs[i]'(by omega), h1, List.getElem?_eq_getElem (by omega)⟩
    · obtain ⟨xs, h1, h2⟩ := q
      exact ⟨xs, h1, h2⟩
    · exact y
  · rintro a n i H' x H'' W' S l vs hi hl hs rl w o ⟨T, v, rfl, hT, rfl, hv⟩
    obtain ⟨d, e1, r1⟩ := rl.get' (hv vs hs)
    refine ⟨W'.frz T (.tup [.int (c + (i : Nat)), v]), .tup [.int (c + (i : Nat)), d], frz_st w hT, frz_w w hT, frz_o w o hT, enumDk_get e1, (show ∃ (a : Addr) (vs : List V), V.ref T = .ref a ∧ (W'.frz T (.tup [.int (c + (i : Nat)), v])).F a = some (.tup vs) ∧ RepL K (W'.frz T (.tup [.int (c + (i : Nat)), v])).F (W'.frz T (.tup [.int (c + (i : Nat)), v])).al [.int (c + (i : Nat)), d] vs from ⟨T, [.int (c + (i : Nat)), v], rfl, upd_same, ?_⟩)⟩
    exact ⟨.int (c + (i : Nat)), [v], rfl, rfl, v, [], rfl, Rep.mono (frz_F w hT) (fun _ _ q => q) d v r1, rfl⟩
end

/-! ### o += e -/
section
variable {K : PySem.W.Frag} {WX : L2.WX} {W W0 W1 W2 Wc : Wd} {H H0 H1 H2 H' : Hp} {σ : L2.St} {ρ : List Slot} {S S' S1 : List Cell} {E0 : Hp} {np n0 : Nat} {X : Cx} {D : Ends}
def sAug (o : Nat) (e : EV Rv) : EVS := fun _ ρ S => match ρ[o]? with
  | some (.own (.lst l)) => sE (e ρ S) ρ fun r S1 => match r.fz with
    | some (.lst m) => if l.length + m.length ≤ lim then .nx (ρ.set o (.own (.lst (l ++ m)))) S1 else .stuck
    | _ => .stuck
  | _ => .stuck
theorem set_sameV {α : Type} {l : List α} {i : Nat} {x : α} (h : l[i]? = some x) : l.set i x = l := by
  refine List.ext_getElem? fun j => ?_
  by_cases e : i = j
  · subst e
    rw [List.getElem?_set_self (by rcases Nat.lt_or_ge i l.length with z | z; exact z; rw [List.getElem?_eq_none z] at h; cases h), h]
  · rw [List.getElem?_set_ne e]
theorem snds_aug {o : Nat} {te : TE} {e : EV Rv} (he : Snd K WX (RvOk K) te e) :
    SndS K WX np (tAug o te rExt2) (sAug o e) := by
  intro E0 n0 W ρ S σ H D r hl n
  unfold sAug at n
  cases es : ρ[o]? with
  | none => simp only [es] at n; exact n.elim
  | some s =>
    simp only [es] at n
    cases s with
    | non => exact n.elim
    | val d => exact n.elim
    | lck d => exact n.elim
    | own d =>
      cases d with
      | lst l =>
        simp only at n
        obtain ⟨p, eσ, hp, vs0, hc, hr⟩ := r.slots o _ es
        refine ⟨_, eσ, he E0 np W ρ S σ H _ r (SNeed.bind r hl n fun rv S1 e1 v W1 H1 st1 r1 hl1 rr1 n1 => ?_)⟩
        rw [e1, sE_ok] at n
        cases q2 : rv.fz with
        | none => simp only [q2] at n; exact n.elim
        | some dv =>
          simp only [q2] at n
          cases dv with
          | lst m =>
            simp only at n
            split at n
            · rename_i hz
              obtain ⟨W2, st2, w2, o2, rp, hF, ho⟩ := (RvOk.rf rr1 q2).freeze st1 r1.wok r1.obs q2
              have r2 : Rel K E0 np W2 ρ S1 σ H1 := r.estep st2 w2 o2
              obtain ⟨p2, k1, k2, vs, c1, c2⟩ := r2.slots o _ es
              rw [eσ] at k1
              cases k1
              have rp' := rp
              obtain ⟨a, zs, rfl, h1, h2⟩ := rp
              have hH : H1 a = some (.lst zs) := by
                rcases w2.sub a _ h1 with q | ⟨q, _⟩
                · exact q
                · exact q.elim
              refine ⟨p, a, vs, zs, rfl, rfl, c1, hH, ?_, ?_⟩
              · rw [c2.length, h2.length]
                exact Nat.le_trans hz (lim_le (Nat.le_refl _))
              · show D.nx (σ.set o (some (.ref p))) _
                rw [set_sameV eσ]
                refine mut_fin (rv := .val (.lst m)) (dv := .lst m) (d' := .lst (l ++ m)) r es eσ st2 r2 rfl rp' hl1 n (fun _ z => by cases z) fun W3 rp3 hF3 ho3 c => ?_
                obtain ⟨a', zs', ea, h1', h2'⟩ := rp3
                cases ea
                have ez : zs' = zs := by
                  have := hF3 _ _ h1
                  rw [h1'] at this
                  cases this
                  rfl
                subst ez
                exact ⟨_, upd_same, (RepL.mono hF3 ho3 l vs c2).append h2'⟩
            · exact n.elim
          | _ => exact n.elim
      | _ => exact n.elim
def sAugI (o : Nat) (e : EV Rv) : EVS := fun _ ρ S => match ρ[o]? with
  | some (.val (.int j)) => sE (e ρ S) ρ fun r S1 => match r.read S1 with
    | some (.int k) => .nx (ρ.set o (.val (.int (j + k)))) S1
    | _ => .stuck
  | _ => .stuck
theorem snds_augI {o : Nat} {te : TE} {e : EV Rv} (he : Snd K WX (RvOk K) te e) :
    SndS K WX np (tAug o te (ipI fun i j => i + j)) (sAugI o e) := by
  intro E0 n0 W ρ S σ H D r hl n
  unfold sAugI at n
  cases es : ρ[o]? with
  | none => simp only [es] at n; exact n.elim
  | some s =>
    simp only [es] at n
    cases s with
    | non => exact n.elim
    | own d => exact n.elim
    | lck d => exact n.elim
    | val d =>
      cases d with
      | int j =>
        simp only at n
        obtain ⟨v, eσ, hv⟩ := r.slots o _ es
        have hv' : v = .int j := hv
        subst hv'
        refine ⟨_, eσ, he E0 np W ρ S σ H _ r (SNeed.bind r hl n fun rv S1 e1 y W1 H1 st1 r1 hl1 rr1 n1 => ?_)⟩
        cases q2 : rv.read S1 with
        | none => simp only [q2] at n1; exact n1.elim
        | some dv =>
          simp only [q2] at n1
          cases dv with
          | int k =>
            simp only at n1
            have hy := (rr1.read r1.obs q2).int
            subst hy
            exact ⟨j, k, rfl, rfl, n1 _ _ _ (st1.st.trans put_none_st) (rel_val r1 (show RepW K W1 (.int (j + k)) (.int (j + k)) from rfl)) hl1 (.set fun _ z => by cases z)⟩
          | _ => exact n1.elim
      | _ => exact n.elim
end
end Wz

set_option Elab.async false
set_option linter.all false
set_option maxRecDepth 100000
set_option maxHeartbeats 4000000
namespace Wz
open PySem PySem.Spec PyProof.Rows L2

/-! ### [.. for k in d], d a dict that nobody changes any more -/
def xKeysF (i : Nat) : EV Its := fun ρ S => match ρ[i]? with
  | some (.val d) => match keysI d with
    | some its => .ok ⟨its, none⟩ S
    | none => .stuck
  | _ => .stuck
section
variable {K : PySem.W.Frag} {WX : L2.WX} {W W' : Wd} {H H' Hf : Hp} {σ σ' : L2.St} {ρ : List Slot} {S S' S1 : List Cell} {E0 : Hp} {np n0 : Nat} {X : Cx} {p : Addr} {u : HO} {od : Obj}
/-- the keys, where the dict is locked -/
def wK (i : Nat) : TI := fun σ H R => ∀ p od u, σ[i]? = some (some (V.ref p)) → H p = some (.frz od u) → iKeys (tVar i) σ H R
theorem keys_data {i : Nat} {d : Wz.D} {its : List Wz.D} (r : Rel K E0 np W ρ S σ H) (es : ρ[i]? = some (.val d)) (ei : keysI d = some its) : ∃ p u, σ[i]? = some (some (V.ref p)) ∧ W.F p = some u ∧ DU K W.F W.al u d ∧ lockable u := by
  obtain ⟨v, hσ, rep⟩ := r.slots i _ es
  obtain ⟨p, u, rfl, hF, hr, lk⟩ : ∃ p u, v = .ref p ∧ W.F p = some u ∧ DU K W.F W.al u d ∧ lockable u := by
    cases d with
    | dk l => obtain ⟨p, vs, e, h1, h2⟩ := rep; exact ⟨p, _, e, h1, ⟨vs, rfl, h2⟩, trivial⟩
    | dt l => obtain ⟨p, vs, e, h1, h2⟩ := rep; exact ⟨p, _, e, h1, ⟨vs, rfl, h2⟩, trivial⟩
    | _ => cases ei
  exact ⟨p, u, hσ, hF, hr, lk⟩
theorem snd_keysF {i : Nat} : Snd K WX (RI K) (wK i) (xKeysF i) := by
  intro E0 np W ρ S σ H R r n p od u0 hv hz
  unfold xKeysF at n
  cases es : ρ[i]? with
  | none => rw [es] at n; exact n.elim
  | some s =>
    rw [es] at n
    cases s with
    | val d =>
      dsimp only at n
      cases ei : keysI d with
      | none => rw [ei] at n; exact n.elim
      | some its =>
        rw [ei] at n
        obtain ⟨p', u, hσ, hF, hr, lk⟩ := keys_data r es ei
        have ep : p' = p := by
          rw [hσ] at hv
          cases hv
          rfl
        subst ep
        have nz : ∀ o v, u ≠ .frz o v := fun o v z => by rw [z] at lk; exact lk
        have hu : H p' = some (.frz od u) := by
          rcases r.wok.sub p' u hF with q | ⟨_, o2, q⟩
          · rw [hz] at q
            exact absurd (Option.some.inj q).symm (nz _ _)
          · rw [hz] at q
            cases q
            exact hz
        refine ⟨_, hσ, p', od, rfl, dict_walk ei hr hu R fun J Y w hY => ?_⟩
        exact n J W H .refl r.wok r.obs ⟨_, Y, w, (fun W' H' S' _ _ _ _ _ h7 => h7 p' od u hu), fun i H' x H'' W' S h1 h2 h3 h4 _ _ _ h8 => hY i H' x H'' W' S h1 h2 h3 h4 h8⟩
    | _ => exact n.elim
theorem estep_unlock (hu : H p = some u) (nz : ∀ o v, u ≠ .frz o v) (s : EStep W (upd H p (.frz od u)) W' H') : EStep W H W' (upd H' p u) where
  keep a v h n := by
    by_cases z : a = p
    · subst z
      rw [upd_same]
      exact hu.symm.trans h
    · rw [upd_ne z]
      exact s.keep a v ((upd_ne z).trans h) n
  F := s.F
  Fn a h := by
    rcases s.Fn a h with q | q
    · exact .inl q
    · by_cases z : a = p
      · rw [z, upd_same] at q; cases q
      · rw [upd_ne z] at q; exact .inr q
  sl := s.sl
  ob := s.ob
  fl := s.fl
  own o a h := by
    rcases s.own o a h with q | q
    · exact .inl q
    · by_cases z : a = p
      · rw [z, upd_same] at q; cases q
      · rw [upd_ne z] at q; exact .inr q
  liv a h := by
    by_cases z : a = p
    · rw [z, upd_same]; simp
    · rw [upd_ne z]; exact s.liv a (by rw [upd_ne z]; exact h)
  fz a o v h := by
    by_cases z : a = p
    · subst z
      rw [hu] at h
      exact absurd (Option.some.inj h) (nz o v)
    · rw [upd_ne z]
      exact s.fz a o v ((upd_ne z).trans h)
theorem lcL_noX (gd : Option (Nat × Wz.D)) (b : Wz.D → List Slot → Option (List Slot)) (c : EV Bool) (e : EV Rv) (ρ : List Slot) (cc : Str) (a : Option Wz.D) (S2 : List Cell) : ∀ (its acc : List Wz.D) (S : List Cell), lcL gd b c e ρ its acc S ≠ .exc cc a S2
  | [], acc, S => by
    unfold lcL onlyIf
    split <;> simp
  | d :: r, acc, S => by
    unfold lcL onlyIf
    split
    · split
      · split
        · split
          · split
            · split
              · exact lcL_noX gd b c e ρ cc a S2 r _ _
              · simp
            · simp
          · simp
        · exact lcL_noX gd b c e ρ cc a S2 r _ _
        · simp
      · simp
    · simp
theorem obs_fz {S : List Cell} (o : ObsOk K W H S) (hp : ∀ o, W.ow o ≠ some p) : ObsOk K W (upd H p u) S := by
  refine ⟨fun n c e => ?_, o.nob, o.nof⟩
  have q := o.at_ n c e
  cases c with
  | box d =>
    obtain ⟨a, h1, h2⟩ := q
    exact ⟨a, h1, h2.mono (fun _ _ q => q) (fun _ _ q => q) (upd_ne fun z => hp _ (by rw [← z]; exact h1))⟩
  | lbx d =>
    obtain ⟨a, h1, h2⟩ := q
    exact ⟨a, h1, h2.mono (fun _ _ q => q) (fun _ _ q => q) (upd_ne fun z => hp _ (by rw [← z]; exact h1))⟩
  | ins cl fs =>
    obtain ⟨a, dx, vs, h1, h2, h3⟩ := q
    exact ⟨a, dx, vs, h1, (upd_ne fun z => hp _ (by rw [← z]; exact h1)).trans h2, h3.keep fun q _ a' ha => upd_ne fun z => hp _ (by rw [← z]; exact ha)⟩
theorem snd_lcS {i : Nat} {g : TG} {tt : TT} {te : TE} {vs ix : List Nat} {b : Wz.D → List Slot → Option (List Slot)} {c : EV Bool} {e : EV Rv} (hg : SndGC K g ix b) (hc : Snd K WXF RB tt c) (he : Snd K WXF (RvOk K) te e) :
    Snd K WX (RvOk K) (fun σ H Q => tLockE (tLc (iKeys (tVar i)) g tt te vs) σ H Q ∨ tLc (iKeys (tVar i)) g tt te vs σ H Q) (xLc (xKeysF i) vs ix b c e) := by
  intro E0 np W ρ S σ H Q r n
  have hx : ∃ d its, ρ[i]? = some (.val d) ∧ keysI d = some its := by
    unfold xLc xKeysF at n
    cases es : ρ[i]? with
    | none => rw [es] at n; exact n.elim
    | some s =>
      rw [es] at n
      cases s with
      | val d =>
        cases ei : keysI d with
        | none => simp only [ei] at n; exact n.elim
        | some its => exact ⟨d, its, rfl, ei⟩
      | _ => exact n.elim
  obtain ⟨d, its, es, ei⟩ := hx
  obtain ⟨p, u, hσ, hF, hr, lk⟩ := keys_data r es ei
  have nz : ∀ o v, u ≠ .frz o v := fun o v z => by rw [z] at lk; exact lk
  have nt : ∀ vs, u ≠ .tup vs := fun vs z => by rw [z] at lk; exact lk
  have mu : Mut (some u) := by cases u <;> first | trivial | exact lk.elim
  rcases r.wok.sub p u hF with hu | ⟨_, od, hu⟩
  · refine .inl ⟨p, u, hu, mu, fun od => ?_⟩
    have wl : WOk W (upd H p (.frz od u)) := w_fz r.wok hF (.inr ⟨lk, od, rfl⟩) fun _ z => by cases z
    have rl : Rel K E0 np W ρ S σ (upd H p (.frz od u)) := rel_fz r (noO_F r.wok hF) wl fun d h => contR_lock hu d h lk
    have q1 : upd H p (.frz od u) p = some (.frz od u) := upd_same
    refine snd_lc (WX := WX) (snd_keysF (i := i)) hg hc he E0 np W ρ S σ _ (fun v H' => H' p = some (.frz od u) ∧ Q v (upd H' p u)) rl ?_ p od u hσ q1
    have nx : ∀ cc a S2, xLc (xKeysF i) vs ix b c e ρ S ≠ .exc cc a S2 := fun cc a S2 => by
      unfold xLc xKeysF
      rw [es]
      dsimp only
      rw [ei]
      dsimp only
      rw [Out.bind_ok]
      split
      · exact lcL_noX _ _ _ _ _ _ _ _ _ _ _
      · simp
    revert n nx
    generalize xLc (xKeysF i) vs ix b c e ρ S = res
    intro n nx
    cases res with
    | stuck => exact n
    | exc cc a S2 => exact absurd rfl (nx _ _ _)
    | ok rv S2 =>
      intro v W' H' st w o rr
      have b1 := st.fz p od u q1
      have hF' := st.F p u hF
      have w2 : WOk W' (upd H' p u) := w_fz w hF' (.inl rfl) nt
      refine ⟨b1, n v W' _ (estep_unlock hu nz st) w2 (obs_fz o (noO_F w hF')) ?_⟩
      refine RvOk.weak (fun x hx => ?_) (rv_at (.inr ⟨noO_F w hF', u, hF'⟩) (fun d h => contR_unlock b1 d h) (fun d h => contX_lock b1 d h) rr)
      by_cases z : x = p
      · rw [z, upd_same]; simp
      · rw [upd_ne z]; exact hx
  · exact .inr (snd_lc (WX := WX) (snd_keysF (i := i)) hg hc he E0 np W ρ S σ H Q r n p od u hσ hu)
end
end Wz

set_option Elab.async false
set_option linter.all false
set_option maxRecDepth 100000
set_option maxHeartbeats 4000000
namespace Wz
open PySem PySem.Spec PyProof.Rows L2

/-! ### the small language -/
inductive O2 where
  | add | sub | mul | fdiv | mod | pow
inductive Cp where
  | lt | le | gt | ge | eq | ne | inn | nin | iss | isn
inductive Bf where
  | len | lst | tup | any | all | sum | srt | dct | min | int
mutual
inductive E where
  | slot (i : Nat) | int (i : Int) | str (s : Str) | bl (b : Bool) | non
  | op2 (o : O2) (a b : E) | cmp (o : Cp) (a b : E) | neg (a : E)
  | notV (a : E) | andV (a b : E) | orV (a b : E) | ife (c : T) (a b : E)
  | idx (a i : E) | slc (a : E) (lo hi : O) | tup (l : Es) | lst (l : Es) | dk | dt
  | blt (f : Bf) (l : Es) | rev (a : E) | lcS (i : Nat) (vs : List Nat) (g : Tg) (c : Ts) (e : E) | lset (a : E) | isi (t : String) (a : E) | get1 (a b : E) | get2 (a b c : E)
  | lc (it : It) (vs : List Nat) (g : Tg) (c : Ts) (e : E)
  | call (k : Nat) (l : Es)
  | fld (cs : List Str) (f : Str) (a : E) | meth (k : Nat) (cn m : Str) (a : E) (l : Es) | make (k : Nat) (cn : Str) (l : Es)
  | box (e : E) | appE (a b : E) | clrE (a : E) | popE (a : E) | popD (a b : E)
inductive Es where
  | nil | cons (e : E) (l : Es)
inductive O where
  | no | yes (e : E)
inductive T where
  | tst (o : Cp) (a b : E) | tru (e : E) | and (a b : T) | or (a b : T) | not (a : T)
inductive Ts where
  | yes | one (t : T)
inductive It where
  | enum (e : E) | enumS (c : Int) (e : E) | revI (e : E) | val (e : E) | rng1 (l : Es) | rng2 (l : Es) | rng3 (l : Es)
end
def O2.ev : O2 → Wz.D → Wz.D → Option Rv
  | .add => addD | .sub => subD | .mul => mulD | .fdiv => fdivD | .mod => modD | .pow => powD
def Cp.ev : Cp → Wz.D → Wz.D → Option Rv
  | .lt => ltD | .le => leD | .gt => gtD | .ge => geD | .eq => eqD | .ne => neD | .inn => inD | .nin => ninD | .iss => isND | .isn => notND
def Bf.ev : Bf → List Wz.D → Option Rv
  | .len => lenD | .lst => listD | .tup => tupleD | .any => anyD | .all => allD | .sum => sumD | .srt => srt3D | .dct => dictD | .min => minD | .int => intD
mutual
noncomputable def evE (env : Nat → FnSpec) : E → EV Rv
  | .slot i => xSlot i
  | .int i => xCon (.int i)
  | .str s => xCon (.str s)
  | .bl b => xCon (.bl b)
  | .non => xCon .non
  | .op2 o a b => xOp2 o.ev (evE env a) (evE env b)
  | .cmp o a b => xOp2 o.ev (evE env a) (evE env b)
  | .neg a => xOp1 negD (evE env a)
  | .notV a => xNotV (evE env a)
  | .andV a b => xAndV (evE env a) (evE env b)
  | .orV a b => xOrV (evE env a) (evE env b)
  | .ife c a b => xIfe (evT env c) (evE env a) (evE env b)
  | .idx a i => xOp2 idxD (evE env a) (evE env i)
  | .slc a lo hi => xSlc (evE env a) (evO env lo) (evO env hi)
  | .tup l => xTup (evEs env l)
  | .lst l => xLst (evEs env l)
  | .dk => xDk
  | .dt => xDt
  | .blt f l => xOpN f.ev (evEs env l)
  | .rev a => xRev (evE env a)
  | .lset a => xOp1 lsetD (evE env a)
  | .isi t a => xIsi t (evE env a)
  | .get1 a b => xGet1 (evE env a) (evE env b)
  | .get2 a b c => xGet2 (evE env a) (evE env b) (evE env c)
  | .lc it vs g c e => xLc (evI env it) vs g.ixs (bindT g) (evTs env c) (evE env e)
  | .lcS i vs g c e => xLc (xKeysF i) vs g.ixs (bindT g) (evTs env c) (evE env e)
  | .call k l => xCall (env k) (evEs env l)
  | .fld cs f a => xFld cs f (evE env a)
  | .meth k cn m a l => xMeth cn m (env k) (evE env a) (evEs env l)
  | .make k cn l => xMake cn (env k) (evEs env l)
  | .box e => xBox (evE env e)
  | .appE a b => xAppE (evE env a) (evE env b)
  | .clrE a => xMut1 clrD (evE env a)
  | .popE a => xMut1 popD (evE env a)
  | .popD a b => xPopE (evE env a) (evE env b)
noncomputable def evEs (env : Nat → FnSpec) : Es → EV (List Rv)
  | .nil => xNil
  | .cons e l => xCons (evE env e) (evEs env l)
noncomputable def evO (env : Nat → FnSpec) : O → EV (Option Int)
  | .no => xNone
  | .yes e => xPart (evE env e)
noncomputable def evT (env : Nat → FnSpec) : T → EV Bool
  | .tst o a b => xTst (xOp2 o.ev (evE env a) (evE env b))
  | .tru e => xTru (evE env e)
  | .and a b => xAnd (evT env a) (evT env b)
  | .or a b => xOr (evT env a) (evT env b)
  | .not a => xNot (evT env a)
noncomputable def evTs (env : Nat → FnSpec) : Ts → EV Bool
  | .yes => xYes
  | .one t => evT env t
noncomputable def evI (env : Nat → FnSpec) : It → EV Its
  | .val e => xIts (evE env e)
  | .enum e => xItsL enumD (evE env e)
  | .enumS c e => xItsL (enumDk c) (evE env e)
  | .revI e => xItsL List.reverse (evE env e)
  | .rng1 l => xRng rng1 (evEs env l)
  | .rng2 l => xRng rng2 (evEs env l)
  | .rng3 l => xRng rng3 (evEs env l)
end
/-! ### how it fits the program's text -/
structure Sig where
  N : List Str
  sc : Scope
  fns : List Str
  blts : List Str
  top : Bool := true
  flds : List (Str × Str) := []
  mths : List (Str × Str) := []
  mks : List Str := []
  exP : List Str := []
  exV : List Str := []
  exs : List Str := []
  hds : List Str := []
def isStar : Expr → Bool
  | .Starred .. => true
  | _ => false
def isSlc : Expr → Bool
  | .Slice .. => true
  | _ => false
def isSet : Expr → Bool
  | .Set .. => true
  | _ => false
def isCmp : Expr → Bool
  | .ListComp .. => true
  | .SetComp .. => true
  | .DictComp .. => true
  | _ => false
def isTst : Expr → Bool
  | .UnaryOp .Not _ _ => true
  | .BoolOp .. => true
  | .IfExp .. => true
  | .Compare .. => true
  | _ => false
def notSup : Expr → Bool
  | .Call (.Name _ _) [] [] _ => false
  | _ => true
def visB (c : Sig) (x : Str) : Bool := match c.sc.names.lookup x with
  | some .local => true
  | some .cell => true
  | some .free => true
  | _ => false
def locB (c : Sig) (x : Str) : Bool := match c.sc.names.lookup x with
  | some .local => true
  | some .cell => c.top
  | _ => false
def glB (c : Sig) (x : Str) : Bool := match c.sc.names.lookup x with
  | some .globalImplicit => true
  | _ => false
def dbgB (x : Str) : Bool := !(x == ("__debug__" : Str)) && !(x == ("__classdict__" : Str)) && !(x == ("__name__" : Str))
def slotB (c : Sig) (i : Nat) (x : Str) : Bool := decide (c.N[i]? = some x) && visB c x && dbgB x
def bltB (c : Sig) (n x : Str) : Bool := decide (x = n) && glB c x && c.blts.contains n
def O2.fit : O2 → Operator → Bool
  | .add, .Add => true | .sub, .Sub => true | .mul, .Mult => true | .fdiv, .FloorDiv => true | .mod, .Mod => true | .pow, .Pow => true
  | _, _ => false
def Cp.fit : Cp → CmpOp → Bool
  | .lt, .Lt => true | .le, .LtE => true | .gt, .Gt => true | .ge, .GtE => true | .eq, .Eq => true | .ne, .NotEq => true | .inn, .In => true | .nin, .NotIn => true | .iss, .Is => true | .isn, .IsNot => true
  | _, _ => false
def Bf.nm : Bf → Str
  | .len => "len" | .lst => "list" | .tup => "tuple" | .any => "any" | .all => "all" | .sum => "sum" | .srt => "sorted" | .dct => "dict" | .min => "min" | .int => "int"
def fitNames (c : Sig) : List Nat → List Expr → Bool
  | [], [] => true
  | i :: is, .Name x _ :: es => decide (c.N[i]? = some x) && locB c x && fitNames c is es
  | _, _ => false
def fitG (c : Sig) : Tg → Expr → Bool
  | .nm i, .Name x _ => decide (c.N[i]? = some x) && locB c x
  | .tp is, .Tuple es _ _ => fitNames c is es
  | .np i is, .Tuple [.Name x _, .Tuple es _ _] _ _ => decide (c.N[i]? = some x) && (locB c x && fitNames c is es)
  | _, _ => false
def inN (c : Sig) (vs : List Nat) : List (Str × Nat) := vs.map fun i => (c.N.getD i default, i)
def tyT : List String := ["bool", "int", "str", "tuple", "list", "dict"]
/-! the forms of the text -/
def kSlot (f : Str → Bool) : Expr → Bool
  | .Name x _ => f x
  | _ => false
def kInt (i : Int) : Expr → Bool
  | .Constant k _ _ => match k with
    | .int j => decide (i = j)
    | _ => false
  | _ => false
def kStr (s : Str) : Expr → Bool
  | .Constant k _ _ => match k with
    | .str j => decide (s = j)
    | _ => false
  | _ => false
def kBl (s : Bool) : Expr → Bool
  | .Constant k _ _ => match k with
    | .bool j => decide (s = j)
    | _ => false
  | _ => false
def kNon : Expr → Bool
  | .Constant k _ _ => match k with
    | .none => true
    | _ => false
  | _ => false
def kBin (o : Operator → Bool) (f g : Expr → Bool) : Expr → Bool
  | .BinOp x op y _ => o op && (f x && g y)
  | _ => false
def kCmp (o : CmpOp → Bool) (f g : Expr → Bool) : Expr → Bool
  | .Compare x ops ys _ => match ops with
    | [op] => match ys with
      | [y] => o op && (f x && (g y && !behindInMarks op y))
      | _ => false
    | _ => false
  | _ => false
def kUn (u : UnaryOp → Bool) (f : Expr → Bool) : Expr → Bool
  | .UnaryOp op x _ => u op && f x
  | _ => false
def kBo (u : BoolOp → Bool) (f g : Expr → Bool) : Expr → Bool
  | .BoolOp op l p => match l with
    | x :: y :: r => u op && (f x && match r with
      | [] => g y
      | z :: r => g (.BoolOp op (y :: z :: r) p))
    | _ => false
  | _ => false
def kIfe (f g h : Expr → Bool) : Expr → Bool
  | .IfExp x y z _ => f x && (g y && h z)
  | _ => false
def kIdx (f g : Expr → Bool) : Expr → Bool
  | .Subscript x y _ => !isSlc y && (f x && g y)
  | _ => false
def kSlc (f : Expr → Bool) (g h : Option Expr → Bool) : Expr → Bool
  | .Subscript x y _ => match y with
    | .Slice l u s _ => match s with
      | none => f x && (g l && h u)
      | some _ => false
    | _ => false
  | _ => false
def kTup (f : List Expr → Bool) : Expr → Bool
  | .Tuple es _ _ => f es
  | _ => false
def kLst (f : List Expr → Bool) : Expr → Bool
  | .List es _ => f es
  | _ => false
def kDct : Expr → Bool
  | .Dict ks vs _ => match ks with
    | [] => match vs with
      | [] => true
      | _ => false
    | _ => false
  | _ => false
/-- f(es) -/
def kCall (u : Str → Bool) (f : List Expr → Bool) : Expr → Bool
  | .Call fn es ks _ => match ks with
    | [] => kSlot u fn && f es
    | _ => false
  | _ => false
/-- f(e, start=k) -/
def kEnS (u : Str → Bool) (k : Int) (f : Expr → Bool) : Expr → Bool
  | .Call fn es ks _ => match ks with
    | [w] => match es with
      | [x] => match w with
        | ⟨a, v, _⟩ => decide (a = some ("start" : Str)) && (kInt k v && (kSlot u fn && (!isStar x && f x)))
      | _ => false
    | _ => false
  | _ => false
/-- o.m(), on one line -/
def kMeth0 (m : Str) (f : Expr → Bool) : Expr → Bool
  | .Call fn es ks q => match ks with
    | [] => match es with
      | [] => match fn with
        | .Attribute o n p => decide (n = m) && (p.endLine == q.line && (notSup o && f o))
        | _ => false
      | _ => false
    | _ => false
  | _ => false
/-- o.m(es), on one line -/
def kMeth (m : Str) (f : Expr → Bool) (g : List Expr → Bool) : Expr → Bool
  | .Call fn es ks q => match ks with
    | [] => match fn with
      | .Attribute o n p => decide (n = m) && (p.endLine == q.line && (notSup o && (f o && g es)))
      | _ => false
    | _ => false
  | _ => false
/-- o.m(es), on one line, maybe without arguments -/
def kMethN (m : Str) (f : Expr → Bool) (g : List Expr → Bool) : Expr → Bool
  | .Call fn es ks q => match ks with
    | [] => match fn with
      | .Attribute o n p => decide (n = m) && (p.endLine == q.line && (notSup o && (f o && (g es && decide (es.length < 30)))))
      | _ => false
    | _ => false
  | _ => false
def kAttr (f : Str) (g : Expr → Bool) : Expr → Bool
  | .Attribute e n _ => decide (n = f) && (notSup e && g e)
  | _ => false
def l1 (f : Expr → Bool) : List Expr → Bool
  | [x] => !isStar x && f x
  | _ => false
def l2 (f g : Expr → Bool) : List Expr → Bool
  | [x, y] => (!isStar x && f x) && (!isStar y && g y)
  | _ => false
def kLc (fi : Expr → Bool) (b : Scope → Bool) (g : Scope → Expr → Bool) (t : Scope → List Expr → Bool) (e : Scope → Expr → Bool) : Expr → Bool
  | .ListComp x gs sc _ => match gs with
    | [⟨tg, i, ifs, k⟩] => decide (k = 0) && ((fi i && !isSet i) && (b sc && (g sc tg && (t sc ifs && e sc x))))
    | _ => false
  | _ => false
def isNot : UnaryOp → Bool
  | .Not => true
  | _ => false
def isNeg : UnaryOp → Bool
  | .USub => true
  | _ => false
def isAnd : BoolOp → Bool
  | .And => true
  | _ => false
def isOr : BoolOp → Bool
  | .Or => true
  | _ => false
def isCmpX : Expr → Bool
  | .Compare .. => true
  | _ => false
/-- its items are new pairs -/
def itTup : It → Bool
  | .enum _ => true
  | .enumS _ _ => true
  | _ => false
def tgTup : Tg → Bool
  | .tp _ => true
  | .np _ _ => true
  | _ => false
mutual
def fitE (c : Sig) : E → Expr → Bool
  | .slot i => kSlot (slotB c i)
  | .int i => kInt i
  | .str s => kStr s
  | .bl b => kBl b
  | .non => kNon
  | .op2 o a b => kBin o.fit (fitE c a) (fitE c b)
  | .cmp o a b => kCmp o.fit (fitE c a) (fitE c b)
  | .neg a => kUn isNeg (fitE c a)
  | .notV a => kUn isNot (fitE c a)
  | .andV a b => kBo isAnd (fitE c a) (fitE c b)
  | .orV a b => kBo isOr (fitE c a) (fitE c b)
  | .ife t a b => kIfe (fitT c t) (fitE c a) (fitE c b)
  | .slc a lo hi => kSlc (fitE c a) (fitO c lo) (fitO c hi)
  | .idx a i => kIdx (fitE c a) (fitE c i)
  | .tup l => kTup (fitEs c l)
  | .lst l => kLst (fitEs c l)
  | .dk => kDct
  | .dt => kDct
  | .rev a => kCall (bltB c "list") (l1 (kCall (bltB c "reversed") (l1 (fitE c a))))
  | .lset a => kCall (bltB c "len") (l1 (kCall (bltB c "set") (l1 (fitE c a))))
  | .isi t a => kCall (bltB c "isinstance") (l2 (fitE c a) (kSlot fun y => bltB c (Str.ofString t) y && tyT.contains t))
  | .get1 a b => kMeth "get" (fitE c a) (l1 (fitE c b))
  | .get2 a b d => kMeth "get" (fitE c a) (l2 (fitE c b) (fitE c d))
  | .blt f l => kCall (bltB c f.nm) fun es => fitEs c l es && !es.isEmpty
  | .lc it vs g t e => kLc (fun y => !itTup it && fitI c it y) (fun sc => blkC c.N c.sc sc (inN c vs)) (fun sc => fitG { c with sc := relS sc c.sc, top := false } g) (fun sc => fitTs { c with sc := relS sc c.sc, top := false } t) (fun sc => fitE { c with sc := relS sc c.sc, top := false } e)
  | .lcS i vs g t e => kLc (kSlot (slotB c i)) (fun sc => blkC c.N c.sc sc (inN c vs)) (fun sc => fitG { c with sc := relS sc c.sc, top := false } g) (fun sc => fitTs { c with sc := relS sc c.sc, top := false } t) (fun sc => fitE { c with sc := relS sc c.sc, top := false } e)
  | .box e => fitE c e
  | .appE a b => kMeth "append" (fitE c a) (l1 (fitE c b))
  | .clrE a => kMeth0 "clear" (fitE c a)
  | .popE a => kMeth0 "pop" (fitE c a)
  | .popD a b => kMeth "pop" (fitE c a) (l1 (fitE c b))
  | .call k l => kCall (fun x => decide (c.fns[k]? = some x) && (glB c x && dbgB x)) fun es => fitEs c l es
  | .fld cs f a => kAttr f fun y => fitE c a y && cs.all fun cn => c.flds.contains (cn, f)
  | .meth k cn m a l => kMethN m (fun y => fitE c a y && (decide (1000 ≤ k) && decide (c.mths[k - 1000]? = some (cn, m)))) (fitEs c l)
  | .make k cn l => kCall (fun x => decide (x = cn) && ((decide (2000 ≤ k) && decide (c.mks[k - 2000]? = some x)) && (glB c x && dbgB x))) (fitEs c l)
def fitEs (c : Sig) : Es → List Expr → Bool
  | .nil, z => z.isEmpty
  | .cons e l, z => match z with
    | [] => false
    | x :: r => !isStar x && (fitE c e x && fitEs c l r)
def fitO (c : Sig) : O → Option Expr → Bool
  | .no, z => z.isNone
  | .yes e, z => match z with
    | none => false
    | some x => fitE c e x
def fitT (c : Sig) : T → Expr → Bool
  | .tst o a b, x => kCmp o.fit (fitE c a) (fitE c b) x
  | .tru e, x => !isTst x && fitE c e x
  | .and a b, x => kBo isAnd (fitT c a) (fitT c b) x
  | .or a b, x => kBo isOr (fitT c a) (fitT c b) x
  | .not a, x => kUn isNot (fitT c a) x
def fitTs (c : Sig) : Ts → List Expr → Bool
  | .yes, z => z.isEmpty
  | .one t, z => match z with
    | [] => false
    | x :: r => r.isEmpty && fitT c t x
def fitI (c : Sig) : It → Expr → Bool
  | .val e, x => fitE c e x
  | .enum e, x => kCall (bltB c "enumerate") (l1 (fitE c e)) x
  | .enumS k e, x => (decide (0 ≤ k) && decide (k < 1000)) && kEnS (bltB c "enumerate") k (fitE c e) x
  | .revI e, x => kCall (bltB c "reversed") (l1 (fitE c e)) x
  | .rng1 l, x => kCall (bltB c "range") (fun es => decide (es.length = 1) && fitEs c l es) x
  | .rng2 l, x => kCall (bltB c "range") (fun es => decide (es.length = 2) && fitEs c l es) x
  | .rng3 l, x => kCall (bltB c "range") (fun es => decide (es.length = 3) && fitEs c l es) x
end
end Wz

set_option Elab.async false
set_option linter.all false
set_option maxRecDepth 100000
set_option maxHeartbeats 4000000
namespace Wz
open PySem PySem.Spec PyProof.Rows L2

/-! ### what a call needs -/
def FnIs (P : Program) (w : World) (K : PySem.W.Frag) (mg : Str → Option Value) (base : Heap) (k : Nat) (x : Str) (sp : FnSpec) : Prop :=
  ∃ (f : Addr) (fd : FuncData) (ps : List Str), FnOk P w K mg base (L2.CX P w) k f fd ps (Gsp K sp) ∧ mg x = some (.ref f) ∧ PySem.W.keepIn K (.ref f) = true ∧ Binds K fd ps []
def MethIs (P : Program) (w : World) (K : PySem.W.Frag) (mg : Str → Option Value) (base : Heap) (k : Nat) (cn m : Str) (sp : FnSpec) : Prop :=
  ∃ (f : Addr) (fd : FuncData) (ps : List Str), FnOk P w K mg base (L2.CX P w) k f fd ps (Gsp K sp) ∧ Cls K (He.ga K cn) ∧ Meth K (He.ga K cn) m f ∧ Binds K fd ps []
def MakeIs (P : Program) (w : World) (K : PySem.W.Frag) (mg : Str → Option Value) (base : Heap) (k : Nat) (cn : Str) (sp : FnSpec) : Prop :=
  ∃ (j : Nat) (f : Addr) (fd : FuncData) (ps : List Str), j + 1 ≤ k ∧ FnOk P w K mg base (L2.CX P w) j f fd ps (Gsp K sp) ∧ Mk K (He.ga K cn) f ∧ mg cn = some (.ref (He.ga K cn)) ∧ Binds K fd ps []
/-- __init__ of an exception that keeps its argument -/
def spI (C : Addr) (f : Str) : Sp := fun vs H Q _ => ∃ a v, vs = [.ref a, v] ∧ H a = some (exo a C none) ∧ ∀ dx, H dx = none → dx ≠ a → Q .non (upd (upd H dx (exd dx [(f, v)])) a (exo a C (some dx)))
def ExPIs (K : PySem.W.Frag) (mg : Str → Option Value) (cn : Str) : Prop := mg cn = some (.ref (He.ga K cn)) ∧ PySem.W.excIn K (He.ga K cn) He.veBase "ValueError.__new__" = true ∧ PySem.W.keepIn K (.ref (He.ga K cn)) = true ∧
  PySem.W.subIn K (.ref (He.ga K cn)) (.type "BaseException") = some true ∧ PySem.W.typeIn K (.ref (He.ga K cn)) = some (.type "type")
def ExVIs (P : Program) (w : World) (K : PySem.W.Frag) (mg : Str → Option Value) (base : Heap) (k : Nat) (cn : Str) : Prop :=
  mg cn = some (.ref (He.ga K cn)) ∧ OexC K (He.ga K cn) ∧ XfC K (He.ga K cn) ∧ PySem.W.findIn K (.ref (He.ga K cn)) (exF cn) = some none ∧ ∃ (j : Nat) (f : Addr) (fd : FuncData) (ps : List Str), j + 1 ≤ k ∧ FnOk P w K mg base (L2.CX P w) j f fd ps (spI (He.ga K cn) (exF cn)) ∧
    PySem.W.findIn K (.ref (He.ga K cn)) "__init__" = some (some (.ref f)) ∧ PySem.W.typeIn K (.ref f) = some (.type "function") ∧ Binds K fd ps []
structure SigF (P : Program) (w : World) (K : PySem.W.Frag) (mg : Str → Option Value) (base : Heap) (k : Nat) (c : Sig) (env : Nat → FnSpec) : Prop where
  blt : ∀ n, c.blts.contains n = true → mg n = none
  call : ∀ j x, c.fns[j]? = some x → FnIs P w K mg base k x (env j)
  flds : ∀ cn f, c.flds.contains (cn, f) = true → Cls K (He.ga K cn) ∧ NoAttr K (He.ga K cn) f
  mth : ∀ j cn m, c.mths[j]? = some (cn, m) → MethIs P w K mg base k cn m (env (1000 + j))
  mkr : ∀ j cn, c.mks[j]? = some cn → MakeIs P w K mg base k cn (env (2000 + j))
  exP : ∀ cn, c.exP.contains cn = true → ExPIs K mg cn
  exV : ∀ cn, c.exV.contains cn = true → ExVIs P w K mg base k cn
  hds : ∀ h, c.hds.contains h = true → mg h = some (.ref (He.ga K h)) ∧ ∀ cn ∈ c.exs, PySem.W.exmOne K (.ref (He.ga K cn)) (.ref (He.ga K h)) = some (decide (cn = h))
structure SigOk (c : Sig) (X : Cx) (WX : L2.WX) (env : Nat → FnSpec) : Prop where
  N : X.N = c.N
  nd : c.N.Nodup
  sc : X.env.scope = c.sc
  calm : X.calm = true
  hu : X.A.units + 64 < cLine
  fn : c.top = true → ∀ x, X.fn x = true
  tk : Takes X WX
  fct : ∃ k, SigF X.prog X.w X.K X.mg X.base k c env ∧ Room k X.A
theorem SigOk.blt {c : Sig} {X : Cx} {WX : L2.WX} {env : Nat → FnSpec} (ok : SigOk c X WX env) (n : Str) (h : c.blts.contains n = true) : X.mg n = none := by
  obtain ⟨k, F, _⟩ := ok.fct
  exact F.blt n h
def DenE (X : Cx) (WX : L2.WX) (ev : EV Rv) (x : Expr) : Prop := ∃ te, PE X x te ∧ Snd X.K WX (RvOk X.K) te ev
def DenA (X : Cx) (WX : L2.WX) (ev : EV (List Rv)) (x : List Expr) : Prop := ∃ ta, PA X x ta ∧ Snd X.K WX (RL X.K) ta ev
def DenO (X : Cx) (WX : L2.WX) (ev : EV (Option Int)) (x : Option Expr) : Prop := ∃ t, PO X x t ∧ Snd X.K WX RO t ev
def isBo : Expr → Bool
  | .BoolOp .. => true
  | _ => false
def DenT (X : Cx) (WX : L2.WX) (ev : EV Bool) (x : Expr) : Prop := ∃ t, PT X x t ∧ (isBo x = true → PW X x t) ∧ Snd X.K WX RB t ev
def DenTs (X : Cx) (WX : L2.WX) (ev : EV Bool) (x : List Expr) : Prop := ∃ t, PTs X x t ∧ Snd X.K WX RB t ev
def DenIT (n : Bool) (X : Cx) (WX : L2.WX) (ev : EV Its) (x : Expr) : Prop := ∀ tg, (n = true → ∃ es k p, tg = .Tuple es k p) → ∃ t, PI X tg x t ∧ Snd X.K WX (RI X.K) t ev
def DenI (X : Cx) (WX : L2.WX) (ev : EV Its) (x : Expr) : Prop := ∀ tg, ∃ t, PI X tg x t ∧ Snd X.K WX (RI X.K) t ev
section
variable {c : Sig} {X : Cx} {WX : L2.WX} {env : Nat → FnSpec}
theorem star_ne {x : Expr} {r : List Expr} {en : Env} (h : isStar x = false) : starEach (x :: r) en = (false, eval x en) :: starEach r en := by
  cases x <;> first | rfl | cases h
theorem fitEs_star : ∀ {l : Es} {es : List Expr}, fitEs c l es = true → ∀ x ∈ es, isStar x = false
  | .nil, [], _, x, hx => absurd hx (by simp)
  | .nil, _ :: _, h, _, _ => by cases h
  | .cons e l, [], h, _, _ => by cases h
  | .cons e l, y :: r, h, x, hx => by
    have h' : (!isStar y && (fitE c e y && fitEs c l r)) = true := h
    simp only [Bool.and_eq_true, Bool.not_eq_true'] at h'
    rcases List.mem_cons.mp hx with q | q
    · rw [q]; exact h'.1
    · exact fitEs_star h'.2.2 x q
theorem star_all {pos : Pos} {en : Env} : ∀ {es : List Expr}, (∀ x ∈ es, isStar x = false) → (backTo pos (starEach es en)).any (·.1) = false
  | [], _ => rfl
  | x :: r, h => by
    rw [star_ne (h x List.mem_cons_self)]
    simp only [backTo, List.map_cons, List.any_cons, Bool.false_or]
    exact star_all fun y hy => h y (List.mem_cons_of_mem _ hy)
theorem SigOk.vis (ok : SigOk c X WX env) {x : Str} (h : visB c x = true) : Vis X.env.scope x := by
  unfold Vis
  rw [ok.sc]
  unfold visB at h
  split at h
  · rename_i q; exact .inl q
  · rename_i q; exact .inr (.inl q)
  · rename_i q; exact .inr (.inr q)
  · cases h
theorem SigOk.loc (ok : SigOk c X WX env) {x : Str} (h : locB c x = true) : L2.Loc X.env.scope x ∧ (X.fn x = true ∨ X.env.scope.names.lookup x = some .local) := by
  unfold L2.Loc
  rw [ok.sc]
  unfold locB at h
  split at h
  · rename_i q; exact ⟨.inl q, .inr q⟩
  · rename_i q; exact ⟨.inr q, .inl (ok.fn h x)⟩
  · cases h
theorem SigOk.gl (ok : SigOk c X WX env) {x : Str} (h : glB c x = true) : Gl X x := by
  show X.env.scope.names.lookup x = _
  rw [ok.sc]
  unfold glB at h
  split at h
  · rename_i q; exact q
  · cases h
theorem dbg_of {x : Str} (h : dbgB x = true) : (x == ("__debug__" : Str)) = false ∧ (x == ("__classdict__" : Str)) = false ∧ x ≠ ("__name__" : Str) := by
  simp only [dbgB, Bool.and_eq_true, Bool.not_eq_true'] at h
  exact ⟨h.1.1, h.1.2, fun e => by rw [e] at h; simp at h⟩
theorem SigOk.nix (ok : SigOk c X WX env) {i : Nat} {x : Str} (h : c.N[i]? = some x) : X.N[i]? = some x := by rw [ok.N]; exact h
theorem SigOk.bl (ok : SigOk c X WX env) {n x : Str} (h : bltB c n x = true) : x = n ∧ Gl X n ∧ X.mg n = none := by
  simp only [bltB, Bool.and_eq_true, decide_eq_true_eq] at h
  obtain ⟨⟨rfl, h2⟩, h3⟩ := h
  exact ⟨rfl, ok.gl h2, ok.blt _ h3⟩
theorem SigOk.names (ok : SigOk c X WX env) : ∀ {is : List Nat} {es : List Expr}, fitNames c is es = true → PGs X es (gNames is) ∧ (assignEach es X.env).length = is.length ∧ (assignEach es X.env).findIdx? (·.1) = none
  | [], [], _ => ⟨pgs_nil, rfl, rfl⟩
  | [], _ :: _, h => by cases h
  | _ :: _, [], h => by cases h
  | i :: is, e :: es, h => by
    cases e with
    | Name x p =>
      simp only [fitNames, Bool.and_eq_true, decide_eq_true_eq] at h
      obtain ⟨a, b, d⟩ := ok.names h.2
      refine ⟨pgs_cons (pg_name (by rw [ok.N]; exact ok.nd) (ok.nix h.1.1) (ok.loc h.1.2).1 (ok.loc h.1.2).2) a, ?_, ?_⟩
      · show (assignEach es X.env).length + 1 = _
        rw [b]; rfl
      · show List.findIdx? _ (_ :: assignEach es X.env) = none
        rw [List.findIdx?_cons, d]; rfl
    | _ => cases h
def tgOf (K : PySem.W.Frag) : Tg → TG
  | .nm i => gName i
  | .tp is => gTup K is.length (gNames is)
  | .np i is => gTup K 2 (gCons (gName i) (gCons (gTup K is.length (gNames is)) gNil))
theorem tg_snd {K : PySem.W.Frag} : ∀ g : Tg, SndG K (tgOf K g) (bindT g)
  | .nm i => sndg_nm
  | .tp is => sndg_tp
  | .np i is => sndg_np
theorem tg_sndc {K : PySem.W.Frag} : ∀ g : Tg, SndGC K (tgOf K g) g.ixs (bindT g)
  | .nm i => sndgc_nm
  | .tp is => sndgc_tp
  | .np i is => sndgc_np
theorem SigOk.tg (ok : SigOk c X WX env) {g : Tg} {x : Expr} (h : fitG c g x = true) : PG X x (tgOf X.K g) := by
  cases g with
  | nm i =>
    cases x with
    | Name x p =>
      simp only [fitG, Bool.and_eq_true, decide_eq_true_eq] at h
      exact pg_name (by rw [ok.N]; exact ok.nd) (ok.nix h.1) (ok.loc h.2).1 (ok.loc h.2).2
    | _ => cases h
  | tp is =>
    cases x with
    | Tuple es k p =>
      obtain ⟨a, b, d⟩ := ok.names (show fitNames c is es = true from h)
      exact pg_tup ok.calm a b d
    | _ => cases h
  | np i is =>
    cases x with
    | Tuple es k p =>
      match es, h with
      | [], h => cases h
      | [y], h => cases y <;> cases h
      | y :: z :: _ :: _, h => cases y <;> first | cases h | (cases z <;> cases h)
      | [y, z], h =>
        cases y with
        | Name x q =>
          cases z with
          | Tuple es k2 p2 =>
            have h' : (decide (c.N[i]? = some x) && (locB c x && fitNames c is es)) = true := h
            simp only [Bool.and_eq_true, decide_eq_true_eq] at h'
            obtain ⟨h1, h2, h3⟩ := h'
            obtain ⟨a, b, d⟩ := ok.names h3
            exact pg_tup ok.calm (pgs_cons (pg_name (by rw [ok.N]; exact ok.nd) (ok.nix h1) (ok.loc h2).1 (ok.loc h2).2) (pgs_cons (pg_tup ok.calm a b d) pgs_nil)) rfl rfl
          | _ => cases h
        | _ => cases h
    | _ => cases h
end
/-- the reading that an evaluator gives -/
def canT (K : PySem.W.Frag) (WX : L2.WX) {α β : Type} (R : Wd → Hp → Hp → α → β → Prop) (ev : EV α) : L2.St → Hp → (β → Hp → Prop) → Prop := fun σ H Q => ∃ E0 np W ρ S, Rel K E0 np W ρ S σ H ∧ Need K WX R W H σ Q (ev ρ S)
theorem snd_can {K : PySem.W.Frag} {WX : L2.WX} {α β : Type} {R : Wd → Hp → Hp → α → β → Prop} {ev : EV α} : Snd K WX R (canT K WX R ev) ev := fun E0 np W ρ S σ H Q r n => ⟨E0, np, W, ρ, S, r, n⟩
theorem can_of {K : PySem.W.Frag} {WX : L2.WX} {α β : Type} {R : Wd → Hp → Hp → α → β → Prop} {ev : EV α} {t : L2.St → Hp → (β → Hp → Prop) → Prop} (h : Snd K WX R t ev) {σ : L2.St} {H : Hp} {Q : β → Hp → Prop} (q : canT K WX R ev σ H Q) : t σ H Q := by
  obtain ⟨E0, np, W, ρ, S, r, n⟩ := q
  exact h E0 np W ρ S σ H Q r n
theorem DenE.can {X : Cx} {WX : L2.WX} {ev : EV Rv} {x : Expr} (d : DenE X WX ev x) : PE X x (canT X.K WX (RvOk X.K) ev) := by
  obtain ⟨te, p, s⟩ := d
  exact ⟨fun pins sh σ H Q I h => p.run pins sh σ H Q I (can_of s h)⟩
theorem DenTs.can {X : Cx} {WX : L2.WX} {ev : EV Bool} {x : List Expr} (d : DenTs X WX ev x) : PTs X x (canT X.K WX RB ev) := by
  obtain ⟨te, p, s⟩ := d
  exact ⟨fun pins sh σ H Q I h => p.run pins sh σ H Q I (can_of s h)⟩
end Wz

set_option Elab.async false
set_option linter.all false
set_option maxRecDepth 100000
set_option maxHeartbeats 4000000
namespace Wz
open PySem PySem.Spec PyProof.Rows L2

/-! ### calls without arguments, of methods, of classes -/
section
variable {X : Cx} {CX : CXT} {k : Nat} {g C : Addr} {fd : FuncData} {ps : List Str} {sp : Sp} {E : L2.St → XK} {x m : Str} {p apos cpos : Pos} {o : Expr} {es : List Expr} {ta : TE} {t : TA}
theorem pe_callN (F : FnOk X.prog X.w X.K X.mg X.base CX k g fd ps sp) (room : Room k X.A) (gl : Gl X x) (at_ : X.mg x = some (.ref g)) (kp : PySem.W.keepIn X.K (.ref g) = true) (bd : Binds X.K fd ps []) (ex : ∀ σ, PassesAt CX X σ (E σ))
    (db : (x == ("__debug__" : Str)) = false) : PE X (.Call (.Name x p) [] [] cpos) (tCallS sp E tNil) :=
  ⟨fun pins s σ H Q I h => wpAny_Call_Name_kw (ld_glob I gl at_ (PySem.W.callWith_K0 I.kIn kp (run_fnS (us := []) F room bd (ex σ) I .nil h)) db)⟩
def impB (o : Expr) (env : Env) : Sem Bool := do return (← importBound o env).getD true
/-- o.m(..) on one line, the object no super() -/
theorem mth_tree {env : Env} (hb : ∀ w, attributeBase o m env w = w) (hl : (apos.endLine == cpos.line) = true) (hs : ∀ y ∈ es, isStar y = false) (hn : es.length < 30) : eval (.Call (.Attribute o m apos) es [] cpos) env = (do
    let ov ← eval o env
    standAt apos.atName
    let (f, first) ← holding [ov] (getMethod ov m (impB o env))
    callWith cpos f first (backTo cpos (starEach es env)) (backToKw cpos (keywordEach [] env))) := by
  have few : methodCallForm (es.length + ([] : List Keyword).length) (backTo cpos (starEach es env)) (backToKw cpos (keywordEach [] env)) = true := by
    have h1 : (backTo cpos (starEach es env)).all (fun q => !q.1) = true := by
      have h2 := star_all (pos := cpos) (en := env) hs
      rw [List.all_eq_not_any_not]
      simpa using h2
    show ((backTo cpos (starEach es env)).all (fun q => !q.1) && (backToKw cpos (keywordEach [] env)).all (fun q => q.1.isSome) && decide (es.length + 0 + (if (backToKw cpos (keywordEach [] env)).isEmpty then 0 else 1) < 30)) = true
    rw [h1]
    have h3 : backToKw cpos (keywordEach [] env) = [] := rfl
    rw [h3]
    simpa using hn
  have pos_ : methodCallPos true o env apos cpos = pure cpos := by
    unfold methodCallPos
    rw [hl]
    rfl
  rw [arm_eval_Call, hb]
  congr 1
  funext ov
  congr 1
  funext _
  unfold methodCall
  rw [few, pos_]
  rfl
theorem pe_mth (he : PE X o ta) (c : Cls X.K C) (hm : Meth X.K C m g) (F : FnOk X.prog X.w X.K X.mg X.base CX k g fd ps sp) (room : Room k X.A) (bd : Binds X.K fd ps []) (ex : ∀ σ, PassesAt CX X σ (E σ)) (ha : PA X es t)
    (hb : ∀ w, attributeBase o m X.env w = w) (hl : (apos.endLine == cpos.line) = true) (hs : ∀ y ∈ es, isStar y = false) (hn : es.length < 30) (hne : es ≠ []) :
    PE X (.Call (.Attribute o m apos) es [] cpos) (tMethS C m sp E ta t) := by
  refine ⟨fun pins s σ H Q I h => PySem.W.methodCall_KW (pl := impB o X.env) (thn (he.run pins s σ H _ I h) ?_) (mth_tree hb hl hs hn)⟩
  rintro u s1 ⟨x, H1, I1, rx, a, dx, fs, rfl, ea, l, q⟩
  cases (show u = Value.ref a from rx)
  refine getmeth_ok I1 ea c hm l ?_
  obtain ⟨e, es, rfl⟩ : ∃ e r, es = e :: r := by
    cases es with
    | nil => exact absurd rfl hne
    | cons e r => exact ⟨e, r, rfl⟩
  refine PySem.W.callWith_K (first := [.ref a]) (h₀ := X.base) I1.ok.mod.kin hm.kp (thn (ha.run cpos pins s1 σ H1 _ I1 q) ?_) (star_ne (hs e List.mem_cons_self)) (star_all fun y hy => hs y (List.mem_cons_of_mem _ hy))
  rintro us s2 ⟨vs, H2, I2, r, q2⟩
  exact ⟨I2.kIn, run_fnS (us := .ref a :: us) (vs := .ref a :: vs) F room bd (ex σ) I2 (.cons rfl r) q2⟩
theorem pe_mthN (he : PE X o ta) (c : Cls X.K C) (hm : Meth X.K C m g) (F : FnOk X.prog X.w X.K X.mg X.base CX k g fd ps sp) (room : Room k X.A) (bd : Binds X.K fd ps []) (ex : ∀ σ, PassesAt CX X σ (E σ))
    (hb : ∀ w, attributeBase o m X.env w = w) (hl : (apos.endLine == cpos.line) = true) : PE X (.Call (.Attribute o m apos) [] [] cpos) (tMethS C m sp E ta tNil) := by
  refine ⟨fun pins s σ H Q I h => PySem.W.methodCall_KW (pl := impB o X.env) (thn (he.run pins s σ H _ I h) ?_) (mth_tree hb hl (fun _ z => by cases z) (by decide))⟩
  rintro u s1 ⟨x, H1, I1, rx, a, dx, fs, rfl, ea, l, q⟩
  cases (show u = Value.ref a from rx)
  exact getmeth_ok I1 ea c hm l (PySem.W.callWith_K0 (first := [.ref a]) I1.kIn hm.kp (run_fnS (us := [.ref a]) (vs := [.ref a]) F room bd (ex σ) I1 (.cons rfl .nil) q))
end
end Wz

set_option Elab.async false
set_option linter.all false
set_option maxRecDepth 100000
set_option maxHeartbeats 4000000
namespace Wz
open PySem PySem.Spec PyProof.Rows L2

/-! ### try with several clauses, some of them with a name -/
structure Cl where
  c : Value
  i : Option Nat
  ts : Addr → Value → Option Addr → TS
def Cl.to (q : Cl) (a : Addr) (σ : L2.St) : L2.St := match q.i with
  | none => σ
  | some i => σ.set i (some (.ref a))
def Cl.off (q : Cl) (σ : L2.St) : L2.St := match q.i with
  | none => σ
  | some i => σ.set i none
def Cl.ends (q : Cl) (D : Ends) : Ends := { nx := fun σ H => D.nx (q.off σ) H, rt := D.rt, bk := fun σ H => D.bk (q.off σ) H, ct := fun σ H => D.ct (q.off σ) H }
def wMix (K : PySem.W.Frag) (Wo : WX) (D : Ends) : List Cl → WX
  | [] => Wo
  | q :: r => fun cls d σ H => ∃ b, PySem.W.exmOne K cls q.c = some b ∧ (b = true → ∀ a, H a = none → q.ts a cls d (q.ends D) (q.to a σ) H) ∧ (b = false → wMix K Wo D r cls d σ H)
def SuOk (X : Cx) (su : List Stmt) (ts : Addr → Value → Option Addr → TS) : Prop := ∀ (a : Addr) (oe : Obj) (cls : Value) (d : Option Addr) (pn : List (Addr × Obj)), Zc cls d oe → (∃ vs, oe.data = .fields vs) → PSs (X.suite a ((a, oe) :: pn)) su (ts a cls d)
inductive HdM (X : Cx) : List ExceptHandler → List Cl → Prop
  | nil : HdM X [] []
  | plain {x : Str} {c : Value} {ts : Addr → Value → Option Addr → TS} {b₀ : Stmt} {su : List Stmt} {np p2 : Pos} {hs : List ExceptHandler} {l : List Cl} (nm : Names X x c) (ok : SuOk X (b₀ :: su) ts) (r : HdM X hs l) :
      HdM X (.ExceptHandler (some (.Name x np)) none (b₀ :: su) p2 :: hs) (⟨c, none, ts⟩ :: l)
  | named {x n : Str} {i : Nat} {c : Value} {ts : Addr → Value → Option Addr → TS} {b₀ : Stmt} {su : List Stmt} {np p2 : Pos} {hs : List ExceptHandler} {l : List Cl} (nd : X.N.Nodup) (ix : X.N[i]? = some n) (lc : X.env.kindOf n = some .local) (nm : Names X x c)
      (ok : SuOk X (b₀ :: su) ts) (r : HdM X hs l) : HdM X (.ExceptHandler (some (.Name x np)) (some n) (b₀ :: su) p2 :: hs) (⟨c, some i, ts⟩ :: l)
section
variable {X : Cx} {body : List Stmt} {h₀ : ExceptHandler} {hs : List ExceptHandler} {l : List Cl} {p1 : Pos} {tb : WX → TS} {Wo : WX}
/-- the exception has landed; the clauses are asked, one after the other -/
theorem mix_go {pins : List (Addr × Obj)} {D : Ends} {a : Addr} {B : Heap} {z t : Shared} {σ : L2.St} {H : Hp} {cls : Value} {d : Option Addr} {hp : Heap} (stk : X.stack = X.env :: X.outer) (frm : X.env.frame = some X.env.locals) (tk : Takes X Wo) (J : Inv X pins σ H z)
    (nb : ∀ b o, z.heap.get? b = some o → b ∉ frs X.stack → B.get? b = some o) (up : z.heap.UpToSlots hp) (fl : HandSPX.FlyingZ B (X.env :: X.outer) a (Zc cls d) hp) (na : H a = none) (os : t.os = z.os) (ag : AllBare t.gens) (nL : a ≠ X.env.locals) (nF : a ∉ X.fs) :
    ∀ {hds : List ExceptHandler} {ls : List Cl}, HdM X hds ls → wMix X.K Wo D ls cls d σ H → wpAny (model X.prog X.w) X.A (handleBy (.ref a) X.env hds) (SP X pins D) X.xe { t with heap := hp } := by
  have at3 : Inv X pins σ H { t with heap := hp } := J.landed nb fl.1 up os ag
  obtain ⟨ob3, v3, get3, zc3, dt3⟩ := fl.there
  have su3 := at3.suite get3 dt3 na nL nF
  have ty3 : PySem.W.Looks (model X.prog X.w) hp (typeOf (.ref a)) cls := fun A Q E s k q => wpAny_typeOf_ref (k _ _ get3) (by rw [zc3.1]; exact q)
  have name_ : ∀ {x : Str} {c : Value} {np : Pos} {Q E : Value → Shared → Prop}, Names X x c → Q c { t with heap := hp } → wpAny (model X.prog X.w) (X.A.mark (some (.ref a))) (eval (.Name x np) X.env) Q E { t with heap := hp } := fun {x c np Q E} nm q => by
    obtain ⟨g1, g2, g3 | ⟨g3, g4, g5⟩⟩ := nm
    · exact ld_glob (X := X.suite a ((a, ob3) :: (X.pn ++ pins))) su3 g1 g3 q g2
    · exact ld_blt (X := X.suite a ((a, ob3) :: (X.pn ++ pins))) su3 g1 g3 g4 q g5 g2
  intro hds ls hk
  induction hk with
  | nil =>
    intro w
    refine wpAny_handleBy_nil ?_
    obtain ⟨_, _, _, oe, vs, T, _, _, get4, zc4, dt4, one4, _⟩ := id fl
    unfold PySem.passOn
    refine wpAny_bind (wpAny_field get4 dt4 one4 ?_)
    rw [if_neg (show ¬ ((Value.ref T == Value.none) = true) from by simp)]
    have last_ : wpAny (model X.prog X.w) X.A (setFlight (.ref a) X.env.frame) (fun _ t4 => wpAny (model X.prog X.w) X.A (throw (.ref a) : Sem Flow) (SP X pins D) X.xe t4) X.xe { t with heap := hp } := by
      rw [frm]
      exact HandSPX.setFlight_upZ fl fun h4 held4 up4 => wpAny_throw (tk _ _ ⟨a, B, z, pins, σ, H, cls, d, rfl, J, nb, up.trans up4, .inr (.inr (by rw [stk]; exact held4)), na, os, ag, w⟩)
    first
      | exact wpAny_bind (wpAny_pure (wpAny_bind last_))
      | exact wpAny_bind last_
  | @plain x c ts b₀ su np p2 hds2 l2 nm ok r ih =>
    rintro ⟨b, eb, yes, no⟩
    refine wpAny_handleBy_cons (codeAny_handlers_test ?_) (fun q => by cases q)
    refine name_ nm ((PySem.W.exm_one (M := model X.prog X.w) at3.kIn ty3 eb).here ?_)
    cases b with
    | false => exact ih (no rfl)
    | true =>
      refine codeAny_handlers_suite (HandSPX.lands_againZ fl fun h4 fl4 up4 => ?_)
      obtain ⟨ob4, v4, get4, zc4, dt4⟩ := fl4.there
      have at4 : Inv X pins σ H { t with heap := h4 } := J.landed nb fl4.1 (up.trans up4) os ag
      refine wpAny_mono ((ok a ob4 cls d (X.pn ++ pins) zc4 ⟨_, dt4⟩).run [] _ _ H _ (at4.suite get4 dt4 na nL nF) (yes rfl a na)) (fun f t6 e6 => ?_) (fun _ _ q => q.elim)
      cases f with
      | ret u =>
        obtain ⟨v6, σ6, H6, I6, r6, q6⟩ := e6
        exact ⟨v6, σ6, H6, I6.unsuite J.ok, r6, q6⟩
      | _ =>
        obtain ⟨σ6, H6, I6, q6⟩ := e6
        exact ⟨σ6, H6, I6.unsuite J.ok, q6⟩
  | @named x n i c ts b₀ su np p2 hds2 l2 nd ix lc nm ok r ih =>
    rintro ⟨b, eb, yes, no⟩
    refine wpAny_handleBy_cons (codeAny_handlers_test ?_) (fun q => by cases q)
    refine name_ nm ((PySem.W.exm_one (M := model X.prog X.w) at3.kIn ty3 eb).here ?_)
    cases b with
    | false => exact ih (no rfl)
    | true =>
      refine codeAny_handlers_suite_as (HandSPX.lands_againZ fl fun h4 fl4 up4 => ?_)
      obtain ⟨ob4, v4, get4, zc4, dt4⟩ := fl4.there
      have at4 : Inv X pins σ H { t with heap := h4 } := J.landed nb fl4.1 (up.trans up4) os ag
      refine store_ok (X := X.suite a ((a, ob4) :: (X.pn ++ pins))) (v := .ref a) (at4.suite get4 dt4 na nL nF) nd ix (.inl lc) rfl (fun t5 I5 => ?_) (.inr lc)
      refine wpAny_mono ((ok a ob4 cls d (X.pn ++ pins) zc4 ⟨_, dt4⟩).run [] t5 _ H _ I5 (yes rfl a na)) (fun f t6 e6 => ?_) (fun _ _ q => q.elim)
      have gone : ∀ {σ6 : L2.St} {H6 : Hp} {Q : Shared → Prop}, Inv (X.suite a ((a, ob4) :: (X.pn ++ pins))) [] σ6 H6 t6 → (∀ t7, Inv X pins (σ6.set i none) H6 t7 → Q t7) →
          wpAny (model X.prog X.w) X.A (do bindName X.env n .none; unbindBehindTheSuite X.env n p2) (fun _ t7 => Q t7) X.xe t6 := fun {σ6 H6 Q} I6 hq => gone_ok (I6.unsuite J.ok) nd ix lc hq
      cases f with
      | ret u =>
        obtain ⟨v6, σ6, H6, I6, r6, q6⟩ := e6
        exact gone I6 fun t7 J7 => ⟨_, _, _, J7, r6, q6⟩
      | next =>
        obtain ⟨σ6, H6, I6, q6⟩ := e6
        exact gone I6 fun t7 J7 => ⟨_, _, J7, q6⟩
      | brk =>
        obtain ⟨σ6, H6, I6, q6⟩ := e6
        exact gone I6 fun t7 J7 => ⟨_, _, J7, q6⟩
      | cont =>
        obtain ⟨σ6, H6, I6, q6⟩ := e6
        exact gone I6 fun t7 J7 => ⟨_, _, J7, q6⟩
theorem ps_try_mix (stk : X.stack = X.env :: X.outer) (frm : X.env.frame = some X.env.locals) (tk : Takes X Wo)
    (hb : ∀ (W : WX) (pn : List (Addr × Obj)) (xe : Value → Shared → Prop), Takes (X.tr pn xe) W → PassesOwn (model X.prog X.w) X.A X.env xe → PSs (X.tr pn xe) body (tb W))
    (hh : HdM X (h₀ :: hs) l) : PS X (.Try body (h₀ :: hs) [] [] p1) (fun D σ H => tb (wMix X.K Wo D l) D σ H) := by
  refine ⟨fun pins s σ H D I h => wpAny_Try_except ?_⟩
  have caught : Takes (X.tr (X.pn ++ pins) (fun e s₁ => wpAny (model X.prog X.w) X.A (noteFrame e X.env) (fun _ s₂ => wpAny (model X.prog X.w) X.A (setFlight e none) (fun _ s₃ =>
      wpAny (model X.prog X.w) X.A (handleBy e X.env (h₀ :: hs)) (SP X pins D) X.xe s₃) X.xe s₂) X.xe s₁)) (wMix X.K Wo D l) := by
    rintro u t ⟨a, B, z, pins', σ', H', cls, d, rfl, J', nb, up, sky, na, os, ag, w⟩
    have J : Inv X pins σ' H' z := J'.ofTry I.ok
    have sky' : Sky B (X.env :: X.outer) a (Zc cls d) X.env.locals t.heap := by
      rw [← stk]
      exact sky
    refine Sky.land Zc.steady (by rw [I.ok.frames, stk]) frm sky' fun h3 fl3 up3 => ?_
    obtain ⟨oe3, vs3, get3, _, dt3⟩ := fl3.there
    have nfr : a ∉ frs (X.env :: X.outer) := fun hm => by
      obtain ⟨_, o', e', hnf⟩ := fl3.2.2.1.mem hm
      rw [get3] at e'
      cases e'
      exact hnf _ dt3
    refine mix_go stk frm tk J nb (up.trans up3) fl3 na os ag (fun q => nfr ?_) (fun q => nfr ?_) hh w
    · exact List.mem_filterMap.mpr ⟨X.env, List.mem_cons_self, by rw [frm, q]⟩
    · obtain ⟨e, he, q2⟩ := List.mem_filterMap.mp q
      exact List.mem_filterMap.mpr ⟨e, List.mem_cons_of_mem _ he, q2⟩
  refine wpAny_mono ((hb (wMix X.K Wo D l) (X.pn ++ pins) _ caught PassesOwn.looking).run [] s σ H D (I.toTry _) h) (fun f s1 e1 => ?_) (fun e s1 he => he)
  cases f with
  | ret u =>
    obtain ⟨v, σ', H', J', r, q⟩ := e1
    exact ⟨v, σ', H', J'.ofTry I.ok, r, q⟩
  | next =>
    obtain ⟨σ', H', J', q⟩ := e1
    exact wpAny_execs_nil ⟨σ', H', J'.ofTry I.ok, q⟩
  | brk =>
    obtain ⟨σ', H', J', q⟩ := e1
    exact ⟨σ', H', J'.ofTry I.ok, q⟩
  | cont =>
    obtain ⟨σ', H', J', q⟩ := e1
    exact ⟨σ', H', J'.ofTry I.ok, q⟩
end
end Wz

set_option Elab.async false
set_option linter.all false
set_option maxRecDepth 100000
set_option maxHeartbeats 4000000
namespace Wz
open PySem PySem.Spec PyProof.Rows L2

section
variable {K : PySem.W.Frag} {WX : L2.WX} {W W0 W1 W2 Wc : Wd} {H H0 H1 H2 H' : Hp} {σ σ1 : L2.St} {ρ ρ1 : List Slot} {S S' S1 : List Cell} {E0 : Hp} {np n0 : Nat} {X : Cx} {D : Ends}
/-! ### raise -/
def sRaise (c : Str) : EVS := fun _ ρ S => .exc c none ρ S
theorem snds_raise {c : Str} : SndS K WX np (fun _ σ H => WX (.ref (He.ga K c)) none σ H) (sRaise c) := by
  intro E0 n0 W ρ S σ H D r hl n
  exact n _ _ W σ H .refl r hl .refl ⟨rfl, rfl⟩
def sRaiseV (c : Str) (e : EV Rv) : EVS := fun _ ρ S => sE (e ρ S) ρ fun r S1 => match r.fz with
  | some d => .exc c (some d) ρ S1
  | none => .stuck
theorem snds_raiseV {c : Str} {te : TE} {e : EV Rv} (h : Snd K WX (RvOk K) te e) :
    SndS K WX np (fun _ σ H => tMkO (He.ga K c) (spI (He.ga K c) (exF c)) [] (tCons te tNil) σ H fun cls d H' => WX cls d σ H') (sRaiseV c e) := by
  intro E0 n0 W ρ S σ H D r hl n
  refine h E0 np W ρ S σ H _ r (SNeed.bind r hl n fun rv S1 e1 v W1 H1 st r1 hl1 rr n1 => ?_)
  refine ⟨by show 1 ≤ 1000; omega, fun a ha => ?_⟩
  rw [List.append_nil]
  refine ⟨a, v, rfl, upd_same, fun dx hdx hne => ⟨rfl, dx, [(exF c, v)], upd_same, (upd_ne hne).trans upd_same, (upd_ne hne).symm.trans hdx, ?_⟩⟩
  have hd : H1 dx = none := (upd_ne hne).symm.trans hdx
  have eh : upd (del (upd (upd (upd H1 a (exo a (He.ga K c) none)) dx (exd dx [(exF c, v)])) a (exo a (He.ga K c) (some dx))) a) dx (.xd [(exF c, v)]) = upd H1 dx (.xd [(exF c, v)]) := by
    funext b
    by_cases hb : b = dx
    · rw [hb, upd_same, upd_same]
    · rw [upd_ne hb, upd_ne hb]
      by_cases hc : b = a
      · rw [hc, del_same, ha]
      · rw [del_ne hc, upd_ne hc, upd_ne hb, upd_ne hc]
  rw [eh]
  cases qf : rv.fz with
  | none => simp only [qf] at n1; exact n1.elim
  | some d =>
    simp only [qf] at n1
    obtain ⟨W2, st2, r2, rep, _⟩ := Rel.freeze2 st r1 (RvOk.rf rr qf) qf
    have s3 : EStep W2 H1 W2 (upd H1 dx (.xd [(exF c, v)])) := new_st hd
    exact n1 _ _ W2 σ _ (st2.trans s3).st (r2.estep s3 (new_w r2.wok hd fun _ z => by cases z) (new_o r2.wok r2.obs hd)) hl1 .refl ⟨rfl, dx, exF c, v, rfl, upd_same, s3.rep rep, rfl⟩

/-! ### an exception's dict is nobody's -/
theorem ContR.noxd {p : Addr} {d : Wz.D} {fs : List (Str × V)} (h : ContR K W H p d) : ¬ H p = Option.some (HO.xd fs) := by
  cases d with
  | lst l => obtain ⟨vs, e, _⟩ := h; rw [e]; intro z; cases z
  | dk l => obtain ⟨vs, e | ⟨o, e⟩, _⟩ := h <;> (rw [e]; intro z; cases z)
  | dt l => obtain ⟨vs, e | ⟨o, e⟩, _⟩ := h <;> (rw [e]; intro z; cases z)
  | _ => exact h.elim
theorem xd_free {x : Addr} {fs : List (Str × V)} (r : Rel K E0 np W ρ S σ H) (hx : H x = some (HO.xd fs)) (o : Ow) : W.ow o ≠ some x := fun z => by
  cases o with
  | sl i =>
    by_cases q : ∃ d, ρ[i]? = some (.own d)
    · obtain ⟨d, q⟩ := q
      obtain ⟨p, _, h2, h3⟩ := r.slots i _ q
      rw [z] at h2
      cases h2
      exact h3.r.noxd hx
    · rw [r.nsl i fun d q2 => q ⟨d, q2⟩] at z
      cases z
  | ob n =>
    rcases Nat.lt_or_ge n S.length with q | q
    · have k := r.obs.at_ n _ (List.getElem?_eq_getElem q)
      cases hc : S[n] with
      | box d =>
        rw [hc] at k
        obtain ⟨p, h1, h2⟩ := k
        rw [z] at h1
        cases h1
        exact h2.r.noxd hx
      | lbx d =>
        rw [hc] at k
        obtain ⟨p, h1, h2⟩ := k
        rw [z] at h1
        cases h1
        exact h2.noxd hx
      | ins c gs =>
        rw [hc] at k
        obtain ⟨p, dx, vs, h1, h2, _⟩ := k
        rw [z] at h1
        cases h1
        rw [hx] at h2
        cases h2
    · rw [(r.obs.nob n q).1] at z
      cases z
  | fl n f =>
    cases q : ownF S n f with
    | false =>
      rw [r.obs.nof n f q] at z
      cases z
    | true =>
      unfold ownF at q
      cases e : S[n]? with
      | none => rw [e] at q; cases q
      | some cl =>
        rw [e] at q
        cases cl with
        | ins c gs =>
          have q' : isOw (gs.lookup f) = true := q
          cases el : gs.lookup f with
          | none => rw [el] at q'; cases q'
          | some y =>
            rw [el] at q'
            obtain ⟨p, dx, vs, h1, h2, h3⟩ := r.obs.at_ n _ e
            obtain ⟨u, k1, k2⟩ := h3.look el
            cases y with
            | val d => cases q'
            | own d =>
              obtain ⟨p2, _, k4, k5⟩ := k2
              rw [z] at k4
              cases k4
              exact k5.r.noxd hx
            | lck d =>
              obtain ⟨p2, _, k4, k5⟩ := k2
              rw [z] at k4
              cases k4
              exact k5.noxd hx
        | _ => cases q
theorem ExcOk.sstep {c : Str} {av : Option Wz.D} {cls : Value} {dd : Option Addr} (r : Rel K E0 np W ρ S σ H) (st : SStep n0 W H W1 H1) (h : ExcOk K W H c av cls dd) : ExcOk K W1 H1 c av cls dd := by
  cases av with
  | none => exact h
  | some d =>
    obtain ⟨h1, x, f, v, h2, h3, h4, h5⟩ := h
    exact ⟨h1, x, f, v, h2, st.keep _ _ h3 (xd_free r h3), st.rep h4, h5⟩

/-! ### the suites of except clauses -/
inductive Sx where
  | str (s : Str) | int (i : Int) | bl (b : Bool) | non | exf | pair (a b : Sx)
inductive Su where
  | set (j : Nat) (x : Sx) | ret (x : Sx) | pass
def Sx.ev (av : Option Wz.D) : Sx → Option Wz.D
  | .str s => some (.str s)
  | .int i => some (.int i)
  | .bl b => some (.bl b)
  | .non => some .non
  | .exf => av
  | .pair a b => match a.ev av, b.ev av with
    | some x, some y => some (.tup [x, y])
    | _, _ => none
def evU (av : Option Wz.D) : List Su → EVS
  | [] => sNil
  | .set j x :: r => fun n0 ρ S => match x.ev av with
    | some d => if j < ρ.length then evU av r n0 (ρ.set j (.val d)) S else .stuck
    | none => .stuck
  | .ret x :: _ => fun _ ρ S => match x.ev av with
    | some d => .rt (.val d) ρ S
    | none => .stuck
  | .pass :: r => evU av r
def kPair (f g : Expr → Bool) : Expr → Bool
  | .Tuple es _ _ => match es with
    | [x, y] => (!isStar x && f x) && (!isStar y && g y)
    | _ => false
  | _ => false
def exSl (c : Sig) (i : Option Nat) (e : Expr) : Bool := match i with
  | some j => kSlot (slotB c j) e
  | none => false
def fitX (c : Sig) (cn : Str) (i : Option Nat) : Sx → Expr → Bool
  | .str s => kStr s
  | .int k => kInt k
  | .bl b => kBl b
  | .non => kNon
  | .exf => kAttr (exF cn) fun e => c.exV.contains cn && exSl c i e
  | .pair a b => kPair (fitX c cn i a) (fitX c cn i b)
structure Hd where
  c : Str
  i : Option Nat
  us : List Su
def sTry (xs : List Str) (body : EVS) (hs : List Hd) : EVS := fun n0 ρ S => match body n0 ρ S with
  | .exc c a ρ1 S1 => if xs.contains c = true then match hs.find? fun h => decide (c = h.c) with
      | some h => match h.i with
        | none => evU a h.us n0 ρ1 S1
        | some i => if i < ρ1.length then evU a h.us n0 (ρ1.set i .non) S1 else .stuck
      | none => .exc c a ρ1 S1
    else .stuck
  | o => o
def canS (K : PySem.W.Frag) (np : Nat) (ev : EVS) (WX : L2.WX) : TS := fun D σ H => ∃ E0 n0 W ρ S, Rel K E0 np W ρ S σ H ∧ n0 ≤ S.length ∧ SNeed K WX E0 np n0 ρ W σ H D (ev n0 ρ S)
/-- what a suite wants: the exception at ad, its class, its dict -/
def canU (K : PySem.W.Frag) (np : Nat) (c : Str) (i : Option Nat) (us : List Su) (ad : Addr) (cls : Value) (dd : Option Addr) : TS := fun D σ H => ∃ E0 n0 W ρ S av, Rel K E0 np W ρ S σ H ∧ n0 ≤ S.length ∧ ExcOk K W H c av cls dd ∧ (∀ j, i = some j → σ[j]? = some (some (.ref ad))) ∧ SNeed K WXF E0 np n0 ρ W σ H D (evU av us n0 ρ S)
theorem evU_exc {av : Option Wz.D} : ∀ {us : List Su} {ρ : List Slot} {c : Str} {a : Option Wz.D} {ρ' : List Slot} {S' : List Cell}, evU av us n0 ρ S ≠ .exc c a ρ' S'
  | [], ρ, c, a, ρ', S', h => by cases h
  | .pass :: r, ρ, c, a, ρ', S', h => evU_exc (us := r) h
  | .ret x :: r, ρ, c, a, ρ', S', h => by
    unfold evU at h
    cases e : x.ev av with
    | none => rw [e] at h; cases h
    | some d => rw [e] at h; cases h
  | .set j x :: r, ρ, c, a, ρ', S', h => by
    unfold evU at h
    cases e : x.ev av with
    | none => rw [e] at h; cases h
    | some d =>
      simp only [e] at h
      split at h
      · exact evU_exc h
      · cases h
def usOk (i : Nat) : List Su → Bool
  | [] => true
  | .set j _ :: r => !decide (j = i) && usOk i r
  | _ :: r => usOk i r
theorem evU_at {av : Option Wz.D} {i : Nat} : ∀ {us : List Su} {ρ ρ' : List Slot} {S' : List Cell}, usOk i us = true → evU av us n0 ρ S = .nx ρ' S' → ρ'[i]? = ρ[i]?
  | [], ρ, ρ', S', _, h => by cases h; rfl
  | .pass :: r, ρ, ρ', S', o, h => evU_at (us := r) o h
  | .ret x :: r, ρ, ρ', S', o, h => by
    unfold evU at h
    cases e : x.ev av with
    | none => rw [e] at h; cases h
    | some d => rw [e] at h; cases h
  | .set j x :: r, ρ, ρ', S', o, h => by
    have o' : (!decide (j = i) && usOk i r) = true := o
    simp only [Bool.and_eq_true, Bool.not_eq_true', decide_eq_false_iff_not] at o'
    unfold evU at h
    cases e : x.ev av with
    | none => rw [e] at h; cases h
    | some d =>
      simp only [e] at h
      split at h
      · rw [evU_at o'.2 h, List.getElem?_set_ne o'.1]
      · cases h
theorem SNeed.swap {o : SOut} {WX' : L2.WX} (h : ∀ c a ρ' S', o ≠ .exc c a ρ' S') (n : SNeed K WX E0 np n0 ρ W σ H D o) : SNeed K WX' E0 np n0 ρ W σ H D o := by
  cases o with
  | exc c a ρ' S' => exact absurd rfl (h c a ρ' S')
  | nx ρ' S' => exact n
  | rt rv ρ' S' => exact n
  | stuck => exact n
/-- a slot of which nothing is known -/
theorem rel_any {i : Nat} {v : Option V} (r : Rel K E0 np W ρ S σ H) (e : ρ[i]? = some .non) : Rel K E0 np W ρ S (σ.set i v) H where
  wok := r.wok
  obs := r.obs
  slots j s es := by
    by_cases ej : j = i
    · subst ej
      rw [e] at es
      cases es
      exact True.intro
    · have k := r.slots j s es
      have eq : (σ.set i v)[j]? = σ[j]? := List.getElem?_set_ne (Ne.symm ej)
      cases s with
      | non => exact True.intro
      | val d =>
        obtain ⟨u, k1, k2⟩ := k
        exact ⟨u, eq.trans k1, k2⟩
      | own d =>
        obtain ⟨u, k1, k2⟩ := k
        exact ⟨u, eq.trans k1, k2⟩
      | lck d =>
        obtain ⟨u, k1, k2⟩ := k
        exact ⟨u, eq.trans k1, k2⟩
  len := by rw [List.length_set]; exact r.len
  nsl := r.nsl
  frs := r.frs
  ent := r.ent
theorem lk_any {i : Nat} {v : Option V} (e : ρ[i]? = some .non) : LK ρ σ ρ (σ.set i v) := fun j d h => by
  refine ⟨h, List.getElem?_set_ne fun z => ?_⟩
  subst z
  rw [e] at h
  cases h
def clOf (K : PySem.W.Frag) (np : Nat) (h : Hd) : Cl := ⟨.ref (He.ga K h.c), h.i, canU K np h.c h.i h.us⟩
def hdOk (h : Hd) : Bool := match h.i with
  | none => true
  | some i => usOk i h.us
/-- the clauses, one after the other -/
theorem mix_need {xs : List Str} {c : Str} {a : Option Wz.D} (hc : xs.contains c = true) {cls : Value} {dd : Option Addr} (r : Rel K E0 np W ρ S σ H) (hl : n0 ≤ S.length) (x : ExcOk K W H c a cls dd) :
    ∀ (hs : List Hd), (∀ h ∈ hs, hdOk h = true ∧ ∀ c ∈ xs, PySem.W.exmOne K (.ref (He.ga K c)) (.ref (He.ga K h.c)) = some (decide (c = h.c))) →
    SNeed K WX E0 np n0 ρ W σ H D (match hs.find? fun h => decide (c = h.c) with
      | some h => match h.i with
        | none => evU a h.us n0 ρ S
        | some i => if i < ρ.length then evU a h.us n0 (ρ.set i .non) S else .stuck
      | none => .exc c a ρ S) → wMix K WX D (hs.map (clOf K np)) cls dd σ H
  | [], _, n => n _ _ W σ H .refl r hl .refl x
  | h :: hs, ok, n => by
    have ecls : cls = .ref (He.ga K c) := by
      cases a with
      | none => exact x.1
      | some d => exact x.1
    obtain ⟨o1, o2⟩ := ok h List.mem_cons_self
    refine ⟨decide (c = h.c), by rw [ecls]; exact o2 c (List.contains_iff_mem.mp hc), fun e ad had => ?_, fun e => ?_⟩
    · have ec : c = h.c := of_decide_eq_true e
      rw [List.find?_cons, e] at n
      dsimp only at n
      show canU K np h.c h.i h.us ad cls dd (Cl.ends (clOf K np h) D) (Cl.to (clOf K np h) ad σ) H
      rw [← ec]
      cases hi : h.i with
      | none =>
        rw [hi] at n
        dsimp only at n
        have e1 : Cl.to (clOf K np h) ad σ = σ := by unfold Cl.to clOf; simp only [hi]
        have e2 : Cl.ends (clOf K np h) D = D := by
          have off : ∀ s, Cl.off (clOf K np h) s = s := fun s => by unfold Cl.off clOf; simp only [hi]
          unfold Cl.ends
          simp only [off]
        rw [e1, e2]
        exact ⟨E0, n0, W, ρ, S, a, r, hl, x, fun j z => (by cases z), n.swap fun _ _ _ _ => evU_exc⟩
      | some i =>
        rw [hi] at n
        dsimp only at n
        split at n
        · rename_i hlt
          have o3 : usOk i h.us = true := by
            unfold hdOk at o1
            rw [hi] at o1
            exact o1
          have e1 : Cl.to (clOf K np h) ad σ = σ.set i (some (.ref ad)) := by unfold Cl.to clOf; simp only [hi]
          have off : ∀ s, Cl.off (clOf K np h) s = s.set i none := fun s => by unfold Cl.off clOf; simp only [hi]
          rw [e1]
          have r2 := rel_non (i := i) r
          have at_ : (ρ.set i .non)[i]? = some .non := List.getElem?_set_self hlt
          have r3 := rel_any (v := some (.ref ad)) r2 at_
          have st : SStep n0 W H (W.put (.sl i) none) H := put_none_st
          have lk : LK ρ σ (ρ.set i .non) (σ.set i (some (.ref ad))) := .set fun _ z => by cases z
          refine ⟨E0, n0, _, _, S, a, r3, hl, ?_, fun j z => ?_, ?_⟩
          · exact x.sstep r st
          · cases z
            exact List.getElem?_set_self (by rw [← r.len]; exact hlt)
          · have n2 := SNeed.step st lk (n.swap (WX' := WXF) fun _ _ _ _ => evU_exc)
            cases eo : evU a h.us n0 (ρ.set i .non) S with
            | stuck => rw [eo] at n2; exact n2.elim
            | exc _ _ _ _ => exact absurd eo evU_exc
            | rt rv ρ2 S2 => rw [eo] at n2; exact n2
            | nx ρ2 S2 =>
              rw [eo] at n2
              intro W4 σ4 H4 s4 r4 l4 k4
              have a4 : ρ2[i]? = some .non := (evU_at o3 eo).trans at_
              show D.nx (Cl.off (clOf K np h) σ4) H4
              rw [off]
              exact n2 W4 _ H4 s4 (rel_any r4 a4) l4 (k4.trans (lk_any a4))
        · exact n.elim
    · rw [List.find?_cons, e] at n
      exact mix_need hc r hl x hs (fun h hh => ok h (List.mem_cons_of_mem _ hh)) n
theorem snds_try {xs : List Str} {hs : List Hd} {body : EVS} (ok : ∀ h ∈ hs, hdOk h = true ∧ ∀ c ∈ xs, PySem.W.exmOne K (.ref (He.ga K c)) (.ref (He.ga K h.c)) = some (decide (c = h.c))) :
    SndS K WX np (fun D σ H => canS K np body (wMix K WX D (hs.map (clOf K np))) D σ H) (sTry xs body hs) := by
  intro E0 n0 W ρ S σ H D r hl n
  refine ⟨E0, n0, W, ρ, S, r, hl, ?_⟩
  unfold sTry at n
  cases eo : body n0 ρ S with
  | stuck => rw [eo] at n; exact n.elim
  | nx ρ2 S2 => rw [eo] at n; exact n
  | rt rv ρ2 S2 => rw [eo] at n; exact n
  | exc c a ρ1 S1 =>
    rw [eo] at n
    dsimp only at n
    split at n
    · rename_i hc
      exact fun cls dd W2 σ2 H2 st r2 l2 lk x => mix_need hc r2 l2 x hs ok (SNeed.step st lk n)
    · exact n.elim
end
end Wz

set_option Elab.async false
set_option linter.all false
set_option maxRecDepth 100000
set_option maxHeartbeats 4000000
namespace Wz
open PySem PySem.Spec PyProof.Rows L2
/-! the forms, read back -/
theorem kSlot_ok {f : Str → Bool} {x : Expr} (h : kSlot f x = true) : ∃ n p, x = .Name n p ∧ f n = true := by
  cases x with
  | Name n p => exact ⟨n, p, rfl, h⟩
  | _ => cases h
theorem kInt_ok {i : Int} {x : Expr} (h : kInt i x = true) : ∃ j p, x = .Constant (.int i) j p := by
  cases x with
  | Constant k j p =>
    cases k with
    | int y => exact ⟨j, p, by rw [of_decide_eq_true (show decide (i = y) = true from h)]⟩
    | _ => cases h
  | _ => cases h
theorem kStr_ok {i : Str} {x : Expr} (h : kStr i x = true) : ∃ j p, x = .Constant (.str i) j p := by
  cases x with
  | Constant k j p =>
    cases k with
    | str y => exact ⟨j, p, by rw [of_decide_eq_true (show decide (i = y) = true from h)]⟩
    | _ => cases h
  | _ => cases h
theorem kBl_ok {i : Bool} {x : Expr} (h : kBl i x = true) : ∃ j p, x = .Constant (.bool i) j p := by
  cases x with
  | Constant k j p =>
    cases k with
    | bool y => exact ⟨j, p, by rw [of_decide_eq_true (show decide (i = y) = true from h)]⟩
    | _ => cases h
  | _ => cases h
theorem kNon_ok {x : Expr} (h : kNon x = true) : ∃ j p, x = .Constant .none j p := by
  cases x with
  | Constant k j p =>
    cases k with
    | none => exact ⟨j, p, rfl⟩
    | _ => cases h
  | _ => cases h
theorem kBin_ok {o : Operator → Bool} {f g : Expr → Bool} {x : Expr} (h : kBin o f g x = true) : ∃ l op r p, x = .BinOp l op r p ∧ o op = true ∧ f l = true ∧ g r = true := by
  cases x with
  | BinOp l op r p =>
    have h' : (o op && (f l && g r)) = true := h
    simp only [Bool.and_eq_true] at h'
    exact ⟨l, op, r, p, rfl, h'⟩
  | _ => cases h
theorem kCmp_ok {o : CmpOp → Bool} {f g : Expr → Bool} {x : Expr} (h : kCmp o f g x = true) : ∃ l op r p, x = .Compare l [op] [r] p ∧ o op = true ∧ f l = true ∧ g r = true ∧ behindInMarks op r = false := by
  cases x with
  | Compare l ops rs p =>
    cases ops with
    | nil => cases h
    | cons op t =>
      cases t with
      | cons _ _ => cases h
      | nil =>
        cases rs with
        | nil => cases h
        | cons r t =>
          cases t with
          | cons _ _ => cases h
          | nil =>
            have h' : (o op && (f l && (g r && !behindInMarks op r))) = true := h
            simp only [Bool.and_eq_true, Bool.not_eq_true'] at h'
            exact ⟨l, op, r, p, rfl, h'⟩
  | _ => cases h
theorem kUn_ok {u : UnaryOp → Bool} {f : Expr → Bool} {x : Expr} (h : kUn u f x = true) : ∃ op y p, x = .UnaryOp op y p ∧ u op = true ∧ f y = true := by
  cases x with
  | UnaryOp op y p =>
    have h' : (u op && f y) = true := h
    simp only [Bool.and_eq_true] at h'
    exact ⟨op, y, p, rfl, h'⟩
  | _ => cases h
theorem isNeg_ok {u : UnaryOp} (h : isNeg u = true) : u = .USub := by cases u <;> first | rfl | cases h
theorem isNot_ok {u : UnaryOp} (h : isNot u = true) : u = .Not := by cases u <;> first | rfl | cases h
theorem isAnd_ok {u : BoolOp} (h : isAnd u = true) : u = .And := by cases u <;> first | rfl | cases h
theorem isOr_ok {u : BoolOp} (h : isOr u = true) : u = .Or := by cases u <;> first | rfl | cases h
theorem kBo_ok {u : BoolOp → Bool} {f g : Expr → Bool} {x : Expr} (h : kBo u f g x = true) : ∃ op y z r p, x = .BoolOp op (y :: z :: r) p ∧ u op = true ∧ f y = true ∧ ((r = [] ∧ g z = true) ∨ ∃ w t, r = w :: t ∧ g (.BoolOp op (z :: w :: t) p) = true) := by
  cases x with
  | BoolOp op l p =>
    cases l with
    | nil => cases h
    | cons y l =>
      cases l with
      | nil => cases h
      | cons z r =>
        cases r with
        | nil =>
          have h' : (u op && (f y && g z)) = true := h
          simp only [Bool.and_eq_true] at h'
          exact ⟨op, y, z, [], p, rfl, h'.1, h'.2.1, .inl ⟨rfl, h'.2.2⟩⟩
        | cons w t =>
          have h' : (u op && (f y && g (.BoolOp op (z :: w :: t) p))) = true := h
          simp only [Bool.and_eq_true] at h'
          exact ⟨op, y, z, _, p, rfl, h'.1, h'.2.1, .inr ⟨w, t, rfl, h'.2.2⟩⟩
  | _ => cases h
theorem kIfe_ok {f g k : Expr → Bool} {x : Expr} (h : kIfe f g k x = true) : ∃ a b d p, x = .IfExp a b d p ∧ f a = true ∧ g b = true ∧ k d = true := by
  cases x with
  | IfExp a b d p =>
    have h' : (f a && (g b && k d)) = true := h
    simp only [Bool.and_eq_true] at h'
    exact ⟨a, b, d, p, rfl, h'⟩
  | _ => cases h
theorem kIdx_ok {f g : Expr → Bool} {x : Expr} (h : kIdx f g x = true) : ∃ a b p, x = .Subscript a b p ∧ isSlc b = false ∧ f a = true ∧ g b = true := by
  cases x with
  | Subscript a b p =>
    have h' : (!isSlc b && (f a && g b)) = true := h
    simp only [Bool.and_eq_true, Bool.not_eq_true'] at h'
    exact ⟨a, b, p, rfl, h'⟩
  | _ => cases h
theorem kSlc_ok {f : Expr → Bool} {g k : Option Expr → Bool} {x : Expr} (h : kSlc f g k x = true) : ∃ a l u q p, x = .Subscript a (.Slice l u none q) p ∧ f a = true ∧ g l = true ∧ k u = true := by
  cases x with
  | Subscript a b p =>
    cases b with
    | Slice l u s q =>
      cases s with
      | some _ => cases h
      | none =>
        have h' : (f a && (g l && k u)) = true := h
        simp only [Bool.and_eq_true] at h'
        exact ⟨a, l, u, q, p, rfl, h'⟩
    | _ => cases h
  | _ => cases h
theorem kTup_ok {f : List Expr → Bool} {x : Expr} (h : kTup f x = true) : ∃ es k p, x = .Tuple es k p ∧ f es = true := by
  cases x with
  | Tuple es k p => exact ⟨es, k, p, rfl, h⟩
  | _ => cases h
theorem kLst_ok {f : List Expr → Bool} {x : Expr} (h : kLst f x = true) : ∃ es p, x = .List es p ∧ f es = true := by
  cases x with
  | List es p => exact ⟨es, p, rfl, h⟩
  | _ => cases h
theorem kDct_ok {x : Expr} (h : kDct x = true) : ∃ p, x = .Dict [] [] p := by
  cases x with
  | Dict a b p =>
    cases a with
    | cons _ _ => cases h
    | nil =>
      cases b with
      | cons _ _ => cases h
      | nil => exact ⟨p, rfl⟩
  | _ => cases h
theorem kCall_ok {u : Str → Bool} {f : List Expr → Bool} {x : Expr} (h : kCall u f x = true) : ∃ n p es q, x = .Call (.Name n p) es [] q ∧ u n = true ∧ f es = true := by
  cases x with
  | Call fn es ks q =>
    cases ks with
    | cons _ _ => cases h
    | nil =>
      have h' : (kSlot u fn && f es) = true := h
      simp only [Bool.and_eq_true] at h'
      obtain ⟨n, p, rfl, hn⟩ := kSlot_ok h'.1
      exact ⟨n, p, es, q, rfl, hn, h'.2⟩
  | _ => cases h
theorem kEnS_ok {u : Str → Bool} {k : Int} {f : Expr → Bool} {x : Expr} (h : kEnS u k f x = true) : ∃ n p e j p2 kp q, x = .Call (.Name n p) [e] [⟨some "start", .Constant (.int k) j p2, kp⟩] q ∧ u n = true ∧ isStar e = false ∧ f e = true := by
  cases x with
  | Call fn es ks q =>
    match ks, es, h with
    | [], _, h => cases h
    | _ :: _ :: _, _, h => cases h
    | [_], [], h => cases h
    | [_], _ :: _ :: _, h => cases h
    | [⟨a, v, kp⟩], [x], h =>
      have h' : (decide (a = some ("start" : Str)) && (kInt k v && (kSlot u fn && (!isStar x && f x)))) = true := h
      simp only [Bool.and_eq_true, decide_eq_true_eq, Bool.not_eq_true'] at h'
      obtain ⟨rfl, h1, h2, h3, h4⟩ := h'
      obtain ⟨j, p2, rfl⟩ := kInt_ok h1
      obtain ⟨n, p, rfl, hn⟩ := kSlot_ok h2
      exact ⟨n, p, x, j, p2, kp, q, rfl, hn, h3, h4⟩
  | _ => cases h
theorem kMeth_ok {m : Str} {f : Expr → Bool} {g : List Expr → Bool} {x : Expr} (h : kMeth m f g x = true) : ∃ o p es q, x = .Call (.Attribute o m p) es [] q ∧ (p.endLine == q.line) = true ∧ notSup o = true ∧ f o = true ∧ g es = true := by
  cases x with
  | Call fn es ks q =>
    cases ks with
    | cons _ _ => cases h
    | nil =>
      cases fn with
      | Attribute o n p =>
        have h' : (decide (n = m) && (p.endLine == q.line && (notSup o && (f o && g es)))) = true := h
        simp only [Bool.and_eq_true, decide_eq_true_eq] at h'
        obtain ⟨rfl, h2, h3, h4, h5⟩ := h'
        exact ⟨o, p, es, q, rfl, h2, h3, h4, h5⟩
      | _ => cases h
  | _ => cases h
theorem kMethN_ok {m : Str} {f : Expr → Bool} {g : List Expr → Bool} {x : Expr} (h : kMethN m f g x = true) : ∃ o p es q, x = .Call (.Attribute o m p) es [] q ∧ (p.endLine == q.line) = true ∧ notSup o = true ∧ f o = true ∧ g es = true ∧ es.length < 30 := by
  cases x with
  | Call fn es ks q =>
    cases ks with
    | cons _ _ => cases h
    | nil =>
      cases fn with
      | Attribute o n p =>
        have h' : (decide (n = m) && (p.endLine == q.line && (notSup o && (f o && (g es && decide (es.length < 30)))))) = true := h
        simp only [Bool.and_eq_true, decide_eq_true_eq] at h'
        obtain ⟨rfl, h1, h2, h3, h4, h5⟩ := h'
        exact ⟨o, p, es, q, rfl, h1, h2, h3, h4, h5⟩
      | _ => cases h
  | _ => cases h
theorem kAttr_ok {f : Str} {g : Expr → Bool} {x : Expr} (h : kAttr f g x = true) : ∃ e p, x = .Attribute e f p ∧ notSup e = true ∧ g e = true := by
  cases x with
  | Attribute e n p =>
    have h' : (decide (n = f) && (notSup e && g e)) = true := h
    simp only [Bool.and_eq_true, decide_eq_true_eq] at h'
    obtain ⟨rfl, h1, h2⟩ := h'
    exact ⟨e, p, rfl, h1, h2⟩
  | _ => cases h
theorem kPair_ok {f g : Expr → Bool} {x : Expr} (h : kPair f g x = true) : ∃ a b k p, x = .Tuple [a, b] k p ∧ isStar a = false ∧ f a = true ∧ isStar b = false ∧ g b = true := by
  cases x with
  | Tuple es k p =>
    match es, h with
    | [], h => cases h
    | [_], h => cases h
    | [a, b], h =>
      have h' : ((!isStar a && f a) && (!isStar b && g b)) = true := h
      simp only [Bool.and_eq_true, Bool.not_eq_true'] at h'
      exact ⟨a, b, k, p, rfl, h'.1.1, h'.1.2, h'.2.1, h'.2.2⟩
    | _ :: _ :: _ :: _, h => cases h
  | _ => cases h
theorem kMeth0_ok {m : Str} {f : Expr → Bool} {x : Expr} (h : kMeth0 m f x = true) : ∃ o p q, x = .Call (.Attribute o m p) [] [] q ∧ (p.endLine == q.line) = true ∧ notSup o = true ∧ f o = true := by
  cases x with
  | Call fn es ks q =>
    cases ks with
    | cons _ _ => cases h
    | nil =>
      cases es with
      | cons _ _ => cases h
      | nil =>
        cases fn with
        | Attribute o n p =>
          have h' : (decide (n = m) && (p.endLine == q.line && (notSup o && f o))) = true := h
          simp only [Bool.and_eq_true, decide_eq_true_eq] at h'
          obtain ⟨rfl, h2, h3, h4⟩ := h'
          exact ⟨o, p, q, rfl, h2, h3, h4⟩
        | _ => cases h
  | _ => cases h
theorem l1_ok {f : Expr → Bool} {es : List Expr} (h : l1 f es = true) : ∃ x, es = [x] ∧ isStar x = false ∧ f x = true := by
  match es, h with
  | [x], h =>
    have h' : (!isStar x && f x) = true := h
    simp only [Bool.and_eq_true, Bool.not_eq_true'] at h'
    exact ⟨x, rfl, h'⟩
theorem l2_ok {f g : Expr → Bool} {es : List Expr} (h : l2 f g es = true) : ∃ x y, es = [x, y] ∧ isStar x = false ∧ f x = true ∧ isStar y = false ∧ g y = true := by
  match es, h with
  | [x, y], h =>
    have h' : ((!isStar x && f x) && (!isStar y && g y)) = true := h
    simp only [Bool.and_eq_true, Bool.not_eq_true'] at h'
    exact ⟨x, y, rfl, h'.1.1, h'.1.2, h'.2.1, h'.2.2⟩
theorem kLc_ok {fi : Expr → Bool} {b : Scope → Bool} {g : Scope → Expr → Bool} {t : Scope → List Expr → Bool} {e : Scope → Expr → Bool} {x : Expr} (h : kLc fi b g t e x = true) :
    ∃ y tg i ifs sc p, x = .ListComp y [⟨tg, i, ifs, 0⟩] sc p ∧ fi i = true ∧ isSet i = false ∧ b sc = true ∧ g sc tg = true ∧ t sc ifs = true ∧ e sc y = true := by
  cases x with
  | ListComp y gs sc p =>
    cases gs with
    | nil => cases h
    | cons a r =>
      obtain ⟨tg, i, ifs, k⟩ := a
      cases r with
      | cons _ _ => cases h
      | nil =>
        have h' : (decide (k = 0) && ((fi i && !isSet i) && (b sc && (g sc tg && (t sc ifs && e sc y))))) = true := h
        simp only [Bool.and_eq_true, Bool.not_eq_true', decide_eq_true_eq] at h'
        obtain ⟨rfl, ⟨h1, h2⟩, h3, h4, h5, h6⟩ := h'
        exact ⟨y, tg, i, ifs, sc, p, rfl, h1, h2, h3, h4, h5, h6⟩
  | _ => cases h
end Wz

set_option Elab.async false
set_option linter.all false
set_option maxRecDepth 100000
set_option maxHeartbeats 4000000
namespace Wz
open PySem PySem.Spec PyProof.Rows L2

section
variable {c : Sig} {X : Cx} {WX : L2.WX} {env : Nat → FnSpec}
theorem op2_ok {o : O2} {op : Operator} (h : o.fit op = true) : OpR X (binaryOp op) (r2D X.K o.ev) := by
  cases o with
  | add => cases op <;> first | (cases h; done) | exact or_add
  | sub => cases op <;> first | (cases h; done) | exact or_sub
  | mul => cases op <;> first | (cases h; done) | exact or_mul
  | fdiv => cases op <;> first | (cases h; done) | exact or_fdiv
  | mod => cases op <;> first | (cases h; done) | exact or_mod
  | pow => cases op <;> first | (cases h; done) | exact or_pow
theorem cmp_ok (hu : X.A.units + 64 < cLine) {o : Cp} {op : CmpOp} (h : o.fit op = true) : OpR X (compareOp op) (r2D X.K o.ev) := by
  cases o with
  | lt => cases op <;> first | (cases h; done) | exact or_lt
  | le => cases op <;> first | (cases h; done) | exact or_le
  | gt => cases op <;> first | (cases h; done) | exact or_gt
  | ge => cases op <;> first | (cases h; done) | exact or_ge
  | eq => cases op <;> first | (cases h; done) | exact or_eq hu
  | ne => cases op <;> first | (cases h; done) | exact or_ne hu
  | inn => cases op <;> first | (cases h; done) | exact or_in hu
  | nin => cases op <;> first | (cases h; done) | exact or_nin hu
  | iss => cases op <;> first | (cases h; done) | exact or_isN
  | isn => cases op <;> first | (cases h; done) | exact or_notN
theorem SigOk.blk (ok : SigOk c X WX env) {s : Shared} {H : Hp} {C : Addr} {cl : List (Str × Addr)} {fp : List Addr} {scope : Scope} : SigOk { c with sc := relS scope c.sc, top := false } (X.blk s H scope (compEnvC scope cl C X.env) fp) WXF env where
  N := ok.N
  nd := ok.nd
  sc := by
    rw [← ok.sc]
    rfl
  calm := ok.calm
  hu := ok.hu
  fn := fun z => by cases z
  tk := fun u s' ⟨_, _, _, _, _, _, _, _, _, _, _, _, _, _, _, _, w⟩ => w
  fct := by
    obtain ⟨k, F, r⟩ := ok.fct
    exact ⟨k, ⟨F.blt, F.call, F.flds, F.mth, F.mkr, F.exP, F.exV, F.hds⟩, r⟩
/-- a built-in, by name -/
theorem bf_ok (ok : SigOk c X WX env) {f : Bf} {p pos : Pos} {es : List Expr} {ta : TA} (h : bltB c f.nm f.nm = true) (hne : es.isEmpty = false) (hs : ∀ x ∈ es, isStar x = false) (ha : PA X es ta) : PE X (.Call (.Name f.nm p) es [] pos) (tCB (rND X.K f.ev) ta) := by
  obtain ⟨_, g, m⟩ := ok.bl h
  cases es with
  | nil => cases hne
  | cons e r =>
    have he := star_ne (r := r) (en := X.env) (hs e List.mem_cons_self)
    have hp := star_all (pos := pos) (en := X.env) (es := r) fun y hy => hs y (List.mem_cons_of_mem _ hy)
    cases f with
    | len => exact pe_callB cr_len g m (by decide +kernel) ha (by decide) (by decide) he hp
    | lst => exact pe_callTy (cr_list ok.calm) g m (by decide +kernel) ha (by decide) (by decide) he hp
    | tup => exact pe_callTy cr_tuple g m (by decide +kernel) ha (by decide) (by decide) he hp
    | any => exact pe_callB (cr_anyD ok.calm) g m (by decide +kernel) ha (by decide) (by decide) he hp
    | all => exact pe_callB (cr_allD ok.calm) g m (by decide +kernel) ha (by decide) (by decide) he hp
    | sum => exact pe_callB (cr_sumD ok.calm) g m (by decide +kernel) ha (by decide) (by decide) he hp
    | srt => exact pe_callB (cr_srt3D ok.calm) g m (by decide +kernel) ha (by decide) (by decide) he hp
    | dct => exact pe_callTy cr_dictD g m (by decide +kernel) ha (by decide) (by decide) he hp
    | min => exact pe_callB (cr_minD ok.calm) g m (by decide +kernel) ha (by decide) (by decide) he hp
    | int => exact pe_callTy cr_intD g m (by decide +kernel) ha (by decide) (by decide) he hp
theorem sup_ok {x : Expr} {m : Str} {en : Env} {whole : Sem Value} (h : notSup x = true) : attributeBase x m en whole = whole := by
  unfold attributeBase
  split
  · cases h
  · rfl
theorem tst_ok {x : Expr} {en : Env} (h : isTst x = false) : ∀ whole, isTrue x en whole = (do let v ← whole; standAt x.pos; holding [v] (truthy v)) := by
  intro whole
  cases x with
  | UnaryOp op a p => cases op <;> first | rfl | cases h
  | _ => first | rfl | cases h
theorem slc_ok {x : Expr} (h : isSlc x = false) : PlainIx x := by
  intro o i
  cases x <;> first | rfl | cases h
theorem set_ok {x : Expr} {en : Env} (h : isSet x = false) : ∀ v, foldedSetIterable x en v = pure v := by
  intro v
  unfold foldedSetIterable
  split
  · cases h
  · rfl
/-- the call of an own def -/
theorem den_call (ok : SigOk c X WX env) {k : Nat} {x : Str} {ev : EV (List Rv)} {es : List Expr} {p pos : Pos} (h1 : c.fns[k]? = some x) (h2 : glB c x = true) (h3 : dbgB x = true) (hs : ∀ x ∈ es, isStar x = false) (ha : ∃ ta, PA X es ta ∧ Snd X.K WX (RL X.K) ta ev ∧ (es = [] → ta = tNil)) : DenE X WX (xCall (env k) ev) (.Call (.Name x p) es [] pos) := by
  obtain ⟨kk, F0, hr⟩ := ok.fct
  obtain ⟨f, fd, ps, F, hm, hk, hb⟩ := F0.call k x h1
  obtain ⟨ta, pa, sa, hn⟩ := ha
  have snd : Snd X.K WX (RvOk X.K) (tCallS (Gsp X.K (env k)) (WE WX) ta) (xCall (env k) ev) := by
    intro E0 np W ρ S σ H Q r n
    refine sa E0 np W ρ S σ H _ r (Need.bind n fun rs S1 e1 vs W1 H1 st w o rr n1 => ?_)
    unfold xCall at n
    rw [e1, Out.bind_ok] at n
    exact call_need r.wok st w o rr rfl n
  cases es with
  | nil =>
    rw [hn rfl] at snd
    exact ⟨_, pe_callN (E := WE WX) F hr (ok.gl h2) hm hk hb (fun σ => passAt ok.tk σ) (dbg_of h3).1, snd⟩
  | cons e r =>
    have he := star_ne (r := r) (en := X.env) (hs e List.mem_cons_self)
    have hp := star_all (pos := pos) (en := X.env) (es := r) fun y hy => hs y (List.mem_cons_of_mem _ hy)
    exact ⟨_, pe_callS (E := WE WX) F hr (ok.gl h2) hm hk hb (fun σ => passAt ok.tk σ) pa (dbg_of h3).1 he hp, snd⟩
/-- o.m(..) -/
theorem den_meth (ok : SigOk c X WX env) {k : Nat} {cn m : Str} {ea : EV Rv} {ev : EV (List Rv)} {o : Expr} {es : List Expr} {p pos : Pos} (h0 : 1000 ≤ k) (h1 : c.mths[k - 1000]? = some (cn, m)) (ho : DenE X WX ea o) (h2 : notSup o = true) (h3 : (p.endLine == pos.line) = true) (hs : ∀ x ∈ es, isStar x = false) (hl : es.length < 30)
    (ha : ∃ ta, PA X es ta ∧ Snd X.K WX (RL X.K) ta ev ∧ (es = [] → ta = tNil)) : DenE X WX (xMeth cn m (env k) ea ev) (.Call (.Attribute o m p) es [] pos) := by
  obtain ⟨kk, F0, hr⟩ := ok.fct
  obtain ⟨f, fd, ps, F, hc, hm, hb⟩ := F0.mth _ cn m h1
  rw [show 1000 + (k - 1000) = k by omega] at F
  obtain ⟨to, po, so⟩ := ho
  obtain ⟨ta, pa, sa, hn⟩ := ha
  have snd := snd_meth (c := cn) (m := m) (sp := env k) so sa
  by_cases e : es = []
  · rw [hn e] at snd
    subst e
    exact ⟨_, pe_mthN (E := WE WX) po hc hm F hr hb (fun σ => passAt ok.tk σ) (fun w => sup_ok h2) h3, snd⟩
  · exact ⟨_, pe_mth (E := WE WX) po hc hm F hr hb (fun σ => passAt ok.tk σ) pa (fun w => sup_ok h2) h3 hs hl e, snd⟩
/-- C(..) -/
theorem den_make (ok : SigOk c X WX env) {k : Nat} {cn : Str} {ev : EV (List Rv)} {es : List Expr} {p pos : Pos} (h0 : 2000 ≤ k) (h1 : c.mks[k - 2000]? = some cn) (h2 : glB c cn = true) (h3 : dbgB cn = true) (hs : ∀ x ∈ es, isStar x = false) (ha : ∃ ta, PA X es ta ∧ Snd X.K WX (RL X.K) ta ev ∧ (es = [] → ta = tNil)) : DenE X WX (xMake cn (env k) ev) (.Call (.Name cn p) es [] pos) := by
  obtain ⟨kk, F0, hr⟩ := ok.fct
  obtain ⟨j, f, fd, ps, hj, F, M, hm, hb⟩ := F0.mkr _ cn h1
  rw [show 2000 + (k - 2000) = k by omega] at F
  obtain ⟨ta, pa, sa, hn⟩ := ha
  have snd := snd_make (c := cn) (sp := env k) sa
  have px : Passes (L2.CX X.prog X.w) X (fun _ _ _ => False) := fun _ _ _ _ _ _ _ z => by
    obtain ⟨a, B, H', cls, d, _, _, _, _, _, _, _, _, _, q⟩ := z
  cases es with
  | nil =>
    rw [hn rfl] at snd
    exact ⟨_, pe_make0 (dvs := []) M F (hr.mono hj) (ok.gl h2) hm hb .nil px (dbg_of h3).1, snd⟩
  | cons e r =>
    have he := star_ne (r := r) (en := X.env) (hs e List.mem_cons_self)
    have hp := star_all (pos := pos) (en := X.env) (es := r) fun y hy => hs y (List.mem_cons_of_mem _ hy)
    exact ⟨_, pe_make (dvs := []) M F (hr.mono hj) (ok.gl h2) hm hb .nil px pa (dbg_of h3).1 he hp, snd⟩
theorem bo_tst {x : Expr} (h : isTst x = false) : ¬ isBo x = true := by
  intro q
  cases x <;> first | (cases q; done) | (cases h; done)
theorem den_lc (ok : SigOk c X WX env) {it : EV Its} {vs : List Nat} {g : Tg} {t : EV Bool} {e : EV Rv} {tg i y : Expr} {ifs : List Expr} {sc : Scope} {p : Pos} (h2 : isSet i = false) (h3 : blkC c.N c.sc sc (inN c vs) = true) (hi : DenI X WX it i) (h4 : fitG { c with sc := relS sc c.sc, top := false } g tg = true)
    (ht : ∀ s H C cl fp, DenTs (X.blk s H sc (compEnvC sc cl C X.env) fp) WXF t ifs) (he : ∀ s H C cl fp, DenE (X.blk s H sc (compEnvC sc cl C X.env) fp) WXF e y) : DenE X WX (xLc it vs g.ixs (bindT g) t e) (.ListComp y [⟨tg, i, ifs, 0⟩] sc p) := by
  obtain ⟨wi, pi, si⟩ := hi tg
  refine ⟨_, pe_lc (g := tgOf X.K g) (tt := canT X.K WXF RB t) (te := canT X.K WXF (RvOk X.K) e) ok.calm (by rw [ok.N]; exact ok.nd) pi (blkOk_by (own := inN c vs) (by rw [ok.N, ok.sc]; exact h3)) (fun s H C cl fp => SigOk.tg ok.blk h4) (fun s H C cl fp => (ht s H C cl fp).can) (fun s H C cl fp => (he s H C cl fp).can) (set_ok h2), ?_⟩
  have e : (inN c vs).map (·.2) = vs := by simp [inN, Function.comp_def]
  rw [e]
  exact snd_lc si (tg_sndc g) snd_can snd_can
theorem PE_or {x : Expr} {ta tb : TE} (a : PE X x ta) (b : PE X x tb) : PE X x (fun σ H Q => ta σ H Q ∨ tb σ H Q) := ⟨fun pins s σ H Q I h => Or.elim h (a.run pins s σ H Q I) (b.run pins s σ H Q I)⟩
theorem den_lcS (ok : SigOk c X WX env) {j : Nat} {vs : List Nat} {g : Tg} {t : EV Bool} {e : EV Rv} {tg i y : Expr} {ifs : List Expr} {sc : Scope} {p : Pos} (h2 : isSet i = false) (h3 : blkC c.N c.sc sc (inN c vs) = true) (pv : PE X i (tVar j)) (h4 : fitG { c with sc := relS sc c.sc, top := false } g tg = true)
    (ht : ∀ s H C cl fp, DenTs (X.blk s H sc (compEnvC sc cl C X.env) fp) WXF t ifs) (he : ∀ s H C cl fp, DenE (X.blk s H sc (compEnvC sc cl C X.env) fp) WXF e y) : DenE X WX (xLc (xKeysF j) vs g.ixs (bindT g) t e) (.ListComp y [⟨tg, i, ifs, 0⟩] sc p) := by
  have pe := pe_lc (pos := p) (g := tgOf X.K g) (tt := canT X.K WXF RB t) (te := canT X.K WXF (RvOk X.K) e) ok.calm (by rw [ok.N]; exact ok.nd) (pi_keys pv) (blkOk_by (own := inN c vs) (by rw [ok.N, ok.sc]; exact h3)) (fun s H C cl fp => SigOk.tg ok.blk h4) (fun s H C cl fp => (ht s H C cl fp).can) (fun s H C cl fp => (he s H C cl fp).can) (set_ok h2)
  refine ⟨_, PE_or (pe_lock pe) pe, ?_⟩
  have e : (inN c vs).map (·.2) = vs := by simp [inN, Function.comp_def]
  rw [e]
  exact snd_lcS (tg_sndc g) snd_can snd_can
end
theorem isi_boot : (tyT.all fun t => (decide (t ∈ tys) && (decide (bootBuiltins (Str.ofString t) = some (.type t)) && (decide (Str.ofString t ≠ "__name__") && !(Str.ofString t == ("__debug__" : Str)))))) = true := by decide +kernel
mutual
theorem denE (env : Nat → FnSpec) : ∀ (e : E) (c : Sig) (X : Cx) (WX : L2.WX), SigOk c X WX env → ∀ x, fitE c e x = true → DenE X WX (evE env e) x
  | .slot i, c, X, WX, ok, x, h => by
    obtain ⟨n, p, rfl, q⟩ := kSlot_ok (show kSlot (slotB c i) x = true from h)
    simp only [slotB, Bool.and_eq_true, decide_eq_true_eq] at q
    exact ⟨_, pe_var (ok.nix q.1.1) (ok.vis q.1.2) (dbg_of q.2).1 (dbg_of q.2).2.1, snd_slot⟩
  | .int i, c, X, WX, ok, x, h => by
    obtain ⟨j, p, rfl⟩ := kInt_ok (show kInt i x = true from h)
    exact ⟨_, pe_int, snd_con fun _ => rfl⟩
  | .str i, c, X, WX, ok, x, h => by
    obtain ⟨j, p, rfl⟩ := kStr_ok (show kStr i x = true from h)
    exact ⟨_, pe_str, snd_con fun _ => rfl⟩
  | .bl i, c, X, WX, ok, x, h => by
    obtain ⟨j, p, rfl⟩ := kBl_ok (show kBl i x = true from h)
    exact ⟨_, pe_bl, snd_con fun _ => rfl⟩
  | .non, c, X, WX, ok, x, h => by
    obtain ⟨j, p, rfl⟩ := kNon_ok (show kNon x = true from h)
    exact ⟨_, pe_non, snd_con fun _ => rfl⟩
  | .op2 o a b, c, X, WX, ok, x, h => by
    obtain ⟨l, op, r, p, rfl, h1, h2, h3⟩ := kBin_ok (show kBin o.fit (fitE c a) (fitE c b) x = true from h)
    obtain ⟨ta, pa, sa⟩ := denE env a c X WX ok _ h2
    obtain ⟨tb, pb, sb⟩ := denE env b c X WX ok _ h3
    exact ⟨_, pe_op (op2_ok h1) pa pb, snd_op2 sa sb⟩
  | .cmp o a b, c, X, WX, ok, x, h => by
    obtain ⟨l, op, r, p, rfl, h1, h2, h3, h4⟩ := kCmp_ok (show kCmp o.fit (fitE c a) (fitE c b) x = true from h)
    obtain ⟨ta, pa, sa⟩ := denE env a c X WX ok _ h2
    obtain ⟨tb, pb, sb⟩ := denE env b c X WX ok _ h3
    exact ⟨_, pe_cmpR (cmp_ok ok.hu h1) pa pb h4, snd_op2 sa sb⟩
  | .neg a, c, X, WX, ok, x, h => by
    obtain ⟨op, y, p, rfl, h1, h2⟩ := kUn_ok (show kUn isNeg (fitE c a) x = true from h)
    obtain rfl := isNeg_ok h1
    obtain ⟨ta, pa, sa⟩ := denE env a c X WX ok _ h2
    exact ⟨_, pe_un or_neg pa, snd_op1 sa⟩
  | .notV a, c, X, WX, ok, x, h => by
    obtain ⟨op, y, p, rfl, h1, h2⟩ := kUn_ok (show kUn isNot (fitE c a) x = true from h)
    obtain rfl := isNot_ok h1
    obtain ⟨ta, pa, sa⟩ := denE env a c X WX ok _ h2
    exact ⟨_, pe_not pa, snd_notV sa⟩
  | .andV a b, c, X, WX, ok, x, h => by
    obtain ⟨op, y, z, r, p, rfl, h1, h2, h3⟩ := kBo_ok (show kBo isAnd (fitE c a) (fitE c b) x = true from h)
    obtain rfl := isAnd_ok h1
    obtain ⟨ta, pa, sa⟩ := denE env a c X WX ok _ h2
    rcases h3 with ⟨rfl, h3⟩ | ⟨w, t, rfl, h3⟩
    · obtain ⟨tb, pb, sb⟩ := denE env b c X WX ok _ h3
      exact ⟨_, pe_and pa (pe_one pb), snd_andV sa sb⟩
    · obtain ⟨tb, pb, sb⟩ := denE env b c X WX ok _ h3
      exact ⟨_, pe_and pa pb, snd_andV sa sb⟩
  | .orV a b, c, X, WX, ok, x, h => by
    obtain ⟨op, y, z, r, p, rfl, h1, h2, h3⟩ := kBo_ok (show kBo isOr (fitE c a) (fitE c b) x = true from h)
    obtain rfl := isOr_ok h1
    obtain ⟨ta, pa, sa⟩ := denE env a c X WX ok _ h2
    rcases h3 with ⟨rfl, h3⟩ | ⟨w, t, rfl, h3⟩
    · obtain ⟨tb, pb, sb⟩ := denE env b c X WX ok _ h3
      exact ⟨_, pe_or pa (pe_one pb), snd_orV sa sb⟩
    · obtain ⟨tb, pb, sb⟩ := denE env b c X WX ok _ h3
      exact ⟨_, pe_or pa pb, snd_orV sa sb⟩
  | .ife t a b, c, X, WX, ok, x, h => by
    obtain ⟨y, z, w, p, rfl, h1, h2, h3⟩ := kIfe_ok (show kIfe (fitT c t) (fitE c a) (fitE c b) x = true from h)
    obtain ⟨tt, pt, _, st⟩ := denT env t c X WX ok _ h1
    obtain ⟨ta, pa, sa⟩ := denE env a c X WX ok _ h2
    obtain ⟨tb, pb, sb⟩ := denE env b c X WX ok _ h3
    exact ⟨_, pe_ifExp pt pa pb, snd_ife st sa sb⟩
  | .idx a i, c, X, WX, ok, x, h => by
    obtain ⟨y, z, p, rfl, h1, h2, h3⟩ := kIdx_ok (show kIdx (fitE c a) (fitE c i) x = true from h)
    obtain ⟨ta, pa, sa⟩ := denE env a c X WX ok _ h2
    obtain ⟨tb, pb, sb⟩ := denE env i c X WX ok _ h3
    exact ⟨_, pe_ix (ix_idx ok.hu) pa pb (slc_ok h1), snd_op2 sa sb⟩
  | .slc a lo hi, c, X, WX, ok, x, h => by
    obtain ⟨y, l, u, q, p, rfl, h1, h2, h3⟩ := kSlc_ok (show kSlc (fitE c a) (fitO c lo) (fitO c hi) x = true from h)
    obtain ⟨ta, pa, sa⟩ := denE env a c X WX ok _ h1
    obtain ⟨tl, pl, sl⟩ := denO env lo c X WX ok _ h2
    obtain ⟨th, ph, sh⟩ := denO env hi c X WX ok _ h3
    exact ⟨_, pe_slice sl_slc pa pl ph, snd_slc sa sl sh⟩
  | .tup l, c, X, WX, ok, x, h => by
    obtain ⟨es, k, p, rfl, h1⟩ := kTup_ok (show kTup (fitEs c l) x = true from h)
    obtain ⟨ta, pa, sa⟩ := denEs env l c X WX ok _ h1
    exact ⟨_, pe_tup pa, snd_tup sa⟩
  | .lst l, c, X, WX, ok, x, h => by
    obtain ⟨es, p, rfl, h1⟩ := kLst_ok (show kLst (fitEs c l) x = true from h)
    obtain ⟨ta, pa, sa⟩ := denEs env l c X WX ok _ h1
    exact ⟨_, pe_lst pa, snd_lst sa⟩
  | .dk, c, X, WX, ok, x, h => by
    obtain ⟨p, rfl⟩ := kDct_ok (show kDct x = true from h)
    exact ⟨_, pe_dnewK, snd_dk⟩
  | .dt, c, X, WX, ok, x, h => by
    obtain ⟨p, rfl⟩ := kDct_ok (show kDct x = true from h)
    exact ⟨_, pe_dnewT, snd_dt⟩
  | .blt f l, c, X, WX, ok, x, h => by
    obtain ⟨n, p, es, q, rfl, h1, h2⟩ := kCall_ok (show kCall (bltB c f.nm) (fun es => fitEs c l es && !es.isEmpty) x = true from h)
    simp only [Bool.and_eq_true, Bool.not_eq_true'] at h2
    obtain ⟨ta, pa, sa⟩ := denEs env l c X WX ok _ h2.1
    obtain ⟨rfl, _, _⟩ := ok.bl h1
    exact ⟨_, bf_ok ok h1 h2.2 (fitEs_star h2.1) pa, snd_opN sa⟩
  | .rev a, c, X, WX, ok, x, h => by
    obtain ⟨n, p, es, q, rfl, h1, h2⟩ := kCall_ok (show kCall (bltB c "list") (l1 (kCall (bltB c "reversed") (l1 (fitE c a)))) x = true from h)
    obtain ⟨y, rfl, _, h3⟩ := l1_ok h2
    obtain ⟨n2, p2, es2, q2, rfl, h4, h5⟩ := kCall_ok h3
    obtain ⟨z, rfl, h6, h7⟩ := l1_ok h5
    obtain ⟨ta, pa, sa⟩ := denE env a c X WX ok _ h7
    obtain ⟨rfl, g1, m1⟩ := ok.bl h1
    obtain ⟨rfl, g2, m2⟩ := ok.bl h4
    exact ⟨_, pe_lstRev ok.calm g1 m1 g2 m2 pa (star_ne h6) rfl, snd_rev sa⟩
  | .lset a, c, X, WX, ok, x, h => by
    obtain ⟨n, p, es, q, rfl, h1, h2⟩ := kCall_ok (show kCall (bltB c "len") (l1 (kCall (bltB c "set") (l1 (fitE c a)))) x = true from h)
    obtain ⟨y, rfl, _, h3⟩ := l1_ok h2
    obtain ⟨n2, p2, es2, q2, rfl, h4, h5⟩ := kCall_ok h3
    obtain ⟨z, rfl, h6, h7⟩ := l1_ok h5
    obtain ⟨ta, pa, sa⟩ := denE env a c X WX ok _ h7
    obtain ⟨rfl, g1, m1⟩ := ok.bl h1
    obtain ⟨rfl, g2, m2⟩ := ok.bl h4
    exact ⟨_, pe_setLen ok.hu ok.calm g1 m1 g2 m2 pa (star_ne h6), snd_setLen sa⟩
  | .isi t a, c, X, WX, ok, x, h => by
    obtain ⟨n, p, es, q, rfl, h1, h2⟩ := kCall_ok (show kCall (bltB c "isinstance") (l2 (fitE c a) (kSlot fun y => bltB c (Str.ofString t) y && tyT.contains t)) x = true from h)
    obtain ⟨y, z, rfl, h3, h4, _, h5⟩ := l2_ok h2
    obtain ⟨n2, p2, rfl, h6⟩ := kSlot_ok h5
    simp only [Bool.and_eq_true] at h6
    obtain ⟨ta, pa, sa⟩ := denE env a c X WX ok _ h4
    obtain ⟨rfl, g1, m1⟩ := ok.bl h1
    obtain ⟨rfl, g2, m2⟩ := ok.bl h6.1
    have ht : t ∈ tyT := by simpa using h6.2
    have bv := List.all_eq_true.mp isi_boot t ht
    simp only [Bool.and_eq_true, decide_eq_true_eq, Bool.not_eq_true'] at bv
    exact ⟨_, pe_callB call_isi g1 m1 (by decide +kernel) (pa_cons pa (pa_cons (pe_bltn (v := .ty t) g2 m2 bv.2.1 rfl bv.2.2.1 bv.2.2.2) pa_nil) (star_ne h3)) (by decide) (by decide) (star_ne h3) rfl, snd_isi bv.1 sa⟩
  | .get1 a b, c, X, WX, ok, x, h => by
    obtain ⟨o, p, es, q, rfl, h1, h2, h3, h4⟩ := kMeth_ok (show kMeth "get" (fitE c a) (l1 (fitE c b)) x = true from h)
    obtain ⟨y, rfl, h5, h6⟩ := l1_ok h4
    obtain ⟨ta, pa, sa⟩ := denE env a c X WX ok _ h3
    obtain ⟨tb, pb, sb⟩ := denE env b c X WX ok _ h6
    have hu : X.A.units + 1 < cLine := by
      have := ok.hu
      omega
    exact ⟨_, pe_dget1 hu pa pb ⟨sup_ok h2, by rw [star_ne h5]; rfl, h1, by rw [star_ne h5]; rfl⟩, snd_get1 sa sb⟩
  | .get2 a b d, c, X, WX, ok, x, h => by
    obtain ⟨o, p, es, q, rfl, h1, h2, h3, h4⟩ := kMeth_ok (show kMeth "get" (fitE c a) (l2 (fitE c b) (fitE c d)) x = true from h)
    obtain ⟨y, z, rfl, h5, h6, h7, h8⟩ := l2_ok h4
    obtain ⟨ta, pa, sa⟩ := denE env a c X WX ok _ h3
    obtain ⟨tb, pb, sb⟩ := denE env b c X WX ok _ h6
    obtain ⟨td, pd, sd⟩ := denE env d c X WX ok _ h8
    have hu : X.A.units + 1 < cLine := by
      have := ok.hu
      omega
    exact ⟨_, pe_dget2 hu pa pb pd ⟨sup_ok h2, by rw [star_ne h5, star_ne h7]; rfl, h1, by rw [star_ne h5, star_ne h7]; rfl⟩, snd_get2 sa sb sd⟩
  | .lc it vs g t e, c, X, WX, ok, x, h => by
    obtain ⟨y, tg, i, ifs, sc, p, rfl, h1, h2, h3, h4, h5, h6⟩ := kLc_ok (show kLc (fun y => !itTup it && fitI c it y) (fun sc => blkC c.N c.sc sc (inN c vs)) (fun sc => fitG { c with sc := relS sc c.sc, top := false } g) (fun sc => fitTs { c with sc := relS sc c.sc, top := false } t) (fun sc => fitE { c with sc := relS sc c.sc, top := false } e) x = true from h)
    simp only [Bool.and_eq_true, Bool.not_eq_true'] at h1
    exact den_lc ok h2 h3 (fun tg => denI env it c X WX ok _ h1.2 tg fun q => by rw [h1.1] at q; cases q) h4 (fun s H C cl fp => denTs env t _ _ WXF ok.blk _ h5) (fun s H C cl fp => denE env e _ _ WXF ok.blk _ h6)
  | .lcS i vs g t e, c, X, WX, ok, x, h => by
    obtain ⟨y, tg, z, ifs, sc, p, rfl, h1, h2, h3, h4, h5, h6⟩ := kLc_ok (show kLc (kSlot (slotB c i)) (fun sc => blkC c.N c.sc sc (inN c vs)) (fun sc => fitG { c with sc := relS sc c.sc, top := false } g) (fun sc => fitTs { c with sc := relS sc c.sc, top := false } t) (fun sc => fitE { c with sc := relS sc c.sc, top := false } e) x = true from h)
    obtain ⟨n, q, rfl, h7⟩ := kSlot_ok h1
    simp only [slotB, Bool.and_eq_true, decide_eq_true_eq] at h7
    exact den_lcS ok h2 h3 (pe_var (ok.nix h7.1.1) (ok.vis h7.1.2) (dbg_of h7.2).1 (dbg_of h7.2).2.1) h4 (fun s H C cl fp => denTs env t _ _ WXF ok.blk _ h5) (fun s H C cl fp => denE env e _ _ WXF ok.blk _ h6)
  | .call k l, c, X, WX, ok, x, h => by
    obtain ⟨n, p, es, q, rfl, h1, h2⟩ := kCall_ok (show kCall (fun x => decide (c.fns[k]? = some x) && (glB c x && dbgB x)) (fun es => fitEs c l es) x = true from h)
    simp only [Bool.and_eq_true, Bool.not_eq_true', decide_eq_true_eq] at h1 h2
    exact den_call ok h1.1 h1.2.1 h1.2.2 (fitEs_star h2) (denA env l c X WX ok _ h2)
  | .fld cs f a, c, X, WX, ok, x, h => by
    obtain ⟨e, p, rfl, h1, h2⟩ := kAttr_ok (show kAttr f (fun y => fitE c a y && cs.all fun cn => c.flds.contains (cn, f)) x = true from h)
    simp only [Bool.and_eq_true] at h2
    obtain ⟨ta, pa, sa⟩ := denE env a c X WX ok _ h2.1
    obtain ⟨kk, F0, _⟩ := ok.fct
    exact ⟨_, pe_fld pa (sup_ok h1), snd_fld (fun cn hc => F0.flds cn f (List.all_eq_true.mp h2.2 cn hc)) sa⟩
  | .meth k cn m a l, c, X, WX, ok, x, h => by
    obtain ⟨o, p, es, q, rfl, h1, h2, h3, h4, h5⟩ := kMethN_ok (show kMethN m (fun y => fitE c a y && (decide (1000 ≤ k) && decide (c.mths[k - 1000]? = some (cn, m)))) (fitEs c l) x = true from h)
    simp only [Bool.and_eq_true, decide_eq_true_eq] at h3
    exact den_meth ok h3.2.1 h3.2.2 (denE env a c X WX ok _ h3.1) h2 h1 (fitEs_star h4) h5 (denA env l c X WX ok _ h4)
  | .make k cn l, c, X, WX, ok, x, h => by
    obtain ⟨n, p, es, q, rfl, h1, h2⟩ := kCall_ok (show kCall (fun x => decide (x = cn) && ((decide (2000 ≤ k) && decide (c.mks[k - 2000]? = some x)) && (glB c x && dbgB x))) (fitEs c l) x = true from h)
    simp only [Bool.and_eq_true, decide_eq_true_eq] at h1
    obtain ⟨rfl, ⟨h0, h3⟩, h4, h5⟩ := h1
    exact den_make ok h0 h3 h4 h5 (fitEs_star h2) (denA env l c X WX ok _ h2)
  | .box e, c, X, WX, ok, x, h => by
    obtain ⟨ta, pa, sa⟩ := denE env e c X WX ok _ (show fitE c e x = true from h)
    exact ⟨_, pa, snd_box sa⟩
  | .appE a b, c, X, WX, ok, x, h => by
    obtain ⟨o, p, es, q, rfl, h1, h2, h3, h4⟩ := kMeth_ok (show kMeth "append" (fitE c a) (l1 (fitE c b)) x = true from h)
    obtain ⟨y, rfl, h5, h6⟩ := l1_ok h4
    obtain ⟨ta, pa, sa⟩ := denE env a c X WX ok _ h3
    obtain ⟨tb, pb, sb⟩ := denE env b c X WX ok _ h6
    exact ⟨_, pe_bm PySem.F.plainAttrs_list PySem.F.slot_list_append PySem.F.type_list_append mt_append pa (pa_cons pb pa_nil (star_ne h5)) (sup_ok h2) (by rw [star_ne h5]; rfl) h1 (star_ne h5) rfl, snd_appE sa sb⟩
  | .clrE a, c, X, WX, ok, x, h => by
    obtain ⟨o, p, q, rfl, h1, h2, h3⟩ := kMeth0_ok (show kMeth0 "clear" (fitE c a) x = true from h)
    obtain ⟨ta, pa, sa⟩ := denE env a c X WX ok _ h3
    exact ⟨_, pe_bm0 PySem.F.plainAttrs_list PySem.F.slot_list_clear PySem.F.type_list_clear mt_clear pa (sup_ok h2) h1, snd_clrE sa⟩
  | .popE a, c, X, WX, ok, x, h => by
    obtain ⟨o, p, q, rfl, h1, h2, h3⟩ := kMeth0_ok (show kMeth0 "pop" (fitE c a) x = true from h)
    obtain ⟨ta, pa, sa⟩ := denE env a c X WX ok _ h3
    exact ⟨_, pe_bm0 PySem.F.plainAttrs_list PySem.F.slot_list_pop PySem.F.type_list_pop mt_pop pa (sup_ok h2) h1, snd_popE sa⟩
  | .popD a b, c, X, WX, ok, x, h => by
    obtain ⟨o, p, es, q, rfl, h1, h2, h3, h4⟩ := kMeth_ok (show kMeth "pop" (fitE c a) (l1 (fitE c b)) x = true from h)
    obtain ⟨y, rfl, h5, h6⟩ := l1_ok h4
    obtain ⟨ta, pa, sa⟩ := denE env a c X WX ok _ h3
    obtain ⟨tb, pb, sb⟩ := denE env b c X WX ok _ h6
    exact ⟨_, pe_dpop1 pa pb ⟨sup_ok h2, by rw [star_ne h5]; rfl, h1, by rw [star_ne h5]; rfl⟩, snd_popD sa sb⟩
theorem denEs (env : Nat → FnSpec) : ∀ (e : Es) (c : Sig) (X : Cx) (WX : L2.WX), SigOk c X WX env → ∀ x, fitEs c e x = true → DenA X WX (evEs env e) x
  | .nil, c, X, WX, ok, [], h => ⟨_, pa_nil, snd_nil⟩
  | .nil, c, X, WX, ok, _ :: _, h => by cases h
  | .cons e l, c, X, WX, ok, [], h => by cases h
  | .cons e l, c, X, WX, ok, x :: r, h => by
    have h' : (!isStar x && (fitE c e x && fitEs c l r)) = true := h
    simp only [Bool.and_eq_true, Bool.not_eq_true'] at h'
    obtain ⟨ta, pa, sa⟩ := denE env e c X WX ok _ h'.2.1
    obtain ⟨tb, pb, sb⟩ := denEs env l c X WX ok _ h'.2.2
    exact ⟨_, pa_cons pa pb (star_ne h'.1), snd_cons sa sb⟩
theorem denA (env : Nat → FnSpec) : ∀ (e : Es) (c : Sig) (X : Cx) (WX : L2.WX), SigOk c X WX env → ∀ x, fitEs c e x = true → ∃ ta, PA X x ta ∧ Snd X.K WX (RL X.K) ta (evEs env e) ∧ (x = [] → ta = tNil)
  | .nil, c, X, WX, ok, [], h => ⟨_, pa_nil, snd_nil, fun _ => rfl⟩
  | .nil, c, X, WX, ok, _ :: _, h => by cases h
  | .cons e l, c, X, WX, ok, [], h => by cases h
  | .cons e l, c, X, WX, ok, x :: r, h => by
    have h' : (!isStar x && (fitE c e x && fitEs c l r)) = true := h
    simp only [Bool.and_eq_true, Bool.not_eq_true'] at h'
    obtain ⟨ta, pa, sa⟩ := denE env e c X WX ok _ h'.2.1
    obtain ⟨tb, pb, sb⟩ := denEs env l c X WX ok _ h'.2.2
    exact ⟨_, pa_cons pa pb (star_ne h'.1), snd_cons sa sb, fun z => by cases z⟩
theorem denO (env : Nat → FnSpec) : ∀ (e : O) (c : Sig) (X : Cx) (WX : L2.WX), SigOk c X WX env → ∀ x, fitO c e x = true → DenO X WX (evO env e) x
  | .no, c, X, WX, ok, none, h => ⟨_, po_none, snd_none⟩
  | .no, c, X, WX, ok, some _, h => by cases h
  | .yes e, c, X, WX, ok, none, h => by cases h
  | .yes e, c, X, WX, ok, some x, h => by
    obtain ⟨ta, pa, sa⟩ := denE env e c X WX ok x h
    exact ⟨_, po_some pa, snd_part sa⟩
theorem denT (env : Nat → FnSpec) : ∀ (e : T) (c : Sig) (X : Cx) (WX : L2.WX), SigOk c X WX env → ∀ x, fitT c e x = true → DenT X WX (evT env e) x
  | .tst o a b, c, X, WX, ok, x, h => by
    obtain ⟨l, op, r, p, rfl, h1, h2, h3, h4⟩ := kCmp_ok (show kCmp o.fit (fitE c a) (fitE c b) x = true from h)
    obtain ⟨ta, pa, sa⟩ := denE env a c X WX ok _ h2
    obtain ⟨tb, pb, sb⟩ := denE env b c X WX ok _ h3
    exact ⟨_, pt_cmpR (cmp_ok ok.hu h1) pa pb h4, fun q => (by cases q), snd_tst (snd_op2 sa sb)⟩
  | .tru e, c, X, WX, ok, x, h => by
    have h' : (!isTst x && fitE c e x) = true := h
    simp only [Bool.and_eq_true, Bool.not_eq_true'] at h'
    obtain ⟨ta, pa, sa⟩ := denE env e c X WX ok _ h'.2
    exact ⟨_, pt_truth pa (tst_ok h'.1), fun q => absurd q (bo_tst h'.1), snd_tru sa⟩
  | .and a b, c, X, WX, ok, x, h => by
    obtain ⟨op, y, z, r, p, rfl, h1, h2, h3⟩ := kBo_ok (show kBo isAnd (fitT c a) (fitT c b) x = true from h)
    obtain rfl := isAnd_ok h1
    obtain ⟨ta, pa, _, sa⟩ := denT env a c X WX ok _ h2
    rcases h3 with ⟨rfl, h3⟩ | ⟨w, t, rfl, h3⟩
    · obtain ⟨tb, pb, _, sb⟩ := denT env b c X WX ok _ h3
      have w := pw_and pa (pw_and1 (pos := p) pb)
      exact ⟨_, w.pt, fun _ => w, snd_and sa sb⟩
    · obtain ⟨tb, pb, wb, sb⟩ := denT env b c X WX ok _ h3
      have w := pw_and pa (wb rfl)
      exact ⟨_, w.pt, fun _ => w, snd_and sa sb⟩
  | .or a b, c, X, WX, ok, x, h => by
    obtain ⟨op, y, z, r, p, rfl, h1, h2, h3⟩ := kBo_ok (show kBo isOr (fitT c a) (fitT c b) x = true from h)
    obtain rfl := isOr_ok h1
    obtain ⟨ta, pa, _, sa⟩ := denT env a c X WX ok _ h2
    rcases h3 with ⟨rfl, h3⟩ | ⟨w, t, rfl, h3⟩
    · obtain ⟨tb, pb, _, sb⟩ := denT env b c X WX ok _ h3
      have w := pw_or pa (pw_or1 (pos := p) pb)
      exact ⟨_, w.pt, fun _ => w, snd_or sa sb⟩
    · obtain ⟨tb, pb, wb, sb⟩ := denT env b c X WX ok _ h3
      have w := pw_or pa (wb rfl)
      exact ⟨_, w.pt, fun _ => w, snd_or sa sb⟩
  | .not a, c, X, WX, ok, x, h => by
    obtain ⟨op, y, p, rfl, h1, h2⟩ := kUn_ok (show kUn isNot (fitT c a) x = true from h)
    obtain rfl := isNot_ok h1
    obtain ⟨ta, pa, _, sa⟩ := denT env a c X WX ok _ h2
    exact ⟨_, pt_not pa, fun q => (by cases q), snd_not sa⟩
theorem denTs (env : Nat → FnSpec) : ∀ (e : Ts) (c : Sig) (X : Cx) (WX : L2.WX), SigOk c X WX env → ∀ x, fitTs c e x = true → DenTs X WX (evTs env e) x
  | .yes, c, X, WX, ok, [], h => ⟨_, pts_nil, snd_yes⟩
  | .yes, c, X, WX, ok, _ :: _, h => by cases h
  | .one t, c, X, WX, ok, [], h => by cases h
  | .one t, c, X, WX, ok, x :: r, h => by
    have h' : (r.isEmpty && fitT c t x) = true := h
    simp only [Bool.and_eq_true, List.isEmpty_iff] at h'
    obtain ⟨rfl, h2⟩ := h'
    obtain ⟨ta, pa, _, sa⟩ := denT env t c X WX ok _ h2
    exact ⟨_, pts_one pa, sa⟩
theorem denI (env : Nat → FnSpec) : ∀ (e : It) (c : Sig) (X : Cx) (WX : L2.WX), SigOk c X WX env → ∀ x, fitI c e x = true → DenIT (itTup e) X WX (evI env e) x
  | .enum e, c, X, WX, ok, x, h => fun tg htg => by
    obtain ⟨n, p, es, q, rfl, h1, h2⟩ := kCall_ok (show kCall (bltB c "enumerate") (l1 (fitE c e)) x = true from h)
    obtain ⟨y, rfl, h3, h4⟩ := l1_ok h2
    obtain ⟨ta, pa, sa⟩ := denE env e c X WX ok _ h4
    obtain ⟨rfl, g, m⟩ := ok.bl h1
    obtain ⟨elts, kk, tpos, rfl⟩ := htg rfl
    exact ⟨_, pi_enum g m (pa_cons pa (pa_nil) (star_ne h3)) (star_ne h3), snd_enum sa⟩
  | .enumS k e, c, X, WX, ok, x, h => fun tg htg => by
    have h' : ((decide (0 ≤ k) && decide (k < 1000)) && kEnS (bltB c "enumerate") k (fitE c e) x) = true := h
    simp only [Bool.and_eq_true, decide_eq_true_eq] at h'
    obtain ⟨⟨hk0, hk1⟩, h'⟩ := h'
    obtain ⟨n, p, y, j, p2, kp, q, rfl, h1, h3, h4⟩ := kEnS_ok h'
    obtain ⟨ta, pa, sa⟩ := denE env e c X WX ok _ h4
    obtain ⟨rfl, g, m⟩ := ok.bl h1
    obtain ⟨elts, kk, tpos, rfl⟩ := htg rfl
    exact ⟨_, pi_enumK g m (by omega) (by omega) (pa_cons pa (pa_nil) (star_ne h3)) (star_ne h3), snd_enumK sa⟩
  | .revI e, c, X, WX, ok, x, h => fun tg _ => by
    obtain ⟨n, p, es, q, rfl, h1, h2⟩ := kCall_ok (show kCall (bltB c "reversed") (l1 (fitE c e)) x = true from h)
    obtain ⟨y, rfl, h3, h4⟩ := l1_ok h2
    obtain ⟨ta, pa, sa⟩ := denE env e c X WX ok _ h4
    obtain ⟨rfl, g, m⟩ := ok.bl h1
    exact ⟨_, pi_reversed g m (pa_cons pa (pa_nil) (star_ne h3)) (star_ne h3), snd_revI sa⟩
  | .val e, c, X, WX, ok, x, h => fun tg _ => by
    obtain ⟨ta, pa, sa⟩ := denE env e c X WX ok x h
    exact ⟨_, pi_any (pi_list pa) (pi_tup pa) (pi_str pa), snd_its sa⟩
  | .rng1 l, c, X, WX, ok, x, h => fun tg _ => by
    obtain ⟨n, p, es, q, rfl, h1, h2⟩ := kCall_ok (show kCall (bltB c "range") (fun es => decide (es.length = 1) && fitEs c l es) x = true from h)
    simp only [Bool.and_eq_true, decide_eq_true_eq] at h2
    obtain ⟨ta, pa, sa⟩ := denEs env l c X WX ok _ h2.2
    obtain ⟨rfl, g, m⟩ := ok.bl h1
    have hs := fitEs_star h2.2
    match es, h2.1, pa, hs with
    | [a], _, pa, hs => exact ⟨_, pi_range1 g m pa (star_ne (hs a (by simp))), snd_rng1 sa⟩
  | .rng2 l, c, X, WX, ok, x, h => fun tg _ => by
    obtain ⟨n, p, es, q, rfl, h1, h2⟩ := kCall_ok (show kCall (bltB c "range") (fun es => decide (es.length = 2) && fitEs c l es) x = true from h)
    simp only [Bool.and_eq_true, decide_eq_true_eq] at h2
    obtain ⟨ta, pa, sa⟩ := denEs env l c X WX ok _ h2.2
    obtain ⟨rfl, g, m⟩ := ok.bl h1
    have hs := fitEs_star h2.2
    match es, h2.1, pa, hs with
    | [a, b], _, pa, hs =>
      have s2 := star_ne (r := []) (en := X.env) (hs b (by simp))
      exact ⟨_, pi_range2 g m pa (by rw [star_ne (hs a (by simp)), s2]; rfl) s2, snd_rng2 sa⟩
  | .rng3 l, c, X, WX, ok, x, h => fun tg _ => by
    obtain ⟨n, p, es, q, rfl, h1, h2⟩ := kCall_ok (show kCall (bltB c "range") (fun es => decide (es.length = 3) && fitEs c l es) x = true from h)
    simp only [Bool.and_eq_true, decide_eq_true_eq] at h2
    obtain ⟨ta, pa, sa⟩ := denEs env l c X WX ok _ h2.2
    obtain ⟨rfl, g, m⟩ := ok.bl h1
    have hs := fitEs_star h2.2
    match es, h2.1, pa, hs with
    | [a, b, d], _, pa, hs =>
      have s3 := star_ne (r := []) (en := X.env) (hs d (by simp))
      have s2 := star_ne (r := [d]) (en := X.env) (hs b (by simp))
      have s1 := star_ne (r := [b, d]) (en := X.env) (hs a (by simp))
      exact ⟨_, pi_range3 g m pa s1 (by rw [s2, s3]; rfl), snd_rng3 sa⟩
end
end Wz

set_option Elab.async false
set_option linter.all false
set_option maxRecDepth 100000
set_option maxHeartbeats 4000000
namespace Wz
open PySem PySem.Spec PyProof.Rows L2

section
variable {c : Sig} {X : Cx} {WX : L2.WX} {env : Nat → FnSpec} {np : Nat}
/-- what a suite's expression tells -/
def SndX (K : PySem.W.Frag) (cn : Str) (i : Option Nat) (ad : Addr) (cls : Value) (dd : Option Addr) (t : TE) (x : Sx) : Prop :=
  ∀ (E0 : Hp) (np : Nat) (W : Wd) (ρ : List Slot) (S : List Cell) (σ : L2.St) (H : Hp) (Q : VK) (av : Option Wz.D) (d : Wz.D), Rel K E0 np W ρ S σ H → ExcOk K W H cn av cls dd → (∀ j, i = some j → σ[j]? = some (some (.ref ad))) → x.ev av = some d →
    (∀ v W1 H1, EStep W H W1 H1 → WOk W1 H1 → ObsOk K W1 H1 S → RepW K W1 d v → Q v H1) → t σ H Q
theorem den_sx (ok : SigOk c X WX env) {cn : Str} {i : Option Nat} {ad : Addr} {oe : Obj} {cls : Value} {dd : Option Addr} {pn : List (Addr × Obj)} (hz : Zc cls dd oe) (hf : ∃ vs, oe.data = .fields vs) :
    ∀ (x : Sx) (e : Expr), fitX c cn i x e = true → ∃ te, PE (X.suite ad ((ad, oe) :: pn)) e te ∧ SndX X.K cn i ad cls dd te x
  | .str s, e, h => by
    obtain ⟨j, p, rfl⟩ := kStr_ok (show kStr s e = true from h)
    refine ⟨_, pe_str, fun E0 np W ρ S σ H Q av d r x hs ev k => ?_⟩
    cases ev
    exact k _ W H .refl r.wok r.obs rfl
  | .int s, e, h => by
    obtain ⟨j, p, rfl⟩ := kInt_ok (show kInt s e = true from h)
    refine ⟨_, pe_int, fun E0 np W ρ S σ H Q av d r x hs ev k => ?_⟩
    cases ev
    exact k _ W H .refl r.wok r.obs rfl
  | .bl s, e, h => by
    obtain ⟨j, p, rfl⟩ := kBl_ok (show kBl s e = true from h)
    refine ⟨_, pe_bl, fun E0 np W ρ S σ H Q av d r x hs ev k => ?_⟩
    cases ev
    exact k _ W H .refl r.wok r.obs rfl
  | .non, e, h => by
    obtain ⟨j, p, rfl⟩ := kNon_ok (show kNon e = true from h)
    refine ⟨_, pe_non, fun E0 np W ρ S σ H Q av d r x hs ev k => ?_⟩
    cases ev
    exact k _ W H .refl r.wok r.obs rfl
  | .exf, e, h => by
    obtain ⟨y, p, rfl, h1, h2⟩ := kAttr_ok (show kAttr (exF cn) (fun e => c.exV.contains cn && exSl c i e) e = true from h)
    simp only [Bool.and_eq_true] at h2
    obtain ⟨h2, h3⟩ := h2
    cases i with
    | none => cases h3
    | some j =>
      obtain ⟨n, q, rfl, h4⟩ := kSlot_ok h3
      simp only [slotB, Bool.and_eq_true, decide_eq_true_eq] at h4
      obtain ⟨kk, F0, _⟩ := ok.fct
      obtain ⟨_, _, xf, nof, _⟩ := F0.exV cn h2
      have pv : PE (X.suite ad ((ad, oe) :: pn)) (.Name n q) (tVar j) := pe_var (ok.nix h4.1.1) (ok.vis h4.1.2) (dbg_of h4.2).1 (dbg_of h4.2).2.1
      refine ⟨_, pe_xf xf nof hz hf pv (sup_ok h1), fun E0 np W ρ S σ H Q av d r x hs ev k => ?_⟩
      have ev' : av = some d := ev
      subst ev'
      obtain ⟨x1, x2, f, v, x3, x4, x5, rfl⟩ := x
      exact ⟨.ref ad, hs j rfl, rfl, x1, x2, _, v, x3, x4, by rw [List.lookup_cons_self], k v W H .refl r.wok r.obs x5⟩
  | .pair a b, e, h => by
    obtain ⟨ya, yb, kd, p, rfl, h1, h2, h3, h4⟩ := kPair_ok (show kPair (fitX c cn i a) (fitX c cn i b) e = true from h)
    obtain ⟨ta, pa, sa⟩ := den_sx ok hz hf a ya h2
    obtain ⟨tb, pb, sb⟩ := den_sx ok hz hf b yb h4
    refine ⟨_, pe_tup (pa_cons pa (pa_cons pb pa_nil (star_ne h3)) (star_ne h1)), fun E0 np W ρ S σ H Q av d r x hs ev k => ?_⟩
    have ev' : (match a.ev av, b.ev av with
      | some x, some y => some (Wz.D.tup [x, y])
      | _, _ => none) = some d := ev
    cases ea : a.ev av with
    | none => rw [ea] at ev'; cases ev'
    | some da =>
      cases eb : b.ev av with
      | none => rw [ea, eb] at ev'; cases ev'
      | some db =>
        rw [ea, eb] at ev'
        cases ev'
        refine sa E0 np W ρ S σ H _ av da r x hs ea fun va W1 H1 st1 w1 o1 ra => ?_
        have r1 := r.estep st1 w1 o1
        have x1 := x.sstep r (st1.st (n0 := 0))
        refine sb E0 np W1 ρ S σ H1 _ av db r1 x1 hs eb fun vb W2 H2 st2 w2 o2 rb => ?_
        refine ⟨by show 2 ≤ sizeLine; rw [sizeLine_eq]; omega, fun q hq => ?_⟩
        have s3 := frz_st (o := .tup [va, vb]) w2 hq
        exact k _ _ _ ((st1.trans st2).trans s3) (frz_w w2 hq) (frz_o w2 o2 hq) ⟨q, [va, vb], rfl, upd_same, va, [vb], rfl, s3.rep (st2.rep ra), vb, [], rfl, s3.rep rb, rfl⟩
/-- the forms of a suite's statements -/
def tg1 (f : Expr → Bool) : List Expr → Bool
  | [t] => f t
  | _ => false
def noI (i : Option Nat) (j : Nat) : Bool := match i with
  | none => true
  | some k => !decide (k = j)
def hiOk (c : Sig) (i : Option Nat) (nm : Option Str) (us : List Su) : Bool := match i, nm with
  | none, none => true
  | some i, some n => decide (c.N[i]? = some n) && (decide (c.sc.names.lookup n = some .local) && usOk i us)
  | _, _ => false
def fitU (c : Sig) (cn : Str) (i : Option Nat) : List Su → List Stmt → Bool
  | [], l => l.isEmpty
  | .set j x :: r, l => match l with
    | .Assign ts e _ :: y => tg1 (kSlot fun n => decide (c.N[j]? = some n) && locB c n) ts && (!isCmp e && (fitX c cn i x e && (noI i j && fitU c cn i r y)))
    | _ => false
  | .ret x :: r, l => match l with
    | .Return (some e) _ :: y => fitX c cn i x e && fitU c cn i r y
    | _ => false
  | .pass :: r, l => match l with
    | .Pass _ :: y => fitU c cn i r y
    | _ => false
theorem swp_ok2 {e : Expr} {t : Option Expr} {n : Nat} {en : Env} (h : isCmp e = false) : swapsWith e t n en = pure false := by
  cases e <;> first | rfl | cases h
def SndU (K : PySem.W.Frag) (np : Nat) (cn : Str) (i : Option Nat) (ad : Addr) (cls : Value) (dd : Option Addr) (t : TS) (us : List Su) : Prop :=
  ∀ (E0 : Hp) (n0 : Nat) (W : Wd) (ρ : List Slot) (S : List Cell) (σ : L2.St) (H : Hp) (D : Ends) (av : Option Wz.D), Rel K E0 np W ρ S σ H → n0 ≤ S.length → ExcOk K W H cn av cls dd → (∀ j, i = some j → σ[j]? = some (some (.ref ad))) →
    SNeed K WXF E0 np n0 ρ W σ H D (evU av us n0 ρ S) → t D σ H
theorem den_su (ok : SigOk c X WX env) {cn : Str} {i : Option Nat} {ad : Addr} {oe : Obj} {cls : Value} {dd : Option Addr} {pn : List (Addr × Obj)} (hz : Zc cls dd oe) (hf : ∃ vs, oe.data = .fields vs) :
    ∀ (us : List Su) (l : List Stmt), fitU c cn i us l = true → ∃ t, PSs (X.suite ad ((ad, oe) :: pn)) l t ∧ SndU X.K np cn i ad cls dd t us
  | [], l, h => by
    have e : l = [] := List.isEmpty_iff.mp h
    subst e
    exact ⟨_, pss_nil, fun E0 n0 W ρ S σ H D av r hl x hs n => n W σ H .refl r hl .refl⟩
  | .pass :: r, l, h => by
    cases l with
    | nil => cases h
    | cons s y =>
      cases s with
      | Pass p =>
        obtain ⟨t, pt, st⟩ := den_su ok hz hf r y h
        exact ⟨_, pss_cons ps_pass pt, st⟩
      | _ => cases h
  | .ret x :: r, l, h => by
    cases l with
    | nil => cases h
    | cons s y =>
      cases s with
      | Return o p =>
        cases o with
        | none => cases h
        | some e =>
          have h' : (fitX c cn i x e && fitU c cn i r y) = true := h
          simp only [Bool.and_eq_true] at h'
          obtain ⟨te, pe, se⟩ := den_sx (pn := pn) (ad := ad) ok hz hf x e h'.1
          obtain ⟨t, pt, st⟩ := den_su ok hz hf r y h'.2
          refine ⟨_, pss_cons (ps_ret pe) pt, fun E0 n0 W ρ S σ H D av r hl z hs n => ?_⟩
          unfold evU at n
          cases ev : x.ev av with
          | none => simp only [ev] at n; exact n.elim
          | some d =>
            simp only [ev] at n
            exact se E0 np W ρ S σ H _ av d r z hs ev fun v W1 H1 s1 w1 o1 rp => n v W1 σ H1 s1.st (r.estep s1 w1 o1) hl rp
      | _ => cases h
  | .set j x :: r, l, h => by
    cases l with
    | nil => cases h
    | cons s y =>
      cases s with
      | Assign ts e p =>
        have h' : (tg1 (kSlot fun n => decide (c.N[j]? = some n) && locB c n) ts && (!isCmp e && (fitX c cn i x e && (noI i j && fitU c cn i r y)))) = true := h
        simp only [Bool.and_eq_true, Bool.not_eq_true'] at h'
        obtain ⟨h1, h2, h3, h4, h5⟩ := h'
        cases ts with
        | nil => cases h1
        | cons t0 ts =>
          cases ts with
          | cons _ _ => cases h1
          | nil =>
            obtain ⟨n, q, rfl, h6⟩ := kSlot_ok h1
            simp only [Bool.and_eq_true, decide_eq_true_eq] at h6
            obtain ⟨te, pe, se⟩ := den_sx (pn := pn) (ad := ad) ok hz hf x e h3
            obtain ⟨t, pt, st⟩ := den_su ok hz hf r y h5
            refine ⟨_, pss_cons (ps_set (by rw [show (X.suite ad ((ad, oe) :: pn)).N = c.N from ok.N]; exact ok.nd) (ok.nix h6.1) (ok.loc h6.2).1 pe (swp_ok2 h2) (ok.loc h6.2).2) pt, fun E0 n0 W ρ S σ H D av r hl z hs n => ?_⟩
            unfold evU at n
            cases ev : x.ev av with
            | none => simp only [ev] at n; exact n.elim
            | some d =>
              simp only [ev] at n
              split at n
              · rename_i hj
                refine se E0 np W ρ S σ H _ av d r z hs ev fun v W1 H1 s1 w1 o1 rp => ?_
                have r1 := r.estep s1 w1 o1
                have sp : SStep n0 W H (W1.put (.sl j) none) H1 := s1.st.trans put_none_st
                have lk : LK ρ σ (ρ.set j (.val d)) (σ.set j (some v)) := .set fun _ z => by cases z
                refine st E0 n0 _ _ S _ H1 D av (rel_val r1 rp) hl (z.sstep r sp) (fun k ek => ?_) (SNeed.step sp lk n)
                subst ek
                have kj : k ≠ j := by simpa [noI] using h4
                rw [List.getElem?_set_ne (Ne.symm kj)]
                exact hs k rfl
              · exact n.elim
      | _ => cases h
theorem su_can {cn : Str} {i : Option Nat} {us : List Su} {l : List Stmt} (ok : SigOk c X WX env) (h : fitU c cn i us l = true) : SuOk X l (canU X.K np cn i us) := fun ad oe cls dd pn hz hf => by
  obtain ⟨t, pt, st⟩ := den_su (np := np) (pn := pn) (ad := ad) ok hz hf us l h
  refine ⟨fun pins s σ H D I hc => pt.run pins s σ H D I ?_⟩
  obtain ⟨E0, n0, W, ρ, S, av, r, hl, x, hs, n⟩ := hc
  exact st E0 n0 W ρ S σ H D av r hl x hs n
def fitHs (c : Sig) : List Hd → List ExceptHandler → Bool
  | [], l => l.isEmpty
  | h :: r, l => match l with
    | .ExceptHandler (some (.Name x _)) nm su _ :: y => (decide (x = h.c) && (glB c x && (dbgB x && c.hds.contains x))) && ((!su.isEmpty && fitU c h.c h.i h.us su) && (hiOk c h.i nm h.us && fitHs c r y))
    | _ => false
theorem den_hs (ok : SigOk c X WX env) : ∀ (hs : List Hd) (l : List ExceptHandler), fitHs c hs l = true → HdM X l (hs.map (clOf X.K np)) ∧ ∀ h ∈ hs, hdOk h = true ∧ c.hds.contains h.c = true
  | [], l, h => by
    have e : l = [] := List.isEmpty_iff.mp h
    subst e
    exact ⟨.nil, fun _ z => by cases z⟩
  | h :: r, l, hh => by
    cases l with
    | nil => cases hh
    | cons q y =>
      obtain ⟨ty, nm, su, p⟩ := q
      cases ty with
      | none => cases hh
      | some te =>
        cases te with
        | Name x p2 =>
          have h' : ((decide (x = h.c) && (glB c x && (dbgB x && c.hds.contains x))) && ((!su.isEmpty && fitU c h.c h.i h.us su) && (hiOk c h.i nm h.us && fitHs c r y))) = true := hh
          simp only [Bool.and_eq_true, decide_eq_true_eq, Bool.not_eq_true'] at h'
          obtain ⟨⟨rfl, h1, h2, h3⟩, ⟨h4, h5⟩, h6, h7⟩ := h'
          obtain ⟨k1, k2⟩ := den_hs ok r y h7
          obtain ⟨kk, F0, _⟩ := ok.fct
          have nmx : Names X h.c (.ref (He.ga X.K h.c)) := ⟨ok.gl h1, (dbg_of h2).1, .inl (F0.hds _ h3).1⟩
          have so := su_can (np := np) ok h5
          obtain ⟨b, su', rfl⟩ : ∃ b r, su = b :: r := by
            cases su with
            | nil => cases h4
            | cons b r => exact ⟨b, r, rfl⟩
          obtain ⟨hc, hi, us⟩ := h
          dsimp only at *
          cases hi with
          | none =>
            cases nm with
            | some n => cases h6
            | none =>
              refine ⟨.plain nmx so k1, fun z hz => ?_⟩
              rcases List.mem_cons.mp hz with rfl | hz
              · exact ⟨rfl, h3⟩
              · exact k2 z hz
          | some i =>
            cases nm with
            | none => cases h6
            | some n =>
              have h6' : (decide (c.N[i]? = some n) && (decide (c.sc.names.lookup n = some .local) && usOk i us)) = true := h6
              simp only [Bool.and_eq_true, decide_eq_true_eq] at h6'
              refine ⟨.named (by rw [ok.N]; exact ok.nd) (ok.nix h6'.1) (by rw [← ok.sc] at h6'; exact h6'.2.1) nmx so k1, fun z hz => ?_⟩
              rcases List.mem_cons.mp hz with rfl | hz
              · exact ⟨h6'.2.2, h3⟩
              · exact k2 z hz
        | _ => cases hh
/-! ### raise -/
def kRaise (f : Expr → Bool) : Stmt → Bool
  | .Raise o q _ => match o, q with
    | some e, none => f e
    | _, _ => false
  | _ => false
def kStrA : Expr → Bool
  | .Constant k _ _ => match k with
    | .str _ => true
    | _ => false
  | _ => false
theorem kRaise_ok {f : Expr → Bool} {x : Stmt} (h : kRaise f x = true) : ∃ e p, x = .Raise (some e) none p ∧ f e = true := by
  cases x with
  | Raise o q p =>
    cases o with
    | none => cases h
    | some e =>
      cases q with
      | some _ => cases h
      | none => exact ⟨e, p, rfl, h⟩
  | _ => cases h
theorem kStrA_ok {x : Expr} (h : kStrA x = true) : ∃ s j p, x = .Constant (.str s) j p := by
  cases x with
  | Constant k j p =>
    cases k with
    | str y => exact ⟨y, j, p, rfl⟩
    | _ => cases h
  | _ => cases h
theorem den_raise (ok : SigOk c X WX env) {cn m : Str} {j : Nat} {p p2 pos pos2 : Pos} (h1 : c.exP.contains cn = true) (h2 : glB c cn = true) (h3 : dbgB cn = true) : PS X (.Raise (some (.Call (.Name cn p) [.Constant (.str m) j p2] [] pos)) none pos2) (fun _ σ H => WX (.ref (He.ga X.K cn)) none σ H) := by
  obtain ⟨kk, F0, _⟩ := ok.fct
  obtain ⟨e1, e2, e3, e4, e5⟩ := F0.exP cn h1
  exact ps_raise ok.calm ok.tk (pmk_own PySem.F.excBase_ValueError e2 e1 e3 (raises_own e4 e5) (ok.gl h2) (dbg_of h3).1)
theorem den_raiseV (ok : SigOk c X WX env) {cn : Str} {e : Expr} {te : TE} {p pos pos2 : Pos} (h1 : c.exV.contains cn = true) (h2 : glB c cn = true) (h3 : dbgB cn = true) (hs : isStar e = false) (pe : PE X e te) :
    PS X (.Raise (some (.Call (.Name cn p) [e] [] pos)) none pos2) (fun _ σ H => tMkO (He.ga X.K cn) (spI (He.ga X.K cn) (exF cn)) [] (tCons te tNil) σ H fun cls d H' => WX cls d σ H') := by
  obtain ⟨kk, F0, hr⟩ := ok.fct
  obtain ⟨e1, e2, _, _, j, f, fd, ps, hj, F, i1, i2, b⟩ := F0.exV cn h1
  have px : Passes (L2.CX X.prog X.w) X (fun _ _ _ => False) := fun _ _ _ _ _ _ _ z => by
    obtain ⟨a, B, H', cls, d, _, _, _, _, _, _, _, _, _, q⟩ := z
  exact ps_raise ok.calm ok.tk (pmk_oex (dvs := []) e2 i1 i2 F (hr.mono hj) b .nil px (ok.gl h2) e1 (pa_cons pe pa_nil (star_ne hs)) (dbg_of h3).1 (star_ne hs) rfl)
end
end Wz

set_option Elab.async false
set_option linter.all false
set_option maxRecDepth 100000
set_option maxHeartbeats 4000000
namespace Wz
open PySem PySem.Spec PyProof.Rows L2

mutual
inductive Sm where
  | set (i : Nat) (m : Bool) (e : E) | sub (o : Nat) (i e : E) | app (o : Nat) (e : E) | exp (e : E)
  | ret (e : E) | retS (i : Nat) | retN | ife (t : T) (a b : Ss)
  | each (it : It) (g : Tg) (b : Ss) (clr : List Nat)
  | eachS (i : Nat) (g : Tg) (b : Ss) (clr : List Nat) | eachD (e : E) (g : Tg) (b : Ss) (clr : List Nat)
  | setLc (i : Nat) (m : Bool) (it : It) (vs : List Nat) (g : Tg) (c : Ts) (e : E)
  | aug (i : Nat) (e : E) | augI (i : Nat) (e : E) | frz (i : Nat) | subE (o i e : E) | whl (m : Nat) (t : T) (b : Ss) (clr : List Nat) | tupA (is : List Nat) (e : E) | pass
  | raise (cn : Str) | raiseV (cn : Str) (e : E) | try_ (xs : List Str) (b : Ss) (hs : List Hd) | att (own : Bool) (cs : List Str) (f : Str) (a e : E)
inductive Ss where
  | nil | cons (s : Sm) (l : Ss)
end
mutual
noncomputable def evS (env : Nat → FnSpec) (np : Nat) : Sm → EVS
  | .set i m e => sSet i m (evE env e)
  | .sub o i e => sSub o (evE env i) (evE env e)
  | .app o e => sApp o (evE env e)
  | .exp e => sDrop (evE env e)
  | .ret e => sRet (evE env e)
  | .retS i => sRetSlot np i
  | .retN => sRetN
  | .ife t a b => sIf (evT env t) (evSs env np a) (evSs env np b)
  | .each it g b clr => sFor (evI env it) (bindT g) (evSs env np b) clr
  | .eachS i g b clr => sForS i (bindT g) (evSs env np b) clr
  | .eachD e g b clr => sForD (evE env e) (bindT g) (evSs env np b) clr
  | .setLc i m it vs g c e => sSet i m (xLc (evI env it) vs g.ixs (bindT g) (evTs env c) (evE env e))
  | .aug i e => sAug i (evE env e)
  | .augI i e => sAugI i (evE env e)
  | .frz i => sFrz i
  | .subE o i e => sSubE (evE env o) (evE env i) (evE env e)
  | .whl m t b clr => sWhile m (evT env t) (evSs env np b) clr
  | .tupA is e => sTup is (evE env e)
  | .pass => sNil
  | .raise cn => sRaise cn
  | .raiseV cn e => sRaiseV cn (evE env e)
  | .try_ xs b hs => sTry xs (evSs env np b) hs
  | .att own cs f a e => sAtt own cs f (evE env a) (evE env e)
noncomputable def evSs (env : Nat → FnSpec) (np : Nat) : Ss → EVS
  | .nil => sNil
  | .cons s l => sSeq (evS env np s) (evSs env np l)
end
def kAsg (f : Expr → Bool) (g : Expr → Bool) : Stmt → Bool
  | .Assign ts e _ => match ts with
    | [t] => f t && (!isCmp e && g e)
    | _ => false
  | _ => false
def kExp (f : Expr → Bool) : Stmt → Bool
  | .Expr e _ => !isCmp e && f e
  | _ => false
def kAug (u : Str → Bool) (f : Expr → Bool) : Stmt → Bool
  | .AugAssign t o e _ => match t, o with
    | .Name x _, .Add => u x && f e
    | _, _ => false
  | _ => false
def kRet (f : Option Expr → Bool) : Stmt → Bool
  | .Return e _ => f e
  | _ => false
def kIf (f : Expr → Bool) (g h : List Stmt → Bool) : Stmt → Bool
  | .If c a b _ => f c && (g a && h b)
  | _ => false
def kFor (f g : Expr → Bool) (h : List Stmt → Bool) : Stmt → Bool
  | .For t i b o _ => o.isEmpty && (f t && ((g i && !isSet i) && h b))
  | _ => false
def fnK (c : Sig) : Bool := match c.sc.kind with
  | .function => true
  | _ => false
def isLcX : Expr → Bool
  | .ListComp .. => true
  | _ => false
/-- name = [..] -/
def kAsgC (f : Str → Bool) (g : Expr → Bool) : Stmt → Bool
  | .Assign ts e _ => match ts with
    | [.Name y _] => isLcX e && (f y && g e)
    | _ => false
  | _ => false
def kWhl (f : Expr → Bool) (h : List Stmt → Bool) : Stmt → Bool
  | .While t b o _ => o.isEmpty && (f t && h b)
  | _ => false
def kPass : Stmt → Bool
  | .Pass _ => true
  | _ => false
def kTry (f : List Stmt → Bool) (g : List ExceptHandler → Bool) : Stmt → Bool
  | .Try b hs o fi _ => o.isEmpty && (fi.isEmpty && (!hs.isEmpty && (f b && g hs)))
  | _ => false
def isFrz : Sm → Bool
  | .frz _ => true
  | _ => false
/-- names of a tuple -/
def kTupT (f : List Expr → Bool) : Expr → Bool
  | .Tuple es _ _ => f es
  | _ => false
def isTupX : Expr → Bool
  | .Tuple .. => true
  | _ => false
def kSub (f g : Expr → Bool) : Expr → Bool
  | .Subscript o i _ => f o && (g i && !isSlc i)
  | _ => false
def oS (f : Expr → Bool) : Option Expr → Bool
  | some e => f e
  | none => false
mutual
def fitS (c : Sig) : Sm → Stmt → Bool
  | .set i m e => kAsg (kSlot fun x => decide (c.N[i]? = some x) && locB c x) (fitE c e)
  | .sub o i e => kAsg (kSub (kSlot (slotB c o)) (fitE c i)) (fitE c e)
  | .app o e => kExp (kMeth "append" (kSlot (slotB c o)) (l1 (fitE c e)))
  | .exp e => kExp (fitE c e)
  | .ret e => kRet (oS (fitE c e))
  | .retS i => kRet (oS (kSlot (slotB c i)))
  | .retN => kRet fun o => o.isNone
  | .ife t a b => kIf (fitT c t) (fitSs c a) (fitSs c b)
  | .each it g b clr => kFor (fitG c g) (fun y => (!itTup it || tgTup g) && fitI c it y) (fitSs c b)
  | .eachS i g b clr => kFor (fitG c g) (kSlot (slotB c i)) (fitSs c b)
  | .eachD e g b clr => kFor (fitG c g) (fitE c e) (fitSs c b)
  | .setLc i m it vs g t e => kAsgC (fun x => decide (c.N[i]? = some x) && (locB c x && fnK c)) (kLc (fun y => !itTup it && fitI c it y) (fun sc => blkC c.N c.sc sc (inN c vs)) (fun sc => fitG { c with sc := relS sc c.sc, top := false } g) (fun sc => fitTs { c with sc := relS sc c.sc, top := false } t) (fun sc => fitE { c with sc := relS sc c.sc, top := false } e))
  | .aug i e => kAug (fun x => decide (c.N[i]? = some x) && locB c x) (fitE c e)
  | .augI i e => kAug (fun x => decide (c.N[i]? = some x) && locB c x) (fitE c e)
  | .frz _ => fun _ => false
  | .subE o i e => kAsg (kSub (fitE c o) (fitE c i)) (fitE c e)
  | .whl m t b clr => kWhl (fitT c t) (fitSs c b)
  | .tupA is e => kAsg (kTupT (fitNames c is)) fun y => !isTupX y && fitE c e y
  | .pass => kPass
  | .raise cn => kRaise (kCall (fun x => decide (x = cn) && (glB c x && (dbgB x && c.exP.contains x))) (l1 kStrA))
  | .raiseV cn e => kRaise (kCall (fun x => decide (x = cn) && (glB c x && (dbgB x && c.exV.contains x))) (l1 (fitE c e)))
  | .try_ xs b hs => kTry (fun y => fitSs c b y && xs.all fun cn => c.exs.contains cn) (fitHs c hs)
  | .att own cs f a e => kAsg (kAttr f fun y => fitE c a y && cs.all fun cn => c.flds.contains (cn, f)) (fitE c e)
def fitSs (c : Sig) : Ss → List Stmt → Bool
  | .nil, l => l.isEmpty
  | .cons s r, l => if isFrz s = true then fitSs c r l else match l with
    | [] => false
    | x :: y => fitS c s x && fitSs c r y
end
theorem kAsg_ok {f g : Expr → Bool} {x : Stmt} (h : kAsg f g x = true) : ∃ t e p, x = .Assign [t] e p ∧ f t = true ∧ isCmp e = false ∧ g e = true := by
  cases x with
  | Assign ts e p =>
    cases ts with
    | nil => cases h
    | cons t r =>
      cases r with
      | cons _ _ => cases h
      | nil =>
        have h' : (f t && (!isCmp e && g e)) = true := h
        simp only [Bool.and_eq_true, Bool.not_eq_true'] at h'
        exact ⟨t, e, p, rfl, h'⟩
  | _ => cases h
theorem kExp_ok {f : Expr → Bool} {x : Stmt} (h : kExp f x = true) : ∃ e p, x = .Expr e p ∧ isCmp e = false ∧ f e = true := by
  cases x with
  | Expr e p =>
    have h' : (!isCmp e && f e) = true := h
    simp only [Bool.and_eq_true, Bool.not_eq_true'] at h'
    exact ⟨e, p, rfl, h'⟩
  | _ => cases h
theorem kAug_ok {u : Str → Bool} {f : Expr → Bool} {x : Stmt} (h : kAug u f x = true) : ∃ n q e p, x = .AugAssign (.Name n q) .Add e p ∧ u n = true ∧ f e = true := by
  cases x with
  | AugAssign t o e p =>
    cases t with
    | Name n q =>
      cases o with
      | Add =>
        have h' : (u n && f e) = true := h
        simp only [Bool.and_eq_true] at h'
        exact ⟨n, q, e, p, rfl, h'⟩
      | _ => cases h
    | _ => cases o <;> cases h
  | _ => cases h
theorem kRet_ok {f : Option Expr → Bool} {x : Stmt} (h : kRet f x = true) : ∃ e p, x = .Return e p ∧ f e = true := by
  cases x with
  | Return e p => exact ⟨e, p, rfl, h⟩
  | _ => cases h
theorem oS_ok {f : Expr → Bool} {x : Option Expr} (h : oS f x = true) : ∃ e, x = some e ∧ f e = true := by
  cases x with
  | none => cases h
  | some e => exact ⟨e, rfl, h⟩
theorem kIf_ok {f : Expr → Bool} {g k : List Stmt → Bool} {x : Stmt} (h : kIf f g k x = true) : ∃ c a b p, x = .If c a b p ∧ f c = true ∧ g a = true ∧ k b = true := by
  cases x with
  | If c a b p =>
    have h' : (f c && (g a && k b)) = true := h
    simp only [Bool.and_eq_true] at h'
    exact ⟨c, a, b, p, rfl, h'⟩
  | _ => cases h
theorem kFor_ok {f g : Expr → Bool} {k : List Stmt → Bool} {x : Stmt} (h : kFor f g k x = true) : ∃ t i b p, x = .For t i b [] p ∧ f t = true ∧ g i = true ∧ isSet i = false ∧ k b = true := by
  cases x with
  | For t i b o p =>
    have h' : (o.isEmpty && (f t && ((g i && !isSet i) && k b))) = true := h
    simp only [Bool.and_eq_true, Bool.not_eq_true', List.isEmpty_iff] at h'
    obtain ⟨rfl, h1, ⟨h2, h3⟩, h4⟩ := h'
    exact ⟨t, i, b, p, rfl, h1, h2, h3, h4⟩
  | _ => cases h
theorem fnK_ok {c : Sig} (h : fnK c = true) : c.sc.kind = .function := by
  unfold fnK at h
  split at h
  · assumption
  · cases h
theorem kAsgC_ok {f : Str → Bool} {g : Expr → Bool} {x : Stmt} (h : kAsgC f g x = true) : ∃ y q e p, x = .Assign [.Name y q] e p ∧ isLcX e = true ∧ f y = true ∧ g e = true := by
  cases x with
  | Assign ts e p =>
    cases ts with
    | nil => cases h
    | cons t r =>
      cases r with
      | cons _ _ => cases t <;> cases h
      | nil =>
        cases t with
        | Name y q =>
          have h' : (isLcX e && (f y && g e)) = true := h
          simp only [Bool.and_eq_true] at h'
          exact ⟨y, q, e, p, rfl, h'⟩
        | _ => cases h
  | _ => cases h
theorem sw_not {elt : Expr} {gs : List Comprehension} {scope : Scope} {pos py : Pos} {y : Str} {l : Nat} {env : Env} (hk : env.scope.kind = .function)
    (h : (env.kindOf y == some .local && (py.line == pos.line) && !(scope.names.any fun (n, k) => n == y && (k == .local || k == .cell))) = false) : swapsWith (.ListComp elt gs scope pos) (some (.Name y py)) l env = pure false := by
  have hb : env.blockKind = .function := by unfold Env.blockKind; rw [hk]; rfl
  unfold swapsWith
  simp only [hb, Expr.pos]
  have e : (BEq.beq (α := ScopeKind) .function .function) = true := rfl
  rw [e, Bool.true_and, h]
theorem kWhl_ok {f : Expr → Bool} {k : List Stmt → Bool} {x : Stmt} (h : kWhl f k x = true) : ∃ t b p, x = .While t b [] p ∧ f t = true ∧ k b = true := by
  cases x with
  | While t b o p =>
    have h' : (o.isEmpty && (f t && k b)) = true := h
    simp only [Bool.and_eq_true, List.isEmpty_iff] at h'
    obtain ⟨rfl, h1, h2⟩ := h'
    exact ⟨t, b, p, rfl, h1, h2⟩
  | _ => cases h
theorem kPass_ok {x : Stmt} (h : kPass x = true) : ∃ p, x = .Pass p := by
  cases x with
  | Pass p => exact ⟨p, rfl⟩
  | _ => cases h
theorem kTry_ok {f : List Stmt → Bool} {g : List ExceptHandler → Bool} {x : Stmt} (h : kTry f g x = true) : ∃ b q r p, x = .Try b (q :: r) [] [] p ∧ f b = true ∧ g (q :: r) = true := by
  cases x with
  | Try b hs o fi p =>
    have h' : (o.isEmpty && (fi.isEmpty && (!hs.isEmpty && (f b && g hs)))) = true := h
    simp only [Bool.and_eq_true, List.isEmpty_iff, Bool.not_eq_true'] at h'
    obtain ⟨rfl, rfl, h1, h2, h3⟩ := h'
    cases hs with
    | nil => cases h1
    | cons q r => exact ⟨b, q, r, p, rfl, h2, h3⟩
  | _ => cases h
theorem kTupT_ok {f : List Expr → Bool} {x : Expr} (h : kTupT f x = true) : ∃ es k p, x = .Tuple es k p ∧ f es = true := by
  cases x with
  | Tuple es k p => exact ⟨es, k, p, rfl, h⟩
  | _ => cases h
theorem kSub_ok {f g : Expr → Bool} {x : Expr} (h : kSub f g x = true) : ∃ o i p, x = .Subscript o i p ∧ f o = true ∧ g i = true ∧ isSlc i = false := by
  cases x with
  | Subscript o i p =>
    have h' : (f o && (g i && !isSlc i)) = true := h
    simp only [Bool.and_eq_true, Bool.not_eq_true'] at h'
    exact ⟨o, i, p, rfl, h'⟩
  | _ => cases h
theorem swp_ok {e : Expr} {t : Option Expr} {n : Nat} {en : Env} (h : isCmp e = false) : swapsWith e t n en = pure false := by
  cases e <;> first | rfl | cases h
theorem sole_ok {e t : Expr} {n : Nat} {en : Env} (h : isCmp e = false) : swapsWithSole [t] e n en = pure false := by
  have q : swapsWithSole [t] e n en = swapsWith e (some t) n en := by
    unfold swapsWithSole
    rfl
  rw [q]
  exact swp_ok h
theorem sws_ok {o i e : Expr} {p : Pos} {en : Env} : swappedStores [.Subscript o i p] e en = pure none := by
  unfold swappedStores
  rfl
theorem tup_sws {es : List Expr} {k} {q : Pos} {y : Expr} {en : Env} (h : isTupX y = false) : swappedStores [.Tuple es k q] y en = pure none := by
  unfold swappedStores
  cases y <;> first | rfl | cases h
theorem asg_sub {o i : Expr} {p : Pos} {en : Env} (h : isSlc i = false) (v : Value) : assign (.Subscript o i p) en v = (do
    let ov ← holding [v] (eval o en)
    let iv ← holding [v, ov] (eval i en)
    standAt p
    holding [v, ov, iv] (setItem ov iv v)
    release [v, ov, iv] []) := by
  cases i <;> first | rfl | cases h
def DenS (X : Cx) (WX : L2.WX) (np : Nat) (ev : EVS) (x : Stmt) : Prop := ∃ t, PS X x t ∧ SndS X.K WX np t ev
def DenB (X : Cx) (WX : L2.WX) (np : Nat) (ev : EVS) (x : List Stmt) : Prop := ∃ t, PSs X x t ∧ SndS X.K WX np t ev
structure StOk (c : Sig) (X : Cx) (WX : L2.WX) (env : Nat → FnSpec) : Prop where
  ok : SigOk c X WX env
  own : PassesOwn (model X.prog X.w) X.A X.env X.xe
  stk : X.stack = X.env :: X.outer
  frm : X.env.frame = some X.env.locals
theorem StOk.tr {c : Sig} {X : Cx} {WX W : L2.WX} {env : Nat → FnSpec} {pn : List (Addr × Obj)} {xe : Value → Shared → Prop} (so : StOk c X WX env) (tk : Takes (X.tr pn xe) W) (po : PassesOwn (model X.prog X.w) X.A X.env xe) : StOk c (X.tr pn xe) W env :=
  ⟨⟨so.ok.N, so.ok.nd, so.ok.sc, so.ok.calm, so.ok.hu, so.ok.fn, tk, so.ok.fct⟩, po, so.stk, so.frm⟩
mutual
theorem denS (env : Nat → FnSpec) (np : Nat) : ∀ (e : Sm) (c : Sig) (X : Cx) (WX : L2.WX), StOk c X WX env → ∀ x, fitS c e x = true → DenS X WX np (evS env np e) x
  | .set i m e, c, X, WX, so, x, h => by
    have ok := so.ok
    obtain ⟨t, y, p, rfl, h1, h2, h3⟩ := kAsg_ok (show kAsg (kSlot fun x => decide (c.N[i]? = some x) && locB c x) (fitE c e) x = true from h)
    obtain ⟨n, q, rfl, h4⟩ := kSlot_ok h1
    simp only [Bool.and_eq_true, decide_eq_true_eq] at h4
    obtain ⟨te, pe, se⟩ := denE env e c X WX ok _ h3
    exact ⟨_, ps_set (by rw [ok.N]; exact ok.nd) (ok.nix h4.1) (ok.loc h4.2).1 pe (swp_ok h2) (ok.loc h4.2).2, snds_set se⟩
  | .sub o i e, c, X, WX, so, x, h => by
    have ok := so.ok
    obtain ⟨t, y, p, rfl, h1, h2, h3⟩ := kAsg_ok (show kAsg (kSub (kSlot (slotB c o)) (fitE c i)) (fitE c e) x = true from h)
    obtain ⟨l, j, q, rfl, h4, h5, h6⟩ := kSub_ok h1
    obtain ⟨n, q2, rfl, h7⟩ := kSlot_ok h4
    simp only [slotB, Bool.and_eq_true, decide_eq_true_eq] at h7
    obtain ⟨te, pe, se⟩ := denE env e c X WX ok _ h3
    obtain ⟨ti, pi, si⟩ := denE env i c X WX ok _ h5
    have pv : PE X (.Name n q2) (tVar o) := pe_var (ok.nix h7.1.1) (ok.vis h7.1.2) (dbg_of h7.2).1 (dbg_of h7.2).2.1
    have hu : X.A.units + 1 < cLine := by
      have := ok.hu
      omega
    refine ⟨_, PS.or (ps_dput hu pv pi pe (swp_ok h2)) (ps_asg pe (pg_sub pv pi set_list (fun v => asg_sub h6 v)) (sole_ok h2) sws_ok rfl), snds_sub si se⟩
  | .app o e, c, X, WX, so, x, h => by
    have ok := so.ok
    obtain ⟨y, p, rfl, h1, h2⟩ := kExp_ok (show kExp (kMeth "append" (kSlot (slotB c o)) (l1 (fitE c e))) x = true from h)
    obtain ⟨ob, p2, es, q, rfl, h3, h4, h5, h6⟩ := kMeth_ok h2
    obtain ⟨n, q2, rfl, h7⟩ := kSlot_ok h5
    obtain ⟨z, rfl, h8, h9⟩ := l1_ok h6
    simp only [slotB, Bool.and_eq_true, decide_eq_true_eq] at h7
    obtain ⟨te, pe, se⟩ := denE env e c X WX ok _ h9
    have pv : PE X (.Name n q2) (tVar o) := pe_var (ok.nix h7.1.1) (ok.vis h7.1.2) (dbg_of h7.2).1 (dbg_of h7.2).2.1
    exact ⟨_, ps_expr (pe_bm PySem.F.plainAttrs_list PySem.F.slot_list_append PySem.F.type_list_append mt_append pv (pa_cons pe pa_nil (star_ne h8)) (sup_ok h4) (by rw [star_ne h8]; rfl) h3 (star_ne h8) rfl) (swp_ok h1), snds_app se⟩
  | .exp e, c, X, WX, so, x, h => by
    obtain ⟨y, p, rfl, h1, h2⟩ := kExp_ok (show kExp (fitE c e) x = true from h)
    obtain ⟨te, pe, se⟩ := denE env e c X WX so.ok _ h2
    exact ⟨_, ps_expr pe (swp_ok h1), snds_drop se⟩
  | .ret e, c, X, WX, so, x, h => by
    obtain ⟨y, p, rfl, h1⟩ := kRet_ok (show kRet (oS (fitE c e)) x = true from h)
    obtain ⟨z, rfl, h2⟩ := oS_ok h1
    obtain ⟨te, pe, se⟩ := denE env e c X WX so.ok _ h2
    exact ⟨_, ps_ret pe, snds_ret se⟩
  | .retS i, c, X, WX, so, x, h => by
    have ok := so.ok
    obtain ⟨y, p, rfl, h1⟩ := kRet_ok (show kRet (oS (kSlot (slotB c i))) x = true from h)
    obtain ⟨z, rfl, h2⟩ := oS_ok h1
    obtain ⟨n, q2, rfl, h7⟩ := kSlot_ok h2
    simp only [slotB, Bool.and_eq_true, decide_eq_true_eq] at h7
    exact ⟨_, ps_ret (pe_var (ok.nix h7.1.1) (ok.vis h7.1.2) (dbg_of h7.2).1 (dbg_of h7.2).2.1), snds_retSlot⟩
  | .retN, c, X, WX, so, x, h => by
    obtain ⟨y, p, rfl, h1⟩ := kRet_ok (show kRet (fun o => o.isNone) x = true from h)
    cases y with
    | none => exact ⟨_, ps_retN, snds_retN⟩
    | some _ => cases h1
  | .ife t a b, c, X, WX, so, x, h => by
    obtain ⟨y, l, m, p, rfl, h1, h2, h3⟩ := kIf_ok (show kIf (fitT c t) (fitSs c a) (fitSs c b) x = true from h)
    obtain ⟨tt, pt, _, st⟩ := denT env t c X WX so.ok _ h1
    obtain ⟨ta, pa, sa⟩ := denSs env np a c X WX so _ h2
    obtain ⟨tb, pb, sb⟩ := denSs env np b c X WX so _ h3
    exact ⟨_, ps_if pt pa pb, snds_if st sa sb⟩
  | .each it g b clr, c, X, WX, so, x, h => by
    obtain ⟨t, i, l, p, rfl, h1, h2, h3, h4⟩ := kFor_ok (show kFor (fitG c g) (fun y => (!itTup it || tgTup g) && fitI c it y) (fitSs c b) x = true from h)
    simp only [Bool.and_eq_true, Bool.or_eq_true, Bool.not_eq_true'] at h2
    obtain ⟨wi, pi, si⟩ := denI env it c X WX so.ok _ h2.2 t (fun q => by
      rcases h2.1 with z | z
      · rw [z] at q; cases q
      · cases g with
        | nm _ => cases z
        | tp is =>
          cases t with
          | Tuple es k p => exact ⟨es, k, p, rfl⟩
          | _ => cases h1
        | np i is =>
          cases t with
          | Tuple es k p => exact ⟨es, k, p, rfl⟩
          | _ => cases h1)
    obtain ⟨tb, pb, sb⟩ := denSs env np b c X WX so _ h4
    exact ⟨_, ps_for so.own so.ok.calm pi (so.ok.tg h1) pb (set_ok h3), snds_for si (tg_snd g) sb⟩
  | .eachS i g b clr, c, X, WX, so, x, h => by
    have ok := so.ok
    obtain ⟨t, y, l, p, rfl, h1, h2, h3, h4⟩ := kFor_ok (show kFor (fitG c g) (kSlot (slotB c i)) (fitSs c b) x = true from h)
    obtain ⟨n, q, rfl, h7⟩ := kSlot_ok h2
    simp only [slotB, Bool.and_eq_true, decide_eq_true_eq] at h7
    have pv : PE X (.Name n q) (tVar i) := pe_var (ok.nix h7.1.1) (ok.vis h7.1.2) (dbg_of h7.2).1 (dbg_of h7.2).2.1
    obtain ⟨tb, pb, sb⟩ := denSs env np b c X WX so _ h4
    have ps := ps_for so.own so.ok.calm (pi_keys pv) (so.ok.tg h1) pb (set_ok h3) (pos := p)
    exact ⟨_, PS.or (ps_lock ps) ps, snds_forS snd_slot (tg_snd g) sb⟩
  | .eachD e g b clr, c, X, WX, so, x, h => by
    obtain ⟨t, y, l, p, rfl, h1, h2, h3, h4⟩ := kFor_ok (show kFor (fitG c g) (fitE c e) (fitSs c b) x = true from h)
    obtain ⟨te, pe, se⟩ := denE env e c X WX so.ok _ h2
    obtain ⟨tb, pb, sb⟩ := denSs env np b c X WX so _ h4
    have ps := ps_for so.own so.ok.calm (pi_keys pe) (so.ok.tg h1) pb (set_ok h3) (pos := p)
    exact ⟨_, PS.or (ps_lock ps) ps, snds_forD se (tg_snd g) sb⟩
  | .setLc i m it vs g t e, c, X, WX, so, x, h => by
    have ok := so.ok
    obtain ⟨n, q, y, sp, rfl, _, h1, h2⟩ := kAsgC_ok (show kAsgC (fun x => decide (c.N[i]? = some x) && (locB c x && fnK c)) (kLc (fun y => !itTup it && fitI c it y) (fun sc => blkC c.N c.sc sc (inN c vs)) (fun sc => fitG { c with sc := relS sc c.sc, top := false } g) (fun sc => fitTs { c with sc := relS sc c.sc, top := false } t) (fun sc => fitE { c with sc := relS sc c.sc, top := false } e)) x = true from h)
    simp only [Bool.and_eq_true, decide_eq_true_eq] at h1
    obtain ⟨el, tg, itx, ifs, sc, p, rfl, k1, k2, k3, k4, k5, k6⟩ := kLc_ok h2
    have hk : X.env.scope.kind = .function := by rw [ok.sc]; exact fnK_ok h1.2.2
    simp only [Bool.and_eq_true, Bool.not_eq_true'] at k1
    obtain ⟨wi, pi, si⟩ := denI env it c X WX ok _ k1.2 tg fun q => by rw [k1.1] at q; cases q
    have ht := fun s H C cl fp => denTs env t _ (X.blk s H sc (compEnvC sc cl C X.env) fp) WXF ok.blk _ k5
    have he := fun s H C cl fp => denE env e _ (X.blk s H sc (compEnvC sc cl C X.env) fp) WXF ok.blk _ k6
    have ev : (inN c vs).map (·.2) = vs := by simp [inN, Function.comp_def]
    have snd := snds_set (np := np) (i := i) (m := m) (snd_lc (vs := vs) si (tg_sndc g) (snd_can (K := X.K) (WX := WXF) (R := RB) (ev := evTs env t)) (snd_can (K := X.K) (WX := WXF) (R := RvOk X.K) (ev := evE env e)))
    have bo : BlkOk X.N X.env.scope sc (inN c vs) := blkOk_by (by rw [ok.N, ok.sc]; exact k3)
    cases hc : (X.env.kindOf n == some .local && (q.line == p.line) && !(sc.names.any fun (z, k) => z == n && (k == .local || k == .cell))) with
    | true =>
      simp only [Bool.and_eq_true, Bool.not_eq_true'] at hc
      have hl : X.env.scope.names.lookup n = some .local := eq_of_beq hc.1.1
      have w := ps_setLc (g := tgOf X.K g) (tt := canT X.K WXF RB (evTs env t)) (te := canT X.K WXF (RvOk X.K) (evE env e)) (spos := sp) ok.calm (by rw [ok.N]; exact ok.nd) (ok.nix h1.1) hl (sw_true hk hl hc.1.2 hc.2) pi bo (fun s H C cl fp => SigOk.tg ok.blk k4) (fun s H C cl fp => (ht s H C cl fp).can) (fun s H C cl fp => (he s H C cl fp).can) (set_ok k2)
      rw [ev] at w
      exact ⟨_, w, snd⟩
    | false =>
      have pe := pe_lc (g := tgOf X.K g) (tt := canT X.K WXF RB (evTs env t)) (te := canT X.K WXF (RvOk X.K) (evE env e)) (pos := p) ok.calm (by rw [ok.N]; exact ok.nd) pi bo (fun s H C cl fp => SigOk.tg ok.blk k4) (fun s H C cl fp => (ht s H C cl fp).can) (fun s H C cl fp => (he s H C cl fp).can) (set_ok k2)
      rw [ev] at pe
      exact ⟨_, ps_set (by rw [ok.N]; exact ok.nd) (ok.nix h1.1) (ok.loc h1.2.1).1 pe (sw_not hk hc) (ok.loc h1.2.1).2, snd⟩
  | .aug i e, c, X, WX, so, x, h => by
    have ok := so.ok
    obtain ⟨n, q, y, p, rfl, h1, h2⟩ := kAug_ok (show kAug (fun x => decide (c.N[i]? = some x) && locB c x) (fitE c e) x = true from h)
    simp only [Bool.and_eq_true, decide_eq_true_eq] at h1
    obtain ⟨te, pe, se⟩ := denE env e c X WX ok _ h2
    exact ⟨_, ps_aug (by rw [ok.N]; exact ok.nd) (ok.nix h1.1) (ok.loc h1.2).1 pe iop_ext (ok.loc h1.2).2, snds_aug se⟩
  | .augI i e, c, X, WX, so, x, h => by
    have ok := so.ok
    obtain ⟨n, q, y, p, rfl, h1, h2⟩ := kAug_ok (show kAug (fun x => decide (c.N[i]? = some x) && locB c x) (fitE c e) x = true from h)
    simp only [Bool.and_eq_true, decide_eq_true_eq] at h1
    obtain ⟨te, pe, se⟩ := denE env e c X WX ok _ h2
    exact ⟨_, ps_aug (by rw [ok.N]; exact ok.nd) (ok.nix h1.1) (ok.loc h1.2).1 pe ip_add (ok.loc h1.2).2, snds_augI se⟩
  | .frz i, c, X, WX, so, x, h => by cases h
  | .subE o i e, c, X, WX, so, x, h => by
    have ok := so.ok
    obtain ⟨t, y, p, rfl, h1, h2, h3⟩ := kAsg_ok (show kAsg (kSub (fitE c o) (fitE c i)) (fitE c e) x = true from h)
    obtain ⟨l, j, q, rfl, h4, h5, h6⟩ := kSub_ok h1
    obtain ⟨te, pe, se⟩ := denE env e c X WX ok _ h3
    obtain ⟨ti, pi, si⟩ := denE env i c X WX ok _ h5
    obtain ⟨to, po, so2⟩ := denE env o c X WX ok _ h4
    have hu : X.A.units + 1 < cLine := by
      have := ok.hu
      omega
    exact ⟨_, PS.or (ps_dput hu po pi pe (swp_ok h2)) (ps_asg pe (pg_sub po pi set_list (fun v => asg_sub h6 v)) (sole_ok h2) sws_ok rfl), snds_subE so2 si se⟩
  | .whl m t b clr, c, X, WX, so, x, h => by
    obtain ⟨y, l, p, rfl, h1, h2⟩ := kWhl_ok (show kWhl (fitT c t) (fitSs c b) x = true from h)
    obtain ⟨tt, pt, _, st⟩ := denT env t c X WX so.ok _ h1
    obtain ⟨tb, pb, sb⟩ := denSs env np b c X WX so _ h2
    exact ⟨_, ps_while so.own pt pb, snds_while st sb⟩
  | .tupA is e, c, X, WX, so, x, h => by
    have ok := so.ok
    obtain ⟨t, y, p, rfl, h1, h2, h3⟩ := kAsg_ok (show kAsg (kTupT (fitNames c is)) (fun y => !isTupX y && fitE c e y) x = true from h)
    obtain ⟨es, k, q, rfl, h4⟩ := kTupT_ok h1
    simp only [Bool.and_eq_true, Bool.not_eq_true'] at h3
    obtain ⟨te, pe, se⟩ := denE env e c X WX ok _ h3.2
    obtain ⟨a, b, d⟩ := ok.names h4
    exact ⟨_, ps_asg pe (pg_tup ok.calm a b d) (sole_ok h2) (tup_sws h3.1) rfl, snds_tup se⟩
  | .pass, c, X, WX, so, x, h => by
    obtain ⟨p, rfl⟩ := kPass_ok (show kPass x = true from h)
    exact ⟨_, ps_pass, snds_nil⟩
  | .raise cn, c, X, WX, so, x, h => by
    obtain ⟨e, p, rfl, h1⟩ := kRaise_ok (show kRaise (kCall (fun x => decide (x = cn) && (glB c x && (dbgB x && c.exP.contains x))) (l1 kStrA)) x = true from h)
    obtain ⟨n, p2, es, q, rfl, h2, h3⟩ := kCall_ok h1
    obtain ⟨y, rfl, _, h4⟩ := l1_ok h3
    obtain ⟨m, j, p3, rfl⟩ := kStrA_ok h4
    simp only [Bool.and_eq_true, decide_eq_true_eq] at h2
    obtain ⟨rfl, h5, h6, h7⟩ := h2
    exact ⟨_, den_raise so.ok h7 h5 h6, snds_raise⟩
  | .raiseV cn e, c, X, WX, so, x, h => by
    obtain ⟨e2, p, rfl, h1⟩ := kRaise_ok (show kRaise (kCall (fun x => decide (x = cn) && (glB c x && (dbgB x && c.exV.contains x))) (l1 (fitE c e))) x = true from h)
    obtain ⟨n, p2, es, q, rfl, h2, h3⟩ := kCall_ok h1
    obtain ⟨y, rfl, h4, h5⟩ := l1_ok h3
    simp only [Bool.and_eq_true, decide_eq_true_eq] at h2
    obtain ⟨rfl, h6, h7, h8⟩ := h2
    obtain ⟨te, pe, se⟩ := denE env e c X WX so.ok _ h5
    exact ⟨_, den_raiseV so.ok h8 h6 h7 h4 pe, snds_raiseV se⟩
  | .att own cs f a e, c, X, WX, so, x, h => by
    obtain ⟨t, y, p, rfl, h1, h2, h3⟩ := kAsg_ok (show kAsg (kAttr f fun y => fitE c a y && cs.all fun cn => c.flds.contains (cn, f)) (fitE c e) x = true from h)
    obtain ⟨o, p2, rfl, _, h4⟩ := kAttr_ok h1
    simp only [Bool.and_eq_true] at h4
    obtain ⟨te, pe, se⟩ := denE env e c X WX so.ok _ h3
    obtain ⟨ta, pa, sa⟩ := denE env a c X WX so.ok _ h4.1
    obtain ⟨kk, F0, _⟩ := so.ok.fct
    exact ⟨_, ps_fld pa pe (swp_ok h2), snds_att (fun cn hc => F0.flds cn f (List.all_eq_true.mp h4.2 cn hc)) sa se⟩
  | .try_ xs b hs, c, X, WX, so, x, h => by
    obtain ⟨l, q, r, p, rfl, h1, h2⟩ := kTry_ok (show kTry (fun y => fitSs c b y && xs.all fun cn => c.exs.contains cn) (fitHs c hs) x = true from h)
    simp only [Bool.and_eq_true] at h1
    obtain ⟨k1, k2⟩ := den_hs (np := np) so.ok hs _ h2
    obtain ⟨kk, F0, _⟩ := so.ok.fct
    refine ⟨_, ps_try_mix (tb := canS X.K np (evSs env np b)) so.stk so.frm so.ok.tk (fun W pn xe tk po => ?_) k1, snds_try (xs := xs) fun z hz => ⟨(k2 z hz).1, fun cn hc => (F0.hds _ (k2 z hz).2).2 cn (List.contains_iff_mem.mp (List.all_eq_true.mp h1.2 cn hc))⟩⟩
    obtain ⟨t, pt, st⟩ := denSs env np b c (X.tr pn xe) W (so.tr tk po) l h1.1
    refine ⟨fun pins s σ H D I hc => pt.run pins s σ H D I ?_⟩
    obtain ⟨E0, n0, W0, ρ, S, rr, hl, n⟩ := hc
    exact st E0 n0 W0 ρ S σ H D rr hl n
theorem denSs (env : Nat → FnSpec) (np : Nat) : ∀ (e : Ss) (c : Sig) (X : Cx) (WX : L2.WX), StOk c X WX env → ∀ x, fitSs c e x = true → DenB X WX np (evSs env np e) x
  | .nil, c, X, WX, so, [], h => ⟨_, pss_nil, snds_nil⟩
  | .nil, c, X, WX, so, _ :: _, h => by cases h
  | .cons s r, c, X, WX, so, [], h => by
    have h0 : (if isFrz s = true then fitSs c r [] else false) = true := h
    cases s with
    | frz i =>
      obtain ⟨tb, pb, sb⟩ := denSs env np r c X WX so [] h0
      exact ⟨_, pb, snds_frz sb⟩
    | _ => cases h0
  | .cons s r, c, X, WX, so, x :: y, h => by
    have h0 : (if isFrz s = true then fitSs c r (x :: y) else (fitS c s x && fitSs c r y)) = true := h
    cases s with
    | frz i =>
      obtain ⟨tb, pb, sb⟩ := denSs env np r c X WX so (x :: y) h0
      exact ⟨_, pb, snds_frz sb⟩
    | _ =>
      have h' : (fitS c _ x && fitSs c r y) = true := h0
      simp only [Bool.and_eq_true] at h'
      obtain ⟨ta, pa, sa⟩ := denS env np _ c X WX so x h'.1
      obtain ⟨tb, pb, sb⟩ := denSs env np r c X WX so y h'.2
      exact ⟨_, pss_cons pa pb, snds_seq sa sb⟩
end
end Wz

set_option Elab.async false
set_option linter.all false
set_option maxRecDepth 100000
set_option maxHeartbeats 4000000
namespace Wz
open PySem PySem.Spec PyProof.Rows L2

/-! ### defs -/
def argSlot : Mode → Bool → Wz.D → Slot
  | .v, _, d => .val d
  | .b, true, d => .lck d
  | .b, false, d => .val d
  | .o, _, d => .own d
def argSlots : List Mode → List Bool → List Wz.D → List Slot
  | m :: ms, b :: bs, d :: ds => argSlot m b d :: argSlots ms bs ds
  | _, _, _ => []
def toF : SOut → FOut
  | .nx _ S => .ok (.val .non) [] S
  | .rt r _ S => .ok r [] S
  | .exc c a _ S => .exc c a S
  | .stuck => .stuck
/-- what a def's text does with its arguments -/
noncomputable def runB (env : Nat → FnSpec) (ms : List Mode) (n : Nat) (body : Ss) (bs : List Bool) (ds : List Wz.D) (S : List Cell) : FOut :=
  toF (evSs env ms.length body S.length (argSlots ms bs ds ++ List.replicate (n - ms.length) .non) S)
section
variable {K : PySem.W.Frag} {WX : L2.WX} {W W0 W1 W2 Wc : Wd} {H H0 H1 H2 H' : Hp} {σ : L2.St} {ρ : List Slot} {S S' S1 : List Cell} {E0 : Hp} {np n0 : Nat} {X : Cx} {D : Ends}
theorem args_slots : ∀ {ms : List Mode} {ds : List Wz.D} {vs : List V} {i : Nat}, ArgsOk K W H i ms ds vs → ∃ bs : List Bool, bs.length = ms.length ∧ (argSlots ms bs ds).length = ms.length ∧
    ∀ (j : Nat) (s : Slot), (argSlots ms bs ds)[j]? = some s → ∃ v, vs[j]? = some v ∧ (match s with
      | .non => True
      | .val d => RepW K W d v
      | .own d => ∃ p, v = .ref p ∧ W.ow (.sl (i + j)) = some p ∧ ContX K W H p d
      | .lck d => ∃ p, v = .ref p ∧ (∀ o, W.ow o ≠ some p) ∧ ContR K W H p d) ∧ ((∀ d, s ≠ .own d) → ms[j]? ≠ some .o)
  | [], ds, vs, i, h => ⟨[], rfl, rfl, fun j s e => by simp [argSlots] at e⟩
  | m :: ms, ds, vs, i, h => by
    obtain ⟨d, dr, v, vr, rfl, rfl, h1, h2⟩ := h
    obtain ⟨bs, b1, b2, b3⟩ := args_slots h2
    have rest : ∀ (b : Bool) (j : Nat) (s : Slot), (argSlots (m :: ms) (b :: bs) (d :: dr))[j + 1]? = some s → ∃ u, (v :: vr)[j + 1]? = some u ∧ (match s with
      | .non => True
      | .val d => RepW K W d u
      | .own d => ∃ p, u = .ref p ∧ W.ow (.sl (i + (j + 1))) = some p ∧ ContX K W H p d
      | .lck d => ∃ p, u = .ref p ∧ (∀ o, W.ow o ≠ some p) ∧ ContR K W H p d) ∧ ((∀ d, s ≠ .own d) → (m :: ms)[j + 1]? ≠ some .o) := fun b j s e => by
      obtain ⟨u, e1, e2, e3⟩ := b3 j s (by simpa [argSlots] using e)
      have ei : i + (j + 1) = i + 1 + j := by omega
      rw [ei]
      exact ⟨u, by simpa using e1, e2, by simpa using e3⟩
    cases m with
    | v =>
      refine ⟨false :: bs, by simp [b1], by simp [argSlots, b2], fun j s e => ?_⟩
      cases j with
      | zero =>
        have es : s = .val d := by simpa [argSlots, argSlot] using e.symm
        subst es
        exact ⟨v, rfl, h1, fun _ => by simp⟩
      | succ j => exact rest false j s e
    | o =>
      refine ⟨false :: bs, by simp [b1], by simp [argSlots, b2], fun j s e => ?_⟩
      cases j with
      | zero =>
        have es : s = .own d := by simpa [argSlots, argSlot] using e.symm
        subst es
        exact ⟨v, rfl, h1, fun z => absurd rfl (z d)⟩
      | succ j => exact rest false j s e
    | b =>
      rcases h1 with h1 | h1
      · refine ⟨false :: bs, by simp [b1], by simp [argSlots, b2], fun j s e => ?_⟩
        cases j with
        | zero =>
          have es : s = .val d := by simpa [argSlots, argSlot] using e.symm
          subst es
          exact ⟨v, rfl, h1, fun _ => by simp⟩
        | succ j => exact rest false j s e
      · refine ⟨true :: bs, by simp [b1], by simp [argSlots, b2], fun j s e => ?_⟩
        cases j with
        | zero =>
          have es : s = .lck d := by simpa [argSlots, argSlot] using e.symm
          subst es
          obtain ⟨p, e1, e2, e3⟩ := h1
          exact ⟨v, rfl, ⟨p, e1, e3, e2⟩, fun _ => by simp⟩
        | succ j => exact rest true j s e
theorem bare_step (st : SStep n0 W H W1 H1) : SStep n0 W H (bare W1) H1 := ⟨st.keep, st.F, st.Fn, st.ob, st.fl, fun o a h => st.own o a (bare_some h).2, st.liv, st.fz⟩
theorem bare_rv {rv : Rv} {v : V} (h : RvOk K W H0 H rv v) : RvOk K (bare W) H0 H rv v := by
  cases rv with
  | val d => exact Rep.mono (fun _ _ q => q) (fun _ _ q => q) d v h
  | new d =>
    obtain ⟨p, e, c, n, o, z⟩ := h
    exact ⟨p, e, c.mono (fun _ _ q => q) (fun _ _ q => q) rfl, n, fun x q => o x (bare_some q).2, z⟩
  | bor d =>
    obtain ⟨p, e, c, n⟩ := h
    exact ⟨p, e, c.mono (fun _ _ q => q) (fun _ _ q => q) rfl, fun x hx q => n x hx (bare_some q).2⟩
  | lk d =>
    obtain ⟨p, e, c, n⟩ := h
    exact ⟨p, e, c.mono (fun _ _ q => q) (fun _ _ q => q) rfl, fun x q => n x (bare_some q).2⟩
  | fld n f => exact h
theorem bare_exc {c : Str} {a : Option Wz.D} {cls : Value} {dd : Option Addr} (h : ExcOk K W H c a cls dd) : ExcOk K (bare W) H c a cls dd := by
  cases a with
  | none => exact h
  | some d =>
    obtain ⟨h1, x, f, v, h2, h3, h4, h5⟩ := h
    exact ⟨h1, x, f, v, h2, h3, Rep.mono (fun _ _ q => q) (fun _ _ q => q) d v h4, h5⟩
theorem bare_outs : OutsOk K W (bare W1) H1 [] := fun i => ⟨fun d e => by simp at e, fun _ => rfl⟩
/-- THE RULE of a def -/
theorem fn_ok {P : Program} {w : World} {mg : Str → Option Value} {base : Heap} {k : Nat} {x qual : Str} {params : Arguments} {bd : List Stmt} {scope : Scope} {f : Addr} {fd : FuncData} {ps : List Str} {c : Sig} {env : Nat → FnSpec} {sp : FnSpec} {body : Ss}
    (F : FunD K x qual params bd scope [] [] f fd) (S : FnScope c.N ps scope) (hsc : c.sc = scope) (hps : ps.length = sp.ms.length) (fct : SigF P w K mg base k c env) (hfit : fitSs c body bd = true)
    (hrun : ∀ (bs : List Bool) (ds : List Wz.D) (S : List Cell), bs.length = sp.ms.length → sp.run ds S ≠ .stuck → runB env sp.ms c.N.length body bs ds S = sp.run ds S) : FnOk P w K mg base (L2.CX P w) (k + 1) f fd ps (Gsp K sp) := by
  refine F.ok S (fun vs H Q E h => by rw [hps]; exact h.len) ?_
  intro cdv A outer s H vs Q E hr hsp
  obtain ⟨W, Sc, ds, w0, o0, a0, nsl, post⟩ := hsp
  obtain ⟨bs, b1, b2, b3⟩ := args_slots a0
  have hN : sp.ms.length ≤ c.N.length := by
    have := congrArg List.length S.pre
    rw [List.length_take, hps] at this
    omega
  have hvl : vs.length = sp.ms.length := a0.length.1
  have so : StOk c (cxOf (L2.CX P w) P w K mg base c.N qual scope f cdv A outer s H E) (fun cls d _ H => E cls d H) env := {
    ok := {
      N := rfl
      nd := S.nd
      sc := hsc.symm
      calm := rfl
      hu := by
        have := hr.un
        show (A.deeper (envOfC qual scope s.heap.objs.size f cdv)).units + 64 < cLine
        omega
      fn := fun _ _ => rfl
      tk := takes_of rfl rfl rfl rfl
      fct := ⟨k, fct, hr⟩ }
    stk := rfl
    frm := rfl
    own := passes_of rfl }
  obtain ⟨t, pt, snd⟩ := denSs env sp.ms.length body c _ _ so _ hfit
  refine ⟨t, pt, snd H Sc.length W (argSlots sp.ms bs ds ++ List.replicate (c.N.length - sp.ms.length) .non) Sc (L2.start c.N vs) H _ ?_ (Nat.le_refl _) ?_⟩
  · refine ⟨w0, o0, fun i s e => ?_, ?_, fun i hi => ?_, fun i p h hi => ?_, fun a h => h⟩
    · rcases Nat.lt_or_ge i (argSlots sp.ms bs ds).length with q | q
      · rw [List.getElem?_append_left q] at e
        obtain ⟨v, e1, e2, _⟩ := b3 i s e
        have ev : (L2.start c.N vs)[i]? = some (some v) := by
          unfold L2.start
          rw [List.getElem?_append_left (by rw [List.length_map, hvl, ← b2]; exact q), List.getElem?_map, e1]
          rfl
        cases s with
        | non => exact True.intro
        | val d => exact ⟨v, ev, e2⟩
        | own d =>
          obtain ⟨p, rfl, h1, h2⟩ := e2
          exact ⟨p, ev, by rw [Nat.zero_add] at h1; exact h1, h2⟩
        | lck d =>
          obtain ⟨p, rfl, h1, h2⟩ := e2
          exact ⟨p, ev, h1, h2⟩
      · rw [List.getElem?_append_right q] at e
        have : s = .non := by
          rw [List.getElem?_replicate] at e
          split at e <;> cases e
          rfl
        subst this
        exact True.intro
    · show (argSlots sp.ms bs ds ++ List.replicate (c.N.length - sp.ms.length) Slot.non).length = (L2.start c.N vs).length
      unfold L2.start
      rw [List.length_append, List.length_append, List.length_replicate, List.length_replicate, List.length_map, b2, hvl]
    · refine nsl i fun e => ?_
      rcases Nat.lt_or_ge i (argSlots sp.ms bs ds).length with q | q
      · obtain ⟨v, e1, e2, e3⟩ := b3 i _ (List.getElem?_eq_getElem q)
        refine e3 (fun d z => hi d ?_) e
        rw [List.getElem?_append_left q, List.getElem?_eq_getElem q, z]
      · rw [b2] at q
        rw [List.getElem?_eq_none q] at e
        cases e
    · have z := nsl i (by rw [List.getElem?_eq_none hi]; simp)
      rw [z] at h
      cases h
  · have hq := hrun bs ds Sc b1
    cases hx : sp.run ds Sc with
    | stuck =>
      rw [hx] at post
      exact post.elim
    | ok rv outs S2 =>
      rw [hx] at post hq
      have hq2 := hq (by simp)
      unfold runB at hq2
      cases hy : evSs env sp.ms.length body Sc.length (argSlots sp.ms bs ds ++ List.replicate (c.N.length - sp.ms.length) .non) Sc with
      | stuck => rw [hy] at hq2; cases hq2
      | exc cc a ρ' S' => rw [hy] at hq2; cases hq2
      | nx ρ' S' =>
        rw [hy] at hq2
        cases hq2
        exact fun W' σ' H' ss r' l' lk => post .non (bare W') H' (bare_step ss) (bare_w r'.wok) (bare_o r'.obs) rfl bare_outs
      | rt rv' ρ' S' =>
        rw [hy] at hq2
        cases hq2
        exact fun v W' σ' H' ss r' l' rr => post v (bare W') H' (bare_step ss) (bare_w r'.wok) (bare_o r'.obs) (bare_rv rr) bare_outs
    | exc cc a S2 =>
      rw [hx] at post hq
      have hq2 := hq (by simp)
      unfold runB at hq2
      cases hy : evSs env sp.ms.length body Sc.length (argSlots sp.ms bs ds ++ List.replicate (c.N.length - sp.ms.length) .non) Sc with
      | stuck => rw [hy] at hq2; cases hq2
      | nx ρ' S' => rw [hy] at hq2; cases hq2
      | rt rv' ρ' S' => rw [hy] at hq2; cases hq2
      | exc c2 a2 ρ' S' =>
        rw [hy] at hq2
        cases hq2
        exact fun cls dd W' σ' H' ss r' l' _ ex => post cls dd (bare W') H' (bare_step ss) (bare_w r'.wok) (bare_o r'.obs) (bare_exc ex) fun i => rfl
/-- a def's own evaluator as its spec -/
noncomputable def spOf (env : Nat → FnSpec) (ms : List Mode) (n : Nat) (body : Ss) : FnSpec := ⟨ms, fun ds S => runB env ms n body (ms.map fun _ => false) ds S⟩
theorem slots_same : ∀ {ms : List Mode} {bs : List Bool} {ds : List Wz.D}, ms.contains .b = false → bs.length = ms.length → argSlots ms bs ds = argSlots ms (ms.map fun _ => false) ds
  | [], [], _, _, _ => rfl
  | [], _ :: _, _, _, h => by cases h
  | _ :: _, [], _, _, h => by cases h
  | m :: ms, b :: bs, [], hm, h => rfl
  | m :: ms, b :: bs, d :: ds, hm, h => by
    have h2 : ms.contains .b = false := by
      cases hq : ms.contains .b with
      | false => rfl
      | true => simp only [List.contains_cons, hq, Bool.or_true] at hm; cases hm
    show argSlot m b d :: argSlots ms bs ds = argSlot m false d :: argSlots ms (ms.map fun _ => false) ds
    rw [slots_same h2 (by simpa using h)]
    cases m with
    | v => rfl
    | o => rfl
    | b => simp at hm
theorem own_run {env : Nat → FnSpec} {ms : List Mode} {n : Nat} {body : Ss} (hm : ms.contains .b = false) : ∀ (bs : List Bool) (ds : List Wz.D) (S : List Cell), bs.length = (spOf env ms n body).ms.length → (spOf env ms n body).run ds S ≠ .stuck → runB env (spOf env ms n body).ms n body bs ds S = (spOf env ms n body).run ds S := fun bs ds S h _ => by
  show runB env ms n body bs ds S = runB env ms n body (ms.map fun _ => false) ds S
  unfold runB
  rw [slots_same hm h]
theorem FnIs.mono {P : Program} {w : World} {mg : Str → Option Value} {base : Heap} {j k : Nat} {x : Str} {sp : FnSpec} (h : FnIs P w K mg base j x sp) (hk : j ≤ k) : FnIs P w K mg base k x sp := by
  obtain ⟨f, fd, ps, F, a, b, d⟩ := h
  exact ⟨f, fd, ps, F.mono hk, a, b, d⟩
/-- the script alone: what a law asks of its def -/
theorem law_end {sp : FnSpec} (hm : sp.ms = [.v]) {a : Addr} {ns : List Int} (hS : SqL K H a (ns.map V.int)) (hr : ∃ outs S', sp.run [.scr ns] [] = .ok (.val (.bl true)) outs S') : Gsp K sp [.ref a] H (fun v _ => v = .bl true) (fun _ _ _ => False) := by
  obtain ⟨outs, S', e⟩ := hr
  refine ⟨⟨H, fun _ => none⟩, [], [.scr ns], ⟨fun a u h => .inl h, fun _ _ _ h => by (cases h), fun _ _ h => by (cases h), fun _ _ h => by (cases h), fun a vs h => h⟩, ⟨fun n c h => by simp at h, fun n _ => ⟨rfl, fun _ => rfl⟩, fun _ _ _ => rfl⟩, ?_, fun _ _ => rfl, ?_⟩
  · rw [hm]
    exact ⟨_, [], _, [], rfl, rfl, ⟨a, rfl, hS⟩, rfl, rfl⟩
  · rw [e]
    exact fun v W' H' _ _ _ r _ => r
end
/-- what may fly, whatever the program and the world -/
def CXF : CXT := fun outer H s E e s' => ∃ P w, L2.CX P w outer H s E e s'
theorem FnOk.cxf {P : Program} {w : World} {K : PySem.W.Frag} {mg : Str → Option Value} {base : Heap} {k : Nat} {f : Addr} {fd : FuncData} {ps : List Str} {sp : Sp} (F : FnOk P w K mg base (L2.CX P w) k f fd ps sp) : FnOk P w K mg base CXF k f fd ps sp :=
  ⟨F.len, fun A outer s H args us vs Q E hr e b r h => codeAny_mono (F.run A outer s H args us vs Q E hr e b r h) fun r s' q => by
    cases r with
    | error e => exact ⟨P, w, q⟩
    | ok fl => cases fl <;> exact q⟩
theorem cxf_none (H : Hp) (s : Shared) (e : Value) (s' : Shared) (h : CXF [] H s (fun _ _ _ => False) e s') : False := by
  obtain ⟨P, w, a, B, H', cls, d, _, _, _, _, _, _, _, z⟩ := h
  exact z
end Wz

set_option Elab.async false
set_option linter.all false
set_option maxRecDepth 100000
set_option maxHeartbeats 4000000
namespace Wz
open PySem PySem.Spec PyProof.Rows L2

/-! ### __init__ of an exception that keeps its argument -/
def atT (f a : Str) : List Expr → Bool
  | [t] => kAttr f (kSlot fun x => decide (x = a)) t
  | _ => false
def kIni1 (f a b : Str) : Stmt → Bool
  | .Assign ts e _ => atT f a ts && kSlot (fun x => decide (x = b)) e
  | _ => false
def kIni (f : Str) (a b : Str) : List Stmt → Bool
  | [s] => kIni1 f a b s
  | _ => false
theorem kIni_ok {f a b : Str} {l : List Stmt} (h : kIni f a b l = true) : ∃ p1 p2 p3 p, l = [.Assign [.Attribute (.Name a p1) f p2] (.Name b p3) p] := by
  cases l with
  | nil => cases h
  | cons s r =>
    cases r with
    | cons _ _ => cases h
    | nil =>
      cases s with
      | Assign ts e p =>
        have h' : (atT f a ts && kSlot (fun x => decide (x = b)) e) = true := h
        rw [Bool.and_eq_true] at h'
        obtain ⟨h1, h2⟩ := h'
        cases ts with
        | nil => cases h1
        | cons t r =>
          cases r with
          | cons _ _ => cases h1
          | nil =>
            obtain ⟨o, p2, rfl, _, h3⟩ := kAttr_ok (show kAttr f (kSlot fun x => decide (x = a)) t = true from h1)
            obtain ⟨x, p1, rfl, h4⟩ := kSlot_ok h3
            obtain ⟨y, p3, rfl, h5⟩ := kSlot_ok h2
            have e1 : x = a := of_decide_eq_true h4
            have e2 : y = b := of_decide_eq_true h5
            subst e1 e2
            exact ⟨p1, p2, p3, p, rfl⟩
      | _ => cases h
theorem init_ok {P : Program} {w : World} {K : PySem.W.Frag} {mg : Str → Option Value} {base : Heap} {C : Addr} {x qual fld a b : Str} {params : Arguments} {bd : List Stmt} {scope : Scope} {f : Addr} {fd : FuncData} (F : FunD K x qual params bd scope [] [] f fd) (S : FnScope [a, b] [a, b] scope)
    (hk : kIni fld a b bd = true) (ha : dbgB a = true) (hb : dbgB b = true) (va : scope.names.lookup a = some .local) (vb : scope.names.lookup b = some .local) (T : OexC K C) (hno : PySem.W.findIn K (.ref C) fld = some none) : FnOk P w K mg base (L2.CX P w) 1 f fd [a, b] (spI C fld) := by
  obtain ⟨p1, p2, p3, p, rfl⟩ := kIni_ok hk
  refine F.ok S (fun vs H Q E h => by obtain ⟨_, _, e, _⟩ := h; rw [e]; rfl) ?_
  intro cdv A outer s H vs Q E hr hsp
  obtain ⟨ad, v, rfl, hH, go⟩ := hsp
  refine ⟨_, pss_one (ps_ost (pe_var (i := 0) rfl (.inl va) (dbg_of ha).1 (dbg_of ha).2.1) (pe_var (i := 1) rfl (.inl vb) (dbg_of hb).1 (dbg_of hb).2.1) rfl), ?_⟩
  exact ⟨v, rfl, .ref ad, rfl, ad, C, rfl, T, hno, .inl ⟨hH, fun dx h1 h2 => go dx h1 h2⟩⟩

/-! ### the facts of such a class, and a hook that has them -/
def oexB (K : PySem.W.Frag) (C : Addr) : Bool := (match K.lookup C with
  | some ⟨.type "type", _, .cls cd, sl⟩ => (match cd.mro, sl.toList with
    | .ref C' :: bm, [_, _, _, _, some (.builtin n), _] => C' == C && n == "ValueError.__new__" && !cd.hasDel && cd.hasDict && PySem.HandSPX.refsVE bm
    | _, _ => false)
  | _ => false) && (decide (PySem.W.findIn K (.ref C) "__setattr__" = some (some (.builtin "object.__setattr__"))) && (decide (PySem.W.subIn K (.ref C) (.type "BaseException") = some true) && (decide (PySem.W.typeIn K (.ref C) = some (.type "type")) && (PySem.W.keepIn K (.ref C) && xfB K C))))
theorem oexB_ok {K : PySem.W.Frag} {C : Addr} (h : oexB K C = true) : OexC K C ∧ XfC K C := by
  unfold oexB at h
  simp only [Bool.and_eq_true, decide_eq_true_eq] at h
  obtain ⟨h1, h2, h3, h4, h5, h6⟩ := h
  refine ⟨⟨?_, h2, h3, h4, h5⟩, xfB_ok h6⟩
  split at h1
  · rename_i dd cd sl ho
    split at h1
    · rename_i C' bm k0 k1 k2 k3 n k5 hm hs
      simp only [Bool.and_eq_true, beq_iff_eq, Bool.not_eq_true'] at h1
      obtain ⟨⟨⟨⟨rfl, rfl⟩, hdel⟩, hdct⟩, hr⟩ := h1
      obtain ⟨nm, bs, mro, ns, qn, hd, sn, sub, ab, col, del⟩ := cd
      dsimp only at hm hdel hdct
      subst hm hdel hdct
      have hsl : sl = #[k0, k1, k2, k3, some (.builtin "ValueError.__new__"), k5] := by
        obtain ⟨l⟩ := sl
        simp only at hs
        rw [hs]
      subst hsl
      exact ⟨nm, qn, ns, bs, bm, sn, sub, ab, col, dd, k0, k1, k2, k3, k5, ho, hr⟩
    · cases h1
  · cases h1
def oexA (ex : List Str) (K : PySem.W.Frag) : Bool := ex.all fun x => oexB K (He.ga K x)
abbrev AlX : Type := He.AlD × Bool
def obsX (n : Nat) (fa : List He.Fa) (fn : List He.DefD) (ex : List Str) (g : Addr → Option Obj) : AlX := (He.obsDG n fa fn g, oexA ex (He.frG g (He.asD g n)))
def SaysX (fa : List He.Fa) (fn : List He.DefD) (ex : List Str) (K : PySem.W.Frag) : Prop := He.SaysD fa fn K ∧ oexA ex K = true
def hookX (n : Nat) (fa : List He.Fa) (fn : List He.DefD) (ex : List Str) : PySem.W.Hook where
  α := AlX
  obs := fun s => obsX n fa fn ex s.heap.get?
  val := fun _ => (He.valD fn, true)
  says := fun _ h => ∃ K : PySem.W.Frag, K.In h ∧ SaysX fa fn ex K
  of := fun _ _ e => ⟨_, He.frG_in, congrArg (fun z : AlX => z.1) e, congrArg (fun z : AlX => z.2) e⟩
  keeps := fun _ _ _ ⟨K, hK, c⟩ k => ⟨K, PySem.W.Frag.In.keeps hK k, c⟩
theorem obsX_eq {n : Nat} {fa : List He.Fa} {fn : List He.DefD} {ex : List Str} {g : Addr → Option Obj} {s : Shared} (h : ∀ a, g a = s.heap.get? a) : obsX n fa fn ex g = (hookX n fa fn ex).obs s := by
  have e : g = s.heap.get? := funext h
  rw [e]
  rfl
theorem SaysX.exc {fa : List He.Fa} {fn : List He.DefD} {ex : List Str} {K : PySem.W.Frag} (c : SaysX fa fn ex K) {x : Str} (h : x ∈ ex) : OexC K (He.ga K x) ∧ XfC K (He.ga K x) := oexB_ok (List.all_eq_true.mp c.2 x h)
/-- a method stands in a class -/
def clsSt (s : Stmt) (j : Nat) : Stmt := match s with
  | .ClassDef _ _ _ b _ _ _ _ _ _ _ => b.getD j (.Pass ⟨0, 0, 0, 0⟩)
  | _ => .Pass ⟨0, 0, 0, 0⟩
end Wz

set_option Elab.async false
set_option linter.all false
set_option maxRecDepth 100000
set_option maxHeartbeats 4000000
namespace Wz
open PySem PySem.Spec PyProof.Rows L2

/-! ### equations to reckon with -/
def SOut.bnd (o : SOut) (f : List Slot → List Cell → SOut) : SOut := match o with
  | .nx ρ S => f ρ S
  | .rt r ρ S => .rt r ρ S
  | .exc c a ρ S => .exc c a ρ S
  | .stuck => .stuck
section
variable {ρ : List Slot} {S : List Cell} {n0 : Nat} {α β : Type}
@[simp] theorem bnd_nx (f : List Slot → List Cell → SOut) : (SOut.nx ρ S).bnd f = f ρ S := rfl
@[simp] theorem bnd_rt (r : Rv) (f : List Slot → List Cell → SOut) : (SOut.rt r ρ S).bnd f = .rt r ρ S := rfl
@[simp] theorem bnd_exc (c : Str) (a : Option Wz.D) (f : List Slot → List Cell → SOut) : (SOut.exc c a ρ S).bnd f = .exc c a ρ S := rfl
@[simp] theorem bnd_stuck (f : List Slot → List Cell → SOut) : SOut.stuck.bnd f = .stuck := rfl
@[simp] theorem bnd_ite (p : Prop) [Decidable p] (a b : SOut) (f : List Slot → List Cell → SOut) : (if p then a else b).bnd f = if p then a.bnd f else b.bnd f := by split <;> rfl
@[simp] theorem obind_ite (p : Prop) [Decidable p] (a b : Out α) (f : α → List Cell → Out β) : (if p then a else b).bind f = if p then a.bind f else b.bind f := by split <;> rfl
@[simp] theorem sE_ite (p : Prop) [Decidable p] (a b : Out α) (f : α → List Cell → SOut) : sE (if p then a else b) ρ f = if p then sE a ρ f else sE b ρ f := by split <;> rfl
@[simp] theorem toF_ite (p : Prop) [Decidable p] (a b : SOut) : toF (if p then a else b) = if p then toF a else toF b := by split <;> rfl
@[simp] theorem toF_rt (r : Rv) : toF (.rt r ρ S) = .ok r [] S := rfl
@[simp] theorem toF_nx : toF (.nx ρ S) = .ok (.val .non) [] S := rfl
theorem seq_bnd (a b : EVS) : sSeq a b n0 ρ S = (a n0 ρ S).bnd (b n0) := by
  unfold sSeq SOut.bnd
  cases a n0 ρ S <;> rfl
theorem for_cons (b : Wz.D → List Slot → Option (List Slot)) (body : EVS) (clr : List Nat) {gd : Option (Nat × Wz.D)} (hg : gdOk S gd) (d : Wz.D) (r : List Wz.D) : forL gd b body clr n0 (d :: r) ρ S = match b d ρ with
  | some ρ1 => (body n0 ρ1 S).bnd fun ρ2 S2 => forL gd b body clr n0 r (clrs clr ρ2) S2
  | none => .stuck := by
  rw [show forL gd b body clr n0 (d :: r) ρ S = onlyIf (gdOk S gd) (match b d ρ with | some ρ1 => (match body n0 ρ1 S with | .nx ρ2 S2 => forL gd b body clr n0 r (clrs clr ρ2) S2 | o => o) | none => .stuck) .stuck from rfl, only_pos hg]
  cases b d ρ with
  | none => rfl
  | some ρ1 =>
    dsimp only
    unfold SOut.bnd
    cases body n0 ρ1 S <;> rfl
theorem for_nil (b : Wz.D → List Slot → Option (List Slot)) (body : EVS) (clr : List Nat) {gd : Option (Nat × Wz.D)} (hg : gdOk S gd) : forL gd b body clr n0 [] ρ S = .nx ρ S := only_pos hg
theorem if_eq (c : EV Bool) (a b : EVS) : sIf c a b n0 ρ S = sE (c ρ S) ρ fun x S1 => if x = true then a n0 ρ S1 else b n0 ρ S1 := rfl
theorem eqD_int (i j : Int) : eqD (.int i) (.int j) = some (.val (.bl (decide (i = j)))) := by
  by_cases h : i = j
  · subst h
    simp [eqD, shp, eqv, py, PyData.eqv]
  · simp [eqD, shp, eqv, py, PyData.eqv, h]
theorem neD_int (i j : Int) : neD (.int i) (.int j) = some (.val (.bl (!decide (i = j)))) := by
  by_cases h : i = j
  · subst h
    simp [neD, shp, eqv, py, PyData.eqv]
  · simp [neD, shp, eqv, py, PyData.eqv, h]
theorem mulD_l {i j : Int} (h : -18446744073709551616 < i ∧ i < 18446744073709551616) : mulD (.int i) (.int j) = some (.val (.int (i * j))) := if_pos (.inl h)
theorem mulD_r {i j : Int} (h : -18446744073709551616 < j ∧ j < 18446744073709551616) : mulD (.int i) (.int j) = some (.val (.int (i * j))) := if_pos (.inr h)
theorem fdivD_p {i j : Int} (h : 0 < j ∧ j < 18446744073709551616) : fdivD (.int i) (.int j) = some (.val (.int (i / j))) := if_pos h
end
end Wz

set_option Elab.async false
set_option linter.all false
set_option maxRecDepth 100000
set_option maxHeartbeats 4000000
namespace Wz
open PySem PySem.Spec PyProof.Rows L2

/-! ### stepping through a body -/
def noFn : FnSpec := ⟨[], fun _ _ => .stuck⟩
/-- a block, then k, then Q of what comes out -/
noncomputable def cont (env : Nat → FnSpec) (np n0 : Nat) : List Ss → List Slot → List Cell → SOut
  | [] => .nx
  | l :: k => fun ρ S => (evSs env np l n0 ρ S).bnd (cont env np n0 k)
def Go (env : Nat → FnSpec) (np n0 : Nat) (l : Ss) (ρ : List Slot) (S : List Cell) (k : List Ss) (Q : SOut → Prop) : Prop := Q ((evSs env np l n0 ρ S).bnd (cont env np n0 k))
section
variable {env : Nat → FnSpec} {np n0 : Nat} {l a b : Ss} {ρ ρ' : List Slot} {S S1 S2 S3 : List Cell} {k : List Ss} {kk : List Slot → List Cell → SOut} {Q : SOut → Prop} {e f : E} {t u : T} {d : Wz.D} {r ra rb : Rv} {i : Nat}
theorem bnd_nx' (o : SOut) : o.bnd .nx = o := by cases o <;> rfl
theorem bnd_bnd (o : SOut) (f g : List Slot → List Cell → SOut) : (o.bnd f).bnd g = o.bnd fun ρ S => (f ρ S).bnd g := by cases o <;> rfl
theorem go_of (h : Q (evSs env np l n0 ρ S)) : Go env np n0 l ρ S [] Q := by unfold Go cont; rw [bnd_nx']; exact h
theorem of_go (h : Go env np n0 l ρ S [] Q) : Q (evSs env np l n0 ρ S) := by unfold Go cont at h; rw [bnd_nx'] at h; exact h
theorem go_end (h : Q (.nx ρ S)) : Go env np n0 .nil ρ S [] Q := h
theorem go_nil (h : Go env np n0 l ρ S k Q) : Go env np n0 .nil ρ S (l :: k) Q := h
theorem cons_eq {s : Sm} : (evSs env np (.cons s l) n0 ρ S).bnd kk = (evS env np s n0 ρ S).bnd fun ρ S => (evSs env np l n0 ρ S).bnd kk := by
  show (sSeq (evS env np s) (evSs env np l) n0 ρ S).bnd kk = _
  rw [seq_bnd, bnd_bnd]
theorem go_cons {s : Sm} (h : evS env np s n0 ρ S = .nx ρ' S1) (q : Go env np n0 l ρ' S1 k Q) : Go env np n0 (.cons s l) ρ S k Q := by
  unfold Go; rw [cons_eq, h]; exact q
theorem go_set {m : Bool} (h : evE env e ρ S = .ok (.val d) S1) (hi : i < ρ.length) (q : Go env np n0 l (ρ.set i (.val d)) S1 k Q) : Go env np n0 (.cons (.set i m e) l) ρ S k Q := by
  refine go_cons ?_ q
  show sSet i m (evE env e) n0 ρ S = _
  unfold sSet
  rw [h, sE_ok, if_pos hi]
theorem go_own (h : evE env e ρ S = .ok (.new d) S1) (hi : i < ρ.length) (q : Go env np n0 l (ρ.set i (.own d)) S1 k Q) : Go env np n0 (.cons (.set i true e) l) ρ S k Q := by
  refine go_cons ?_ q
  show sSet i true (evE env e) n0 ρ S = _
  unfold sSet
  rw [h, sE_ok, if_pos hi]
  rfl
theorem go_frz (h : evE env e ρ S = .ok (.new d) S1) (hi : i < ρ.length) (q : Go env np n0 l (ρ.set i (.val d)) S1 k Q) : Go env np n0 (.cons (.set i false e) l) ρ S k Q := by
  refine go_cons ?_ q
  show sSet i false (evE env e) n0 ρ S = _
  unfold sSet
  rw [h, sE_ok, if_pos hi]
  rfl
def slotOf (m : Bool) : Rv → Option Slot
  | .val d => some (.val d)
  | .new d => match m with
    | true => some (.own d)
    | false => some (.val d)
  | _ => none
theorem go_setA {m : Bool} {s : Slot} (h : evE env e ρ S = .ok r S1) (hr : slotOf m r = some s) (hi : i < ρ.length) (hn : ρ.set i s = ρ') (q : Go env np n0 l ρ' S1 k Q) : Go env np n0 (.cons (.set i m e) l) ρ S k Q := by
  subst hn
  cases r with
  | val d => cases hr; exact go_set h hi q
  | new d =>
    cases m with
    | true => cases hr; exact go_own h hi q
    | false => cases hr; exact go_frz h hi q
  | _ => cases hr
theorem go_app {xs : List Wz.D} {v : Wz.D} (h : ρ[i]? = some (.own (.lst xs))) (he : evE env e ρ S = .ok r S1) (hv : r.fz = some v) (hl : xs.length < lim) (hn : ρ.set i (.own (.lst (xs ++ [v]))) = ρ') (q : Go env np n0 l ρ' S1 k Q) : Go env np n0 (.cons (.app i e) l) ρ S k Q := by
  subst hn
  refine go_cons ?_ q
  show sApp i (evE env e) n0 ρ S = _
  unfold sApp
  rw [h]
  (try dsimp only)
  rw [he, sE_ok]
  (try dsimp only)
  rw [hv]
  (try dsimp only)
  rw [if_pos hl]
theorem go_sub {x d' v : Wz.D} (h : ρ[i]? = some (.own d)) (he : evE env e ρ S = .ok r S1) (hf : evE env f ρ S1 = .ok ra S2) (hx : ra.read S2 = some x) (hv : r.fz = some v) (hp : putD d x v = some d') (hn : ρ.set i (.own d') = ρ') (q : Go env np n0 l ρ' S2 k Q) : Go env np n0 (.cons (.sub i f e) l) ρ S k Q := by
  subst hn
  refine go_cons ?_ q
  show sSub i (evE env f) (evE env e) n0 ρ S = _
  unfold sSub
  rw [h]
  (try dsimp only)
  rw [he, sE_ok, hf, sE_ok]
  (try dsimp only)
  rw [hx]
  (try dsimp only)
  rw [hv]
  (try dsimp only)
  rw [hp]
theorem go_exp (h : evE env e ρ S = .ok r S1) (q : Go env np n0 l ρ S1 k Q) : Go env np n0 (.cons (.exp e) l) ρ S k Q := by
  refine go_cons ?_ q
  show sDrop (evE env e) n0 ρ S = _
  unfold sDrop
  rw [h, sE_ok]
theorem go_ret (h : evE env e ρ S = .ok r S1) (q : Q (.rt r ρ S1)) : Go env np n0 (.cons (.ret e) l) ρ S k Q := by
  unfold Go
  rw [cons_eq]
  show Q ((sRet (evE env e) n0 ρ S).bnd _)
  unfold sRet
  rw [h, sE_ok]
  exact q
theorem go_retN (q : Q (.rt (.val .non) ρ S)) : Go env np n0 (.cons .retN l) ρ S k Q := by
  unfold Go
  rw [cons_eq]
  exact q
theorem go_retV (h : ρ[i]? = some (.val d)) (q : Q (.rt (.val d) ρ S)) : Go env np n0 (.cons (.retS i) l) ρ S k Q := by
  unfold Go
  rw [cons_eq]
  show Q ((sRetSlot np i n0 ρ S).bnd _)
  unfold sRetSlot
  rw [h]
  exact q
theorem go_retO (h : ρ[i]? = some (.own d)) (hi : np ≤ i) (q : Q (.rt (.new d) (ρ.set i .non) S)) : Go env np n0 (.cons (.retS i) l) ρ S k Q := by
  unfold Go
  rw [cons_eq]
  show Q ((sRetSlot np i n0 ρ S).bnd _)
  unfold sRetSlot
  rw [h]
  (try dsimp only)
  rw [if_pos hi]
  exact q
theorem go_ife {p : Bool} (h : evT env t ρ S = .ok p S1) (h1 : p = true → Go env np n0 a ρ S1 (l :: k) Q) (h2 : p = false → Go env np n0 b ρ S1 (l :: k) Q) : Go env np n0 (.cons (.ife t a b) l) ρ S k Q := by
  unfold Go
  rw [cons_eq]
  show Q ((sIf (evT env t) (evSs env np a) (evSs env np b) n0 ρ S).bnd _)
  unfold sIf
  rw [h, sE_ok]
  cases p with
  | true => exact h1 rfl
  | false => exact h2 rfl
theorem go_if {p : Prop} {dp : Decidable p} (h : evT env t ρ S = .ok (decide p) S1) (h1 : p → Go env np n0 a ρ S1 (l :: k) Q) (h2 : ¬ p → Go env np n0 b ρ S1 (l :: k) Q) : Go env np n0 (.cons (.ife t a b) l) ρ S k Q :=
  go_ife h (fun q => h1 (of_decide_eq_true q)) (fun q => h2 (of_decide_eq_false q))
theorem go_each {it : It} {g : Tg} {clr : List Nat} {its : Its} (h : evI env it ρ S = .ok its S1) (hf : forL its.g (bindT g) (evSs env np b) clr n0 its.l ρ S1 = .nx ρ' S2) (q : Go env np n0 l ρ' S2 k Q) : Go env np n0 (.cons (.each it g b clr) l) ρ S k Q := by
  refine go_cons ?_ q
  show sFor (evI env it) (bindT g) (evSs env np b) clr n0 ρ S = _
  unfold sFor
  rw [h, sE_ok, hf]
theorem go_eachX {it : It} {g : Tg} {clr : List Nat} {its : Its} {o : SOut} (h : evI env it ρ S = .ok its S1) (hf : forL its.g (bindT g) (evSs env np b) clr n0 its.l ρ S1 = o) (q : Q (o.bnd (cont env np n0 (l :: k)))) : Go env np n0 (.cons (.each it g b clr) l) ρ S k Q := by
  unfold Go
  rw [cons_eq]
  show Q ((sFor (evI env it) (bindT g) (evSs env np b) clr n0 ρ S).bnd _)
  unfold sFor
  rw [h, sE_ok, hf]
  exact q
/-- a def's run by its body -/
theorem run_go {ms : List Mode} {n m : Nat} {body : Ss} {ds : List Wz.D} {F : FOut} (hm : ms.length = m) (hr : argSlots ms (ms.map fun _ => false) ds ++ List.replicate (n - ms.length) .non = ρ) (h : Go env m S.length body ρ S [] (fun o => toF o = F)) : (spOf env ms n body).run ds S = F := by
  subst hm hr
  unfold spOf runB
  exact of_go h
theorem run_goE {ms : List Mode} {n m : Nat} {body : Ss} {ds : List Wz.D} {r : Rv} (hm : ms.length = m) (hr : argSlots ms (ms.map fun _ => false) ds ++ List.replicate (n - ms.length) .non = ρ) (h : Go env m S.length body ρ S [] (fun o => ∃ outs S', toF o = .ok r outs S')) : ∃ outs S', (spOf env ms n body).run ds S = .ok r outs S' := by
  subst hm hr
  unfold spOf runB
  exact of_go h
theorem body_go {o : SOut} (h : Go env np n0 l ρ S [] (fun x => x = o)) : evSs env np l n0 ρ S = o := of_go h

/-! ### expressions -/
def slotRv : Slot → Option Rv
  | .val d => some (.val d)
  | .own d => some (.bor d)
  | .lck d => some (.lk d)
  | .non => none
theorem e_slot (h : ρ[i]?.bind slotRv = some r) : evE env (.slot i) ρ S = .ok r S := by
  show xSlot i ρ S = _
  unfold xSlot
  cases e : ρ[i]? with
  | none => rw [e] at h; cases h
  | some s => rw [e] at h; cases s <;> cases h <;> rfl
theorem e_int {j : Int} : evE env (.int j) ρ S = .ok (.val (.int j)) S := rfl
theorem e_str {j : Str} : evE env (.str j) ρ S = .ok (.val (.str j)) S := rfl
theorem e_bl {j : Bool} : evE env (.bl j) ρ S = .ok (.val (.bl j)) S := rfl
theorem e_non : evE env .non ρ S = .ok (.val .non) S := rfl
theorem e_op2 {o : O2} {x y : Wz.D} (ha : evE env e ρ S = .ok ra S1) (hb : evE env f ρ S1 = .ok rb S2) (hx : ra.read S2 = some x) (hy : rb.read S2 = some y) (h : o.ev x y = some r) : evE env (.op2 o e f) ρ S = .ok r S2 := by
  show xOp2 _ _ _ _ _ = _
  unfold xOp2
  rw [ha, Out.bind_ok, hb, Out.bind_ok]
  unfold ap2
  rw [hx]
  (try dsimp only)
  rw [hy]
  (try dsimp only)
  rw [h]
  rfl
theorem e_cmp {o : Cp} {x y : Wz.D} (ha : evE env e ρ S = .ok ra S1) (hb : evE env f ρ S1 = .ok rb S2) (hx : ra.read S2 = some x) (hy : rb.read S2 = some y) (h : o.ev x y = some r) : evE env (.cmp o e f) ρ S = .ok r S2 := by
  show xOp2 _ _ _ _ _ = _
  unfold xOp2
  rw [ha, Out.bind_ok, hb, Out.bind_ok]
  unfold ap2
  rw [hx]
  (try dsimp only)
  rw [hy]
  (try dsimp only)
  rw [h]
  rfl
theorem e_idx {x y : Wz.D} (ha : evE env e ρ S = .ok ra S1) (hb : evE env f ρ S1 = .ok rb S2) (hx : ra.read S2 = some x) (hy : rb.read S2 = some y) (h : idxD x y = some r) : evE env (.idx e f) ρ S = .ok r S2 := by
  show xOp2 _ _ _ _ _ = _
  unfold xOp2
  rw [ha, Out.bind_ok, hb, Out.bind_ok]
  unfold ap2
  rw [hx]
  (try dsimp only)
  rw [hy]
  (try dsimp only)
  rw [h]
  rfl
theorem e_neg {j : Int} (ha : evE env e ρ S = .ok ra S1) (hx : ra.read S1 = some (.int j)) : evE env (.neg e) ρ S = .ok (.val (.int (-j))) S1 := by
  show xOp1 _ _ _ _ = _
  unfold xOp1
  rw [ha, Out.bind_ok]
  unfold ap1
  rw [hx]
  rfl
theorem e_isi {ty : String} {x : Wz.D} (ha : evE env e ρ S = .ok ra S1) (hx : ra.read S1 = some x) (h : isiD ty x = some r) : evE env (.isi ty e) ρ S = .ok r S1 := by
  show xIsi _ _ _ _ = _
  unfold xIsi xOp1
  rw [ha, Out.bind_ok]
  unfold ap1
  rw [hx]
  (try dsimp only)
  rw [h]
  rfl
theorem e_lset {x : Wz.D} (ha : evE env e ρ S = .ok ra S1) (hx : ra.read S1 = some x) (h : lsetD x = some r) : evE env (.lset e) ρ S = .ok r S1 := by
  show xOp1 _ _ _ _ = _
  unfold xOp1
  rw [ha, Out.bind_ok]
  unfold ap1
  rw [hx]
  dsimp only
  rw [h]
  rfl
theorem e_rev {x : Wz.D} (ha : evE env e ρ S = .ok ra S1) (hx : ra.read S1 = some x) (h : revD x = some r) : evE env (.rev e) ρ S = .ok r S1 := by
  show xRev _ _ _ = _
  unfold xRev xOp1
  rw [ha, Out.bind_ok]
  unfold ap1
  rw [hx]
  (try dsimp only)
  rw [h]
  rfl
theorem e_notV {p : Bool} (ha : evE env e ρ S = .ok ra S1) (hx : ra.read S1 = some (.bl p)) : evE env (.notV e) ρ S = .ok (.val (.bl (!p))) S1 := by
  show xNotV _ _ _ = _
  unfold xNotV
  rw [ha, Out.bind_ok, hx]
theorem e_andV {p q : Bool} (ha : evE env e ρ S = .ok ra S1) (hx : ra.read S1 = some (.bl p)) (hb : p = true → evE env f ρ S1 = .ok (.val (.bl q)) S1) : evE env (.andV e f) ρ S = .ok (.val (.bl (p && q))) S1 := by
  show xAndV _ _ _ _ = _
  unfold xAndV
  rw [ha, Out.bind_ok, hx]
  cases p with
  | true => exact hb rfl
  | false => rfl
theorem e_orV {p q : Bool} (ha : evE env e ρ S = .ok ra S1) (hx : ra.read S1 = some (.bl p)) (hb : p = false → evE env f ρ S1 = .ok (.val (.bl q)) S1) : evE env (.orV e f) ρ S = .ok (.val (.bl (p || q))) S1 := by
  show xOrV _ _ _ _ = _
  unfold xOrV
  rw [ha, Out.bind_ok, hx]
  cases p with
  | true => rfl
  | false => exact hb rfl
theorem e_ifeT {p : Prop} {dp : Decidable p} (ht : evT env t ρ S = .ok (decide p) S1) (hp : p) (h : evE env e ρ S1 = .ok r S2) : evE env (.ife t e f) ρ S = .ok r S2 := by
  show xIfe _ _ _ _ _ = _
  unfold xIfe
  rw [ht, Out.bind_ok, decide_eq_true hp, if_pos rfl, h]
theorem e_ifeF {p : Prop} {dp : Decidable p} (ht : evT env t ρ S = .ok (decide p) S1) (hp : ¬ p) (h : evE env f ρ S1 = .ok r S2) : evE env (.ife t e f) ρ S = .ok r S2 := by
  show xIfe _ _ _ _ _ = _
  unfold xIfe
  rw [ht, Out.bind_ok, decide_eq_false hp, if_neg (by decide), h]
variable {es : Es} {rs : List Rv} {ds : List Wz.D}
theorem e_nil : evEs env .nil ρ S = .ok [] S := rfl
theorem e_cons (ha : evE env e ρ S = .ok r S1) (hb : evEs env es ρ S1 = .ok rs S2) : evEs env (.cons e es) ρ S = .ok (r :: rs) S2 := by
  show xCons _ _ _ _ = _
  unfold xCons
  rw [ha, Out.bind_ok, hb]
  rfl
theorem e_tup (ha : evEs env es ρ S = .ok rs S1) (hd : fzs rs = some ds) (hl : ds.length ≤ lim) : evE env (.tup es) ρ S = .ok (.val (.tup ds)) S1 := by
  show xTup _ _ _ = _
  unfold xTup
  rw [ha, Out.bind_ok, hd]
  (try dsimp only)
  rw [if_pos hl]
theorem e_lst (ha : evEs env es ρ S = .ok rs S1) (hd : fzs rs = some ds) (hl : ds.length ≤ lim) : evE env (.lst es) ρ S = .ok (.new (.lst ds)) S1 := by
  show xLst _ _ _ = _
  unfold xLst
  rw [ha, Out.bind_ok, hd]
  (try dsimp only)
  rw [if_pos hl]
theorem e_dk : evE env .dk ρ S = .ok (.new (.dk [])) S := rfl
theorem e_dt : evE env .dt ρ S = .ok (.new (.dt [])) S := rfl
theorem e_blt {g : Bf} (ha : evEs env es ρ S = .ok rs S1) (hd : reads S1 rs = some ds) (h : g.ev ds = some r) : evE env (.blt g es) ρ S = .ok r S1 := by
  show xOpN _ _ _ _ = _
  unfold xOpN
  rw [ha, Out.bind_ok]
  unfold apN
  rw [hd]
  (try dsimp only)
  rw [h]
  rfl
def isVN : Rv → Bool
  | .val _ => true | .new _ => true | _ => false
theorem e_call {j : Nat} {outs : List Slot} {S3 : List Cell} (ha : evEs env es ρ S = .ok rs S1) (hm : (noO (env j).ms || okO (env j).ms rs) = true) (hp : passA S1 (env j).ms rs = some ds) (h : (env j).run ds S1 = .ok r outs S2) (hr : isVN r = true) (hn : S2 = S3) : evE env (.call j es) ρ S = .ok r S3 := by
  subst hn
  show xCall _ _ _ _ = _
  unfold xCall
  rw [ha, Out.bind_ok]
  unfold callS
  rw [if_pos hm, hp]
  (try dsimp only)
  rw [h]
  cases r <;> first | rfl | cases hr
theorem o_no : evO env .no ρ S = .ok none S := rfl
theorem o_yes {j : Int} (ha : evE env e ρ S = .ok r S1) (hx : r.read S1 = some (.int j)) : evO env (.yes e) ρ S = .ok (some j) S1 := by
  show xPart _ _ _ = _
  unfold xPart
  rw [ha, Out.bind_ok, hx]
theorem e_slc {lo hi : O} {x : Wz.D} {p q : Option Int} (ha : evE env e ρ S = .ok ra S1) (hl : evO env lo ρ S1 = .ok p S2) (hh : evO env hi ρ S2 = .ok q S3) (hx : ra.read S3 = some x) (h : slcD x p q = some r) : evE env (.slc e lo hi) ρ S = .ok r S3 := by
  show xSlc _ _ _ _ _ = _
  unfold xSlc
  rw [ha, Out.bind_ok, hl, Out.bind_ok, hh, Out.bind_ok, hx]
  (try dsimp only)
  rw [h]
  rfl
theorem e_get2 {g : E} {x y : Wz.D} {ov : Option Wz.D} (ha : evE env e ρ S = .ok ra S) (hd : (ra.read S).map isDct = some true) (hb : evE env f ρ S = .ok rb S) (hc : evE env g ρ S = .ok (.val d) S) (hx : ra.read S = some x) (hy : rb.read S = some y) (h : dget x y = some ov) : evE env (.get2 e f g) ρ S = .ok (.val (ov.getD d)) S := by
  show xGet2 _ _ _ _ _ = _
  unfold xGet2
  rw [hx] at hd
  have hd' : isDct x = true := Option.some.inj hd
  rw [ha, Out.bind_ok, hx]
  (try dsimp only)
  rw [if_pos hd', hb, Out.bind_ok, hc, Out.bind_ok, hx]
  (try dsimp only)
  rw [hy]
  (try dsimp only)
  rw [h]
  cases ov <;> rfl
/-! ### tests -/
theorem t_cmp {o : Cp} {p : Bool} {x y : Wz.D} (ha : evE env e ρ S = .ok ra S1) (hb : evE env f ρ S1 = .ok rb S2) (hx : ra.read S2 = some x) (hy : rb.read S2 = some y) (h : o.ev x y = some (.val (.bl p))) : evT env (.tst o e f) ρ S = .ok p S2 := by
  show xTst _ _ _ = _
  unfold xTst
  rw [show xOp2 o.ev (evE env e) (evE env f) ρ S = .ok (.val (.bl p)) S2 from e_cmp ha hb hx hy h]
  rfl
theorem t_tru {p : Bool} {x : Wz.D} (ha : evE env e ρ S = .ok ra S1) (hx : ra.read S1 = some x) (h : truD x = some p) : evT env (.tru e) ρ S = .ok p S1 := by
  show xTru _ _ _ = _
  unfold xTru
  rw [ha, Out.bind_ok, hx]
  (try dsimp only)
  rw [h]
theorem t_not {p : Bool} (ha : evT env t ρ S = .ok p S1) : evT env (.not t) ρ S = .ok (!p) S1 := by
  show xNot _ _ _ = _
  unfold xNot
  rw [ha]
  rfl
theorem t_and {p q : Bool} (ha : evT env t ρ S = .ok p S1) (hb : p = true → evT env u ρ S1 = .ok q S1) : evT env (.and t u) ρ S = .ok (p && q) S1 := by
  show xAnd _ _ _ _ = _
  unfold xAnd
  rw [ha, Out.bind_ok]
  cases p with
  | true => rw [if_pos rfl, hb rfl]; rfl
  | false => rfl
theorem t_or {p q : Bool} (ha : evT env t ρ S = .ok p S1) (hb : p = false → evT env u ρ S1 = .ok q S1) : evT env (.or t u) ρ S = .ok (p || q) S1 := by
  show xOr _ _ _ _ = _
  unfold xOr
  rw [ha, Out.bind_ok]
  cases p with
  | true => rfl
  | false => rw [if_neg (by decide), hb rfl]; rfl
theorem t_eq {p q : Bool} (h : evT env t ρ S = .ok p S1) (e : p = q) : evT env t ρ S = .ok q S1 := e ▸ h
/-! ### what is walked -/
theorem i_val {its : List Wz.D} (ha : evE env e ρ S = .ok r S1) (hb : boxL S1 r = none) (hf : r.fz = some d) (h : itsD d = some its) : evI env (.val e) ρ S = .ok ⟨its, none⟩ S1 := by
  show xIts _ _ _ = _
  unfold xIts
  rw [ha, Out.bind_ok, hb]
  dsimp only
  rw [hf]
  dsimp only
  rw [h]
theorem i_box {n : Nat} {its : List Wz.D} (ha : evE env e ρ S = .ok (.val (.ref n)) S1) (h : S1[n]? = some (.box (.lst its))) : evI env (.val e) ρ S = .ok ⟨its, some (n, .lst its)⟩ S1 := by
  show xIts _ _ _ = _
  unfold xIts
  rw [ha, Out.bind_ok, show boxL S1 (.val (.ref n)) = some (n, its) from by
    show (match S1[n]? with | some (.box (.lst l)) => some (n, l) | _ => none) = _
    rw [h]]
theorem i_rng1 {j : Int} (ha : evEs env es ρ S = .ok rs S1) (hd : reads S1 rs = some [.int j]) (hj : -(2 ^ 62) ≤ j ∧ j < 2 ^ 62) : evI env (.rng1 es) ρ S = .ok ⟨(List.range j.toNat).map fun (k : Nat) => .int k, none⟩ S1 := by
  show xRng _ _ _ _ = _
  unfold xRng
  rw [ha, Out.bind_ok, hd]
  dsimp only
  rw [show rng1 [.int j] = some ((List.range j.toNat).map fun (k : Nat) => .int k) from if_pos hj]
theorem i_rng2 {i j : Int} (ha : evEs env es ρ S = .ok rs S1) (hd : reads S1 rs = some [.int i, .int j]) (hj : -(2 ^ 62) ≤ i ∧ i < 2 ^ 62 ∧ -(2 ^ 62) ≤ j ∧ j < 2 ^ 62) : evI env (.rng2 es) ρ S = .ok ⟨(List.range (j - i).toNat).map fun (k : Nat) => .int (i + k), none⟩ S1 := by
  show xRng _ _ _ _ = _
  unfold xRng
  rw [ha, Out.bind_ok, hd]
  dsimp only
  rw [show rng2 [.int i, .int j] = some ((List.range (j - i).toNat).map fun (k : Nat) => .int (i + k)) from if_pos hj]

/-! ### operators on ints -/
theorem o_add {i j : Int} : O2.ev .add (.int i) (.int j) = some (.val (.int (i + j))) := rfl
theorem o_sub {i j : Int} : O2.ev .sub (.int i) (.int j) = some (.val (.int (i - j))) := rfl
theorem o_mul {i j : Int} (h : (-18446744073709551616 < i ∧ i < 18446744073709551616) ∨ (-18446744073709551616 < j ∧ j < 18446744073709551616)) : O2.ev .mul (.int i) (.int j) = some (.val (.int (i * j))) := if_pos h
theorem o_fdiv {i j : Int} (h : 0 < j ∧ j < 18446744073709551616) : O2.ev .fdiv (.int i) (.int j) = some (.val (.int (i / j))) := if_pos h
theorem o_mod {i j : Int} (h : 0 < j) : O2.ev .mod (.int i) (.int j) = some (.val (.int (i % j))) := if_pos h
theorem o_pow {i j : Int} (h : 0 ≤ j ∧ j ≤ 1000 ∧ -1000 < i ∧ i < 1000) : O2.ev .pow (.int i) (.int j) = some (.val (.int (i ^ j.toNat))) := if_pos h
theorem o_cat {l m : List Wz.D} (h : l.length + m.length ≤ lim) : O2.ev .add (.lst l) (.lst m) = some (.new (.lst (l ++ m))) := if_pos h
theorem c_lt {i j : Int} : Cp.ev .lt (.int i) (.int j) = some (.val (.bl (decide (i < j)))) := rfl
theorem c_le {i j : Int} : Cp.ev .le (.int i) (.int j) = some (.val (.bl (decide (i ≤ j)))) := rfl
theorem c_gt {i j : Int} : Cp.ev .gt (.int i) (.int j) = some (.val (.bl (decide (j < i)))) := rfl
theorem c_ge {i j : Int} : Cp.ev .ge (.int i) (.int j) = some (.val (.bl (decide (j ≤ i)))) := rfl
theorem c_eqI {i j : Int} : Cp.ev .eq (.int i) (.int j) = some (.val (.bl (decide (i = j)))) := eqD_int i j
theorem c_neI {i j : Int} : Cp.ev .ne (.int i) (.int j) = some (.val (.bl (!decide (i = j)))) := neD_int i j
end

/-! ### data that equality sees through -/
structure Eqs {α : Type} [DecidableEq α] (n : Nat) (enc : α → Wz.D) : Prop where
  sh : ∀ x m, n ≤ m → shp m (enc x) = true
  eq : ∀ x y, eqv (enc x) (enc y) = decide (x = y)
theorem eqs_int : Eqs 1 Wz.D.int := ⟨fun x m h => by cases m with | zero => omega | succ m => rfl, fun x y => by
  by_cases h : x = y
  · subst h; simp [eqv, py, PyData.eqv]
  · simp [eqv, py, PyData.eqv, h]⟩
theorem eqs_bl : Eqs 1 Wz.D.bl := ⟨fun x m h => by cases m with | zero => omega | succ m => rfl, fun x y => by cases x <;> cases y <;> rfl⟩
theorem c_eqD {α : Type} [DecidableEq α] {n : Nat} {enc : α → Wz.D} (h : Eqs n enc) (hn : n ≤ 50) (x y : α) : Cp.ev .eq (enc x) (enc y) = some (.val (.bl (decide (x = y)))) := by
  show eqD _ _ = _
  unfold eqD
  rw [h.sh x _ hn, h.sh y _ hn, h.eq]
  rfl
theorem c_neD {α : Type} [DecidableEq α] {n : Nat} {enc : α → Wz.D} (h : Eqs n enc) (hn : n ≤ 50) (x y : α) : Cp.ev .ne (enc x) (enc y) = some (.val (.bl (!decide (x = y)))) := by
  show neD _ _ = _
  unfold neD
  rw [h.sh x _ hn, h.sh y _ hn, h.eq]
  rfl
def encL {α : Type} (enc : α → Wz.D) (l : List α) : Wz.D := .lst (l.map enc)
def encP {α β : Type} (a : α → Wz.D) (b : β → Wz.D) (p : α × β) : Wz.D := .tup [a p.1, b p.2]
theorem shps_map {α : Type} {enc : α → Wz.D} {m : Nat} (h : ∀ x, shp m (enc x) = true) (l : List α) : shps m (l.map enc) = true := by
  rw [shps_all, List.all_map]
  exact List.all_eq_true.mpr fun x _ => h x
theorem eqvAll_map {α : Type} [DecidableEq α] {enc : α → Wz.D} (h : ∀ x y, eqv (enc x) (enc y) = decide (x = y)) : ∀ l m : List α, PyData.eqvAll (pys (l.map enc)) (pys (m.map enc)) = decide (l = m)
  | [], [] => rfl
  | [], _ :: _ => rfl
  | _ :: _, [] => rfl
  | x :: l, y :: m => by
    have e : PyData.eqvAll (pys ((x :: l).map enc)) (pys ((y :: m).map enc)) = (eqv (enc x) (enc y) && PyData.eqvAll (pys (l.map enc)) (pys (m.map enc))) := rfl
    rw [e, h, eqvAll_map h l m]
    by_cases h1 : x = y <;> by_cases h2 : l = m <;> simp [h1, h2]
theorem eqs_list {α : Type} [DecidableEq α] {n : Nat} {enc : α → Wz.D} (h : Eqs n enc) : Eqs (n + 1) (encL enc) := ⟨fun x m hm => by
  cases m with
  | zero => omega
  | succ m => exact shps_map (fun x => h.sh x m (by omega)) x, fun x y => eqvAll_map h.eq x y⟩
theorem eqs_pair {α β : Type} [DecidableEq α] [DecidableEq β] {n m : Nat} {a : α → Wz.D} {b : β → Wz.D} (ha : Eqs n a) (hb : Eqs m b) : Eqs (n + m + 1) (encP a b) := ⟨fun x k hk => by
  cases k with
  | zero => omega
  | succ k =>
    show (shp k (a x.1) && (shp k (b x.2) && true)) = true
    rw [ha.sh _ _ (by omega), hb.sh _ _ (by omega)]
    rfl, fun x y => by
  have e : eqv (encP a b x) (encP a b y) = (eqv (a x.1) (a y.1) && (eqv (b x.2) (b y.2) && true)) := rfl
  rw [e, ha.eq, hb.eq]
  obtain ⟨x1, x2⟩ := x
  obtain ⟨y1, y2⟩ := y
  by_cases h1 : x1 = y1 <;> by_cases h2 : x2 = y2 <;> simp [h1, h2]⟩

/-! ### loops -/
section
variable {env : Nat → FnSpec} {np n0 : Nat} {b : Ss} {g : Tg} {clr : List Nat} {gd : Option (Nat × Wz.D)}
def TurnEnd (clr : List Nat) (ρ' : List Slot) (S' : List Cell) (o : SOut) : Prop := ∃ ρ2, o = .nx ρ2 S' ∧ clrs clr ρ2 = ρ'
/-- a loop all of whose turns end -/
theorem for_go {α β : Type} (P : Nat → α → Prop) (R : α → List Slot) (T : α → List Cell) (enc : β → Wz.D) (f : α → β → α) (xs : List β)
    (hgd : ∀ a i, P i a → gdOk (T a) gd)
    (turn : ∀ a x i, xs[i]? = some x → P i a → ∃ ρ1, bindT g (enc x) (R a) = some ρ1 ∧ Go env np n0 b ρ1 (T a) [] (TurnEnd clr (R (f a x)) (T (f a x))) ∧ P (i + 1) (f a x)) :
    ∀ a, P 0 a → forL gd (bindT g) (evSs env np b) clr n0 (xs.map enc) (R a) (T a) = .nx (R (xs.foldl f a)) (T (xs.foldl f a)) ∧ P xs.length (xs.foldl f a) := by
  induction xs generalizing P with
  | nil => exact fun a h => ⟨for_nil _ _ _ (hgd a 0 h), h⟩
  | cons x r ih =>
    intro a h
    obtain ⟨ρ1, h1, h2, h4⟩ := turn a x 0 rfl h
    obtain ⟨ρ2, h5, h6⟩ := of_go h2
    have q := ih (fun i => P (i + 1)) (fun a i hp => hgd a (i + 1) hp) (fun a y i hy hp => turn a y (i + 1) (by simpa using hy) hp) (f a x) h4
    refine ⟨?_, q.2⟩
    rw [List.map_cons, for_cons _ _ _ (hgd a 0 h), h1]
    dsimp only
    rw [h5, bnd_nx, h6]
    exact q.1
theorem go_for {α β : Type} {it : It} {l : Ss} {ρ : List Slot} {S S1 : List Cell} {its : Its} {k : List Ss} {Q : SOut → Prop} (P : Nat → α → Prop) (R : α → List Slot) (T : α → List Cell) (enc : β → Wz.D) (f : α → β → α) (xs : List β) (a : α)
    (hi : evI env it ρ S = .ok its S1) (hx : its = ⟨xs.map enc, none⟩) (hρ : ρ = R a) (hS : S1 = T a) (h0 : P 0 a)
    (turn : ∀ a x i, xs[i]? = some x → P i a → ∃ ρ1, bindT g (enc x) (R a) = some ρ1 ∧ Go env np n0 b ρ1 (T a) [] (TurnEnd clr (R (f a x)) (T (f a x))) ∧ P (i + 1) (f a x))
    (q : P xs.length (xs.foldl f a) → Go env np n0 l (R (xs.foldl f a)) (T (xs.foldl f a)) k Q) : Go env np n0 (.cons (.each it g b clr) l) ρ S k Q := by
  subst hx hS hρ
  have h := for_go (gd := none) P R T enc f xs (fun _ _ _ => True.intro) turn a h0
  exact go_each hi h.1 (q h.2)
theorem lc_all {β : Type} {c : EV Bool} {e : EV Rv} {bd : Wz.D → List Slot → Option (List Slot)} {ρ : List Slot} {S : List Cell} (hgd : gdOk S gd) (enc : β → Wz.D) (p : β → Bool) (f : β → Wz.D) (xs : List β)
    (turn : ∀ x ∈ xs, ∃ ρ1, bd (enc x) ρ = some ρ1 ∧ c ρ1 S = .ok (p x) S ∧ (p x = true → ∃ rv, e ρ1 S = .ok rv S ∧ rv.fz = some (f x))) :
    ∀ acc : List Wz.D, acc.length + xs.length ≤ lim → lcL gd bd c e ρ (xs.map enc) acc S = .ok (.new (.lst (acc ++ (xs.filter p).map f))) S := by
  induction xs with
  | nil =>
    intro acc _
    rw [show lcL gd bd c e ρ (List.map enc []) acc S = onlyIf (gdOk S gd) (.ok (.new (.lst acc)) S) .stuck from rfl, only_pos hgd]
    simp
  | cons x r ih =>
    intro acc hl
    obtain ⟨ρ1, h1, h2, h3⟩ := turn x List.mem_cons_self
    have ih' := ih fun y hy => turn y (List.mem_cons_of_mem _ hy)
    rw [List.map_cons]
    unfold lcL
    rw [only_pos hgd, h1]
    dsimp only
    rw [h2]
    rw [List.length_cons] at hl
    cases hp : p x with
    | false =>
      dsimp only
      rw [ih' acc (by omega), List.filter_cons_of_neg (by rw [hp]; decide)]
    | true =>
      obtain ⟨rv, h4, h5⟩ := h3 hp
      dsimp only
      rw [h4]
      dsimp only
      rw [h5]
      dsimp only
      rw [if_pos (by omega), ih' _ (by rw [List.length_append, List.length_singleton]; omega), List.filter_cons_of_pos hp, List.map_cons, List.append_assoc]
      rfl
theorem e_lc {env : Nat → FnSpec} {it : It} {vs : List Nat} {g : Tg} {c : Ts} {e : E} {ρ : List Slot} {S S1 S2 : List Cell} {its : Its} {r : Rv} (hi : evI env it ρ S = .ok its S1) (hv : (vs.all (notOwn ρ) && g.ixs.all fun i => vs.contains i) = true) (h : lcL its.g (bindT g) (evTs env c) (evE env e) (clrs vs ρ) its.l [] S1 = .ok r S2) : evE env (.lc it vs g c e) ρ S = .ok r S2 := by
  show xLc _ _ _ _ _ _ _ _ = _
  unfold xLc
  rw [hi, Out.bind_ok, if_pos hv, h]
end
section
variable {S : List Cell}
theorem rd_int {i : Int} : (Rv.val (.int i)).read S = some (.int i) := rfl
theorem rd_bl {i : Bool} : (Rv.val (.bl i)).read S = some (.bl i) := rfl
theorem rd_str {i : Str} : (Rv.val (.str i)).read S = some (.str i) := rfl
theorem rd_non : (Rv.val .non).read S = some .non := rfl
theorem rd_tup {l : List Wz.D} : (Rv.val (.tup l)).read S = some (.tup l) := rfl
theorem rd_lst {l : List Wz.D} : (Rv.val (.lst l)).read S = some (.lst l) := rfl
theorem rd_scr {l : List Int} : (Rv.val (.scr l)).read S = some (.scr l) := rfl
theorem rd_dk {l : List (Key × Wz.D)} : (Rv.val (.dk l)).read S = some (.dk l) := rfl
theorem rd_dt {l : List (List Key × Wz.D)} : (Rv.val (.dt l)).read S = some (.dt l) := rfl
theorem rd_new {d : Wz.D} : (Rv.new d).read S = some d := rfl
theorem rd_bor {d : Wz.D} : (Rv.bor d).read S = some d := rfl
theorem rd_lk {d : Wz.D} : (Rv.lk d).read S = some d := rfl
theorem rd_encL {α : Type} {enc : α → Wz.D} {l : List α} : (Rv.val (encL enc l)).read S = some (encL enc l) := rfl
theorem rd_encP {α β : Type} {a : α → Wz.D} {b : β → Wz.D} {p : α × β} : (Rv.val (encP a b p)).read S = some (encP a b p) := rfl
end
/-! ### items -/
theorem ixN_nat {n : Nat} {i : Int} (h : 0 ≤ i ∧ i < n) : L2.ixN n i = some i.toNat := by
  unfold L2.ixN
  rw [if_pos h.1, if_pos h.2]
theorem atI_nat' {α : Type} {l : List α} {i : Int} (h : 0 ≤ i ∧ i < l.length) : L2.atI l i = l[i.toNat]? := by
  unfold L2.atI
  rw [ixN_nat h]
  rfl
theorem ix_lst {l : List Wz.D} {i : Int} {v : Wz.D} (h : 0 ≤ i ∧ i < l.length) (e : l[i.toNat]? = some v) : idxD (.lst l) (.int i) = some (.val v) := by
  show (L2.atI l i).map Rv.val = _
  rw [atI_nat' h, e]
  rfl
theorem ix_tup {l : List Wz.D} {i : Int} {v : Wz.D} (h : 0 ≤ i ∧ i < l.length) (e : l[i.toNat]? = some v) : idxD (.tup l) (.int i) = some (.val v) := by
  show (L2.atI l i).map Rv.val = _
  rw [atI_nat' h, e]
  rfl
theorem ix_encL {α : Type} {enc : α → Wz.D} {l : List α} {i : Int} {x : α} (h : 0 ≤ i ∧ i < l.length) (e : l[i.toNat]? = some x) : idxD (encL enc l) (.int i) = some (.val (enc x)) := by
  refine ix_lst (by rw [List.length_map]; exact h) ?_
  rw [List.getElem?_map, e]
  rfl
theorem ix_scr {l : List Int} {i : Int} (h : 0 ≤ i ∧ i < l.length) : idxD (.scr l) (.int i) = some (.val (.int (l.getD i.toNat 0))) := by
  show (L2.atI (l.map Wz.D.int) i).map Rv.val = _
  rw [atI_nat' (by rw [List.length_map]; exact h), List.getElem?_map]
  have hh : i.toNat < l.length := by omega
  rw [List.getElem?_eq_getElem hh, List.getD_eq_getElem?_getD, List.getElem?_eq_getElem hh]
  rfl
theorem o_pow18 : O2.ev .pow (.int 10) (.int 18) = some (.val (.int 1000000000000000000)) := by
  rw [o_pow (by decide)]
  rfl
/-! ### slices -/
theorem cut_both {l : List Wz.D} {a b : Int} (h : 0 ≤ a) (hb : 0 ≤ b) : cutD l (some a) (some b) = (l.take b.toNat).drop a.toNat := by
  unfold cutD HT.sIx
  dsimp only
  rw [if_neg (by omega), if_neg (by omega)]
  refine List.ext_getElem? fun i => ?_
  rw [List.getElem?_take, List.getElem?_drop, List.getElem?_drop, List.getElem?_take]
  by_cases h1 : min a.toNat l.length + i < l.length
  · have h2 : min a.toNat l.length = a.toNat := by omega
    rw [h2] at h1 ⊢
    by_cases h3 : a.toNat + i < b.toNat
    · rw [if_pos (by omega), if_pos h3]
    · rw [if_neg (by omega), if_neg h3]
  · rw [List.getElem?_eq_none (by omega), List.getElem?_eq_none (i := a.toNat + i) (by omega)]
    simp
theorem cut_from {l : List Wz.D} {a : Int} (h : 0 ≤ a) : cutD l (some a) none = l.drop a.toNat := by
  have e : cutD l (some a) none = cutD l (some a) (some (l.length : Int)) := by
    unfold cutD HT.sIx
    dsimp only
    rw [if_neg (by omega : ¬ (l.length : Int) < 0), Int.toNat_natCast, Nat.min_self]
  rw [e, cut_both h (by omega), Int.toNat_natCast, List.take_length]
theorem cut_to {l : List Wz.D} {a : Int} (h : 0 ≤ a) : cutD l none (some a) = l.take a.toNat := by
  have e : cutD l none (some a) = cutD l (some 0) (some a) := by
    unfold cutD HT.sIx
    dsimp only
    rw [if_neg (by omega : ¬ (0 : Int) < 0), Int.toNat_zero, Nat.zero_min]
  rw [e, cut_both (by omega) h, Int.toNat_zero, List.drop_zero]
theorem slc_scr {ns : List Int} {a : Int} (h : 0 ≤ a) (hl : ns.length ≤ 63) : slcD (.scr ns) (some a) (some 63) = some (.new (encL .int (ns.drop a.toNat))) := by
  show some (Rv.new (.lst (cutD (ns.map Wz.D.int) (some a) (some 63)))) = _
  rw [cut_both h (by decide), List.take_of_length_le (by rw [List.length_map]; exact hl), ← List.map_drop]
  rfl
/-! ### dicts of typed data -/
section
variable {κ κ' β β' : Type} [DecidableEq κ] [DecidableEq κ'] {f : κ → κ'} {g : β → β'}
theorem getK_nil {k : κ} : getK ([] : List (κ × β)) k = none := rfl
theorem getK_cons {p : κ × β} {l : List (κ × β)} {k : κ} : getK (p :: l) k = if p.1 = k then some p.2 else getK l k := by
  unfold getK
  rw [List.find?_cons]
  by_cases h : p.1 = k <;> simp [h]
theorem getK_map (hf : ∀ x y, f x = f y → x = y) (l : List (κ × β)) (k : κ) : getK (l.map fun p => (f p.1, g p.2)) (f k) = (getK l k).map g := by
  induction l with
  | nil => rfl
  | cons p l ih =>
    rw [List.map_cons, getK_cons, getK_cons]
    by_cases h : p.1 = k
    · rw [if_pos (by rw [h]), if_pos h]; rfl
    · rw [if_neg fun e => h (hf _ _ e), if_neg h, ih]
theorem any_map (hf : ∀ x y, f x = f y → x = y) (l : List (κ × β)) (k : κ) : ((l.map fun p => (f p.1, g p.2)).any fun q => decide (q.1 = f k)) = l.any fun q => decide (q.1 = k) := by
  induction l with
  | nil => rfl
  | cons p l ih =>
    rw [List.map_cons, List.any_cons, List.any_cons, ih]
    congr 1
    by_cases h : p.1 = k
    · simp [h]
    · have hn : ¬ f p.1 = f k := fun e => h (hf _ _ e)
      simp [h, hn]
theorem setK_map (hf : ∀ x y, f x = f y → x = y) (l : List (κ × β)) (k : κ) (v : β) : setK (l.map fun p => (f p.1, g p.2)) (f k) (g v) = (setK l k v).map fun p => (f p.1, g p.2) := by
  unfold setK
  rw [any_map hf]
  split
  · rw [List.map_map, List.map_map]
    refine List.map_congr_left fun p _ => ?_
    by_cases h : p.1 = k
    · simp [h]
    · have hn : ¬ f p.1 = f k := fun e => h (hf _ _ e)
      simp [h, hn]
  · rw [List.map_append]
    rfl
theorem delK_map (hf : ∀ x y, f x = f y → x = y) (l : List (κ × β)) (k : κ) : delK (l.map fun p => (f p.1, g p.2)) (f k) = (delK l k).map fun p => (f p.1, g p.2) := by
  unfold delK
  rw [List.filter_map]
  congr 1
  refine List.filter_congr fun p _ => ?_
  show decide (f p.1 ≠ f k) = decide (p.1 ≠ k)
  by_cases h : p.1 = k
  · simp [h]
  · have hn : ¬ f p.1 = f k := fun e => h (hf _ _ e)
    simp [h, hn]
theorem any_get {l : List (κ × β)} {k : κ} : (l.any fun q => decide (q.1 = k)) = (getK l k).isSome := by
  induction l with
  | nil => rfl
  | cons p l ih =>
    rw [List.any_cons, getK_cons, ih]
    by_cases h : p.1 = k <;> simp [h]
theorem getK_put {l : List (κ × β)} {k j : κ} {v : β} : getK (l.map fun q => if q.1 = k then (q.1, v) else q) j = if k = j then (getK l k).map (fun _ => v) else getK l j := by
  induction l with
  | nil => rw [List.map_nil, getK_nil, getK_nil]; split <;> rfl
  | cons p l ih =>
    rw [List.map_cons, getK_cons, getK_cons, getK_cons, ih]
    by_cases h1 : p.1 = k
    · rw [if_pos h1, if_pos h1]
      dsimp only
      by_cases h2 : k = j
      · rw [if_pos (h1.trans h2), if_pos h2]; rfl
      · rw [if_neg (fun e => h2 (h1.symm.trans e)), if_neg h2, if_neg h2, if_neg (fun e => h2 (h1.symm.trans e))]
    · rw [if_neg h1, if_neg h1]
      by_cases h2 : p.1 = j
      · rw [if_pos h2, if_pos h2, if_neg (fun e => h1 (h2.trans e.symm))]
      · rw [if_neg h2, if_neg h2]
theorem getK_app {l : List (κ × β)} {p : κ × β} {j : κ} : getK (l ++ [p]) j = (getK l j).or (if p.1 = j then some p.2 else none) := by
  induction l with
  | nil => rw [List.nil_append, getK_cons, getK_nil]; rfl
  | cons q l ih =>
    rw [List.cons_append, getK_cons, getK_cons, ih]
    split <;> rfl
theorem getK_set {l : List (κ × β)} {k j : κ} {v : β} : getK (setK l k v) j = if k = j then some v else getK l j := by
  unfold setK
  rw [any_get]
  split
  · rename_i h
    rw [getK_put]
    cases e : getK l k with
    | none => rw [e] at h; cases h
    | some z => rfl
  · rename_i h
    rw [getK_app]
    cases e : getK l k with
    | some z => rw [e] at h; exact absurd rfl h
    | none =>
      by_cases h2 : k = j
      · rw [← h2, e, if_pos rfl]; rfl
      · rw [if_neg h2, if_neg h2]
        cases getK l j <;> rfl
theorem setK_len {l : List (κ × β)} {k : κ} {v : β} : (setK l k v).length ≤ l.length + 1 := by
  unfold setK
  split
  · rw [List.length_map]; omega
  · rw [List.length_append]; exact Nat.le_refl _
theorem setK_keys {l : List (κ × β)} {k : κ} {v : β} : (setK l k v).map (·.1) = if (getK l k).isSome then l.map (·.1) else l.map (·.1) ++ [k] := by
  unfold setK
  rw [any_get]
  split
  · rw [List.map_map]
    refine List.map_congr_left fun q _ => ?_
    show (if q.1 = k then (q.1, v) else q).1 = q.1
    split <;> rfl
  · rw [List.map_append]; rfl
theorem getK_mem {l : List (κ × β)} {k : κ} : (getK l k).isSome ↔ k ∈ l.map (·.1) := by
  rw [← any_get, List.any_eq_true]
  constructor
  · rintro ⟨q, h1, h2⟩
    rw [← of_decide_eq_true h2]
    exact List.mem_map_of_mem h1
  · intro h
    obtain ⟨q, h1, h2⟩ := List.mem_map.mp h
    exact ⟨q, h1, decide_eq_true h2⟩
theorem setK_nodup {l : List (κ × β)} {k : κ} {v : β} (h : (l.map (·.1)).Nodup) : ((setK l k v).map (·.1)).Nodup := by
  rw [setK_keys]
  split
  · exact h
  · rename_i q
    rw [getK_mem] at q
    refine List.nodup_append.mpr ⟨h, List.nodup_cons.mpr ⟨by simp, List.nodup_nil⟩, fun a ha b hb e => ?_⟩
    rw [List.mem_singleton.mp hb] at e
    exact q (e ▸ ha)
end
def encD {β : Type} (enc : β → Wz.D) (w : List (Int × β)) : Wz.D := .dk (w.map fun p => (.inl p.1, enc p.2))
theorem inl_inj : ∀ x y : Int, (Sum.inl x : Key) = Sum.inl y → x = y := fun _ _ h => Sum.inl.inj h
theorem rd_encD {β : Type} {enc : β → Wz.D} {w : List (Int × β)} {S : List Cell} : (Rv.val (encD enc w)).read S = some (encD enc w) := rfl
theorem dget_D {β : Type} {enc : β → Wz.D} {w : List (Int × β)} {k : Int} : dget (encD enc w) (.int k) = some ((getK w k).map enc) := congrArg some (getK_map inl_inj w k)
theorem ix_D {β : Type} {enc : β → Wz.D} {w : List (Int × β)} {k : Int} {v : β} (h : getK w k = some v) : idxD (encD enc w) (.int k) = some (.val (enc v)) := by
  unfold idxD
  rw [dget_D, h]
  rfl
theorem put_D {β : Type} {enc : β → Wz.D} {w : List (Int × β)} {k : Int} {v : β} (h : w.length < lim) : putD (encD enc w) (.int k) (enc v) = some (encD enc (setK w k v)) := by
  show (if (w.map fun p => ((Sum.inl p.1 : Key), enc p.2)).length < lim then some (Wz.D.dk (setK (w.map fun p => ((Sum.inl p.1 : Key), enc p.2)) (Sum.inl k) (enc v))) else none) = _
  rw [if_pos (by rw [List.length_map]; exact h), setK_map inl_inj]
  rfl
theorem c_inD {β : Type} {enc : β → Wz.D} {w : List (Int × β)} {k : Int} : Cp.ev .inn (.int k) (encD enc w) = some (.val (.bl (getK w k).isSome)) := by
  show inD _ _ = _
  unfold inD
  rw [show inB (.int k) (encD enc w) = (dget (encD enc w) (.int k)).map Option.isSome from rfl, dget_D]
  cases getK w k <;> rfl
theorem c_ninD {β : Type} {enc : β → Wz.D} {w : List (Int × β)} {k : Int} : Cp.ev .nin (.int k) (encD enc w) = some (.val (.bl (!(getK w k).isSome))) := by
  show ninD _ _ = _
  unfold ninD
  rw [show inB (.int k) (encD enc w) = (dget (encD enc w) (.int k)).map Option.isSome from rfl, dget_D]
  cases getK w k <;> rfl
theorem intKs_D {β : Type} {enc : β → Wz.D} : ∀ w : List (Int × β), intKs (w.map fun p => ((Sum.inl p.1 : Key), enc p.2)) = some (w.map (·.1))
  | [] => rfl
  | p :: w => by
    rw [List.map_cons]
    show (match intKs (w.map fun p => ((Sum.inl p.1 : Key), enc p.2)) with | some l => some (p.1 :: l) | none => none) = _
    rw [intKs_D w]
    rfl
theorem srtK_D {β : Type} {enc : β → Wz.D} {w : List (Int × β)} : Bf.ev .srt [encD enc w] = some (.new (encL .int (sI (w.map (·.1))))) := by
  show ((match intKs (w.map fun (p : Int × β) => ((Sum.inl p.1 : Key), enc p.2)) with | some ks => some (Rv.new (.lst ((sI ks).map .int))) | none => none).or _).or _ = _
  rw [intKs_D]
  rfl
theorem srtI_L {l : List Int} : Bf.ev .srt [encL .int l] = some (.new (encL .int (sI l))) := by
  show (match intsD (l.map Wz.D.int) with | some ks => some (Rv.new (.lst ((sI ks).map .int))) | none => none).or _ = _
  rw [intsD_map]
  rfl
theorem e_getD {β : Type} {enc : β → Wz.D} {w : List (Int × β)} {k : Int} {v : β} {d : Wz.D} {env : Nat → FnSpec} {e f g : E} {ρ : List Slot} {S : List Cell} {ra rb : Rv} (ha : evE env e ρ S = .ok ra S) (hx : ra.read S = some (encD enc w)) (hb : evE env f ρ S = .ok rb S) (hy : rb.read S = some (.int k)) (hc : evE env g ρ S = .ok (.val d) S) (hd : d = enc v) : evE env (.get2 e f g) ρ S = .ok (.val (enc ((getK w k).getD v))) S := by
  have h := e_get2 (ov := (getK w k).map enc) ha (by rw [hx]; rfl) hb hc hx hy dget_D
  rw [h, hd]
  cases getK w k <;> rfl
theorem lt_setK {κ β : Type} [DecidableEq κ] {l : List (κ × β)} {k : κ} {v : β} {n : Nat} (h : l.length + 1 < n) : (setK l k v).length < n := Nat.lt_of_le_of_lt setK_len h
theorem e_lcG {β γ : Type} {env : Nat → FnSpec} {it : It} {vs : List Nat} {g : Tg} {c : Ts} {e : E} {ρ : List Slot} {S : List Cell} {its : Its} (enc : β → Wz.D) (enc2 : γ → Wz.D) (p : β → Bool) (h : β → γ) (xs : List β) (hi : evI env it ρ S = .ok its S) (hx : its.l = xs.map enc) (hg : gdOk S its.g) (hv : (vs.all (notOwn ρ) && g.ixs.all fun i => vs.contains i) = true) (hl : xs.length ≤ lim)
    (turn : ∀ x ∈ xs, ∃ ρ1, bindT g (enc x) (clrs vs ρ) = some ρ1 ∧ evTs env c ρ1 S = .ok (p x) S ∧ (p x = true → ∃ rv, evE env e ρ1 S = .ok rv S ∧ rv.fz = some (enc2 (h x)))) : evE env (.lc it vs g c e) ρ S = .ok (.new (encL enc2 ((xs.filter p).map h))) S := by
  refine e_lc hi hv ?_
  rw [hx, lc_all hg enc p (fun x => enc2 (h x)) xs turn [] (by simpa using hl), List.nil_append]
  unfold encL
  rw [List.map_map]
  rfl
section
variable {β γ : Type} {env : Nat → FnSpec} {it : It} {vs : List Nat} {g : Tg} {c : Ts} {e : E} {ρ : List Slot} {S : List Cell} {its : Its} (enc : β → Wz.D) (enc2 : γ → Wz.D) (p : β → Bool) (h : β → γ) (xs : List β)
theorem e_lcF (hi : evI env it ρ S = .ok its S) (hx : its = ⟨xs.map enc, none⟩) (hv : (vs.all (notOwn ρ) && g.ixs.all fun i => vs.contains i) = true) (hl : xs.length ≤ lim)
    (turn : ∀ x ∈ xs, ∃ ρ1, bindT g (enc x) (clrs vs ρ) = some ρ1 ∧ evTs env c ρ1 S = .ok (p x) S ∧ (p x = true → ∃ rv, evE env e ρ1 S = .ok rv S ∧ rv.fz = some (enc2 (h x)))) : evE env (.lc it vs g c e) ρ S = .ok (.new (encL enc2 ((xs.filter p).map h))) S := by
  subst hx
  exact e_lcG enc enc2 p h xs hi rfl True.intro hv hl turn
theorem e_lcM (hi : evI env it ρ S = .ok its S) (hx : its = ⟨xs.map enc, none⟩) (hv : (vs.all (notOwn ρ) && g.ixs.all fun i => vs.contains i) = true) (hl : xs.length ≤ lim)
    (turn : ∀ x ∈ xs, ∃ ρ1 rv, bindT g (enc x) (clrs vs ρ) = some ρ1 ∧ evE env e ρ1 S = .ok rv S ∧ rv.fz = some (enc2 (h x))) : evE env (.lc it vs g .yes e) ρ S = .ok (.new (encL enc2 (xs.map h))) S := by
  have q := e_lcF (c := .yes) enc enc2 (fun _ => true) h xs hi hx hv hl (fun x hx => by
    obtain ⟨ρ1, rv, h1, h2, h3⟩ := turn x hx
    exact ⟨ρ1, h1, rfl, fun _ => ⟨rv, h2, h3⟩⟩)
  rw [q, List.filter_eq_self.mpr (fun _ _ => rfl)]
/-- .. over a box -/
theorem e_lcBF {n : Nat} (hi : evI env it ρ S = .ok its S) (hx : its = ⟨xs.map enc, some (n, .lst (xs.map enc))⟩) (hg : S[n]? = some (.box (.lst (xs.map enc)))) (hv : (vs.all (notOwn ρ) && g.ixs.all fun i => vs.contains i) = true) (hl : xs.length ≤ lim)
    (turn : ∀ x ∈ xs, ∃ ρ1, bindT g (enc x) (clrs vs ρ) = some ρ1 ∧ evTs env c ρ1 S = .ok (p x) S ∧ (p x = true → ∃ rv, evE env e ρ1 S = .ok rv S ∧ rv.fz = some (enc2 (h x)))) : evE env (.lc it vs g c e) ρ S = .ok (.new (encL enc2 ((xs.filter p).map h))) S := by
  subst hx
  exact e_lcG enc enc2 p h xs hi rfl hg hv hl turn
theorem e_lcBM {n : Nat} (hi : evI env it ρ S = .ok its S) (hx : its = ⟨xs.map enc, some (n, .lst (xs.map enc))⟩) (hg : S[n]? = some (.box (.lst (xs.map enc)))) (hv : (vs.all (notOwn ρ) && g.ixs.all fun i => vs.contains i) = true) (hl : xs.length ≤ lim)
    (turn : ∀ x ∈ xs, ∃ ρ1 rv, bindT g (enc x) (clrs vs ρ) = some ρ1 ∧ evE env e ρ1 S = .ok rv S ∧ rv.fz = some (enc2 (h x))) : evE env (.lc it vs g .yes e) ρ S = .ok (.new (encL enc2 (xs.map h))) S := by
  have q := e_lcBF (c := .yes) enc enc2 (fun _ => true) h xs hi hx hg hv hl (fun x hx => by
    obtain ⟨ρ1, rv, h1, h2, h3⟩ := turn x hx
    exact ⟨ρ1, h1, rfl, fun _ => ⟨rv, h2, h3⟩⟩)
  rw [q, List.filter_eq_self.mpr (fun _ _ => rfl)]
end
theorem ts_one {env : Nat → FnSpec} {t : T} {ρ : List Slot} {S S1 : List Cell} {p : Bool} (h : evT env t ρ S = .ok p S1) : evTs env (.one t) ρ S = .ok p S1 := h
theorem bools_map (l : List Bool) : boolsD (l.map .bl) = some l := by
  induction l with
  | nil => rfl
  | cons b l ih =>
    rw [List.map_cons]
    show (boolsD (l.map .bl)).map _ = _
    rw [ih]
    rfl
theorem ints_map (l : List Int) : intsD (l.map .int) = some l := by
  induction l with
  | nil => rfl
  | cons b l ih =>
    rw [List.map_cons]
    show (intsD (l.map .int)).map _ = _
    rw [ih]
    rfl
theorem b_all {l : List Bool} : Bf.ev .all [encL .bl l] = some (.val (.bl (l.all id))) := by
  show (boolsD (l.map .bl)).map _ = _
  rw [bools_map]
  rfl
theorem b_any {l : List Bool} : Bf.ev .any [encL .bl l] = some (.val (.bl (l.any id))) := by
  show (boolsD (l.map .bl)).map _ = _
  rw [bools_map]
  rfl
theorem b_min {l : List Int} {m : Int} (h : minI l = some m) : Bf.ev .min [encL .int l] = some (.val (.int m)) := by
  show (match intsD (l.map Wz.D.int) with
    | some ns => match minI ns with
      | some m => some (Rv.val (.int m))
      | none => none
    | none => none) = _
  rw [intsD_map]
  dsimp only
  rw [h]
theorem b_sum {l : List Int} : Bf.ev .sum [encL .int l] = some (.val (.int l.sum)) := by
  show (intsD (l.map .int)).map _ = _
  rw [ints_map]
  rfl
theorem b_len {α : Type} {enc : α → Wz.D} {l : List α} : Bf.ev .len [encL enc l] = some (.val (.int l.length)) := by
  show some (Rv.val (.int ((l.map enc).length : Nat))) = _
  rw [List.length_map]
theorem b_lst {α : Type} {enc : α → Wz.D} {l : List α} : Bf.ev .lst [encL enc l] = some (.new (encL enc l)) := rfl
theorem b_lenS {l : List Int} : Bf.ev .len [.scr l] = some (.val (.int l.length)) := by
  show some (Rv.val (.int ((l.map Wz.D.int).length : Nat))) = _
  rw [List.length_map]
theorem rds_nil {S : List Cell} : reads S [] = some [] := rfl
theorem rds_cons {S : List Cell} {r : Rv} {rs : List Rv} {d : Wz.D} {ds : List Wz.D} (h : r.read S = some d) (hs : reads S rs = some ds) : reads S (r :: rs) = some (d :: ds) := by
  show (match r.read S, reads S rs with | some d, some ds => some (d :: ds) | _, _ => none) = _
  rw [h, hs]
theorem e_box {env : Nat → FnSpec} {e : E} {ρ : List Slot} {S S1 S2 : List Cell} {d : Wz.D} {n : Nat} (h : evE env e ρ S = .ok (.new d) S1) (hn : S1.length = n) (hS : S1 ++ [.box d] = S2) : evE env (.box e) ρ S = .ok (.val (.ref n)) S2 := by
  subst hn hS
  show xBox _ _ _ = _
  unfold xBox
  rw [h]
  rfl
theorem go_frzO {env : Nat → FnSpec} {np n0 i : Nat} {l : Ss} {ρ ρ' : List Slot} {S : List Cell} {k : List Ss} {Q : SOut → Prop} {d : Wz.D} (h : ρ[i]? = some (.own d)) (hn : ρ.set i (.val d) = ρ') (q : Go env np n0 l ρ' S k Q) : Go env np n0 (.cons (.frz i) l) ρ S k Q := by
  subst hn
  refine go_cons ?_ q
  show sFrz i n0 ρ S = _
  unfold sFrz
  rw [h]
theorem go_pass {env : Nat → FnSpec} {np n0 : Nat} {l : Ss} {ρ : List Slot} {S : List Cell} {k : List Ss} {Q : SOut → Prop} (q : Go env np n0 l ρ S k Q) : Go env np n0 (.cons .pass l) ρ S k Q := go_cons (s := .pass) rfl q
theorem go_tup {env : Nat → FnSpec} {np n0 : Nat} {l : Ss} {ρ ρ' : List Slot} {S S1 : List Cell} {k : List Ss} {Q : SOut → Prop} {is : List Nat} {e : E} {r : Rv} {d : Wz.D} (h : evE env e ρ S = .ok r S1) (hd : r.fz = some d) (hb : bindT (.tp is) d ρ = some ρ') (q : Go env np n0 l ρ' S1 k Q) : Go env np n0 (.cons (.tupA is e) l) ρ S k Q := by
  refine go_cons ?_ q
  show sTup is (evE env e) n0 ρ S = _
  unfold sTup
  rw [h, sE_ok]
  (try dsimp only)
  rw [hd]
  (try dsimp only)
  rw [hb]
/-- o[i] = e in the store -/
theorem go_subE {env : Nat → FnSpec} {np n0 : Nat} {l : Ss} {ρ : List Slot} {S S1 S2 S3 S4 : List Cell} {k : List Ss} {Q : SOut → Prop} {c i e : E} {r rc x : Rv} {o : Ow} {d dx v d' : Wz.D} (he : evE env e ρ S = .ok r S1) (hc : evE env c ρ S1 = .ok rc S2) (hi : evE env i ρ S2 = .ok x S3) (hp : placeOf rc = some o) (hg : oget S3 o = some d) (hx : x.read S3 = some dx) (hv : r.fz = some v) (hd : putD d dx v = some d') (hn : oput S3 o d' = S4) (q : Go env np n0 l ρ S4 k Q) : Go env np n0 (.cons (.subE c i e) l) ρ S k Q := by
  subst hn
  refine go_cons ?_ q
  show sSubE (evE env c) (evE env i) (evE env e) n0 ρ S = _
  unfold sSubE
  rw [he, sE_ok, hc, sE_ok, hi, sE_ok]
  (try dsimp only)
  rw [hp]
  (try dsimp only)
  rw [hg]
  (try dsimp only)
  rw [hx]
  (try dsimp only)
  rw [hv]
  (try dsimp only)
  rw [hd]
theorem e_appE {env : Nat → FnSpec} {ρ : List Slot} {S S1 S2 S3 : List Cell} {c e : E} {rc r : Rv} {o : Ow} {l0 l : List Wz.D} {v : Wz.D} (hc : evE env c ρ S = .ok rc S1) (hp : placeOf rc = some o) (hg : oget S1 o = some (.lst l0)) (he : evE env e ρ S1 = .ok r S2) (hg2 : oget S2 o = some (.lst l)) (hv : r.fz = some v) (hl : l.length < lim) (hn : oput S2 o (.lst (l ++ [v])) = S3) : evE env (.appE c e) ρ S = .ok (.val .non) S3 := by
  subst hn
  show xAppE _ _ _ _ = _
  unfold xAppE
  rw [hc, Out.bind_ok, hp]
  (try dsimp only)
  rw [hg]
  (try dsimp only)
  rw [he, Out.bind_ok, hg2]
  (try dsimp only)
  rw [hv]
  (try dsimp only)
  rw [if_pos hl]
theorem rd_ref {S : List Cell} {n : Nat} {d : Wz.D} (h : S[n]? = some (.box d)) : (Rv.val (.ref n)).read S = some d := by
  show some (match S[n]? with | some (.box d) => d | some (.lbx d) => d | _ => .ref n) = _
  rw [h]
theorem o_catL {α : Type} {enc : α → Wz.D} {l m : List α} (h : l.length + m.length ≤ lim) : O2.ev .add (encL enc l) (encL enc m) = some (.new (encL enc (l ++ m))) := by
  unfold encL
  rw [o_cat (by rw [List.length_map, List.length_map]; exact h), List.map_append]
theorem get_set {S : List Cell} {n : Nat} {c : Cell} (h : n < S.length) : (S.set n c)[n]? = some c := List.getElem?_set_self h
theorem oget_box {S : List Cell} {n : Nat} {d : Wz.D} (h : S[n]? = some (.box d)) : oget S (.ob n) = some d := by
  show (match S[n]? with | some (.box d) => some d | _ => none) = _
  rw [h]
theorem oget_set {S : List Cell} {n : Nat} {d : Wz.D} (h : n < S.length) : oget (S.set n (.box d)) (.ob n) = some d := oget_box (get_set h)
theorem oput_ob {S : List Cell} {n : Nat} {d : Wz.D} : oput S (.ob n) d = S.set n (.box d) := rfl
theorem oput_setB {S : List Cell} {n : Nat} {c : Cell} {d : Wz.D} : oput (S.set n c) (.ob n) d = S.set n (.box d) := by rw [oput_ob, List.set_set]
theorem set_same {S : List Cell} {n : Nat} {c : Cell} (h : S[n]? = some c) : S = S.set n c := by
  refine List.ext_getElem? fun i => ?_
  by_cases e : n = i
  · subst e
    have hl : n < S.length := by
      rcases Nat.lt_or_ge n S.length with z | z
      · exact z
      · rw [List.getElem?_eq_none z] at h; cases h
    rw [List.getElem?_set_self hl, h]
  · rw [List.getElem?_set_ne e]
theorem get_lt {S : List Cell} {n : Nat} {c : Cell} (h : S[n]? = some c) : n < S.length := by
  rcases Nat.lt_or_ge n S.length with z | z
  · exact z
  · rw [List.getElem?_eq_none z] at h; cases h
theorem slc_to {α : Type} {enc : α → Wz.D} {l : List α} {a : Int} (h : 0 ≤ a) : slcD (encL enc l) none (some a) = some (.new (encL enc (l.take a.toNat))) := by
  show some (Rv.new (.lst (cutD (l.map enc) none (some a)))) = _
  rw [cut_to h, ← List.map_take]
  rfl
theorem slc_from {α : Type} {enc : α → Wz.D} {l : List α} {a : Int} (h : 0 ≤ a) : slcD (encL enc l) (some a) none = some (.new (encL enc (l.drop a.toNat))) := by
  show some (Rv.new (.lst (cutD (l.map enc) (some a) none))) = _
  rw [cut_from h, ← List.map_drop]
  rfl
theorem slc_mid {α : Type} {enc : α → Wz.D} {l : List α} {a b : Int} (h : 0 ≤ a) (hb : 0 ≤ b) : slcD (encL enc l) (some a) (some b) = some (.new (encL enc ((l.take b.toNat).drop a.toNat))) := by
  show some (Rv.new (.lst (cutD (l.map enc) (some a) (some b)))) = _
  rw [cut_both h hb, ← List.map_take, ← List.map_drop]
  rfl
theorem lset_L {l : List Int} (h : l.length ≤ 4000) : lsetD (encL .int l) = some (.val (.int ((fstM l).length : Nat))) := by
  show (match intsD (l.map Wz.D.int) with
    | some ns => if ns.length ≤ 4000 then some (Rv.val (.int ((fstM ns).length : Nat))) else none
    | none => match tupsM (l.map Wz.D.int) with
      | some ks => if ks.length < 64 then some (Rv.val (.int ((ddM ks).length : Nat))) else none
      | none => none) = _
  rw [intsD_map]
  exact if_pos h
abbrev prL (l : List (Int × Int)) : List (List Int) := l.map fun p => [p.1, p.2]
theorem tupsM_map : ∀ l : List (Int × Int), tupsM (l.map fun p => Wz.D.tup [.int p.1, .int p.2]) = some (prL l)
  | [] => rfl
  | p :: r => by
    show ((some [p.1, p.2]).bind fun a => (tupsM (r.map fun p => Wz.D.tup [.int p.1, .int p.2])).map fun b => a :: b) = _
    rw [tupsM_map r]
    rfl
theorem lset_P {l : List (Int × Int)} (h : l.length < 64) : lsetD (encL (encP .int .int) l) = some (.val (.int ((ddM (prL l)).length : Nat))) := by
  cases l with
  | nil => rfl
  | cons p r =>
    show (match tupsM ((p :: r).map fun p => Wz.D.tup [.int p.1, .int p.2]) with
      | some ks => if ks.length < 64 then some (Rv.val (.int ((ddM ks).length : Nat))) else none
      | none => none) = _
    rw [tupsM_map]
    exact if_pos (by rw [List.length_map]; exact h)
theorem rev_L {α : Type} {enc : α → Wz.D} {l : List α} : revD (encL enc l) = some (.new (encL enc l.reverse)) := by
  show some (Rv.new (.lst (l.map enc).reverse)) = _
  rw [← List.map_reverse]
  rfl
theorem go_setLc {env : Nat → FnSpec} {np n0 i : Nat} {l : Ss} {ρ : List Slot} {S : List Cell} {k : List Ss} {Q : SOut → Prop} {m : Bool} {it : It} {vs : List Nat} {g : Tg} {c : Ts} {e : E} (h : Go env np n0 (.cons (.set i m (.lc it vs g c e)) l) ρ S k Q) : Go env np n0 (.cons (.setLc i m it vs g c e) l) ρ S k Q := h
/-- an if both ways of which come to what φ says -/
theorem go_ifS {env : Nat → FnSpec} {np n0 : Nat} {l a b : Ss} {t : T} {p : Bool} {ρ : List Slot} {S S1 : List Cell} {k : List Ss} {Q : SOut → Prop} (φ : List Slot → List Cell → Prop) (h : evT env t ρ S = .ok p S1)
    (h1 : p = true → Go env np n0 a ρ S1 [] (fun o => ∃ ρ' S', o = .nx ρ' S' ∧ φ ρ' S')) (h2 : p = false → Go env np n0 b ρ S1 [] (fun o => ∃ ρ' S', o = .nx ρ' S' ∧ φ ρ' S')) (q : ∀ ρ' S', φ ρ' S' → Go env np n0 l ρ' S' k Q) : Go env np n0 (.cons (.ife t a b) l) ρ S k Q := by
  refine go_ife h (fun e => ?_) (fun e => ?_)
  · obtain ⟨ρ', S', e1, e2⟩ := of_go (h1 e)
    unfold Go
    rw [e1]
    exact q ρ' S' e2
  · obtain ⟨ρ', S', e1, e2⟩ := of_go (h2 e)
    unfold Go
    rw [e1]
    exact q ρ' S' e2
/-! ### dicts whose keys are pairs -/
def pk (p : Int × Int) : List Key := [.inl p.1, .inl p.2]
theorem pk_inj : ∀ x y : Int × Int, pk x = pk y → x = y := fun x y h => by
  unfold pk at h
  injection h with h1 h2
  injection h2 with h2 _
  exact Prod.ext (Sum.inl.inj h1) (Sum.inl.inj h2)
def encDT {β : Type} (enc : β → Wz.D) (w : List ((Int × Int) × β)) : Wz.D := .dt (w.map fun p => (pk p.1, enc p.2))
section
variable {β : Type} {enc : β → Wz.D} {w : List ((Int × Int) × β)} {k : Int × Int} {v : β} {S : List Cell}
theorem rd_encDT : (Rv.val (encDT enc w)).read S = some (encDT enc w) := rfl
theorem dget_DT : dget (encDT enc w) (encP .int .int k) = some ((getK w k).map enc) := congrArg some (getK_map pk_inj w k)
theorem put_DT (h : w.length < lim) : putD (encDT enc w) (encP .int .int k) (enc v) = some (encDT enc (setK w k v)) := by
  show (if (w.map fun p => (pk p.1, enc p.2)).length < lim then some (Wz.D.dt (setK (w.map fun p => (pk p.1, enc p.2)) (pk k) (enc v))) else none) = _
  rw [if_pos (by rw [List.length_map]; exact h), setK_map pk_inj]
  rfl
theorem c_inDT : Cp.ev .inn (encP .int .int k) (encDT enc w) = some (.val (.bl (getK w k).isSome)) := by
  show inD _ _ = _
  unfold inD
  rw [show inB (encP .int .int k) (encDT enc w) = (dget (encDT enc w) (encP .int .int k)).map Option.isSome from rfl, dget_DT]
  cases getK w k <;> rfl
theorem c_ninDT : Cp.ev .nin (encP .int .int k) (encDT enc w) = some (.val (.bl (!(getK w k).isSome))) := by
  show ninD _ _ = _
  unfold ninD
  rw [show inB (encP .int .int k) (encDT enc w) = (dget (encDT enc w) (encP .int .int k)).map Option.isSome from rfl, dget_DT]
  cases getK w k <;> rfl
end
/-! ### loops that may be left by a return -/
def foldX {α β γ : Type} (f : α → β → α) (ex : α → β → Option γ) : α → List β → α ⊕ γ
  | a, [] => .inl a
  | a, x :: r => match ex a x with
    | some q => .inr q
    | none => foldX f ex (f a x) r
theorem for_X {env : Nat → FnSpec} {np n0 : Nat} {b : Ss} {g : Tg} {clr : List Nat} {gd : Option (Nat × Wz.D)} {α β : Type} (P : Nat → α → Prop) (R : α → List Slot) (T : α → List Cell) (enc : β → Wz.D) (f : α → β → α) (ex : α → β → Option (Rv × List Cell)) (xs : List β)
    (hgd : ∀ a i, P i a → gdOk (T a) gd)
    (turn : ∀ a x i, xs[i]? = some x → P i a → ∃ ρ1, bindT g (enc x) (R a) = some ρ1 ∧ Go env np n0 b ρ1 (T a) [] (fun o => match ex a x with
      | none => TurnEnd clr (R (f a x)) (T (f a x)) o
      | some q => ∃ ρ2, o = .rt q.1 ρ2 q.2) ∧ (ex a x = none → P (i + 1) (f a x))) :
    ∀ a, P 0 a → (∃ a', foldX f ex a xs = .inl a' ∧ forL gd (bindT g) (evSs env np b) clr n0 (xs.map enc) (R a) (T a) = .nx (R a') (T a') ∧ P xs.length a') ∨
      ∃ q ρ2, foldX f ex a xs = .inr q ∧ forL gd (bindT g) (evSs env np b) clr n0 (xs.map enc) (R a) (T a) = .rt q.1 ρ2 q.2 := by
  induction xs generalizing P with
  | nil => exact fun a h => .inl ⟨a, rfl, for_nil _ _ _ (hgd a 0 h), h⟩
  | cons x r ih =>
    intro a h
    obtain ⟨ρ1, h1, h2, h4⟩ := turn a x 0 rfl h
    have hg := of_go h2
    cases e : ex a x with
    | some q =>
      rw [e] at hg
      obtain ⟨ρ2, h5⟩ := hg
      refine .inr ⟨q, ρ2, by unfold foldX; rw [e], ?_⟩
      rw [List.map_cons, for_cons _ _ _ (hgd a 0 h), h1]
      dsimp only
      rw [h5, bnd_rt]
    | none =>
      rw [e] at hg
      obtain ⟨ρ2, h5, h6⟩ := hg
      have step : forL gd (bindT g) (evSs env np b) clr n0 ((x :: r).map enc) (R a) (T a) = forL gd (bindT g) (evSs env np b) clr n0 (r.map enc) (R (f a x)) (T (f a x)) := by
        rw [List.map_cons, for_cons _ _ _ (hgd a 0 h), h1]
        dsimp only
        rw [h5, bnd_nx, h6]
      have q := ih (fun i => P (i + 1)) (fun a i hp => hgd a (i + 1) hp) (fun a y i hy hp => turn a y (i + 1) (by simpa using hy) hp) (f a x) (h4 e)
      rw [step, show foldX f ex a (x :: r) = foldX f ex (f a x) r from by rw [foldX, e]]
      exact q
theorem go_forX {env : Nat → FnSpec} {np n0 : Nat} {b : Ss} {g : Tg} {clr : List Nat} {α β : Type} {it : It} {l : Ss} {ρ : List Slot} {S S1 : List Cell} {its : Its} {k : List Ss} {Q : SOut → Prop} (P : Nat → α → Prop) (R : α → List Slot) (T : α → List Cell) (enc : β → Wz.D) (f : α → β → α) (ex : α → β → Option (Rv × List Cell)) (xs : List β) (a : α)
    (hi : evI env it ρ S = .ok its S1) (hx : its = ⟨xs.map enc, none⟩) (hρ : ρ = R a) (hS : S1 = T a) (h0 : P 0 a)
    (turn : ∀ a x i, xs[i]? = some x → P i a → ∃ ρ1, bindT g (enc x) (R a) = some ρ1 ∧ Go env np n0 b ρ1 (T a) [] (fun o => match ex a x with
      | none => TurnEnd clr (R (f a x)) (T (f a x)) o
      | some q => ∃ ρ2, o = .rt q.1 ρ2 q.2) ∧ (ex a x = none → P (i + 1) (f a x)))
    (q1 : ∀ a', foldX f ex a xs = .inl a' → P xs.length a' → Go env np n0 l (R a') (T a') k Q) (q2 : ∀ q ρ2, foldX f ex a xs = .inr q → Q (.rt q.1 ρ2 q.2)) : Go env np n0 (.cons (.each it g b clr) l) ρ S k Q := by
  subst hx hS hρ
  rcases for_X (gd := none) P R T enc f ex xs (fun _ _ _ => True.intro) turn a h0 with ⟨a', e1, e2, e3⟩ | ⟨q, ρ2, e1, e2⟩
  · exact go_each hi e2 (q1 a' e1 e3)
  · exact go_eachX hi e2 (q2 q ρ2 e1)
theorem o_cat1 {α : Type} {enc : α → Wz.D} {l : List α} {x : α} (h : l.length + 1 ≤ lim) : O2.ev .add (encL enc l) (.lst [enc x]) = some (.new (encL enc (l ++ [x]))) := o_catL (m := [x]) h
theorem o_catP {l : List (Int × Int)} {a b : Int} (h : l.length + 1 ≤ lim) : O2.ev .add (encL (encP .int .int) l) (.lst [.tup [.int a, .int b]]) = some (.new (encL (encP .int .int) (l ++ [(a, b)]))) := o_catL (m := [(a, b)]) h
theorem ix_P0 {α β : Type} {a : α → Wz.D} {b : β → Wz.D} {p : α × β} : idxD (encP a b p) (.int 0) = some (.val (a p.1)) := rfl
theorem ix_P1 {α β : Type} {a : α → Wz.D} {b : β → Wz.D} {p : α × β} : idxD (encP a b p) (.int 1) = some (.val (b p.2)) := rfl
end Wz

set_option Elab.async false
set_option linter.all false
set_option maxRecDepth 100000
set_option maxHeartbeats 400000
/-! ### plain mathematics, no program in sight -/
namespace Law
open PySem PySem.Spec PyProof.Rows L2 Wz
def gst (k cell : Int) : Int :=
  if (cell.natAbs : Int) % 5 = 4 then (k * (1 + (cell.natAbs : Int) * 1234567891 % 2147483646) + (cell.natAbs : Int) / 2147483646) % 2147483647 + 997852516353
  else (k * (1 + (cell.natAbs : Int) * 1234567891 % 2147483646) + (cell.natAbs : Int) / 2147483646) % 2147483647
def stA (base : Int) (a : Int × List Int) (_ : Nat) : Int × List Int := (a.1 / base, a.2 ++ [a.1 % base])
def stB (base : Int) (a : Int × List Int) (_ : Nat) : Int × List Int := (a.1 * 48271 % 2147483647, a.2 ++ [a.1 * 48271 % 2147483647 * 16807 % 998244353 / 3 % base])
def drw (cell many base : Int) : List Int :=
  if 1000000000000000000 ≤ (cell.natAbs : Int) then ((List.range (((cell.natAbs : Int) - 1000000000000000000) % (many + 1)).toNat).foldl (stA base) (((cell.natAbs : Int) - 1000000000000000000) / (many + 1), [])).2
  else ((List.range ((cell.natAbs : Int) % (many + 1)).toNat).foldl (stB base) ((cell.natAbs : Int) % 2147483629 + 1, [])).2
theorem stA_ok (base : Int) (hb : 0 < base) : ∀ (l : List Nat) (a : Int × List Int), (l.foldl (stA base) a).2.length = a.2.length + l.length ∧ ((∀ x ∈ a.2, 0 ≤ x ∧ x < base) → ∀ x ∈ (l.foldl (stA base) a).2, 0 ≤ x ∧ x < base)
  | [], a => ⟨rfl, id⟩
  | x :: l, a => by
    obtain ⟨h1, h2⟩ := stA_ok base hb l (stA base a x)
    refine ⟨by rw [List.foldl_cons, h1]; simp [stA]; omega, fun h => h2 fun y hy => ?_⟩
    rcases List.mem_append.mp hy with q | q
    · exact h y q
    · rw [List.mem_singleton.mp q]
      exact ⟨Int.emod_nonneg _ (by omega), Int.emod_lt_of_pos _ hb⟩
theorem stB_ok (base : Int) (hb : 0 < base) : ∀ (l : List Nat) (a : Int × List Int), (l.foldl (stB base) a).2.length = a.2.length + l.length ∧ ((∀ x ∈ a.2, 0 ≤ x ∧ x < base) → ∀ x ∈ (l.foldl (stB base) a).2, 0 ≤ x ∧ x < base)
  | [], a => ⟨rfl, id⟩
  | x :: l, a => by
    obtain ⟨h1, h2⟩ := stB_ok base hb l (stB base a x)
    refine ⟨by rw [List.foldl_cons, h1]; simp [stB]; omega, fun h => h2 fun y hy => ?_⟩
    rcases List.mem_append.mp hy with q | q
    · exact h y q
    · rw [List.mem_singleton.mp q]
      exact ⟨Int.emod_nonneg _ (by omega), Int.emod_lt_of_pos _ hb⟩
theorem drw_ok (cell many base : Int) (hm : 0 ≤ many) (hb : 0 < base) : ((drw cell many base).length : Int) ≤ many ∧ ∀ x ∈ drw cell many base, 0 ≤ x ∧ x < base := by
  have hp : 0 < many + 1 := by omega
  unfold drw
  split
  · obtain ⟨h1, h2⟩ := stA_ok base hb (List.range (((cell.natAbs : Int) - 1000000000000000000) % (many + 1)).toNat) (((cell.natAbs : Int) - 1000000000000000000) / (many + 1), [])
    refine ⟨?_, h2 (fun x h => by cases h)⟩
    rw [h1, List.length_range]
    have := Int.emod_nonneg ((cell.natAbs : Int) - 1000000000000000000) (show many + 1 ≠ 0 by omega)
    have := Int.emod_lt_of_pos ((cell.natAbs : Int) - 1000000000000000000) hp
    simp only [List.length_nil]
    omega
  · obtain ⟨h1, h2⟩ := stB_ok base hb (List.range ((cell.natAbs : Int) % (many + 1)).toNat) ((cell.natAbs : Int) % 2147483629 + 1, [])
    refine ⟨?_, h2 (fun x h => by cases h)⟩
    rw [h1, List.length_range]
    have := Int.emod_nonneg (cell.natAbs : Int) (show many + 1 ≠ 0 by omega)
    have := Int.emod_lt_of_pos (cell.natAbs : Int) hp
    simp only [List.length_nil]
    omega
def drf (ns : List Int) (start most base : Int) : List Int := ((ns.drop start.toNat).flatMap fun c => drw c 24 base).take most.toNat
theorem take_snoc (m : Nat) (l : List Int) (x : Int) (h : l.length ≤ m) : (if l.length < m then l ++ [x] else l) = (l ++ [x]).take m := by
  split
  · rw [List.take_of_length_le (by rw [List.length_append, List.length_singleton]; omega)]
  · rw [List.take_append_of_le_length (by omega), List.take_of_length_le h]
theorem fold_take (m : Nat) : ∀ (xs row : List Int), row.length ≤ m → xs.foldl (fun (r : List Int) x => (r ++ [x]).take m) row = (row ++ xs).take m
  | [], row, h => by rw [List.foldl_nil, List.append_nil, List.take_of_length_le h]
  | x :: xs, row, h => by
    rw [List.foldl_cons, fold_take m xs _ (by rw [List.length_take]; omega)]
    by_cases q : row.length < m
    · rw [List.take_of_length_le (l := row ++ [x]) (by rw [List.length_append, List.length_singleton]; omega), List.append_assoc]
      rfl
    · rw [List.take_append_of_le_length (l₁ := row) (by omega), List.take_append_of_le_length (by rw [List.length_take]; omega), List.take_append_of_le_length (by omega), List.take_take, Nat.min_self]
theorem fold_flat (m : Nat) (g : Int → List Int) : ∀ (cs row : List Int), row.length ≤ m → cs.foldl (fun (r : List Int) c => (r ++ g c).take m) row = (row ++ cs.flatMap g).take m
  | [], row, h => by rw [List.foldl_nil, List.flatMap_nil, List.append_nil, List.take_of_length_le h]
  | x :: xs, row, h => by
    rw [List.foldl_cons, fold_flat m g xs _ (by rw [List.length_take]; omega), List.flatMap_cons]
    by_cases q : (row ++ g x).length ≤ m
    · rw [List.take_of_length_le q, List.append_assoc]
    · rw [← List.append_assoc, List.take_append_of_le_length (l₁ := (row ++ g x).take m) (by rw [List.length_take]; omega), List.take_append_of_le_length (l₁ := row ++ g x) (by omega), List.take_take, Nat.min_self]
abbrev encR : List (Int × Int) → Wz.D := encL (encP .int .int)
def prOf (many cell d : Int) : Int × Int := (gst (d % many) cell, gst ((d % many + 1 + d / many % (many - 1)) % many) cell)
theorem foldl_snoc {α β : Type} (f : α → β) : ∀ (l : List α) (acc : List β), l.foldl (fun a x => a ++ [f x]) acc = acc ++ l.map f
  | [], acc => by simp
  | x :: l, acc => by rw [List.foldl_cons, foldl_snoc f l, List.map_cons, List.append_assoc]; rfl
def drR (ns : List Int) (start most : Int) : List (Int × Int) := (drf ns start most 132).map (prOf (2 + ns.getD 0 0 % 11) (ns.getD 1 0))
theorem drf_ok (ns : List Int) (start most base : Int) (hb : 0 < base) : (drf ns start most base).length ≤ most.toNat ∧ ∀ d ∈ drf ns start most base, 0 ≤ d ∧ d < base := by
  unfold drf
  refine ⟨by rw [List.length_take]; omega, fun d hd => ?_⟩
  obtain ⟨c, _, h⟩ := List.mem_flatMap.mp (List.mem_of_mem_take hd)
  exact (drw_ok c 24 base (by decide) hb).2 d h
theorem all_true {α : Type} (l : List α) : (l.map fun _ => true).all id = true := by
  induction l with
  | nil => rfl
  | cons _ _ ih => exact ih
def wl (w : List (Int × Int)) (g : Int) : Int := (getK w g).getD g
def wst (w : List (Int × Int)) (p : Int × Int) : List (Int × Int) := setK (setK w p.1 (wl w p.2)) p.2 (wl w p.1)
def mvd (w : List (Int × Int)) : List (Int × Int) := ((sI (w.map (·.1))).filter fun g => !decide (wl w g = g)).map fun g => (g, wl w g)
theorem mem_sI {l : List Int} {x : Int} : x ∈ sI l ↔ x ∈ l := List.mem_mergeSort
theorem len_sI {l : List Int} : (sI l).length = l.length := List.length_mergeSort _
theorem wf_len : ∀ (row w : List (Int × Int)), (row.foldl wst w).length ≤ w.length + 2 * row.length
  | [], w => Nat.le_refl _
  | p :: row, w => by
    have h := wf_len row (wst w p)
    have l1 := setK_len (l := w) (k := p.1) (v := wl w p.2)
    have l2 := setK_len (l := setK w p.1 (wl w p.2)) (k := p.2) (v := wl w p.1)
    have e : (wst w p).length = (setK (setK w p.1 (wl w p.2)) p.2 (wl w p.1)).length := rfl
    rw [List.foldl_cons, List.length_cons]
    omega
def swp (f : Int → Int) (p : Int × Int) : Int → Int := fun g => if g = p.2 then f p.1 else if g = p.1 then f p.2 else f g
theorem wl_wst (w : List (Int × Int)) (p : Int × Int) : wl (wst w p) = swp (wl w) p := by
  funext g
  unfold wl wst swp
  rw [getK_set, getK_set]
  by_cases h1 : g = p.2
  · rw [if_pos h1.symm, if_pos h1]
    rfl
  · rw [if_neg (fun e => h1 e.symm), if_neg h1]
    by_cases h2 : g = p.1
    · rw [if_pos h2.symm, if_pos h2]
      rfl
    · rw [if_neg (fun e => h2 e.symm), if_neg h2]
theorem wl_fold : ∀ (row w : List (Int × Int)), wl (row.foldl wst w) = row.foldl swp (wl w)
  | [], w => rfl
  | p :: r, w => by rw [List.foldl_cons, wl_fold r, wl_wst, List.foldl_cons]
theorem swp_swp (f : Int → Int) (p : Int × Int) : swp (swp f p) p = f := by
  funext g
  unfold swp
  by_cases h1 : g = p.2
  · rw [if_pos h1]
    by_cases h2 : p.1 = p.2
    · rw [if_pos h2, h2, h1]
    · rw [if_neg h2, if_pos rfl, h1]
  · rw [if_neg h1]
    by_cases h2 : g = p.1
    · rw [if_pos h2, if_pos rfl, h2]
    · rw [if_neg h2, if_neg h1, if_neg h2]
theorem back_home : ∀ (row : List (Int × Int)) (f : Int → Int), (row ++ row.reverse).foldl swp f = f
  | [], f => rfl
  | p :: r, f => by
    have h := back_home r (swp f p)
    rw [List.foldl_append] at h ⊢
    rw [List.reverse_cons, List.foldl_append, List.foldl_cons (l := r), h, List.foldl_cons, List.foldl_nil, swp_swp]
theorem mvd_nil {w : List (Int × Int)} (h : ∀ g, wl w g = g) : mvd w = [] := by
  unfold mvd
  rw [List.filter_eq_nil_iff.mpr fun g _ => by rw [h g]; simp]
  rfl
theorem mvd_back (row : List (Int × Int)) : mvd ((row ++ row.reverse).foldl wst []) = [] := mvd_nil fun g => by
  rw [wl_fold, back_home]
  rfl
theorem drR_len (ns : List Int) (start most : Int) : (drR ns start most).length ≤ most.toNat := by
  unfold drR
  rw [List.length_map]
  exact (drf_ok ns start most 132 (by decide)).1
/-! pairs by their lesser guest; a row without doubles -/
def odp (a b : Int) : Int × Int := if b < a then (b, a) else (a, b)
def auB (w : List ((Int × Int) × Bool)) (x : Int × Int) : Bool := decide (x.1 = x.2) || (getK w (odp x.1 x.2)).isSome
def auS (w : List ((Int × Int) × Bool)) (x : Int × Int) : List ((Int × Int) × Bool) := setK w (odp x.1 x.2) true
def auF : List ((Int × Int) × Bool) → List (Int × Int) → Bool
  | _, [] => true
  | w, x :: r => if auB w x = true then false else auF (auS w x) r
theorem auF_inl {S : List Cell} : ∀ (row : List (Int × Int)) (w : List ((Int × Int) × Bool)) {w' : List ((Int × Int) × Bool)}, foldX auS (fun w x => if auB w x = true then some (Rv.val (.bl false), S) else none) w row = .inl w' → auF w row = true
  | [], w, _, _ => rfl
  | x :: r, w, w', h => by
    unfold foldX at h
    unfold auF
    by_cases q : auB w x = true
    · rw [if_pos q] at h; cases h
    · rw [if_neg q] at h ⊢
      exact auF_inl r _ h
theorem auF_inr {S : List Cell} : ∀ (row : List (Int × Int)) (w : List ((Int × Int) × Bool)) {q : Rv × List Cell}, foldX auS (fun w x => if auB w x = true then some (Rv.val (.bl false), S) else none) w row = .inr q → q = (.val (.bl false), S) ∧ auF w row = false
  | [], w, _, h => by cases h
  | x :: r, w, q, h => by
    unfold foldX at h
    unfold auF
    by_cases z : auB w x = true
    · rw [if_pos z] at h ⊢
      cases h
      exact ⟨rfl, rfl⟩
    · rw [if_neg z] at h ⊢
      exact auF_inr r _ h
def sfS (a : List ((Int × Int) × Bool) × List (Int × Int)) (x : Int × Int) : List ((Int × Int) × Bool) × List (Int × Int) := (setK a.1 (odp x.1 x.2) true, if (getK a.1 (odp x.1 x.2)).isSome = true then a.2 else a.2 ++ [x])
theorem sf_le : ∀ (row : List (Int × Int)) (a : List ((Int × Int) × Bool) × List (Int × Int)), (row.foldl sfS a).2.length ≤ a.2.length + row.length
  | [], a => Nat.le_refl _
  | x :: r, a => by
    have h := sf_le r (sfS a x)
    have e : (sfS a x).2.length ≤ a.2.length + 1 := by
      unfold sfS
      dsimp only
      split
      · omega
      · rw [List.length_append]; exact Nat.le_refl _
    rw [List.foldl_cons, List.length_cons]
    omega
theorem sf_au : ∀ (row : List (Int × Int)) (a : List ((Int × Int) × Bool) × List (Int × Int)), auF a.1 row = (decide ((row.foldl sfS a).2.length = a.2.length + row.length) && !(row.any fun x => decide (x.1 = x.2)))
  | [], a => by simp [auF]
  | x :: r, a => by
    have ih := sf_au r (sfS a x)
    have hle := sf_le r (sfS a x)
    rw [List.foldl_cons, List.any_cons, List.length_cons]
    unfold auF auB
    by_cases h1 : x.1 = x.2
    · simp [h1]
    · by_cases h2 : (getK a.1 (odp x.1 x.2)).isSome = true
      · have e : (sfS a x).2 = a.2 := by unfold sfS; dsimp only; rw [if_pos h2]
        rw [e] at hle
        rw [if_pos (by rw [h2, Bool.or_true]), decide_eq_false (by omega)]
        rfl
      · have e : (sfS a x).2 = a.2 ++ [x] := by unfold sfS; dsimp only; rw [if_neg h2]
        have e2 : (sfS a x).2.length = a.2.length + 1 := by rw [e, List.length_append]; rfl
        have h2' : (getK a.1 (odp x.1 x.2)).isSome = false := by
          cases q : (getK a.1 (odp x.1 x.2)).isSome with
          | true => exact absurd q h2
          | false => rfl
        rw [if_neg (by rw [h2', decide_eq_false h1]; decide), show auS a.1 x = (sfS a x).1 from rfl, ih, e2, decide_eq_false h1, Bool.false_or]
        congr 1
        rw [decide_eq_decide]
        constructor <;> intro h <;> omega
end Law

set_option Elab.async false
set_option linter.all false
set_option maxRecDepth 100000
set_option maxHeartbeats 4000000
namespace Wz
open PySem PySem.Spec PyProof.Rows L2

/-! ### stepping through objects and exceptions -/
section
variable {env : Nat → FnSpec} {np n0 n : Nat} {l b : Ss} {ρ ρ' : List Slot} {S S1 S2 S3 S4 : List Cell} {k : List Ss} {Q : SOut → Prop} {e a : E} {es : Es} {d : Wz.D} {r : Rv} {rs : List Rv} {ds : List Wz.D} {i j : Nat} {c cn f m : Str} {cs : List Str} {fs : List (Str × Fld)} {av : Option Wz.D} {outs : List Slot}
theorem e_fldV (ha : evE env a ρ S = .ok (.val (.ref n)) S1) (hs : S1[n]? = some (.ins c fs)) (hc : cs.contains c = true) (hf : fs.lookup f = some (.val d)) : evE env (.fld cs f a) ρ S = .ok (.val d) S1 := by
  show xFld _ _ _ _ _ = _
  unfold xFld
  rw [ha, Out.bind_ok]
  (try dsimp only)
  rw [hs]
  (try dsimp only)
  rw [if_pos hc, hf]
theorem e_fldO (ha : evE env a ρ S = .ok (.val (.ref n)) S1) (hs : S1[n]? = some (.ins c fs)) (hc : cs.contains c = true) (hf : fs.lookup f = some (.own d)) : evE env (.fld cs f a) ρ S = .ok (.fld n f) S1 := by
  show xFld _ _ _ _ _ = _
  unfold xFld
  rw [ha, Out.bind_ok]
  (try dsimp only)
  rw [hs]
  (try dsimp only)
  rw [if_pos hc, hf]
theorem e_meth (ha : evE env a ρ S = .ok (.val (.ref n)) S1) (hs : S1[n]? = some (.ins cn fs)) (hm : (fs.lookup m).isNone = true) (he : evEs env es ρ S1 = .ok rs S2) (ho : (noO (env j).ms || okO (env j).ms (.val (.ref n) :: rs)) = true) (hp : passA S2 (env j).ms (.val (.ref n) :: rs) = some ds)
    (h : (env j).run ds S2 = .ok r outs S3) (hr : isVN r = true) (hn : S3 = S4) : evE env (.meth j cn m a es) ρ S = .ok r S4 := by
  subst hn
  show xMeth _ _ _ _ _ _ _ = _
  unfold xMeth
  rw [ha, Out.bind_ok]
  (try dsimp only)
  rw [hs]
  (try dsimp only)
  rw [if_pos (by rw [hm]; simp), he, Out.bind_ok]
  unfold callS
  rw [if_pos ho, hp]
  (try dsimp only)
  rw [h]
  cases r <;> first | rfl | cases hr
theorem e_methX (ha : evE env a ρ S = .ok (.val (.ref n)) S1) (hs : S1[n]? = some (.ins cn fs)) (hm : (fs.lookup m).isNone = true) (he : evEs env es ρ S1 = .ok rs S2) (ho : (noO (env j).ms || okO (env j).ms (.val (.ref n) :: rs)) = true) (hp : passA S2 (env j).ms (.val (.ref n) :: rs) = some ds)
    (h : (env j).run ds S2 = .exc c av S3) : evE env (.meth j cn m a es) ρ S = .exc c av S3 := by
  show xMeth _ _ _ _ _ _ _ = _
  unfold xMeth
  rw [ha, Out.bind_ok]
  (try dsimp only)
  rw [hs]
  (try dsimp only)
  rw [if_pos (by rw [hm]; simp), he, Out.bind_ok]
  unfold callS
  rw [if_pos ho, hp]
  (try dsimp only)
  rw [h]
  rfl
theorem e_callX (ha : evEs env es ρ S = .ok rs S1) (hm : (noO (env j).ms || okO (env j).ms rs) = true) (hp : passA S1 (env j).ms rs = some ds) (h : (env j).run ds S1 = .exc c av S2) : evE env (.call j es) ρ S = .exc c av S2 := by
  show xCall _ _ _ _ = _
  unfold xCall
  rw [ha, Out.bind_ok]
  unfold callS
  rw [if_pos hm, hp]
  (try dsimp only)
  rw [h]
  rfl
theorem e_make (ha : evEs env es ρ S = .ok rs S1) (hl : S1.length = n) (hS : S1 ++ [.ins cn []] = S2) (ho : (noO (env j).ms || okO (env j).ms (.val (.ref n) :: rs)) = true) (hp : passA S2 (env j).ms (.val (.ref n) :: rs) = some ds) (h : (env j).run ds S2 = .ok (.val .non) outs S3) (hn : S3 = S4) : evE env (.make j cn es) ρ S = .ok (.val (.ref n)) S4 := by
  subst hl hS hn
  show xMake _ _ _ _ _ = _
  unfold xMake
  rw [ha, Out.bind_ok]
  unfold callS
  rw [if_pos ho, hp]
  (try dsimp only)
  rw [h]
  rfl
theorem go_raise (q : Q (.exc cn none ρ S)) : Go env np n0 (.cons (.raise cn) l) ρ S k Q := by
  unfold Go
  rw [cons_eq]
  exact q
theorem go_raiseV (h : evE env e ρ S = .ok r S1) (hv : r.fz = some d) (q : Q (.exc cn (some d) ρ S1)) : Go env np n0 (.cons (.raiseV cn e) l) ρ S k Q := by
  unfold Go
  rw [cons_eq]
  show Q ((sRaiseV cn (evE env e) n0 ρ S).bnd _)
  unfold sRaiseV
  rw [h, sE_ok]
  (try dsimp only)
  rw [hv]
  exact q
theorem go_expX (h : evE env e ρ S = .exc c av S1) (q : Q (.exc c av ρ S1)) : Go env np n0 (.cons (.exp e) l) ρ S k Q := by
  unfold Go
  rw [cons_eq]
  show Q ((sDrop (evE env e) n0 ρ S).bnd _)
  unfold sDrop
  rw [h]
  exact q
theorem go_retX (h : evE env e ρ S = .exc c av S1) (q : Q (.exc c av ρ S1)) : Go env np n0 (.cons (.ret e) l) ρ S k Q := by
  unfold Go
  rw [cons_eq]
  show Q ((sRet (evE env e) n0 ρ S).bnd _)
  unfold sRet
  rw [h]
  exact q
theorem go_setX {m : Bool} (h : evE env e ρ S = .exc c av S1) (q : Q (.exc c av ρ S1)) : Go env np n0 (.cons (.set i m e) l) ρ S k Q := by
  unfold Go
  rw [cons_eq]
  show Q ((sSet i m (evE env e) n0 ρ S).bnd _)
  unfold sSet
  rw [h]
  exact q
/-- a field gets a new container of its own | plain data -/
theorem go_attO (he : evE env e ρ S = .ok (.new d) S1) (ha : evE env a ρ S1 = .ok (.val (.ref n)) S2) (hs : S2[n]? = some (.ins c fs)) (hh : ((cs.contains c && decide (fs.length < 900)) && ((noF f fs || oneF f fs) && (decide (n0 ≤ n) || !ownF S2 n f))) = true) (hn : S2.set n (.ins c (fputD f (.own d) fs)) = S3) (q : Go env np n0 l ρ S3 k Q) :
    Go env np n0 (.cons (.att true cs f a e) l) ρ S k Q := by
  subst hn
  refine go_cons ?_ q
  show sAtt true cs f (evE env a) (evE env e) n0 ρ S = _
  unfold sAtt
  rw [he, sE_ok, ha, sE_ok]
  (try dsimp only)
  rw [hs]
  (try dsimp only)
  rw [if_pos hh, if_pos rfl]
theorem go_attV (he : evE env e ρ S = .ok r S1) (hv : r.fz = some d) (ha : evE env a ρ S1 = .ok (.val (.ref n)) S2) (hs : S2[n]? = some (.ins c fs)) (hh : ((cs.contains c && decide (fs.length < 900)) && ((noF f fs || oneF f fs) && (decide (n0 ≤ n) || !ownF S2 n f))) = true) (hn : S2.set n (.ins c (fputD f (.val d) fs)) = S3) (q : Go env np n0 l ρ S3 k Q) :
    Go env np n0 (.cons (.att false cs f a e) l) ρ S k Q := by
  subst hn
  refine go_cons ?_ q
  show sAtt false cs f (evE env a) (evE env e) n0 ρ S = _
  unfold sAtt
  rw [he, sE_ok, ha, sE_ok]
  (try dsimp only)
  rw [hs]
  (try dsimp only)
  rw [if_pos hh, if_neg (by decide), hv]
/-- what the clauses make of a body's outcome -/
def tryO (xs : List Str) (hs : List Hd) (n0 : Nat) : SOut → SOut
  | .exc c a ρ S => if xs.contains c = true then match hs.find? fun h => decide (c = h.c) with
      | some h => match h.i with
        | none => evU a h.us n0 ρ S
        | some i => if i < ρ.length then evU a h.us n0 (ρ.set i .non) S else .stuck
      | none => .exc c a ρ S
    else .stuck
  | o => o
theorem go_try {xs : List Str} {hs : List Hd} (h : Go env np n0 b ρ S [] (fun o => Q ((tryO xs hs n0 o).bnd (cont env np n0 (l :: k))))) : Go env np n0 (.cons (.try_ xs b hs) l) ρ S k Q := by
  unfold Go
  rw [cons_eq]
  have h2 := of_go h
  have e : evS env np (.try_ xs b hs) n0 ρ S = tryO xs hs n0 (evSs env np b n0 ρ S) := by
    show sTry xs (evSs env np b) hs n0 ρ S = _
    unfold sTry tryO
    cases evSs env np b n0 ρ S <;> rfl
  rw [e]
  exact h2
theorem go_back {ρ2 : List Slot} (h : Go env np n0 l ρ2 S2 k Q) : Q ((SOut.nx ρ2 S2).bnd (cont env np n0 (l :: k))) := h
end
end Wz

set_option Elab.async false
set_option linter.all false
set_option maxRecDepth 100000
set_option maxHeartbeats 4000000
namespace Wz
open PySem PySem.Spec PyProof.Rows L2

theorem e_popD {env : Nat → FnSpec} {ρ : List Slot} {S S1 S2 S3 : List Cell} {c e : E} {rc r : Rv} {o : Ow} {β : Type} {enc : β → Wz.D} {w0 w : List (Int × β)} {k : Int} {v : β} (hc : evE env c ρ S = .ok rc S1) (hp : placeOf rc = some o) (hg : oget S1 o = some (encD enc w0)) (he : evE env e ρ S1 = .ok r S2) (hg2 : oget S2 o = some (encD enc w)) (hr : r.read S2 = some (.int k)) (hk : getK w k = some v) (hn : oput S2 o (encD enc (delK w k)) = S3) : evE env (.popD c e) ρ S = .ok (.val (enc v)) S3 := by
  subst hn
  have e1 : getK (w.map fun p => ((Sum.inl p.1 : Key), enc p.2)) (Sum.inl k) = some (enc v) := by exact (getK_map inl_inj w k).trans (by rw [hk]; rfl)
  have e2 : delK (w.map fun p => ((Sum.inl p.1 : Key), enc p.2)) (Sum.inl k) = (delK w k).map fun p => ((Sum.inl p.1 : Key), enc p.2) := delK_map inl_inj w k
  show xPopE _ _ _ _ = _
  unfold xPopE
  rw [hc, Out.bind_ok, hp]
  (try dsimp only)
  rw [hg]
  show (evE env e ρ S1).bind _ = _
  rw [he, Out.bind_ok, hg2]
  show (match r.read S2 with | some x => _ | none => _) = _
  rw [hr]
  show (match getK (w.map fun (p : Int × β) => ((Sum.inl p.1 : Key), enc p.2)) (Sum.inl k) with | some v => (Out.ok (Rv.val v) (oput S2 o (.dk (delK (w.map fun (p : Int × β) => ((Sum.inl p.1 : Key), enc p.2)) (Sum.inl k)))) : Out Rv) | none => .stuck) = _
  rw [e1, e2]
  rfl
theorem noF_look {f : Str} : ∀ {fs : List (Str × Fld)}, noF f fs = true → fs.lookup f = none
  | [], _ => rfl
  | (g, x) :: r, h => by
    have h' : (!(g == f) && noF f r) = true := h
    rw [Bool.and_eq_true, Bool.not_eq_true', beq_eq_false_iff_ne] at h'
    have hb : (f == g) = false := beq_eq_false_iff_ne.mpr fun e => h'.1 e.symm
    rw [List.lookup_cons, hb]
    exact noF_look h'.2
theorem go_attN {env : Nat → FnSpec} {np n0 n : Nat} {l : Ss} {ρ : List Slot} {S S1 S2 S3 : List Cell} {k : List Ss} {Q : SOut → Prop} {e a : E} {d : Wz.D} {c f : Str} {cs : List Str} {fs : List (Str × Fld)} (he : evE env e ρ S = .ok (.new d) S1) (ha : evE env a ρ S1 = .ok (.val (.ref n)) S2) (hs : S2[n]? = some (.ins c fs)) (hc : cs.contains c = true) (hl : fs.length < 900) (hf : noF f fs = true)
    (hn : S2.set n (.ins c (fputD f (.own d) fs)) = S3) (q : Go env np n0 l ρ S3 k Q) : Go env np n0 (.cons (.att true cs f a e) l) ρ S k Q := by
  refine go_attO he ha hs ?_ hn q
  have ho : ownF S2 n f = false := by
    unfold ownF
    rw [hs]
    show isOw (fs.lookup f) = false
    rw [noF_look hf]
    rfl
  rw [hc, hf, ho]
  simp [hl]
theorem t_andF {env : Nat → FnSpec} {ρ : List Slot} {S S1 : List Cell} {a b : T} (h : evT env a ρ S = .ok false S1) : evT env (.and a b) ρ S = .ok false S1 := by
  show xAnd _ _ _ _ = _
  unfold xAnd
  rw [h]
  rfl
/-! ### a hall as data -/
inductive Deed where
  | come (g : Int) | go (g : Int) | ex (a b : Int)
  deriving DecidableEq
def deedD : Deed → Wz.D
  | .come g => .tup [.str "come", .int g]
  | .go g => .tup [.str "go", .int g]
  | .ex a b => .tup [.str "exchange", .int a, .int b]
structure HS where
  worn : List (Int × Int)
  holder : List (Int × Int)
  touched : List ((Int × Int) × Bool)
  done : List Deed
abbrev hallF (h : HS) : List (Str × Fld) := [("worn", .own (encD .int h.worn)), ("holder", .own (encD .int h.holder)), ("touched", .own (encDT .bl h.touched)), ("done", .own (.lst (h.done.map deedD)))]
abbrev hallC (h : HS) : Cell := .ins "Hall" (hallF h)
theorem oget_fl {S : List Cell} {n : Nat} {c f : Str} {fs : List (Str × Fld)} {d : Wz.D} (h : S[n]? = some (.ins c fs)) (h1 : oneF f fs = true) (h2 : fs.lookup f = some (.own d)) : oget S (.fl n f) = some d := by
  show (match S[n]? with
    | some (.ins _ fs) => if oneF f fs = true then match fs.lookup f with
        | some (.own d) => some d
        | _ => none
      else none
    | _ => none) = _
  rw [h]
  (try dsimp only)
  rw [if_pos h1, h2]
theorem fget_fl {S : List Cell} {n : Nat} {c f : Str} {fs : List (Str × Fld)} {d : Wz.D} (h : S[n]? = some (.ins c fs)) (h2 : fs.lookup f = some (.own d)) : (Rv.fld n f).read S = some d := by
  show fget S n f = _
  unfold fget
  rw [h]
  (try dsimp only)
  rw [h2]
section
variable {S : List Cell} {n : Nat} {x : HS}
theorem oget_w (h : S[n]? = some (hallC x)) : oget S (.fl n "worn") = some (encD .int x.worn) := oget_fl h rfl rfl
theorem oget_h (h : S[n]? = some (hallC x)) : oget S (.fl n "holder") = some (encD .int x.holder) := oget_fl h rfl rfl
theorem oget_t (h : S[n]? = some (hallC x)) : oget S (.fl n "touched") = some (encDT .bl x.touched) := oget_fl h rfl rfl
theorem oget_d (h : S[n]? = some (hallC x)) : oget S (.fl n "done") = some (.lst (x.done.map deedD)) := oget_fl h rfl rfl
theorem oput_w {w : List (Int × Int)} (h : S[n]? = some (hallC x)) : oput S (.fl n "worn") (encD .int w) = S.set n (hallC { x with worn := w }) := by
  show (match S[n]? with
    | some (.ins c fs) => S.set n (.ins c (fset "worn" (ofld false (encD .int w)) fs))
    | _ => S) = _
  rw [h]
  rfl
theorem oput_h {w : List (Int × Int)} (h : S[n]? = some (hallC x)) : oput S (.fl n "holder") (encD .int w) = S.set n (hallC { x with holder := w }) := by
  show (match S[n]? with
    | some (.ins c fs) => S.set n (.ins c (fset "holder" (ofld false (encD .int w)) fs))
    | _ => S) = _
  rw [h]
  rfl
theorem oput_t {w : List ((Int × Int) × Bool)} (h : S[n]? = some (hallC x)) : oput S (.fl n "touched") (encDT .bl w) = S.set n (hallC { x with touched := w }) := by
  show (match S[n]? with
    | some (.ins c fs) => S.set n (.ins c (fset "touched" (ofld false (encDT .bl w)) fs))
    | _ => S) = _
  rw [h]
  rfl
theorem oput_d {d : Deed} {z : Wz.D} (h : S[n]? = some (hallC x)) (hz : z = deedD d) : oput S (.fl n "done") (.lst (x.done.map deedD ++ [z])) = S.set n (hallC { x with done := x.done ++ [d] }) := by
  subst hz
  show (match S[n]? with
    | some (.ins c fs) => S.set n (.ins c (fset "done" (ofld false (.lst (x.done.map deedD ++ [deedD d]))) fs))
    | _ => S) = _
  rw [h]
  show S.set n (Cell.ins "Hall" [("worn", .own (encD .int x.worn)), ("holder", .own (encD .int x.holder)), ("touched", .own (encDT .bl x.touched)), ("done", .own (.lst (x.done.map deedD ++ [deedD d])))]) = S.set n (Cell.ins "Hall" [("worn", .own (encD .int x.worn)), ("holder", .own (encD .int x.holder)), ("touched", .own (encDT .bl x.touched)), ("done", .own (.lst ((x.done ++ [d]).map deedD)))])
  rw [List.map_append]
  rfl
theorem rd_w (h : S[n]? = some (hallC x)) : (Rv.fld n "worn").read S = some (encD .int x.worn) := by
  exact fget_fl h rfl
theorem rd_h (h : S[n]? = some (hallC x)) : (Rv.fld n "holder").read S = some (encD .int x.holder) := by
  exact fget_fl h rfl
theorem rd_t (h : S[n]? = some (hallC x)) : (Rv.fld n "touched").read S = some (encDT .bl x.touched) := by
  exact fget_fl h rfl
theorem rd_d (h : S[n]? = some (hallC x)) : (Rv.fld n "done").read S = some (.lst (x.done.map deedD)) := by
  exact fget_fl h rfl
theorem get_setH {c d : Cell} (h : S[n]? = some c) : (S.set n d)[n]? = some d := by
  obtain ⟨hl, _⟩ := List.getElem?_eq_some_iff.mp h
  exact List.getElem?_set_self hl
theorem deed_c {g : Int} : Wz.D.tup [.str "come", .int g] = deedD (.come g) := rfl
theorem deed_g {g : Int} : Wz.D.tup [.str "go", .int g] = deedD (.go g) := rfl
theorem deed_x {a b : Int} : Wz.D.tup [.str "exchange", .int a, .int b] = deedD (.ex a b) := rfl
theorem set_set' {a b : Cell} : (S.set n a).set n b = S.set n b := List.set_set ..
end
/-! what the hall's deeds make of it -/
def HS.come (h : HS) (g : Int) : HS := { h with worn := setK h.worn g g, holder := setK h.holder g g, done := h.done ++ [.come g] }
def HS.go (h : HS) (g : Int) : HS := { h with worn := delK h.worn g, holder := delK h.holder g, done := h.done ++ [.go g] }
def HS.ex (h : HS) (a b wa wb : Int) : HS := { worn := setK (setK h.worn a wb) b wa, holder := setK (setK h.holder wb a) wa b, touched := setK h.touched (Law.odp a b) true, done := h.done ++ [.ex a b] }
/-- what the plain model says of a deed -/
def ansD (q : Str × Option Int) : Wz.D := .tup [.str q.1, match q.2 with
  | none => .non
  | some g => .int g]
def dueM (w : List (Int × Int)) (mt : List ((Int × Int) × Bool)) : Deed → Str × Option Int
  | .come g => if (getK w g).isSome = true then ("AlreadyIn", none) else ("done", none)
  | .go g => match getK w g with
    | none => ("NoGuest", some g)
    | some m => if m = g then ("done", none) else ("Masked", none)
  | .ex a b => if (getK w a).isSome = false then ("NoGuest", some a) else if (getK w b).isSome = false then ("NoGuest", some b) else if a = b then ("Same", none) else if (getK mt (Law.odp a b)).isSome = true then ("Met", none) else ("done", none)
def hs0 : HS := ⟨[], [], [], []⟩
end Wz

set_option Elab.async false
set_option linter.all false
set_option maxRecDepth 100000
set_option maxHeartbeats 4000000
namespace Wz
open PySem PySem.Spec PyProof.Rows L2

/-! ### native programs: typed, with a store -/
section
variable {α β γ σ τ : Type}
def gO (o : Option α) (k : α → Out β) : Out β := match o with
  | some v => k v
  | none => .stuck
def gP (p : Prop) [Decidable p] (k : Out β) : Out β := if p then k else .stuck
def stK (S : List Cell) (k : List Cell → Out β) : Out β := k S
def Out.bindX (m : Out α) (k : α → List Cell → Out β) : Out β := match m with
  | .ok a S => k a S
  | _ => .stuck
def Out.bindR (m : Out (σ ⊕ γ)) (inj : γ → τ) (k : σ → List Cell → Out τ) : Out τ := match m with
  | .ok (.inl s) S => k s S
  | .ok (.inr r) S => .ok (inj r) S
  | .exc c d S => .exc c d S
  | .stuck => .stuck
def foldO (B : σ → β → List Cell → Out σ) : List β → σ → List Cell → Out σ
  | [], s, S => .ok s S
  | x :: r, s, S => (B s x S).bind fun s' S' => foldO B r s' S'
def foldR (B : σ → β → List Cell → Out (σ ⊕ γ)) : List β → σ → List Cell → Out (σ ⊕ γ)
  | [], s, S => .ok (.inl s) S
  | x :: r, s, S => (B s x S).bindR .inr fun s' S' => foldR B r s' S'
noncomputable def gC (p : Prop) (k : Out β) : Out β := @ite _ p (Classical.propDecidable p) k .stuck
noncomputable def foldB (G : List Cell → Prop) (B : σ → β → List Cell → Out σ) : List β → σ → List Cell → Out σ
  | [], s, S => gC (G S) (.ok s S)
  | x :: r, s, S => gC (G S) ((B s x S).bind fun s' S' => foldB G B r s' S')
noncomputable def foldBR (G : List Cell → Prop) (B : σ → β → List Cell → Out (σ ⊕ γ)) : List β → σ → List Cell → Out (σ ⊕ γ)
  | [], s, S => gC (G S) (.ok (.inl s) S)
  | x :: r, s, S => gC (G S) ((B s x S).bindR .inr fun s' S' => foldBR G B r s' S')
def whlO (C : σ → List Cell → Out Bool) (B : σ → List Cell → Out σ) : Nat → σ → List Cell → Out σ
  | 0, _, _ => .stuck
  | n + 1, s, S => (C s S).bindX fun b S1 => if b = true then (B s S1).bind fun s' S' => whlO C B n s' S' else .ok s S1
def whlR (C : σ → List Cell → Out Bool) (B : σ → List Cell → Out (σ ⊕ γ)) : Nat → σ → List Cell → Out (σ ⊕ γ)
  | 0, _, _ => .stuck
  | n + 1, s, S => (C s S).bindX fun b S1 => if b = true then (B s S1).bindR .inr fun s' S' => whlR C B n s' S' else .ok (.inl s) S1
def lcO (C : β → List Cell → Out Bool) (E : β → List Cell → Out γ) : List β → List Cell → Out (List γ)
  | [], S => .ok [] S
  | x :: r, S => (C x S).bindX fun b S1 => if b = true then (E x S1).bindX fun y S2 => (lcO C E r S2).bindX fun ys S3 => .ok (y :: ys) S3 else lcO C E r S1
end
noncomputable def vC {α : Type} (f : α → Cell) (S : List Cell) (n : Nat) : Option α := @dite _ (∃ x, S[n]? = some (f x)) (Classical.propDecidable _) (fun h => some (Classical.choose h)) (fun _ => none)
theorem vC_spec {α : Type} {f : α → Cell} {S : List Cell} {n : Nat} {x : α} (h : vC f S n = some x) : S[n]? = some (f x) := by
  unfold vC at h
  split at h
  · rename_i q
    cases h
    exact Classical.choose_spec q
  · cases h
theorem vC_get {α : Type} {f : α → Cell} {S : List Cell} {n : Nat} {x : α} (hf : ∀ x y, f x = f y → x = y) (h : S[n]? = some (f x)) : vC f S n = some x := by
  unfold vC
  have q : ∃ x, S[n]? = some (f x) := ⟨x, h⟩
  rw [dif_pos q]
  congr 1
  refine hf _ _ ?_
  exact Option.some.inj ((Classical.choose_spec q).symm.trans h)
noncomputable def vR {α : Type} (enc : α → Wz.D) (S : List Cell) (n : Nat) : Option α := @dite _ (∃ x, S[n]? = some (.box (enc x)) ∨ S[n]? = some (.lbx (enc x))) (Classical.propDecidable _) (fun h => some (Classical.choose h)) (fun _ => none)
theorem vR_spec {α : Type} {enc : α → Wz.D} {S : List Cell} {n : Nat} {x : α} (h : vR enc S n = some x) : S[n]? = some (.box (enc x)) ∨ S[n]? = some (.lbx (enc x)) := by
  unfold vR at h
  split at h
  · rename_i q
    cases h
    exact Classical.choose_spec q
  · cases h
theorem rd_refR {S : List Cell} {n : Nat} {d : Wz.D} (h : S[n]? = some (.box d) ∨ S[n]? = some (.lbx d)) : (Rv.val (.ref n)).read S = some d := by
  show some (match S[n]? with | some (.box d) => d | some (.lbx d) => d | _ => .ref n) = _
  rcases h with h | h <;> rw [h]
abbrev boxC {α : Type} (enc : α → Wz.D) (x : α) : Cell := .box (enc x)
noncomputable abbrev vB {α : Type} (enc : α → Wz.D) (S : List Cell) (n : Nat) : Option α := vC (boxC enc) S n
noncomputable abbrev vH (S : List Cell) (n : Nat) : Option HS := vC hallC S n

/-! ### encoders -/
def encO {α : Type} (e : α → Wz.D) : Option α → Wz.D
  | none => .non
  | some x => e x
def encU (_ : Unit) : Wz.D := .non
def encW {α : Type} (enc : α → Wz.D) (l : List α) : Wz.D := .tup (l.map enc)
def enc3 {α β γ : Type} (a : α → Wz.D) (b : β → Wz.D) (c : γ → Wz.D) (p : α × β × γ) : Wz.D := .tup [a p.1, b p.2.1, c p.2.2]
/-- the data that is not a ref, and not none -/
class Pl {α : Type} (enc : α → Wz.D) : Prop where
  look : ∀ x S, look S (enc x) = enc x
  box : ∀ x S, boxAt S (enc x) = false
  bx2 : ∀ x S, boxL S (.val (enc x)) = none
class Ij {α : Type} (enc : α → Wz.D) : Prop where
  inj : ∀ x y, enc x = enc y → x = y
class Nn {α : Type} (enc : α → Wz.D) : Prop where
  nn : ∀ x, isNon (enc x) = false
instance : Pl Wz.D.int := ⟨fun _ _ => rfl, fun _ _ => rfl, fun _ _ => rfl⟩
instance : Ij Wz.D.int := ⟨fun _ _ h => by cases h; rfl⟩
instance : Pl Wz.D.bl := ⟨fun _ _ => rfl, fun _ _ => rfl, fun _ _ => rfl⟩
instance : Ij Wz.D.bl := ⟨fun _ _ h => by cases h; rfl⟩
instance : Pl Wz.D.str := ⟨fun _ _ => rfl, fun _ _ => rfl, fun _ _ => rfl⟩
instance : Ij Wz.D.str := ⟨fun _ _ h => by cases h; rfl⟩
instance : Pl Wz.D.scr := ⟨fun _ _ => rfl, fun _ _ => rfl, fun _ _ => rfl⟩
instance : Ij Wz.D.scr := ⟨fun _ _ h => by cases h; rfl⟩
instance : Ij Wz.D.ref := ⟨fun _ _ h => by cases h; rfl⟩
instance : Pl encU := ⟨fun _ _ => rfl, fun _ _ => rfl, fun _ _ => rfl⟩
instance : Ij encU := ⟨fun _ _ _ => rfl⟩
theorem map_inj {α β : Type} {f : α → β} (h : ∀ x y, f x = f y → x = y) : ∀ l m : List α, l.map f = m.map f → l = m
  | [], [], _ => rfl
  | [], _ :: _, e => by cases e
  | _ :: _, [], e => by cases e
  | x :: l, y :: m, e => by
    rw [List.map_cons, List.map_cons] at e
    injection e with e1 e2
    rw [h x y e1, map_inj h l m e2]
instance {α : Type} {e : α → Wz.D} : Pl (encL e) := ⟨fun _ _ => rfl, fun _ _ => rfl, fun _ _ => rfl⟩
instance {α : Type} {e : α → Wz.D} [h : Ij e] : Ij (encL e) := ⟨fun x y q => map_inj h.inj x y (by injection q)⟩
instance {α : Type} {e : α → Wz.D} : Pl (encW e) := ⟨fun _ _ => rfl, fun _ _ => rfl, fun _ _ => rfl⟩
instance {α : Type} {e : α → Wz.D} [h : Ij e] : Ij (encW e) := ⟨fun x y q => map_inj h.inj x y (by injection q)⟩
instance {α β : Type} {a : α → Wz.D} {b : β → Wz.D} : Pl (encP a b) := ⟨fun _ _ => rfl, fun _ _ => rfl, fun _ _ => rfl⟩
instance {α β : Type} {a : α → Wz.D} {b : β → Wz.D} [ha : Ij a] [hb : Ij b] : Ij (encP a b) := ⟨fun x y q => by
  unfold encP at q
  injection q with q
  injection q with q1 q2
  injection q2 with q2 _
  exact Prod.ext (ha.inj _ _ q1) (hb.inj _ _ q2)⟩
instance {α β γ : Type} {a : α → Wz.D} {b : β → Wz.D} {c : γ → Wz.D} : Pl (enc3 a b c) := ⟨fun _ _ => rfl, fun _ _ => rfl, fun _ _ => rfl⟩
instance {α β γ : Type} {a : α → Wz.D} {b : β → Wz.D} {c : γ → Wz.D} [ha : Ij a] [hb : Ij b] [hc : Ij c] : Ij (enc3 a b c) := ⟨fun x y q => by
  unfold enc3 at q
  injection q with q
  injection q with q1 q2
  injection q2 with q2 q3
  injection q3 with q3 _
  exact Prod.ext (ha.inj _ _ q1) (Prod.ext (hb.inj _ _ q2) (hc.inj _ _ q3))⟩
instance {α : Type} {e : α → Wz.D} : Pl (encD e) := ⟨fun _ _ => rfl, fun _ _ => rfl, fun _ _ => rfl⟩
instance {α : Type} {e : α → Wz.D} [h : Ij e] : Ij (encD e) := ⟨fun x y q => by
  unfold encD at q
  injection q with q
  refine map_inj (fun a b z => ?_) x y q
  injection z with z1 z2
  injection z1 with z1
  exact Prod.ext z1 (h.inj _ _ z2)⟩
instance {α : Type} {e : α → Wz.D} : Pl (encDT e) := ⟨fun _ _ => rfl, fun _ _ => rfl, fun _ _ => rfl⟩
instance {α : Type} {e : α → Wz.D} [h : Ij e] : Ij (encDT e) := ⟨fun x y q => by
  unfold encDT at q
  injection q with q
  refine map_inj (fun a b z => ?_) x y q
  injection z with z1 z2
  exact Prod.ext (pk_inj _ _ z1) (h.inj _ _ z2)⟩
theorem deedD_inj : ∀ x y : Deed, deedD x = deedD y → x = y := fun x y q => by
  cases x <;> cases y <;> simp [deedD, Str.ofString] at q <;> first | (simp_all; done) | (obtain ⟨q1, q2⟩ := q; exact absurd q1 (by decide))
instance : Pl deedD := ⟨fun x _ => by cases x <;> rfl, fun x _ => by cases x <;> rfl, fun x _ => by cases x <;> rfl⟩
instance : Ij deedD := ⟨deedD_inj⟩
instance {α : Type} {e : α → Wz.D} [h : Pl e] : Pl (encO e) := ⟨fun x S => by
  cases x with
  | none => rfl
  | some x => exact h.look x S, fun x S => by
  cases x with
  | none => rfl
  | some x => exact h.box x S, fun x S => by
  cases x with
  | none => rfl
  | some x => exact h.bx2 x S⟩
instance {α : Type} {e : α → Wz.D} [h : Ij e] [n : Nn e] : Ij (encO e) := ⟨fun x y q => by
  cases x with
  | none =>
    cases y with
    | none => rfl
    | some y =>
      have q' : Wz.D.non = e y := q
      have := n.nn y
      rw [← q'] at this
      cases this
  | some x =>
    cases y with
    | none =>
      have q' : e x = Wz.D.non := q
      have := n.nn x
      rw [q'] at this
      cases this
    | some y => exact congrArg some (h.inj x y q)⟩
instance : Nn Wz.D.int := ⟨fun _ => rfl⟩
instance : Nn Wz.D.bl := ⟨fun _ => rfl⟩
instance : Nn Wz.D.str := ⟨fun _ => rfl⟩
instance : Nn Wz.D.scr := ⟨fun _ => rfl⟩
instance : Nn Wz.D.ref := ⟨fun _ => rfl⟩
instance {α : Type} {e : α → Wz.D} : Nn (encL e) := ⟨fun _ => rfl⟩
instance {α : Type} {e : α → Wz.D} : Nn (encW e) := ⟨fun _ => rfl⟩
instance {α β : Type} {a : α → Wz.D} {b : β → Wz.D} : Nn (encP a b) := ⟨fun _ => rfl⟩
instance {α β γ : Type} {a : α → Wz.D} {b : β → Wz.D} {c : γ → Wz.D} : Nn (enc3 a b c) := ⟨fun _ => rfl⟩
instance {α : Type} {e : α → Wz.D} : Nn (encD e) := ⟨fun _ => rfl⟩
instance {α : Type} {e : α → Wz.D} : Nn (encDT e) := ⟨fun _ => rfl⟩
instance : Nn deedD := ⟨fun x => by cases x <;> rfl⟩
theorem rd_val {α : Type} (enc : α → Wz.D) [h : Pl enc] {x : α} {S : List Cell} : (Rv.val (enc x)).read S = some (enc x) := congrArg some (h.look x S)
theorem vB_get {α : Type} {enc : α → Wz.D} [h : Ij enc] {S : List Cell} {n : Nat} {x : α} (q : S[n]? = some (.box (enc x))) : vB enc S n = some x := vC_get (fun x y e => h.inj x y (by injection e)) q
theorem vR_get {α : Type} {enc : α → Wz.D} [h : Ij enc] {S : List Cell} {n : Nat} {x : α} (q : S[n]? = some (.box (enc x)) ∨ S[n]? = some (.lbx (enc x))) : vR enc S n = some x := by
  unfold vR
  have e : ∃ x, S[n]? = some (.box (enc x)) ∨ S[n]? = some (.lbx (enc x)) := ⟨x, q⟩
  rw [dif_pos e]
  congr 1
  refine h.inj _ _ ?_
  have z := Classical.choose_spec e
  generalize Classical.choose e = y at z
  rcases z with z | z <;> rcases q with q | q <;> rw [q] at z
  · injection z with z; injection z with z; exact z.symm
  · injection z with z; cases z
  · injection z with z; cases z
  · injection z with z; injection z with z; exact z.symm
theorem hallC_inj (x y : HS) (h : hallC x = hallC y) : x = y := by
  cases x; cases y
  unfold hallC hallF at h
  simp only [Cell.ins.injEq, List.cons.injEq, Prod.mk.injEq, Fld.own.injEq, true_and, and_true] at h
  obtain ⟨h1, h2, h3, h4⟩ := h
  have e1 := (inferInstance : Ij (encD Wz.D.int)).inj _ _ h1
  have e2 := (inferInstance : Ij (encD Wz.D.int)).inj _ _ h2
  have e3 := (inferInstance : Ij (encDT Wz.D.bl)).inj _ _ h3
  have e4 := (inferInstance : Ij (encL deedD)).inj _ _ h4
  subst e1 e2 e3 e4
  rfl
theorem vH_get {S : List Cell} {n : Nat} {x : HS} (h : S[n]? = some (hallC x)) : vH S n = some x := vC_get hallC_inj h

/-! ### what the walk owes to a native program -/
section
variable {α β γ σ τ : Type}
def RX (x : SOut) (m : Out τ) (J : τ → List Cell → SOut → Prop) : Prop := match m with
  | .ok t S => J t S x
  | .exc c d S => ∃ ρ', x = .exc c d ρ' S
  | .stuck => True
def RFn (x : FOut) (m : Out γ) (qr : γ → Rv) : Prop := match m with
  | .ok r S => ∃ outs, x = .ok (qr r) outs S
  | .exc c d S => x = .exc c d S
  | .stuck => True
def RE (x : Out β) (m : Out α) (q : α → β) : Prop := match m with
  | .ok a S => x = .ok (q a) S
  | .exc c d S => x = .exc c d S
  | .stuck => True
def OKE (x : Out β) (m : Out α) (q : α → β) : Prop := ∀ a S, m = .ok a S → x = .ok (q a) S
abbrev JT (qr : γ → Rv) : γ → List Cell → SOut → Prop := fun r S x => toF x = .ok (qr r) [] S
abbrev JN (R : σ → List Slot) : σ → List Cell → SOut → Prop := fun s S x => x = .nx (R s) S
abbrev JE (clr : List Nat) (R : σ → List Slot) : σ → List Cell → SOut → Prop := fun s S x => ∃ ρ2, x = .nx ρ2 S ∧ clrs clr ρ2 = R s
abbrev JR (clr : List Nat) (R : σ → List Slot) (qr : γ → Rv) : σ ⊕ γ → List Cell → SOut → Prop := fun t S x => match t with
  | .inl s => ∃ ρ2, x = .nx ρ2 S ∧ clrs clr ρ2 = R s
  | .inr r => ∃ ρ2, x = .rt (qr r) ρ2 S
abbrev JS (R : σ → List Slot) (qr : γ → Rv) : σ ⊕ γ → List Cell → SOut → Prop := fun t S x => match t with
  | .inl s => x = .nx (R s) S
  | .inr r => ∃ ρ2, x = .rt (qr r) ρ2 S
end
section
variable {α β γ σ τ : Type} {env : Nat → FnSpec} {np n0 : Nat} {l a b : Ss} {ρ ρ' : List Slot} {S S1 S2 S3 : List Cell} {k : List Ss} {e : E} {es : Es} {t u : T} {d : Wz.D} {r : Rv} {i j n : Nat} {J : τ → List Cell → SOut → Prop}
theorem rx_toF {o : SOut} {m : Out γ} {qr : γ → Rv} (h : RX o m (JT qr)) : RFn (toF o) m qr := by
  cases m with
  | ok r S => exact ⟨_, h⟩
  | exc c d S => obtain ⟨ρ', e⟩ := h; rw [e]; exact rfl
  | stuck => trivial
theorem rf_run {ms : List Mode} {nn m : Nat} {body : Ss} {ds : List Wz.D} {nat : Out γ} {qr : γ → Rv} (hm : ms.length = m) (hr : argSlots ms (ms.map fun _ => false) ds ++ List.replicate (nn - ms.length) .non = ρ) (h : Go env m S.length body ρ S [] (fun x => RX x nat (JT qr))) : RFn ((spOf env ms nn body).run ds S) nat qr := by
  subst hm hr
  unfold spOf runB
  exact rx_toF (of_go h)
theorem g_gO {o : Option α} {kk : α → Out τ} (h : ∀ v, o = some v → Go env np n0 l ρ S k (fun x => RX x (kk v) J)) : Go env np n0 l ρ S k (fun x => RX x (gO o kk) J) := by
  cases o with
  | none => exact True.intro
  | some v => exact h v rfl
theorem g_gP {p : Prop} [dp : Decidable p] {kk : Out τ} (h : p → Go env np n0 l ρ S k (fun x => RX x kk J)) : Go env np n0 l ρ S k (fun x => RX x (gP p kk) J) := by
  unfold gP
  by_cases q : p
  · rw [if_pos q]; exact h q
  · rw [if_neg q]; exact True.intro
theorem g_bindX {m : Out α} {kk : α → List Cell → Out τ} (h : ∀ v S1, m = .ok v S1 → Go env np n0 l ρ S k (fun x => RX x (kk v S1) J)) : Go env np n0 l ρ S k (fun x => RX x (m.bindX kk) J) := by
  cases m with
  | ok v S1 => exact h v S1 rfl
  | exc c d S1 => exact True.intro
  | stuck => exact True.intro
theorem g_if {p : Bool} {A B : Out τ} (h : evT env t ρ S = .ok p S1) (h1 : p = true → Go env np n0 a ρ S1 (l :: k) (fun x => RX x A J)) (h2 : p = false → Go env np n0 b ρ S1 (l :: k) (fun x => RX x B J)) : Go env np n0 (.cons (.ife t a b) l) ρ S k (fun x => RX x (if p = true then A else B) J) := by
  refine go_ife h (fun q => ?_) (fun q => ?_)
  · rw [if_pos q]; exact h1 q
  · rw [if_neg (by rw [q]; decide)]; exact h2 q
theorem rx_exc {c : Str} {dd : Option Wz.D} : RX (.exc c dd ρ S) (.exc c dd S) J := ⟨_, rfl⟩
theorem g_join {p : Bool} {A B : Out σ} {rest : σ → List Cell → Out τ} (R : σ → List Slot) (h : evT env t ρ S = .ok p S1) (h1 : p = true → Go env np n0 a ρ S1 [] (fun x => RX x A (JN R))) (h2 : p = false → Go env np n0 b ρ S1 [] (fun x => RX x B (JN R)))
    (q : ∀ s S2, Go env np n0 l (R s) S2 k (fun x => RX x (rest s S2) J)) : Go env np n0 (.cons (.ife t a b) l) ρ S k (fun x => RX x ((if p = true then A else B).bind rest) J) := by
  have key : ∀ {c : Ss} {C : Out σ}, RX (evSs env np c n0 ρ S1) C (JN R) → Go env np n0 c ρ S1 (l :: k) (fun x => RX x (C.bind rest) J) := by
    intro c C h
    unfold Go
    cases C with
    | ok s S2 =>
      have h' : evSs env np c n0 ρ S1 = .nx (R s) S2 := h
      rw [h']
      exact q s S2
    | exc cc dd S2 =>
      obtain ⟨ρ', h'⟩ := h
      rw [h']
      exact ⟨_, rfl⟩
    | stuck => exact True.intro
  refine go_ife h (fun z => ?_) (fun z => ?_)
  · rw [if_pos z]; exact key (of_go (h1 z))
  · rw [if_neg (by rw [z]; decide)]; exact key (of_go (h2 z))
theorem g_joinR {p : Bool} {A B : Out (σ ⊕ γ)} {rest : σ → List Cell → Out τ} {qr : γ → Rv} {inj : γ → τ} (R : σ → List Slot) (hj : ∀ r S x ρ2, x = SOut.rt (qr r) ρ2 S → J (inj r) S x) (h : evT env t ρ S = .ok p S1) (h1 : p = true → Go env np n0 a ρ S1 [] (fun x => RX x A (JS R qr))) (h2 : p = false → Go env np n0 b ρ S1 [] (fun x => RX x B (JS R qr)))
    (q : ∀ s S2, Go env np n0 l (R s) S2 k (fun x => RX x (rest s S2) J)) : Go env np n0 (.cons (.ife t a b) l) ρ S k (fun x => RX x ((if p = true then A else B).bindR inj rest) J) := by
  have key : ∀ {c : Ss} {C : Out (σ ⊕ γ)}, RX (evSs env np c n0 ρ S1) C (JS R qr) → Go env np n0 c ρ S1 (l :: k) (fun x => RX x (C.bindR inj rest) J) := by
    intro c C h
    unfold Go
    cases C with
    | ok s S2 =>
      cases s with
      | inl s =>
        have h' : evSs env np c n0 ρ S1 = .nx (R s) S2 := h
        rw [h']
        exact q s S2
      | inr r =>
        obtain ⟨ρ2, h'⟩ := h
        rw [h']
        exact hj r S2 _ ρ2 rfl
    | exc cc dd S2 =>
      obtain ⟨ρ', h'⟩ := h
      rw [h']
      exact ⟨_, rfl⟩
    | stuck => exact True.intro
  refine go_ife h (fun z => ?_) (fun z => ?_)
  · rw [if_pos z]; exact key (of_go (h1 z))
  · rw [if_neg (by rw [z]; decide)]; exact key (of_go (h2 z))
/-! calls that may raise, as statements -/
theorem re_call {m : Out α} {q : α → Rv} {rs : List Rv} {ds : List Wz.D} (ha : evEs env es ρ S = .ok rs S1) (hm : (noO (env j).ms || okO (env j).ms rs) = true) (hp : passA S1 (env j).ms rs = some ds) (ht : RFn ((env j).run ds S1) m q) (hv : ∀ a, isVN (q a) = true) : RE (evE env (.call j es) ρ S) m q := by
  cases m with
  | ok a S2 =>
    obtain ⟨outs, e⟩ := ht
    exact e_call ha hm hp e (hv a) rfl
  | exc c d S2 => exact e_callX ha hm hp ht
  | stuck => trivial
theorem oke_call {m : Out α} {q : α → Rv} {rs : List Rv} {ds : List Wz.D} (ha : evEs env es ρ S = .ok rs S1) (hm : (noO (env j).ms || okO (env j).ms rs) = true) (hp : passA S1 (env j).ms rs = some ds) (ht : RFn ((env j).run ds S1) m q) (hv : ∀ a, isVN (q a) = true) {v : α} (h : m = .ok v S2) : evE env (.call j es) ρ S = .ok (q v) S2 := by
  subst h
  exact re_call (m := .ok v S2) ha hm hp ht hv
def methG (cn m : Str) (S : List Cell) (n : Nat) : Prop := ∃ fs, S[n]? = some (.ins cn fs) ∧ (fs.lookup m).isNone = true
theorem re_meth {m : Out α} {q : α → Rv} {rs : List Rv} {ds : List Wz.D} {o : E} {cn f : Str} (ho : evE env o ρ S = .ok (.val (.ref n)) S1) (he : evEs env es ρ S1 = .ok rs S2) (hm : (noO (env j).ms || okO (env j).ms (.val (.ref n) :: rs)) = true) (hp : passA S2 (env j).ms (.val (.ref n) :: rs) = some ds) (hg : m ≠ .stuck → methG cn f S1 n) (ht : RFn ((env j).run ds S2) m q) (hv : ∀ a, isVN (q a) = true) : RE (evE env (.meth j cn f o es) ρ S) m q := by
  cases m with
  | ok a S3 =>
    obtain ⟨fs, h1, h2⟩ := hg (fun z => by cases z)
    obtain ⟨outs, e⟩ := ht
    exact e_meth ho h1 h2 he hm hp e (hv a) rfl
  | exc c d S3 =>
    obtain ⟨fs, h1, h2⟩ := hg (fun z => by cases z)
    exact e_methX ho h1 h2 he hm hp ht
  | stuck => trivial
theorem oke_meth {m : Out α} {q : α → Rv} {rs : List Rv} {ds : List Wz.D} {o : E} {cn f : Str} (ho : evE env o ρ S = .ok (.val (.ref n)) S1) (he : evEs env es ρ S1 = .ok rs S2) (hm : (noO (env j).ms || okO (env j).ms (.val (.ref n) :: rs)) = true) (hp : passA S2 (env j).ms (.val (.ref n) :: rs) = some ds) (hg : m ≠ .stuck → methG cn f S1 n) (ht : RFn ((env j).run ds S2) m q) (hv : ∀ a, isVN (q a) = true) {v : α} (h : m = .ok v S3) : evE env (.meth j cn f o es) ρ S = .ok (q v) S3 := by
  subst h
  exact re_meth (m := .ok v S3) ho he hm hp hg ht hv
theorem oke_make {m : Out Unit} {q : Unit → Rv} {rs : List Rv} {ds : List Wz.D} {cn : Str} (ha : evEs env es ρ S = .ok rs S1) (ho : (noO (env j).ms || okO (env j).ms (.val (.ref S1.length) :: rs)) = true) (hp : passA (S1 ++ [.ins cn []]) (env j).ms (.val (.ref S1.length) :: rs) = some ds) (ht : RFn ((env j).run ds (S1 ++ [.ins cn []])) m q) (hq : q () = .val .non) {v : Unit} (h : m = .ok v S3) : evE env (.make j cn es) ρ S = .ok (.val (.ref S1.length)) S3 := by
  subst h
  obtain ⟨outs, e⟩ := ht
  rw [show v = () from rfl, hq] at e
  exact e_make ha rfl rfl ho hp e rfl
theorem g_setE {m : Out α} {q : α → Rv} {mm : Bool} {s : α → Slot} {R : α → List Slot} {rest : α → List Cell → Out τ} (h : RE (evE env e ρ S) m q) (hs : ∀ a, slotOf mm (q a) = some (s a)) (hi : i < ρ.length) (hn : ∀ a, ρ.set i (s a) = R a) (kk : ∀ v S1, m = .ok v S1 → Go env np n0 l (R v) S1 k (fun x => RX x (rest v S1) J)) : Go env np n0 (.cons (.set i mm e) l) ρ S k (fun x => RX x (m.bind rest) J) := by
  cases m with
  | ok v S1 => exact go_setA h (hs v) hi (hn v) (kk v S1 rfl)
  | exc c d S1 => exact go_setX h ⟨_, rfl⟩
  | stuck => exact True.intro
theorem g_expE {m : Out α} {q : α → Rv} {rest : α → List Cell → Out τ} (h : RE (evE env e ρ S) m q) (kk : ∀ v S1, m = .ok v S1 → Go env np n0 l ρ S1 k (fun x => RX x (rest v S1) J)) : Go env np n0 (.cons (.exp e) l) ρ S k (fun x => RX x (m.bind rest) J) := by
  cases m with
  | ok v S1 => exact go_exp h (kk v S1 rfl)
  | exc c d S1 => exact go_expX h ⟨_, rfl⟩
  | stuck => exact True.intro
theorem g_retE {m : Out α} {q : α → Rv} {f : α → τ} (h : RE (evE env e ρ S) m q) (hj : ∀ v S1, J (f v) S1 (.rt (q v) ρ S1)) : Go env np n0 (.cons (.ret e) l) ρ S k (fun x => RX x (m.bind fun v S1 => .ok (f v) S1) J) := by
  cases m with
  | ok v S1 => exact go_ret h (hj v S1)
  | exc c d S1 => exact go_retX h ⟨_, rfl⟩
  | stuck => exact True.intro
/-! loops -/
theorem for_O {g : Tg} {clr : List Nat} {B : σ → β → List Cell → Out σ} (enc : β → Wz.D) (R : σ → List Slot) (turn : ∀ s x S, ∃ ρ1, bindT g (enc x) (R s) = some ρ1 ∧ Go env np n0 b ρ1 S [] (fun y => RX y (B s x S) (JE clr R))) :
    ∀ (xs : List β) (s : σ) (S : List Cell), RX (forL none (bindT g) (evSs env np b) clr n0 (xs.map enc) (R s) S) (foldO B xs s S) (JN R)
  | [], s, S => for_nil _ _ _ True.intro
  | x :: r, s, S => by
    obtain ⟨ρ1, h1, h2⟩ := turn s x S
    have h3 := of_go h2
    rw [List.map_cons, for_cons (gd := none) _ _ _ (show gdOk S none from True.intro), h1]
    dsimp only
    show RX _ ((B s x S).bind fun s' S' => foldO B r s' S') (JN R)
    revert h3
    cases B s x S with
    | ok s' S' =>
      rintro ⟨ρ2, e1, e2⟩
      rw [e1, bnd_nx, e2]
      exact for_O enc R turn r s' S'
    | exc c d S' =>
      rintro ⟨ρ', e1⟩
      rw [e1]
      exact ⟨_, rfl⟩
    | stuck => intro _; exact True.intro
theorem for_R {g : Tg} {clr : List Nat} {B : σ → β → List Cell → Out (σ ⊕ γ)} {qr : γ → Rv} (enc : β → Wz.D) (R : σ → List Slot) (turn : ∀ s x S, ∃ ρ1, bindT g (enc x) (R s) = some ρ1 ∧ Go env np n0 b ρ1 S [] (fun y => RX y (B s x S) (JR clr R qr))) :
    ∀ (xs : List β) (s : σ) (S : List Cell), RX (forL none (bindT g) (evSs env np b) clr n0 (xs.map enc) (R s) S) (foldR B xs s S) (JS R qr)
  | [], s, S => for_nil _ _ _ True.intro
  | x :: r, s, S => by
    obtain ⟨ρ1, h1, h2⟩ := turn s x S
    have h3 := of_go h2
    rw [List.map_cons, for_cons (gd := none) _ _ _ (show gdOk S none from True.intro), h1]
    dsimp only
    show RX _ ((B s x S).bindR Sum.inr fun s' S' => foldR B r s' S') (JS R qr)
    revert h3
    cases B s x S with
    | ok z S' =>
      cases z with
      | inl s' =>
        rintro ⟨ρ2, e1, e2⟩
        rw [e1, bnd_nx, e2]
        exact for_R enc R turn r s' S'
      | inr q =>
        rintro ⟨ρ2, e1⟩
        rw [e1]
        exact ⟨_, rfl⟩
    | exc c d S' =>
      rintro ⟨ρ', e1⟩
      rw [e1]
      exact ⟨_, rfl⟩
    | stuck => intro _; exact True.intro
theorem g_for {it : It} {g : Tg} {clr : List Nat} {its : Its} {B : σ → β → List Cell → Out σ} {rest : σ → List Cell → Out τ} (enc : β → Wz.D) (R : σ → List Slot) (xs : List β) (s0 : σ) (hi : evI env it ρ S = .ok its S1) (hx : its = ⟨xs.map enc, none⟩) (hρ : ρ = R s0)
    (turn : ∀ s x S, ∃ ρ1, bindT g (enc x) (R s) = some ρ1 ∧ Go env np n0 b ρ1 S [] (fun y => RX y (B s x S) (JE clr R)))
    (q : ∀ s S2, Go env np n0 l (R s) S2 k (fun x => RX x (rest s S2) J)) : Go env np n0 (.cons (.each it g b clr) l) ρ S k (fun x => RX x ((foldO B xs s0 S1).bind rest) J) := by
  subst hx hρ
  have h := for_O enc R turn xs s0 S1
  revert h
  generalize foldO B xs s0 S1 = C
  intro h
  cases C with
  | ok s S2 => exact go_each hi h (q s S2)
  | exc c d S2 =>
    obtain ⟨ρ', e1⟩ := h
    exact go_eachX hi e1 ⟨_, rfl⟩
  | stuck => exact True.intro
theorem g_forR {it : It} {g : Tg} {clr : List Nat} {its : Its} {B : σ → β → List Cell → Out (σ ⊕ γ)} {rest : σ → List Cell → Out τ} {qr : γ → Rv} {inj : γ → τ} (enc : β → Wz.D) (R : σ → List Slot) (xs : List β) (s0 : σ) (hj : ∀ r S x ρ2, x = SOut.rt (qr r) ρ2 S → J (inj r) S x) (hi : evI env it ρ S = .ok its S1) (hx : its = ⟨xs.map enc, none⟩) (hρ : ρ = R s0)
    (turn : ∀ s x S, ∃ ρ1, bindT g (enc x) (R s) = some ρ1 ∧ Go env np n0 b ρ1 S [] (fun y => RX y (B s x S) (JR clr R qr)))
    (q : ∀ s S2, Go env np n0 l (R s) S2 k (fun x => RX x (rest s S2) J)) : Go env np n0 (.cons (.each it g b clr) l) ρ S k (fun x => RX x ((foldR B xs s0 S1).bindR inj rest) J) := by
  subst hx hρ
  have h := for_R enc R turn xs s0 S1
  revert h
  generalize foldR B xs s0 S1 = C
  intro h
  cases C with
  | ok z S2 =>
    cases z with
    | inl s => exact go_each hi h (q s S2)
    | inr r =>
      obtain ⟨ρ2, e1⟩ := h
      exact go_eachX hi e1 (hj r S2 _ ρ2 rfl)
  | exc c d S2 =>
    obtain ⟨ρ', e1⟩ := h
    exact go_eachX hi e1 ⟨_, rfl⟩
  | stuck => exact True.intro
theorem gC_pos {p : Prop} {kk : Out α} (h : p) : gC p kk = kk := @if_pos _ (Classical.propDecidable p) h _ _ _
theorem rx_gC {p : Prop} {x : SOut} {kk : Out τ} (h : p → RX x kk J) : RX x (gC p kk) J := by
  by_cases q : p
  · rw [gC_pos q]; exact h q
  · rw [show gC p kk = .stuck from @if_neg _ (Classical.propDecidable p) q _ _ _]; exact True.intro
theorem for_B {g : Tg} {clr : List Nat} {gd : Option (Nat × Wz.D)} {B : σ → β → List Cell → Out σ} (enc : β → Wz.D) (R : σ → List Slot) (turn : ∀ s x S, ∃ ρ1, bindT g (enc x) (R s) = some ρ1 ∧ Go env np n0 b ρ1 S [] (fun y => RX y (B s x S) (JE clr R))) :
    ∀ (xs : List β) (s : σ) (S : List Cell), RX (forL gd (bindT g) (evSs env np b) clr n0 (xs.map enc) (R s) S) (foldB (fun S => gdOk S gd) B xs s S) (JN R)
  | [], s, S => rx_gC fun h => for_nil _ _ _ h
  | x :: r, s, S => rx_gC fun h => by
    obtain ⟨ρ1, h1, h2⟩ := turn s x S
    have h3 := of_go h2
    rw [List.map_cons, for_cons _ _ _ h, h1]
    dsimp only
    revert h3
    cases B s x S with
    | ok s' S' =>
      rintro ⟨ρ2, e1, e2⟩
      rw [e1, bnd_nx, e2]
      exact for_B enc R turn r s' S'
    | exc c d S' =>
      rintro ⟨ρ', e1⟩
      rw [e1]
      exact ⟨_, rfl⟩
    | stuck => intro _; exact True.intro
theorem for_BR {g : Tg} {clr : List Nat} {gd : Option (Nat × Wz.D)} {B : σ → β → List Cell → Out (σ ⊕ γ)} {qr : γ → Rv} (enc : β → Wz.D) (R : σ → List Slot) (turn : ∀ s x S, ∃ ρ1, bindT g (enc x) (R s) = some ρ1 ∧ Go env np n0 b ρ1 S [] (fun y => RX y (B s x S) (JR clr R qr))) :
    ∀ (xs : List β) (s : σ) (S : List Cell), RX (forL gd (bindT g) (evSs env np b) clr n0 (xs.map enc) (R s) S) (foldBR (fun S => gdOk S gd) B xs s S) (JS R qr)
  | [], s, S => rx_gC fun h => for_nil _ _ _ h
  | x :: r, s, S => rx_gC fun h => by
    obtain ⟨ρ1, h1, h2⟩ := turn s x S
    have h3 := of_go h2
    rw [List.map_cons, for_cons _ _ _ h, h1]
    dsimp only
    revert h3
    cases B s x S with
    | ok z S' =>
      cases z with
      | inl s' =>
        rintro ⟨ρ2, e1, e2⟩
        rw [e1, bnd_nx, e2]
        exact for_BR enc R turn r s' S'
      | inr q =>
        rintro ⟨ρ2, e1⟩
        rw [e1]
        exact ⟨_, rfl⟩
    | exc c d S' =>
      rintro ⟨ρ', e1⟩
      rw [e1]
      exact ⟨_, rfl⟩
    | stuck => intro _; exact True.intro
theorem g_forB {it : It} {g : Tg} {clr : List Nat} {its : Its} {gd : Option (Nat × Wz.D)} {B : σ → β → List Cell → Out σ} {rest : σ → List Cell → Out τ} (enc : β → Wz.D) (R : σ → List Slot) (xs : List β) (s0 : σ) (hi : evI env it ρ S = .ok its S1) (hx : its = ⟨xs.map enc, gd⟩) (hρ : ρ = R s0)
    (turn : ∀ s x S, ∃ ρ1, bindT g (enc x) (R s) = some ρ1 ∧ Go env np n0 b ρ1 S [] (fun y => RX y (B s x S) (JE clr R)))
    (q : ∀ s S2, Go env np n0 l (R s) S2 k (fun x => RX x (rest s S2) J)) : Go env np n0 (.cons (.each it g b clr) l) ρ S k (fun x => RX x ((foldB (fun S => gdOk S gd) B xs s0 S1).bind rest) J) := by
  subst hx hρ
  have h := for_B (gd := gd) enc R turn xs s0 S1
  revert h
  generalize foldB (fun S => gdOk S gd) B xs s0 S1 = C
  intro h
  cases C with
  | ok s S2 => exact go_each hi h (q s S2)
  | exc c d S2 =>
    obtain ⟨ρ', e1⟩ := h
    exact go_eachX hi e1 ⟨_, rfl⟩
  | stuck => exact True.intro
theorem g_forBR {it : It} {g : Tg} {clr : List Nat} {its : Its} {gd : Option (Nat × Wz.D)} {B : σ → β → List Cell → Out (σ ⊕ γ)} {rest : σ → List Cell → Out τ} {qr : γ → Rv} {inj : γ → τ} (enc : β → Wz.D) (R : σ → List Slot) (xs : List β) (s0 : σ) (hj : ∀ r S x ρ2, x = SOut.rt (qr r) ρ2 S → J (inj r) S x) (hi : evI env it ρ S = .ok its S1) (hx : its = ⟨xs.map enc, gd⟩) (hρ : ρ = R s0)
    (turn : ∀ s x S, ∃ ρ1, bindT g (enc x) (R s) = some ρ1 ∧ Go env np n0 b ρ1 S [] (fun y => RX y (B s x S) (JR clr R qr)))
    (q : ∀ s S2, Go env np n0 l (R s) S2 k (fun x => RX x (rest s S2) J)) : Go env np n0 (.cons (.each it g b clr) l) ρ S k (fun x => RX x ((foldBR (fun S => gdOk S gd) B xs s0 S1).bindR inj rest) J) := by
  subst hx hρ
  have h := for_BR (gd := gd) enc R turn xs s0 S1
  revert h
  generalize foldBR (fun S => gdOk S gd) B xs s0 S1 = C
  intro h
  cases C with
  | ok z S2 =>
    cases z with
    | inl s => exact go_each hi h (q s S2)
    | inr r =>
      obtain ⟨ρ2, e1⟩ := h
      exact go_eachX hi e1 (hj r S2 _ ρ2 rfl)
  | exc c d S2 =>
    obtain ⟨ρ', e1⟩ := h
    exact go_eachX hi e1 ⟨_, rfl⟩
  | stuck => exact True.intro
theorem whl_O {clr : List Nat} {C : σ → List Cell → Out Bool} {B : σ → List Cell → Out σ} (R : σ → List Slot) (hc : ∀ s S, OKE (evT env t (R s) S) (C s S) id) (turn : ∀ s S, Go env np n0 b (R s) S [] (fun y => RX y (B s S) (JE clr R))) :
    ∀ (m : Nat) (s : σ) (S : List Cell), RX (whileN (evT env t) (evSs env np b) clr n0 m (R s) S) (whlO C B m s S) (JN R)
  | 0, s, S => True.intro
  | m + 1, s, S => by
    have h := hc s S
    show RX (whileN _ _ _ _ (m + 1) _ _) ((C s S).bindX fun b S1 => if b = true then (B s S1).bind fun s' S' => whlO C B m s' S' else .ok s S1) (JN R)
    revert h
    cases C s S with
    | exc c d S1 => intro _; exact True.intro
    | stuck => intro _; exact True.intro
    | ok p S1 =>
      intro h
      have h1 : evT env t (R s) S = .ok p S1 := h p S1 rfl
      unfold whileN
      rw [h1, sE_ok]
      show RX _ (if p = true then _ else _) _
      cases p with
      | false => exact rfl
      | true =>
        rw [if_pos rfl, if_pos rfl]
        have h3 := of_go (turn s S1)
        revert h3
        cases B s S1 with
        | ok s' S' =>
          rintro ⟨ρ2, e1, e2⟩
          rw [e1]
          dsimp only
          rw [e2]
          exact whl_O R hc turn m s' S'
        | exc c d S' =>
          rintro ⟨ρ', e1⟩
          rw [e1]
          exact ⟨_, rfl⟩
        | stuck => intro _; exact True.intro
theorem whl_R {clr : List Nat} {C : σ → List Cell → Out Bool} {B : σ → List Cell → Out (σ ⊕ γ)} {qr : γ → Rv} (R : σ → List Slot) (hc : ∀ s S, OKE (evT env t (R s) S) (C s S) id) (turn : ∀ s S, Go env np n0 b (R s) S [] (fun y => RX y (B s S) (JR clr R qr))) :
    ∀ (m : Nat) (s : σ) (S : List Cell), RX (whileN (evT env t) (evSs env np b) clr n0 m (R s) S) (whlR C B m s S) (JS R qr)
  | 0, s, S => True.intro
  | m + 1, s, S => by
    have h := hc s S
    show RX (whileN _ _ _ _ (m + 1) _ _) ((C s S).bindX fun b S1 => if b = true then (B s S1).bindR Sum.inr fun s' S' => whlR C B m s' S' else .ok (.inl s) S1) (JS R qr)
    revert h
    cases C s S with
    | exc c d S1 => intro _; exact True.intro
    | stuck => intro _; exact True.intro
    | ok p S1 =>
      intro h
      have h1 : evT env t (R s) S = .ok p S1 := h p S1 rfl
      unfold whileN
      rw [h1, sE_ok]
      show RX _ (if p = true then _ else _) _
      cases p with
      | false => exact rfl
      | true =>
        rw [if_pos rfl, if_pos rfl]
        have h3 := of_go (turn s S1)
        revert h3
        cases B s S1 with
        | ok z S' =>
          cases z with
          | inl s' =>
            rintro ⟨ρ2, e1, e2⟩
            rw [e1]
            dsimp only
            rw [e2]
            exact whl_R R hc turn m s' S'
          | inr q =>
            rintro ⟨ρ2, e1⟩
            rw [e1]
            exact ⟨_, rfl⟩
        | exc c d S' =>
          rintro ⟨ρ', e1⟩
          rw [e1]
          exact ⟨_, rfl⟩
        | stuck => intro _; exact True.intro
theorem go_whl {m : Nat} {clr : List Nat} {o : SOut} {Q : SOut → Prop} (hf : whileN (evT env t) (evSs env np b) clr n0 m ρ S = o) (q : Q (o.bnd (cont env np n0 (l :: k)))) : Go env np n0 (.cons (.whl m t b clr) l) ρ S k Q := by
  unfold Go
  rw [cons_eq]
  show Q ((whileN (evT env t) (evSs env np b) clr n0 m ρ S).bnd _)
  rw [hf]
  exact q
theorem g_whl {m : Nat} {clr : List Nat} {C : σ → List Cell → Out Bool} {B : σ → List Cell → Out σ} {rest : σ → List Cell → Out τ} (R : σ → List Slot) (s0 : σ) (hρ : ρ = R s0) (hc : ∀ s S, OKE (evT env t (R s) S) (C s S) id) (turn : ∀ s S, Go env np n0 b (R s) S [] (fun y => RX y (B s S) (JE clr R)))
    (q : ∀ s S2, Go env np n0 l (R s) S2 k (fun x => RX x (rest s S2) J)) : Go env np n0 (.cons (.whl m t b clr) l) ρ S k (fun x => RX x ((whlO C B m s0 S).bind rest) J) := by
  subst hρ
  have h := whl_O R hc turn m s0 S
  revert h
  generalize whlO C B m s0 S = C
  intro h
  cases C with
  | ok s S2 => exact go_whl h (q s S2)
  | exc c d S2 =>
    obtain ⟨ρ', e1⟩ := h
    exact go_whl e1 ⟨_, rfl⟩
  | stuck => exact True.intro
theorem g_whlR {m : Nat} {clr : List Nat} {C : σ → List Cell → Out Bool} {B : σ → List Cell → Out (σ ⊕ γ)} {rest : σ → List Cell → Out τ} {qr : γ → Rv} {inj : γ → τ} (R : σ → List Slot) (s0 : σ) (hj : ∀ r S x ρ2, x = SOut.rt (qr r) ρ2 S → J (inj r) S x) (hρ : ρ = R s0) (hc : ∀ s S, OKE (evT env t (R s) S) (C s S) id) (turn : ∀ s S, Go env np n0 b (R s) S [] (fun y => RX y (B s S) (JR clr R qr)))
    (q : ∀ s S2, Go env np n0 l (R s) S2 k (fun x => RX x (rest s S2) J)) : Go env np n0 (.cons (.whl m t b clr) l) ρ S k (fun x => RX x ((whlR C B m s0 S).bindR inj rest) J) := by
  subst hρ
  have h := whl_R R hc turn m s0 S
  revert h
  generalize whlR C B m s0 S = C
  intro h
  cases C with
  | ok z S2 =>
    cases z with
    | inl s => exact go_whl h (q s S2)
    | inr r =>
      obtain ⟨ρ2, e1⟩ := h
      exact go_whl e1 (hj r S2 _ ρ2 rfl)
  | exc c d S2 =>
    obtain ⟨ρ', e1⟩ := h
    exact go_whl e1 ⟨_, rfl⟩
  | stuck => exact True.intro
/-! expressions with a flow of their own -/
theorem oke_ok {x : Out β} {q : α → β} {v : α} (h : x = .ok (q v) S) : OKE x (.ok v S) q := fun a S' e => by cases e; exact h
theorem oke_gO {δ : Type} {x : Out β} {q : α → β} {o : Option δ} {kk : δ → Out α} (h : ∀ v, o = some v → OKE x (kk v) q) : OKE x (gO o kk) q := by
  cases o with
  | none => intro a S e; cases e
  | some v => exact h v rfl
theorem oke_gP {x : Out β} {q : α → β} {p : Prop} [dp : Decidable p] {kk : Out α} (h : p → OKE x kk q) : OKE x (gP p kk) q := by
  unfold gP
  by_cases z : p
  · rw [if_pos z]; exact h z
  · rw [if_neg z]; intro a S e; cases e
theorem oke_bindX {δ : Type} {x : Out β} {q : α → β} {m : Out δ} {kk : δ → List Cell → Out α} (h : ∀ v S1, m = .ok v S1 → OKE x (kk v S1) q) : OKE x (m.bindX kk) q := by
  cases m with
  | ok v S1 => exact h v S1 rfl
  | exc c d S1 => intro a S e; cases e
  | stuck => intro a S e; cases e
theorem oke_and {p : Bool} {B : Out Bool} (h : evT env t ρ S = .ok p S1) (hb : p = true → OKE (evT env u ρ S1) B id) : OKE (evT env (.and t u) ρ S) (if p = true then B else .ok false S1) id := by
  intro a S' e
  show xAnd _ _ _ _ = _
  unfold xAnd
  rw [h, Out.bind_ok]
  cases p with
  | true => rw [if_pos rfl] at e ⊢; exact hb rfl a S' e
  | false => cases e; rfl
theorem oke_or {p : Bool} {B : Out Bool} (h : evT env t ρ S = .ok p S1) (hb : p = false → OKE (evT env u ρ S1) B id) : OKE (evT env (.or t u) ρ S) (if p = true then .ok true S1 else B) id := by
  intro a S' e
  show xOr _ _ _ _ = _
  unfold xOr
  rw [h, Out.bind_ok]
  cases p with
  | false => rw [if_neg (by decide)] at e ⊢; exact hb rfl a S' e
  | true => cases e; rfl
theorem oke_andV {f : E} {r : Rv} {p : Bool} {B : Out Bool} (h : evE env e ρ S = .ok r S1) (hr : r.read S1 = some (.bl p)) (hb : p = true → OKE (evE env f ρ S1) B (fun b => .val (.bl b))) : OKE (evE env (.andV e f) ρ S) (if p = true then B else .ok false S1) (fun b => .val (.bl b)) := by
  intro a S' z
  show xAndV _ _ _ _ = _
  unfold xAndV
  rw [h, Out.bind_ok, hr]
  cases p with
  | true => rw [if_pos rfl] at z; exact hb rfl a S' z
  | false => cases z; rfl
theorem oke_orV {f : E} {r : Rv} {p : Bool} {B : Out Bool} (h : evE env e ρ S = .ok r S1) (hr : r.read S1 = some (.bl p)) (hb : p = false → OKE (evE env f ρ S1) B (fun b => .val (.bl b))) : OKE (evE env (.orV e f) ρ S) (if p = true then .ok true S1 else B) (fun b => .val (.bl b)) := by
  intro a S' z
  show xOrV _ _ _ _ = _
  unfold xOrV
  rw [h, Out.bind_ok, hr]
  cases p with
  | false => exact hb rfl a S' z
  | true => cases z; rfl
theorem oke_ife {f : E} {p : Bool} {A B : Out α} {q : α → Rv} (h : evT env t ρ S = .ok p S1) (ha : p = true → OKE (evE env e ρ S1) A q) (hb : p = false → OKE (evE env f ρ S1) B q) : OKE (evE env (.ife t e f) ρ S) (if p = true then A else B) q := by
  intro a S' z
  show xIfe _ _ _ _ _ = _
  unfold xIfe
  rw [h, Out.bind_ok]
  cases p with
  | true => exact ha rfl a S' z
  | false => exact hb rfl a S' z
theorem e_ifeV {f : E} {p : Bool} {x y : Wz.D} (h : evT env t ρ S = .ok p S1) (ha : evE env e ρ S1 = .ok (.val x) S1) (hb : evE env f ρ S1 = .ok (.val y) S1) : evE env (.ife t e f) ρ S = .ok (.val (if p = true then x else y)) S1 := by
  show xIfe _ _ _ _ _ = _
  unfold xIfe
  rw [h, Out.bind_ok]
  cases p with
  | true => exact ha
  | false => exact hb
theorem lc_O {bd : Wz.D → List Slot → Option (List Slot)} {c : EV Bool} {ee : EV Rv} {C : β → List Cell → Out Bool} {Ee : β → List Cell → Out γ} (enc : β → Wz.D) (enc2 : γ → Wz.D)
    (turn : ∀ x S, ∃ ρ1, bd (enc x) ρ = some ρ1 ∧ OKE (c ρ1 S) (C x S) id ∧ (∀ S, ∃ q : γ → Rv, OKE (ee ρ1 S) (Ee x S) q ∧ ∀ y, (q y).fz = some (enc2 y))) :
    ∀ (xs : List β) (acc : List Wz.D) (S : List Cell) (ys : List γ) (S2 : List Cell), acc.length + xs.length ≤ lim → lcO C Ee xs S = .ok ys S2 → lcL none bd c ee ρ (xs.map enc) acc S = .ok (.new (.lst (acc ++ ys.map enc2))) S2
  | [], acc, S, ys, S2, _, h => by
    cases h
    rw [show lcL none bd c ee ρ (List.map enc []) acc S = onlyIf (gdOk S none) (.ok (.new (.lst acc)) S) .stuck from rfl, only_pos (show gdOk S none from True.intro), List.map_nil, List.append_nil]
  | x :: r, acc, S, ys, S2, hl, h => by
    obtain ⟨ρ1, h1, h2, h3⟩ := turn x S
    rw [List.length_cons] at hl
    rw [List.map_cons]
    unfold lcL
    rw [only_pos (show gdOk S none from True.intro), h1]
    dsimp only
    have h' : ((C x S).bindX fun b S1 => if b = true then (Ee x S1).bindX fun y S2 => (lcO C Ee r S2).bindX fun ys S3 => .ok (y :: ys) S3 else lcO C Ee r S1) = .ok ys S2 := h
    cases ec : C x S with
    | exc c d S1 => rw [ec] at h'; cases h'
    | stuck => rw [ec] at h'; cases h'
    | ok p S1 =>
      rw [ec] at h'
      rw [h2 p S1 ec]
      have h'' : (if p = true then (Ee x S1).bindX fun y S2 => (lcO C Ee r S2).bindX fun ys S3 => .ok (y :: ys) S3 else lcO C Ee r S1) = .ok ys S2 := h'
      cases p with
      | false => exact lc_O enc enc2 turn r acc S1 ys S2 (by omega) h''
      | true =>
        rw [if_pos rfl] at h''
        obtain ⟨q, h4, h5⟩ := h3 S1
        cases ee' : Ee x S1 with
        | exc c d S1 => rw [ee'] at h''; cases h''
        | stuck => rw [ee'] at h''; cases h''
        | ok y S3 =>
          rw [ee'] at h''
          have h3' : ((lcO C Ee r S3).bindX fun ys S3 => .ok (y :: ys) S3) = .ok ys S2 := h''
          cases er : lcO C Ee r S3 with
          | exc c d S1 => rw [er] at h3'; cases h3'
          | stuck => rw [er] at h3'; cases h3'
          | ok zs S4 =>
            rw [er] at h3'
            cases h3'
            show (match ee ρ1 S1 with | .ok rv S2 => _ | _ => _) = _
            rw [h4 y S3 ee']
            dsimp only
            rw [h5 y]
            dsimp only
            rw [if_pos (by omega), lc_O enc enc2 turn r _ S3 zs S2 (by rw [List.length_append, List.length_singleton]; omega) er, List.map_cons, List.append_assoc]
            rfl
theorem oke_lc {it : It} {vs : List Nat} {g : Tg} {c : Ts} {its : Its} {C : β → List Cell → Out Bool} {Ee : β → List Cell → Out γ} {xs : List β} (enc : β → Wz.D) (enc2 : γ → Wz.D) (hi : evI env it ρ S = .ok its S1) (hx : its = ⟨xs.map enc, none⟩) (hv : (vs.all (notOwn ρ) && g.ixs.all fun i => vs.contains i) = true) (hl : xs.length ≤ lim)
    (turn : ∀ x S, ∃ ρ1, bindT g (enc x) (clrs vs ρ) = some ρ1 ∧ OKE (evTs env c ρ1 S) (C x S) id ∧ (∀ S, ∃ q : γ → Rv, OKE (evE env e ρ1 S) (Ee x S) q ∧ ∀ y, (q y).fz = some (enc2 y))) {ys : List γ} (h : lcO C Ee xs S1 = .ok ys S2) : evE env (.lc it vs g c e) ρ S = .ok (.new (encL enc2 ys)) S2 := by
  subst hx
  refine e_lc hi hv ?_
  rw [lc_O enc enc2 turn xs [] S1 ys S2 (by simpa using hl) h, List.nil_append]
  rfl
end
/-! ### sums, and more of what is read -/
def encS {α β : Type} (a : α → Wz.D) (b : β → Wz.D) : α ⊕ β → Wz.D
  | .inl x => a x
  | .inr y => b y
class Dj {α β : Type} (a : α → Wz.D) (b : β → Wz.D) : Prop where
  dj : ∀ x y, eqv (a x) (b y) = false ∧ eqv (b y) (a x) = false
instance {α β : Type} {a : α → Wz.D} {b : β → Wz.D} [ha : Pl a] [hb : Pl b] : Pl (encS a b) := ⟨fun x S => by
  cases x with
  | inl x => exact ha.look x S
  | inr x => exact hb.look x S, fun x S => by
  cases x with
  | inl x => exact ha.box x S
  | inr x => exact hb.box x S, fun x S => by
  cases x with
  | inl x => exact ha.bx2 x S
  | inr x => exact hb.bx2 x S⟩
instance {α β : Type} {a : α → Wz.D} {b : β → Wz.D} [ha : Nn a] [hb : Nn b] : Nn (encS a b) := ⟨fun x => by
  cases x with
  | inl x => exact ha.nn x
  | inr x => exact hb.nn x⟩
theorem eqs_sum {α β : Type} [DecidableEq α] [DecidableEq β] {n m : Nat} {a : α → Wz.D} {b : β → Wz.D} (ha : Eqs n a) (hb : Eqs m b) [hd : Dj a b] : Eqs (n + m) (encS a b) := ⟨fun x k hk => by
  cases x with
  | inl x => exact ha.sh x k (by omega)
  | inr x => exact hb.sh x k (by omega), fun x y => by
  cases x with
  | inl x =>
    cases y with
    | inl y => refine (ha.eq x y).trans ?_; by_cases h : x = y <;> simp [h]
    | inr y => exact (hd.dj x y).1
  | inr x =>
    cases y with
    | inl y => exact (hd.dj y x).2
    | inr y => refine (hb.eq x y).trans ?_; by_cases h : x = y <;> simp [h]⟩
theorem eqs_str : Eqs 1 Wz.D.str := ⟨fun x m h => by cases m with | zero => omega | succ m => rfl, fun x y => by
  by_cases h : x = y
  · subst h; simp [eqv, py, PyData.eqv]
  · simp [eqv, py, PyData.eqv, h]⟩
theorem eqs_unit : Eqs 1 encU := ⟨fun x m h => by cases m with | zero => omega | succ m => rfl, fun x y => rfl⟩
class Ne {α : Type} (e : α → Wz.D) : Prop where
  ne : ∀ x, eqv (e x) .non = false ∧ eqv .non (e x) = false
instance : Ne Wz.D.int := ⟨fun _ => ⟨rfl, rfl⟩⟩
instance : Ne Wz.D.bl := ⟨fun _ => ⟨rfl, rfl⟩⟩
instance : Ne Wz.D.str := ⟨fun _ => ⟨rfl, rfl⟩⟩
instance {α : Type} {e : α → Wz.D} : Ne (encL e) := ⟨fun _ => ⟨rfl, rfl⟩⟩
instance {α : Type} {e : α → Wz.D} : Ne (encW e) := ⟨fun _ => ⟨rfl, rfl⟩⟩
instance {α β : Type} {a : α → Wz.D} {b : β → Wz.D} : Ne (encP a b) := ⟨fun _ => ⟨rfl, rfl⟩⟩
instance {α β γ : Type} {a : α → Wz.D} {b : β → Wz.D} {c : γ → Wz.D} : Ne (enc3 a b c) := ⟨fun _ => ⟨rfl, rfl⟩⟩
instance {α β : Type} {a : α → Wz.D} {b : β → Wz.D} [ha : Ne a] [hb : Ne b] : Ne (encS a b) := ⟨fun x => by
  cases x with
  | inl x => exact ha.ne x
  | inr x => exact hb.ne x⟩
instance {α β : Type} {a : α → Wz.D} {b : β → Wz.D} : Dj Wz.D.int (encP a b) := ⟨fun _ _ => ⟨rfl, rfl⟩⟩
instance {α β : Type} {a : α → Wz.D} {b : β → Wz.D} : Dj Wz.D.bl (encP a b) := ⟨fun _ _ => ⟨rfl, rfl⟩⟩
instance {α β : Type} {a : α → Wz.D} {b : β → Wz.D} : Dj Wz.D.str (encP a b) := ⟨fun _ _ => ⟨rfl, rfl⟩⟩
instance {α β γ : Type} {a : α → Wz.D} {b : β → Wz.D} {c : γ → Wz.D} : Dj (encL c) (encP a b) := ⟨fun _ _ => ⟨rfl, rfl⟩⟩
instance {γ : Type} {c : γ → Wz.D} : Dj (encL c) Wz.D.str := ⟨fun _ _ => ⟨rfl, rfl⟩⟩
theorem eqs_opt {α : Type} [DecidableEq α] {n : Nat} {e : α → Wz.D} (h : Eqs n e) [hn : Ne e] : Eqs (n + 1) (encO e) := ⟨fun x m hm => by
  cases x with
  | none => cases m with | zero => omega | succ m => rfl
  | some x => exact h.sh x m (by omega), fun x y => by
  cases x with
  | none =>
    cases y with
    | none => rfl
    | some y => exact (hn.ne y).2
  | some x =>
    cases y with
    | none => exact (hn.ne x).1
    | some y => refine (h.eq x y).trans ?_; by_cases z : x = y <;> simp [z]⟩
theorem eqs_deed : Eqs 3 deedD := ⟨fun x m h => by
  match m, h with
  | m + 2, _ => cases x <;> rfl, fun x y => by
  have S1 : ∀ x y : Str, PyData.eqv (.str x) (.str y) = decide (x = y) := fun x y => eqs_str.eq x y
  have I1 : ∀ x y : Int, PyData.eqv (.int x) (.int y) = decide (x = y) := fun x y => eqs_int.eq x y
  have A : ∀ (s t : Str) (a b : Int), eqv (.tup [.str s, .int a]) (.tup [.str t, .int b]) = (decide (s = t) && decide (a = b)) := fun s t a b => by
    show (PyData.eqv (.str s) (.str t) && (PyData.eqv (.int a) (.int b) && true)) = _
    rw [S1, I1, Bool.and_true]
  have B : ∀ (s t : Str) (a b c d : Int), eqv (.tup [.str s, .int a, .int c]) (.tup [.str t, .int b, .int d]) = (decide (s = t) && (decide (a = b) && decide (c = d))) := fun s t a b c d => by
    show (PyData.eqv (.str s) (.str t) && (PyData.eqv (.int a) (.int b) && (PyData.eqv (.int c) (.int d) && true))) = _
    rw [S1, I1, I1, Bool.and_true]
  cases x <;> cases y <;> first | rfl | (unfold deedD; rw [A]; simp; done) | (unfold deedD; rw [B]; simp; done)⟩
theorem eqs_W {α : Type} [DecidableEq α] {n : Nat} {enc : α → Wz.D} (h : Eqs n enc) : Eqs (n + 1) (encW enc) := ⟨fun x m hm => by
  cases m with
  | zero => omega
  | succ m => exact shps_map (fun x => h.sh x m (by omega)) x, fun x y => eqvAll_map h.eq x y⟩
/-- slices and items -/
def cutL {α : Type} (l : List α) (lo hi : Option Int) : List α := (l.drop (HT.sIx l.length 0 lo)).take (HT.sIx l.length l.length hi - HT.sIx l.length 0 lo)
section
variable {α β : Type} {enc : α → Wz.D} {l : List α} {lo hi : Option Int}
theorem cut_map : cutD (l.map enc) lo hi = (cutL l lo hi).map enc := by
  unfold cutD cutL
  rw [List.length_map, List.map_take, List.map_drop]
theorem slc_L : slcD (encL enc l) lo hi = some (.new (encL enc (cutL l lo hi))) := by
  show some (Rv.new (.lst (cutD (l.map enc) lo hi))) = _
  rw [cut_map]
  rfl
theorem slc_S {ns : List Int} : slcD (.scr ns) lo hi = some (.new (encL .int (cutL ns lo hi))) := by
  show some (Rv.new (.lst (cutD (ns.map Wz.D.int) lo hi))) = _
  rw [cut_map]
  rfl
theorem ix_at {i : Int} {v : α} (h : L2.atI l i = some v) : idxD (encL enc l) (.int i) = some (.val (enc v)) := by
  show (L2.atI (l.map enc) i).map Rv.val = _
  unfold L2.atI at h ⊢
  rw [List.length_map]
  cases e : L2.ixN l.length i with
  | none => rw [e] at h; cases h
  | some j =>
    rw [e] at h
    have h' : l[j]? = some v := h
    show Option.map Rv.val ((l.map enc)[j]?) = _
    rw [List.getElem?_map, h']
    rfl
theorem ix_atS {ns : List Int} {i v : Int} (h : L2.atI ns i = some v) : idxD (.scr ns) (.int i) = some (.val (.int v)) := by
  have := ix_at (enc := Wz.D.int) h
  exact this
theorem is_none {x : α} {e : α → Wz.D} [n : Nn e] : Cp.ev .iss (e x) .non = some (.val (.bl false)) := congrArg (fun b => some (Rv.val (.bl b))) (n.nn x)
theorem is_noneO {x : Option α} {e : α → Wz.D} [n : Nn e] : Cp.ev .iss (encO e x) .non = some (.val (.bl x.isNone)) := by
  cases x with
  | none => rfl
  | some x => exact is_none (e := e)
theorem isn_noneO {x : Option α} {e : α → Wz.D} [n : Nn e] : Cp.ev .isn (encO e x) .non = some (.val (.bl x.isSome)) := by
  cases x with
  | none => rfl
  | some x => exact congrArg (fun b => some (Rv.val (.bl (!b)))) (n.nn x)
theorem is_noneU {x : Unit} : Cp.ev .iss (encU x) .non = some (.val (.bl true)) := rfl
theorem isn_noneU {x : Unit} : Cp.ev .isn (encU x) .non = some (.val (.bl false)) := rfl
def Deed.word : Deed → Str
  | .come _ => "come" | .go _ => "go" | .ex _ _ => "exchange"
def Deed.g1 : Deed → Int
  | .come g => g | .go g => g | .ex a _ => a
def Deed.g2 : Deed → Option Int
  | .ex _ b => some b | _ => none
def Deed.gs : Deed → List Int
  | .come g => [g] | .go g => [g] | .ex a b => [a, b]
theorem ix_d0 {d : Deed} : idxD (deedD d) (.int 0) = some (.val (.str d.word)) := by cases d <;> rfl
theorem ix_d1 {d : Deed} : idxD (deedD d) (.int 1) = some (.val (.int d.g1)) := by cases d <;> rfl
theorem ix_d2 {d : Deed} {v : Int} (h : d.g2 = some v) : idxD (deedD d) (.int 2) = some (.val (.int v)) := by cases d <;> cases h <;> rfl
theorem slc_d1 {d : Deed} : slcD (deedD d) (some 1) none = some (.val (encW .int d.gs)) := by cases d <;> rfl
theorem b_lenD {w : List (Int × α)} : Bf.ev .len [encD enc w] = some (.val (.int w.length)) := by
  show some (Rv.val (.int ((w.map fun p => ((Sum.inl p.1 : Key), enc p.2)).length : Nat))) = _
  rw [List.length_map]
theorem b_dct {w : List (Int × α)} : Bf.ev .dct [encD enc w] = some (.new (encD enc w)) := rfl
theorem e_get1D {w : List (Int × α)} {k : Int} {env : Nat → FnSpec} {e f : E} {ρ : List Slot} {S S1 S2 : List Cell} {ra rb : Rv} (ha : evE env e ρ S = .ok ra S1) (hx : ra.read S1 = some (encD enc w)) (hb : evE env f ρ S1 = .ok rb S2) (hx2 : ra.read S2 = some (encD enc w)) (hy : rb.read S2 = some (.int k)) : evE env (.get1 e f) ρ S = .ok (.val (encO enc (getK w k))) S2 := by
  show xGet1 _ _ _ _ = _
  unfold xGet1
  rw [ha, Out.bind_ok, hx]
  show ((evE env f ρ S1).bind _) = _
  rw [hb, Out.bind_ok, hx2]
  dsimp only
  rw [hy]
  dsimp only
  rw [dget_D]
  cases getK w k <;> rfl
theorem inL {n : Nat} [DecidableEq α] (h : Eqs n enc) (hn : n ≤ 39) {x : α} : Cp.ev .inn (enc x) (encL enc l) = some (.val (.bl (l.contains x))) := by
  show inD _ _ = _
  unfold inD
  have e : inB (enc x) (encL enc l) = some (l.contains x) := by
    show (if (shp 40 (enc x) && shps 40 (l.map enc)) = true then some ((l.map enc).any fun z => eqv z (enc x)) else none) = _
    rw [if_pos (by rw [h.sh x 40 (by omega), shps_map (fun y => h.sh y 40 (by omega))]; rfl), List.any_map]
    congr 1
    rw [List.contains_eq_any_beq]
    congr 1
    funext y
    show eqv (enc y) (enc x) = (x == y)
    rw [h.eq]
    by_cases z : y = x
    · subst z; simp
    · have z' : ¬ x = y := fun q => z q.symm
      simp [z, z']
  rw [e]
  rfl
theorem ninL {n : Nat} [DecidableEq α] (h : Eqs n enc) (hn : n ≤ 39) {x : α} : Cp.ev .nin (enc x) (encL enc l) = some (.val (.bl (!l.contains x))) := by
  have e : inB (enc x) (encL enc l) = some (l.contains x) := by
    have := inL (l := l) h hn (x := x)
    have t : (inB (enc x) (encL enc l)).map (fun b => Rv.val (.bl b)) = some (.val (.bl (l.contains x))) := this
    cases q : inB (enc x) (encL enc l) with
    | none => rw [q] at t; cases t
    | some b => rw [q] at t; injection t with t; injection t with t; injection t with t; rw [t]
  show ninD _ _ = _
  unfold ninD
  rw [e]
  rfl
end
end Wz

set_option Elab.async false
set_option linter.all false
set_option maxRecDepth 100000
set_option maxHeartbeats 4000000
namespace Wz
open PySem PySem.Spec PyProof.Rows L2

abbrev mulOk (i j : Int) : Prop := (-18446744073709551616 < i ∧ i < 18446744073709551616) ∨ (-18446744073709551616 < j ∧ j < 18446744073709551616)
def letK {α β : Type} (a : α) (k : α → Out β) : Out β := k a
def asInt : Wz.D → Option Int
  | .int i => some i
  | _ => none
def tryN {α : Type} (m : Out α) (h : Str → Option Wz.D → List Cell → Out α) : Out α := match m with
  | .ok a S => .ok a S
  | .exc c d S => h c d S
  | .stuck => .stuck
section
variable {α β γ σ τ : Type} {env : Nat → FnSpec} {np n0 : Nat} {l a b : Ss} {ρ ρ' : List Slot} {S S1 S2 S3 : List Cell} {k : List Ss} {e f : E} {es : Es} {t u : T} {d : Wz.D} {r ra rb : Rv} {i j n : Nat} {J : τ → List Cell → SOut → Prop}
theorem oke_use {x : Out β} {q : α → β} {m : Out α} {v : α} (h : m = .ok v S) (o : OKE x m q) : x = .ok (q v) S := o v S h
theorem g_st {S' : List Cell} {kk : List Cell → Out τ} (h : Go env np n0 l ρ S k (fun x => RX x (kk S') J)) : Go env np n0 l ρ S k (fun x => RX x (stK S' kk) J) := h
theorem oke_st {S' : List Cell} {x : Out β} {q : α → β} {kk : List Cell → Out α} (h : OKE x (kk S') q) : OKE x (stK S' kk) q := h
theorem g_setL {q : α → Rv} {mm : Bool} {s : α → Slot} {R : α → List Slot} {v : α} {rest : α → Out τ} (h : evE env e ρ S = .ok (q v) S1) (hs : ∀ a, slotOf mm (q a) = some (s a)) (hi : i < ρ.length) (hn : ∀ a, ρ.set i (s a) = R a) (kk : ∀ v, Go env np n0 l (R v) S1 k (fun x => RX x (rest v) J)) : Go env np n0 (.cons (.set i mm e) l) ρ S k (fun x => RX x (letK v rest) J) :=
  go_setA h (hs v) hi (hn v) (kk v)
theorem g_app {enc : α → Wz.D} {xs : List α} {v : α} {R : List α → List Slot} {rest : List α → Out τ} (h : ρ[i]? = some (.own (encL enc xs))) (he : evE env e ρ S = .ok r S1) (hv : r.fz = some (enc v)) (hn : ∀ w, ρ.set i (.own (encL enc w)) = R w) (kk : ∀ w, Go env np n0 l (R w) S1 k (fun x => RX x (rest w) J)) : Go env np n0 (.cons (.app i e) l) ρ S k (fun x => RX x (gP (xs.length < 16777216) (letK (xs ++ [v]) rest)) J) := by
  refine g_gP fun hl => ?_
  refine go_app (xs := xs.map enc) h he hv (by rw [List.length_map]; exact hl) ?_ (kk (xs ++ [v]))
  rw [← hn]
  unfold encL
  rw [List.map_append]
  rfl
theorem g_subD {enc : β → Wz.D} {w : List (Int × β)} {kx : Int} {v : β} {R : List (Int × β) → List Slot} {rest : List (Int × β) → Out τ} (h : ρ[i]? = some (.own (encD enc w))) (he : evE env e ρ S = .ok r S1) (hf : evE env f ρ S1 = .ok ra S2) (hx : ra.read S2 = some (.int kx)) (hv : r.fz = some (enc v)) (hn : ∀ w, ρ.set i (.own (encD enc w)) = R w) (kk : ∀ w, Go env np n0 l (R w) S2 k (fun x => RX x (rest w) J)) : Go env np n0 (.cons (.sub i f e) l) ρ S k (fun x => RX x (gP (w.length < 16777216) (letK (setK w kx v) rest)) J) := by
  refine g_gP fun hl => ?_
  exact go_sub h he hf hx hv (put_D hl) (hn _) (kk _)
theorem g_subT {enc : β → Wz.D} {w : List ((Int × Int) × β)} {kx : Int × Int} {v : β} {R : List ((Int × Int) × β) → List Slot} {rest : List ((Int × Int) × β) → Out τ} (h : ρ[i]? = some (.own (encDT enc w))) (he : evE env e ρ S = .ok r S1) (hf : evE env f ρ S1 = .ok ra S2) (hx : ra.read S2 = some (encP .int .int kx)) (hv : r.fz = some (enc v)) (hn : ∀ w, ρ.set i (.own (encDT enc w)) = R w) (kk : ∀ w, Go env np n0 l (R w) S2 k (fun x => RX x (rest w) J)) : Go env np n0 (.cons (.sub i f e) l) ρ S k (fun x => RX x (gP (w.length < 16777216) (letK (setK w kx v) rest)) J) := by
  refine g_gP fun hl => ?_
  exact go_sub h he hf hx hv (put_DT hl) (hn _) (kk _)
theorem go_frzV {Q : SOut → Prop} (h : ρ[i]? = some (.val d)) (q : Go env np n0 l ρ S k Q) : Go env np n0 (.cons (.frz i) l) ρ S k Q := by
  refine go_cons ?_ q
  show sFrz i n0 ρ S = _
  unfold sFrz
  rw [h]
theorem e_appB {enc : α → Wz.D} {l0 l : List α} {v : α} (hc : evE env e ρ S = .ok (.val (.ref n)) S1) (hg : S1[n]? = some (.box (encL enc l0))) (he : evE env f ρ S1 = .ok r S2) (hg2 : S2[n]? = some (.box (encL enc l))) (hv : r.fz = some (enc v)) (hl : l.length < 16777216) : evE env (.appE e f) ρ S = .ok (.val .non) (S2.set n (.box (encL enc (l ++ [v])))) := by
  have := e_appE (l0 := l0.map enc) (l := l.map enc) hc rfl (oget_box hg) he (oget_box hg2) hv (by rw [List.length_map]; exact hl) rfl
  rw [this, oput_ob]
  unfold encL
  rw [List.map_append]
  rfl
theorem vB_spec {enc : α → Wz.D} {x : α} (h : vB enc S n = some x) : S[n]? = some (.box (enc x)) := vC_spec (f := boxC enc) h
theorem i_boxL {enc : α → Wz.D} {xs : List α} (ha : evE env e ρ S = .ok (.val (.ref n)) S1) (h : S1[n]? = some (.box (encL enc xs))) : evI env (.val e) ρ S = .ok ⟨xs.map enc, some (n, encL enc xs)⟩ S1 := i_box ha h
theorem e_clrB {enc : α → Wz.D} {xs : List α} (hc : evE env e ρ S = .ok (.val (.ref n)) S1) (hg : S1[n]? = some (.box (encL enc xs))) : evE env (.clrE e) ρ S = .ok (.val .non) (S1.set n (.box (encL enc []))) := by
  show xMut1 clrD _ _ _ = _
  unfold xMut1
  rw [hc, Out.bind_ok]
  show (match oget S1 (.ob n) with | some d => _ | none => _) = _
  rw [oget_box hg]
  rfl
theorem mg_hall {x : HS} {m : Str} (h : vH S n = some x) (hm : ((hallF x).lookup m).isNone = true) : methG "Hall" m S n := ⟨hallF x, vC_spec (f := hallC) h, hm⟩
theorem vC_ne {f : α → Cell} {k : α → Out β} (h : gO (vC f S n) k ≠ .stuck) : ∃ x, vC f S n = some x := by
  cases e : vC f S n with
  | none => rw [e] at h; exact absurd rfl h
  | some x => exact ⟨x, rfl⟩
theorem e_ifeVT {enc : α → Wz.D} {p : Bool} {x y : α} (h : evT env t ρ S = .ok p S1) (ha : evE env e ρ S1 = .ok (.val (enc x)) S1) (hb : evE env f ρ S1 = .ok (.val (enc y)) S1) : evE env (.ife t e f) ρ S = .ok (.val (enc (if p = true then x else y))) S1 := by
  rw [e_ifeV h ha hb]
  cases p <;> rfl
theorem e_getE {enc : β → Wz.D} {enc2 : γ → Wz.D} {w : List (Int × β)} {x : Int} {v : γ} {dd : Wz.D} {f : β → γ} {e1 e2 e3 : E} (ha : evE env e1 ρ S = .ok ra S) (hx : ra.read S = some (encD enc w)) (hb : evE env e2 ρ S = .ok rb S) (hy : rb.read S = some (.int x)) (hc : evE env e3 ρ S = .ok (.val dd) S) (hd : dd = enc2 v) (hf : ∀ z, enc z = enc2 (f z)) : evE env (.get2 e1 e2 e3) ρ S = .ok (.val (enc2 (Option.elim (getK w x) v f))) S := by
  have h := e_get2 (ov := (getK w x).map enc) ha (by rw [hx]; rfl) hb hc hx hy dget_D
  rw [h, hd]
  cases getK w x with
  | none => rfl
  | some z => exact congrArg (fun d => Out.ok (Rv.val d) S) (hf z)
/-! tries -/
def RY (ρ : List Slot) (x : SOut) (m : Out τ) (J : τ → List Cell → SOut → Prop) : Prop := match m with
  | .ok t S => J t S x
  | .exc c d S => x = .exc c d ρ S
  | .stuck => True
theorem h_gO {o : Option α} {kk : α → Out τ} {x : SOut} (h : ∀ v, o = some v → RX x (kk v) J) : RX x (gO o kk) J := by
  cases o with
  | none => exact True.intro
  | some v => exact h v rfl
theorem h_gP {p : Prop} [dp : Decidable p] {x : SOut} {kk : Out τ} (h : p → RX x kk J) : RX x (gP p kk) J := by
  unfold gP
  by_cases q : p
  · rw [if_pos q]; exact h q
  · rw [if_neg q]; exact True.intro
theorem y_gO {o : Option α} {kk : α → Out τ} {x : SOut} (h : ∀ v, o = some v → RY ρ x (kk v) J) : RY ρ x (gO o kk) J := by
  cases o with
  | none => exact True.intro
  | some v => exact h v rfl
theorem y_gP {p : Prop} [dp : Decidable p] {x : SOut} {kk : Out τ} (h : p → RY ρ x kk J) : RY ρ x (gP p kk) J := by
  unfold gP
  by_cases q : p
  · rw [if_pos q]; exact h q
  · rw [if_neg q]; exact True.intro
theorem y_bindX {m : Out α} {kk : α → List Cell → Out τ} {x : SOut} (h : ∀ v S1, m = .ok v S1 → RY ρ x (kk v S1) J) : RY ρ x (m.bindX kk) J := by
  cases m with
  | ok v S1 => exact h v S1 rfl
  | exc c d S1 => exact True.intro
  | stuck => exact True.intro
theorem one_eq {s : Sm} : evSs env np (.cons s .nil) n0 ρ S = evS env np s n0 ρ S := by
  show sSeq (evS env np s) (evSs env np .nil) n0 ρ S = _
  unfold sSeq
  cases evS env np s n0 ρ S <;> rfl
theorem y_setE {m : Out α} {q : α → Rv} {mm : Bool} {s : α → Slot} {fo : α → τ} (h : RE (evE env e ρ S) m q) (hs : ∀ a, slotOf mm (q a) = some (s a)) (hi : i < ρ.length) (hj : ∀ a S1, J (fo a) S1 (.nx (ρ.set i (s a)) S1)) : RY ρ (evSs env np (.cons (.set i mm e) .nil) n0 ρ S) (m.bind fun a S1 => .ok (fo a) S1) J := by
  cases m with
  | ok v S1 => exact of_go (Q := fun x => RY ρ x (.ok (fo v) S1) J) (go_setA h (hs v) hi rfl (go_end (hj v S1)))
  | exc c d S1 => exact of_go (Q := fun x => RY ρ x (.exc c d S1) J) (go_setX h rfl)
  | stuck => exact True.intro
theorem y_expE {m : Out α} {q : α → Rv} {fo : α → τ} (h : RE (evE env e ρ S) m q) (hj : ∀ a S1, J (fo a) S1 (.nx ρ S1)) : RY ρ (evSs env np (.cons (.exp e) .nil) n0 ρ S) (m.bind fun a S1 => .ok (fo a) S1) J := by
  cases m with
  | ok v S1 => exact of_go (Q := fun x => RY ρ x (.ok (fo v) S1) J) (go_exp h (go_end (hj v S1)))
  | exc c d S1 => exact of_go (Q := fun x => RY ρ x (.exc c d S1) J) (go_expX h rfl)
  | stuck => exact True.intro
theorem y_retE {m : Out α} {q : α → Rv} {fo : α → τ} (h : RE (evE env e ρ S) m q) (hj : ∀ a S1, J (fo a) S1 (.rt (q a) ρ S1)) : RY ρ (evSs env np (.cons (.ret e) .nil) n0 ρ S) (m.bind fun a S1 => .ok (fo a) S1) J := by
  cases m with
  | ok v S1 => exact of_go (Q := fun x => RY ρ x (.ok (fo v) S1) J) (go_ret h (hj v S1))
  | exc c d S1 => exact of_go (Q := fun x => RY ρ x (.exc c d S1) J) (go_retX h rfl)
  | stuck => exact True.intro
theorem y_if {p : Bool} {A B : Out τ} (h : evT env t ρ S = .ok p S1) (h1 : p = true → RY ρ (evSs env np a n0 ρ S1) A J) (h2 : p = false → RY ρ (evSs env np b n0 ρ S1) B J) : RY ρ (evSs env np (.cons (.ife t a b) .nil) n0 ρ S) (if p = true then A else B) J := by
  rw [one_eq]
  show RY ρ (sIf (evT env t) (evSs env np a) (evSs env np b) n0 ρ S) _ _
  unfold sIf
  rw [h, sE_ok]
  cases p with
  | true => exact h1 rfl
  | false => exact h2 rfl
def selO (a : Option Wz.D) (n0 : Nat) (c : Str) (ρ : List Slot) (S : List Cell) (hs : List Hd) : SOut := match hs.find? fun h => decide (c = h.c) with
  | some h => match h.i with
    | none => evU a h.us n0 ρ S
    | some i => if i < ρ.length then evU a h.us n0 (ρ.set i .non) S else .stuck
  | none => .exc c a ρ S
theorem y_sel {c : Str} {dd : Option Wz.D} {h : Hd} {hs : List Hd} {w : Str} (hw : h.c = w) {A B : Out τ} (h1 : c = w → RX (match h.i with
    | none => evU dd h.us n0 ρ S
    | some i => if i < ρ.length then evU dd h.us n0 (ρ.set i .non) S else .stuck) A J) (h2 : ¬ c = w → RX (selO dd n0 c ρ S hs) B J) : RX (selO dd n0 c ρ S (h :: hs)) (if c = w then A else B) J := by
  subst hw
  unfold selO
  by_cases q : c = h.c
  · rw [List.find?_cons_of_pos (by simp [q]), if_pos q]
    exact h1 q
  · rw [List.find?_cons_of_neg (by simp [q]), if_neg q]
    exact h2 q
theorem y_selN {c : Str} {dd : Option Wz.D} : RX (selO dd n0 c ρ S []) (.exc c dd S) J := ⟨_, rfl⟩
theorem asInt_some {dd : Option Wz.D} {g : Int} (h : dd.bind asInt = some g) : dd = some (.int g) := by
  cases dd with
  | none => cases h
  | some x => cases x <;> first | (cases h; rfl) | cases h
theorem g_try {xs : List Str} {hs : List Hd} {m : Out σ} {hf : Str → Option Wz.D → List Cell → Out σ} {rest : σ → List Cell → Out τ} (R : σ → List Slot) (hb : RY ρ (evSs env np b n0 ρ S) m (JN R)) (hc : ∀ c d S1, RX (if xs.contains c = true then selO d n0 c ρ S1 hs else .stuck) (hf c d S1) (JN R))
    (q : ∀ s S2, Go env np n0 l (R s) S2 k (fun x => RX x (rest s S2) J)) : Go env np n0 (.cons (.try_ xs b hs) l) ρ S k (fun x => RX x ((tryN m hf).bind rest) J) := by
  refine go_try (go_of ?_)
  cases m with
  | stuck => exact True.intro
  | ok s S2 =>
    have e : evSs env np b n0 ρ S = .nx (R s) S2 := hb
    rw [e]
    exact q s S2
  | exc c d S2 =>
    have e : evSs env np b n0 ρ S = .exc c d ρ S2 := hb
    rw [e]
    have h := hc c d S2
    show RX (SOut.bnd (if xs.contains c = true then selO d n0 c ρ S2 hs else .stuck) _) ((hf c d S2).bind rest) J
    revert h
    generalize (if xs.contains c = true then selO d n0 c ρ S2 hs else SOut.stuck) = o
    cases hf c d S2 with
    | ok s S3 => intro h; have h' : o = .nx (R s) S3 := h; rw [h']; exact q s S3
    | exc c d S3 => rintro ⟨ρ', h⟩; rw [h]; exact ⟨_, rfl⟩
    | stuck => intro _; exact True.intro
theorem g_tryR {xs : List Str} {hs : List Hd} {m : Out (σ ⊕ γ)} {hf : Str → Option Wz.D → List Cell → Out (σ ⊕ γ)} {rest : σ → List Cell → Out τ} {qr : γ → Rv} {inj : γ → τ} (R : σ → List Slot) (hj : ∀ r S x ρ2, x = SOut.rt (qr r) ρ2 S → J (inj r) S x) (hb : RY ρ (evSs env np b n0 ρ S) m (JS R qr)) (hc : ∀ c d S1, RX (if xs.contains c = true then selO d n0 c ρ S1 hs else .stuck) (hf c d S1) (JS R qr))
    (q : ∀ s S2, Go env np n0 l (R s) S2 k (fun x => RX x (rest s S2) J)) : Go env np n0 (.cons (.try_ xs b hs) l) ρ S k (fun x => RX x ((tryN m hf).bindR inj rest) J) := by
  have key : ∀ {o : SOut} {C : Out (σ ⊕ γ)}, RX o C (JS R qr) → RX (o.bnd (cont env np n0 (l :: k))) (C.bindR inj rest) J := by
    intro o C h
    cases C with
    | ok s S2 =>
      cases s with
      | inl s =>
        have h' : o = .nx (R s) S2 := h
        rw [h']
        exact q s S2
      | inr r =>
        obtain ⟨ρ2, h'⟩ := h
        rw [h']
        exact hj r S2 _ ρ2 rfl
    | exc cc dd S2 =>
      obtain ⟨ρ', h'⟩ := h
      rw [h']
      exact ⟨_, rfl⟩
    | stuck => exact True.intro
  refine go_try (go_of ?_)
  cases m with
  | stuck => exact True.intro
  | ok s S2 =>
    have e : JS R qr s S2 (evSs env np b n0 ρ S) := hb
    have e2 : tryO xs hs n0 (evSs env np b n0 ρ S) = evSs env np b n0 ρ S := by
      cases s with
      | inl s => have e' : evSs env np b n0 ρ S = .nx (R s) S2 := e; rw [e']; rfl
      | inr r => obtain ⟨ρ2, e'⟩ := e; rw [e']; rfl
    rw [e2]
    exact key (C := .ok s S2) e
  | exc c d S2 =>
    have e : evSs env np b n0 ρ S = .exc c d ρ S2 := hb
    rw [e]
    exact key (hc c d S2)
theorem y_in {c : Str} {xs : List Str} {hs : List Hd} {dd : Option Wz.D} {B : Out τ} (h : RX (selO dd n0 c ρ S hs) B J) : RX (if xs.contains c = true then selO dd n0 c ρ S hs else .stuck) (gP (xs.contains c = true) B) J := by
  refine h_gP fun q => ?_
  rw [if_pos q]
  exact h
end
theorem is_bl {x y : Bool} : Cp.ev .iss (.bl x) (.bl y) = some (.val (.bl (decide (x = y)))) := rfl
theorem isn_bl {x y : Bool} : Cp.ev .isn (.bl x) (.bl y) = some (.val (.bl (!decide (x = y)))) := rfl
theorem tr_L {α : Type} {enc : α → Wz.D} {l : List α} : truD (encL enc l) = some (!l.isEmpty) := by
  cases l <;> rfl
section
variable {α β γ : Type} {enc : α → Wz.D} {a : α → Wz.D} {b : β → Wz.D} {c : γ → Wz.D}
theorem ix_DT {w : List ((Int × Int) × α)} {k : Int × Int} {v : α} (h : getK w k = some v) : idxD (encDT enc w) (encP .int .int k) = some (.val (enc v)) := by
  unfold idxD
  rw [dget_DT, h]
  rfl
theorem ix_atW {l : List α} {i : Int} {v : α} (h : L2.atI l i = some v) : idxD (encW enc l) (.int i) = some (.val (enc v)) := by
  show (L2.atI (l.map enc) i).map Rv.val = _
  unfold L2.atI at h ⊢
  rw [List.length_map]
  cases e : L2.ixN l.length i with
  | none => rw [e] at h; cases h
  | some j =>
    rw [e] at h
    have h' : l[j]? = some v := h
    show Option.map Rv.val ((l.map enc)[j]?) = _
    rw [List.getElem?_map, h']
    rfl
theorem inB_W {n : Nat} [DecidableEq α] (h : Eqs n enc) (hn : n ≤ 39) {x : α} {l : List α} : inB (enc x) (encW enc l) = some (l.contains x) := by
  show (if (shp 40 (enc x) && shps 40 (l.map enc)) = true then some ((l.map enc).any fun z => eqv z (enc x)) else none) = _
  rw [if_pos (by rw [h.sh x 40 (by omega), shps_map (fun y => h.sh y 40 (by omega))]; rfl), List.any_map]
  congr 1
  rw [List.contains_eq_any_beq]
  congr 1
  funext y
  show eqv (enc y) (enc x) = (x == y)
  rw [h.eq]
  by_cases z : y = x
  · subst z; simp
  · have z' : ¬ x = y := fun q => z q.symm
    simp [z, z']
theorem inW {n : Nat} [DecidableEq α] (h : Eqs n enc) (hn : n ≤ 39) {x : α} {l : List α} : Cp.ev .inn (enc x) (encW enc l) = some (.val (.bl (l.contains x))) := by
  show inD _ _ = _
  unfold inD
  rw [inB_W h hn]
  rfl
theorem ninW {n : Nat} [DecidableEq α] (h : Eqs n enc) (hn : n ≤ 39) {x : α} {l : List α} : Cp.ev .nin (enc x) (encW enc l) = some (.val (.bl (!l.contains x))) := by
  show ninD _ _ = _
  unfold ninD
  rw [inB_W h hn]
  rfl
theorem b_lenW {l : List α} : Bf.ev .len [encW enc l] = some (.val (.int l.length)) := by
  show some (Rv.val (.int ((l.map enc).length : Nat))) = _
  rw [List.length_map]
theorem b_lstD {w : List (Int × α)} : Bf.ev .lst [encD enc w] = some (.new (encL .int (w.map Prod.fst))) := by
  show some (Rv.new (.lst ((w.map fun p => ((Sum.inl p.1 : Key), enc p.2)).map fun p => keyV p.1))) = _
  rw [List.map_map]
  unfold encL
  rw [List.map_map]
  rfl
theorem eqs_3 [DecidableEq α] [DecidableEq β] [DecidableEq γ] {n m k : Nat} (ha : Eqs n a) (hb : Eqs m b) (hc : Eqs k c) : Eqs (n + m + k + 1) (enc3 a b c) := ⟨fun x j hj => by
  cases j with
  | zero => omega
  | succ j =>
    show (shp j (a x.1) && (shp j (b x.2.1) && (shp j (c x.2.2) && true))) = true
    rw [ha.sh _ _ (by omega), hb.sh _ _ (by omega), hc.sh _ _ (by omega)]
    rfl, fun x y => by
  have e : eqv (enc3 a b c x) (enc3 a b c y) = (eqv (a x.1) (a y.1) && (eqv (b x.2.1) (b y.2.1) && (eqv (c x.2.2) (c y.2.2) && true))) := rfl
  rw [e, ha.eq, hb.eq, hc.eq]
  obtain ⟨x1, x2, x3⟩ := x
  obtain ⟨y1, y2, y3⟩ := y
  by_cases h1 : x1 = y1 <;> by_cases h2 : x2 = y2 <;> by_cases h3 : x3 = y3 <;> simp [h1, h2, h3]⟩
theorem isi_S1 {T : String} {p : Bool} {ty : String} (h1 : ∀ x, tyD (a x) = some ty) (h : isiB ty T = p) (x : α) : isiD T (a x) = some (.val (.bl p)) := by
  unfold isiD
  rw [h1]
  show some (Rv.val (.bl (isiB ty T))) = _
  rw [h]
end
noncomputable def lcB {β γ : Type} (G : List Cell → Prop) (C : β → List Cell → Out Bool) (E : β → List Cell → Out γ) : List β → List Cell → Out (List γ)
  | [], S => gC (G S) (.ok [] S)
  | x :: r, S => gC (G S) ((C x S).bindX fun b S1 => if b = true then (E x S1).bindX fun y S2 => (lcB G C E r S2).bindX fun ys S3 => .ok (y :: ys) S3 else lcB G C E r S1)
theorem gC_ok {α : Type} {p : Prop} {m : Out α} {a : α} {S : List Cell} (h : gC p m = .ok a S) : p ∧ m = .ok a S := by
  by_cases q : p
  · rw [gC_pos q] at h; exact ⟨q, h⟩
  · rw [show gC p m = .stuck from @if_neg _ (Classical.propDecidable p) q _ _ _] at h; cases h
section
variable {β γ : Type} {env : Nat → FnSpec} {ρ : List Slot} {S S1 S2 : List Cell} {e : E}
theorem lc_Bx {gd : Option (Nat × Wz.D)} {bd : Wz.D → List Slot → Option (List Slot)} {c : EV Bool} {ee : EV Rv} {C : β → List Cell → Out Bool} {Ee : β → List Cell → Out γ} (enc : β → Wz.D) (enc2 : γ → Wz.D)
    (turn : ∀ x S, ∃ ρ1, bd (enc x) ρ = some ρ1 ∧ OKE (c ρ1 S) (C x S) id ∧ (∀ S, ∃ q : γ → Rv, OKE (ee ρ1 S) (Ee x S) q ∧ ∀ y, (q y).fz = some (enc2 y))) :
    ∀ (xs : List β) (acc : List Wz.D) (S : List Cell) (ys : List γ) (S2 : List Cell), acc.length + xs.length ≤ lim → lcB (fun S => gdOk S gd) C Ee xs S = .ok ys S2 → lcL gd bd c ee ρ (xs.map enc) acc S = .ok (.new (.lst (acc ++ ys.map enc2))) S2
  | [], acc, S, ys, S2, _, h => by
    obtain ⟨hg, h⟩ := gC_ok h
    cases h
    rw [show lcL gd bd c ee ρ (List.map enc []) acc S = onlyIf (gdOk S gd) (.ok (.new (.lst acc)) S) .stuck from rfl, only_pos hg, List.map_nil, List.append_nil]
  | x :: r, acc, S, ys, S2, hl, h => by
    obtain ⟨hg, h'⟩ := gC_ok h
    obtain ⟨ρ1, h1, h2, h3⟩ := turn x S
    rw [List.length_cons] at hl
    rw [List.map_cons]
    unfold lcL
    rw [only_pos hg, h1]
    dsimp only
    cases ec : C x S with
    | exc c d S1 => rw [ec] at h'; cases h'
    | stuck => rw [ec] at h'; cases h'
    | ok p S1 =>
      rw [ec] at h'
      rw [h2 p S1 ec]
      have h'' : (if p = true then (Ee x S1).bindX fun y S2 => (lcB (fun S => gdOk S gd) C Ee r S2).bindX fun ys S3 => .ok (y :: ys) S3 else lcB (fun S => gdOk S gd) C Ee r S1) = .ok ys S2 := h'
      cases p with
      | false => exact lc_Bx enc enc2 turn r acc S1 ys S2 (by omega) h''
      | true =>
        rw [if_pos rfl] at h''
        obtain ⟨q, h4, h5⟩ := h3 S1
        cases ee' : Ee x S1 with
        | exc c d S1 => rw [ee'] at h''; cases h''
        | stuck => rw [ee'] at h''; cases h''
        | ok y S3 =>
          rw [ee'] at h''
          have h3' : ((lcB (fun S => gdOk S gd) C Ee r S3).bindX fun ys S3 => .ok (y :: ys) S3) = .ok ys S2 := h''
          cases er : lcB (fun S => gdOk S gd) C Ee r S3 with
          | exc c d S1 => rw [er] at h3'; cases h3'
          | stuck => rw [er] at h3'; cases h3'
          | ok zs S4 =>
            rw [er] at h3'
            cases h3'
            show (match ee ρ1 S1 with | .ok rv S2 => _ | _ => _) = _
            rw [h4 y S3 ee']
            dsimp only
            rw [h5 y]
            dsimp only
            rw [if_pos (by omega), lc_Bx enc enc2 turn r _ S3 zs S2 (by rw [List.length_append, List.length_singleton]; omega) er, List.map_cons, List.append_assoc]
            rfl
theorem oke_lcB {it : It} {vs : List Nat} {g : Tg} {c : Ts} {its : Its} {gd : Option (Nat × Wz.D)} {C : β → List Cell → Out Bool} {Ee : β → List Cell → Out γ} {xs : List β} (enc : β → Wz.D) (enc2 : γ → Wz.D) (hi : evI env it ρ S = .ok its S1) (hx : its = ⟨xs.map enc, gd⟩) (hv : (vs.all (notOwn ρ) && g.ixs.all fun i => vs.contains i) = true) (hl : xs.length ≤ lim)
    (turn : ∀ x S, ∃ ρ1, bindT g (enc x) (clrs vs ρ) = some ρ1 ∧ OKE (evTs env c ρ1 S) (C x S) id ∧ (∀ S, ∃ q : γ → Rv, OKE (evE env e ρ1 S) (Ee x S) q ∧ ∀ y, (q y).fz = some (enc2 y))) {ys : List γ} (h : lcB (fun S => gdOk S gd) C Ee xs S1 = .ok ys S2) : evE env (.lc it vs g c e) ρ S = .ok (.new (encL enc2 ys)) S2 := by
  subst hx
  refine e_lc hi hv ?_
  rw [lc_Bx enc enc2 turn xs [] S1 ys S2 (by simpa using hl) h, List.nil_append]
  rfl
end
/-! ### walks over dicts -/
noncomputable def unlO {α : Type} (n : Nat) (d : Wz.D) (m : Out α) : Out α := match m with
  | .ok a S => gC (S[n]? = some (.lbx d)) (.ok a (S.set n (.box d)))
  | _ => .stuck
def noXO {α : Type} (m : Out α) : Out α := match m with
  | .exc _ _ _ => .stuck
  | m => m
section
variable {α β γ σ τ : Type} {env : Nat → FnSpec} {np n0 : Nat} {l b : Ss} {ρ : List Slot} {S S1 S2 : List Cell} {k : List Ss} {i n : Nat} {J : τ → List Cell → SOut → Prop} {g : Tg} {clr : List Nat} {enc : α → Wz.D} {e : E}
theorem keys_D {w : List (Int × α)} : keysI (encD enc w) = some ((w.map (·.1)).map Wz.D.int) := by
  show some ((w.map fun p => ((Sum.inl p.1 : Key), enc p.2)).map fun p => keyV p.1) = _
  rw [List.map_map, List.map_map]
  rfl
theorem oke_lcSD {α γ : Type} {env : Nat → FnSpec} {i : Nat} {vs : List Nat} {g : Tg} {c : Ts} {e : E} {ρ : List Slot} {S S2 : List Cell} {C : Int → List Cell → Out Bool} {Ee : Int → List Cell → Out γ} (enc : α → Wz.D) (w : List (Int × α)) (enc2 : γ → Wz.D) (hi : ρ[i]? = some (.val (encD enc w))) (hv : (vs.all (notOwn ρ) && g.ixs.all fun i => vs.contains i) = true) (hl : (w.map (fun x => x.1)).length ≤ lim)
    (turn : ∀ x S, ∃ ρ1, bindT g (Wz.D.int x) (clrs vs ρ) = some ρ1 ∧ OKE (evTs env c ρ1 S) (C x S) id ∧ (∀ S, ∃ q : γ → Rv, OKE (evE env e ρ1 S) (Ee x S) q ∧ ∀ y, (q y).fz = some (enc2 y))) {ys : List γ} (h : lcO C Ee (w.map (fun x => x.1)) S = .ok ys S2) : evE env (.lcS i vs g c e) ρ S = .ok (.new (encL enc2 ys)) S2 := by
  show xLc (xKeysF i) vs g.ixs (bindT g) (evTs env c) (evE env e) ρ S = _
  unfold xLc xKeysF
  rw [hi]
  dsimp only
  rw [keys_D]
  dsimp only
  rw [Out.bind_ok, if_pos hv, lc_O Wz.D.int enc2 turn (w.map (fun x => x.1)) [] S ys S2 (by simpa using hl) h, List.nil_append]
  rfl
theorem keys_DT {w : List ((Int × Int) × α)} : keysI (encDT enc w) = some ((w.map (·.1)).map (encP Wz.D.int Wz.D.int)) := by
  show some ((w.map fun p => (pk p.1, enc p.2)).map fun p => Wz.D.tup (p.1.map keyV)) = _
  rw [List.map_map, List.map_map]
  rfl
theorem go_eachS {Q : SOut → Prop} {o : SOut} (hf : sForS i (bindT g) (evSs env np b) clr n0 ρ S = o) (q : Q (o.bnd (cont env np n0 (l :: k)))) : Go env np n0 (.cons (.eachS i g b clr) l) ρ S k Q := by
  unfold Go
  rw [cons_eq]
  show Q ((sForS i (bindT g) (evSs env np b) clr n0 ρ S).bnd _)
  rw [hf]
  exact q
theorem forS_box {d : Wz.D} {its : List Wz.D} (h : ρ[i]? = some (.val (.ref n))) (hb : S[n]? = some (.box d)) (hk : keysI d = some its) : sForS i (bindT g) (evSs env np b) clr n0 ρ S = unlk (.ob n) d (forL none (bindT g) (evSs env np b) clr n0 its ρ (S.set n (.lbx d))) := by
  have sl : ∀ S, xSlot i ρ S = .ok (.val (.ref n)) S := fun S => by unfold xSlot; rw [h]
  unfold sForS
  rw [h]
  show sForD (xSlot i) (bindT g) (evSs env np b) clr n0 ρ S = _
  unfold sForD
  rw [sl]
  show (match oget S (.ob n) with | some d => _ | none => _) = _
  rw [oget_box hb]
  show (match keysI d with | some its => _ | none => _) = _
  rw [hk]
  exact only_pos ⟨⟨rfl, trivial⟩, sl _⟩
theorem forS_data {d : Wz.D} {its : List Wz.D} (h : ρ[i]? = some (.val d)) (hk : keysI d = some its) : sForS i (bindT g) (evSs env np b) clr n0 ρ S = noXS (forL none (bindT g) (evSs env np b) clr n0 its ρ S) := by
  unfold sForS
  rw [h]
  cases d with
  | ref m => cases hk
  | dk l => cases hk; rfl
  | dt l => cases hk; rfl
  | _ => cases hk
theorem g_forSB {B : σ → β → List Cell → Out σ} {rest : σ → List Cell → Out τ} (enc2 : β → Wz.D) (R : σ → List Slot) (xs : List β) (s0 : σ) {d : Wz.D} (h : ρ[i]? = some (.val (.ref n))) (hb : S[n]? = some (.box d)) (hk : keysI d = some (xs.map enc2)) (hρ : ρ = R s0)
    (turn : ∀ s x S, ∃ ρ1, bindT g (enc2 x) (R s) = some ρ1 ∧ Go env np n0 b ρ1 S [] (fun y => RX y (B s x S) (JE clr R)))
    (q : ∀ s S2, Go env np n0 l (R s) S2 k (fun x => RX x (rest s S2) J)) : Go env np n0 (.cons (.eachS i g b clr) l) ρ S k (fun x => RX x ((unlO n d (foldO B xs s0 (S.set n (.lbx d)))).bind rest) J) := by
  have hf := forS_box (env := env) (np := np) (n0 := n0) (g := g) (b := b) (clr := clr) h hb hk
  have hr := for_O enc2 R turn xs s0 (S.set n (.lbx d))
  rw [← hρ] at hr
  refine go_eachS hf ?_
  revert hr
  generalize forL none (bindT g) (evSs env np b) clr n0 (xs.map enc2) ρ (S.set n (.lbx d)) = o
  generalize foldO B xs s0 (S.set n (.lbx d)) = C
  intro hr
  cases C with
  | stuck => exact True.intro
  | exc _ _ _ => exact True.intro
  | ok s S2 =>
    have e : o = .nx (R s) S2 := hr
    subst e
    show RX _ ((gC (S2[n]? = some (.lbx d)) (.ok s (S2.set n (.box d)))).bind rest) J
    by_cases z : S2[n]? = some (.lbx d)
    · rw [gC_pos z]
      have z2 : ogetL S2 (.ob n) = some d := by
        show (match S2[n]? with | some (.lbx d) => some d | _ => none) = _
        rw [z]
      show RX ((onlyIf (ogetL S2 (.ob n) = some d) (SOut.nx (R s) (oput S2 (.ob n) d)) .stuck).bnd _) _ _
      rw [only_pos z2]
      exact q s _
    · rw [show gC (S2[n]? = some (.lbx d)) (.ok s (S2.set n (.box d))) = .stuck from @if_neg _ (Classical.propDecidable _) z _ _ _]
      exact True.intro
theorem g_forSBR {B : σ → β → List Cell → Out (σ ⊕ γ)} {rest : σ → List Cell → Out τ} {qr : γ → Rv} {inj : γ → τ} (enc2 : β → Wz.D) (R : σ → List Slot) (xs : List β) (s0 : σ) {d : Wz.D} (hj : ∀ r S x ρ2, x = SOut.rt (qr r) ρ2 S → J (inj r) S x) (h : ρ[i]? = some (.val (.ref n))) (hb : S[n]? = some (.box d)) (hk : keysI d = some (xs.map enc2)) (hρ : ρ = R s0)
    (turn : ∀ s x S, ∃ ρ1, bindT g (enc2 x) (R s) = some ρ1 ∧ Go env np n0 b ρ1 S [] (fun y => RX y (B s x S) (JR clr R qr)))
    (q : ∀ s S2, Go env np n0 l (R s) S2 k (fun x => RX x (rest s S2) J)) : Go env np n0 (.cons (.eachS i g b clr) l) ρ S k (fun x => RX x ((unlO n d (foldR B xs s0 (S.set n (.lbx d)))).bindR inj rest) J) := by
  have hf := forS_box (env := env) (np := np) (n0 := n0) (g := g) (b := b) (clr := clr) h hb hk
  have hr := for_R enc2 R turn xs s0 (S.set n (.lbx d))
  rw [← hρ] at hr
  refine go_eachS hf ?_
  revert hr
  generalize forL none (bindT g) (evSs env np b) clr n0 (xs.map enc2) ρ (S.set n (.lbx d)) = o
  generalize foldR B xs s0 (S.set n (.lbx d)) = C
  intro hr
  cases C with
  | stuck => exact True.intro
  | exc _ _ _ => exact True.intro
  | ok s S2 =>
    show RX _ ((gC (S2[n]? = some (.lbx d)) (.ok s (S2.set n (.box d)))).bindR inj rest) J
    by_cases z : S2[n]? = some (.lbx d)
    · rw [gC_pos z]
      have z2 : ogetL S2 (.ob n) = some d := by
        show (match S2[n]? with | some (.lbx d) => some d | _ => none) = _
        rw [z]
      cases s with
      | inl s =>
        have e : o = .nx (R s) S2 := hr
        subst e
        show RX ((onlyIf (ogetL S2 (.ob n) = some d) (SOut.nx (R s) (oput S2 (.ob n) d)) .stuck).bnd _) _ _
        rw [only_pos z2]
        exact q s _
      | inr r =>
        obtain ⟨ρ2, e⟩ := hr
        subst e
        show RX ((onlyIf (ogetL S2 (.ob n) = some d) (SOut.rt (qr r) ρ2 (oput S2 (.ob n) d)) .stuck).bnd _) _ _
        rw [only_pos z2]
        exact hj r _ _ ρ2 rfl
    · rw [show gC (S2[n]? = some (.lbx d)) (.ok s (S2.set n (.box d))) = .stuck from @if_neg _ (Classical.propDecidable _) z _ _ _]
      exact True.intro
theorem g_forSD {B : σ → β → List Cell → Out σ} {rest : σ → List Cell → Out τ} (enc2 : β → Wz.D) (R : σ → List Slot) (xs : List β) (s0 : σ) {d : Wz.D} (h : ρ[i]? = some (.val d)) (hk : keysI d = some (xs.map enc2)) (hρ : ρ = R s0)
    (turn : ∀ s x S, ∃ ρ1, bindT g (enc2 x) (R s) = some ρ1 ∧ Go env np n0 b ρ1 S [] (fun y => RX y (B s x S) (JE clr R)))
    (q : ∀ s S2, Go env np n0 l (R s) S2 k (fun x => RX x (rest s S2) J)) : Go env np n0 (.cons (.eachS i g b clr) l) ρ S k (fun x => RX x ((noXO (foldO B xs s0 S)).bind rest) J) := by
  have hf := forS_data (env := env) (np := np) (n0 := n0) (g := g) (b := b) (clr := clr) (S := S) h hk
  have hr := for_O enc2 R turn xs s0 S
  rw [← hρ] at hr
  refine go_eachS hf ?_
  revert hr
  generalize forL none (bindT g) (evSs env np b) clr n0 (xs.map enc2) ρ S = o
  generalize foldO B xs s0 S = C
  intro hr
  cases C with
  | stuck => exact True.intro
  | exc _ _ _ => exact True.intro
  | ok s S2 =>
    have e : o = .nx (R s) S2 := hr
    subst e
    exact q s _
theorem g_forSDR {B : σ → β → List Cell → Out (σ ⊕ γ)} {rest : σ → List Cell → Out τ} {qr : γ → Rv} {inj : γ → τ} (enc2 : β → Wz.D) (R : σ → List Slot) (xs : List β) (s0 : σ) {d : Wz.D} (hj : ∀ r S x ρ2, x = SOut.rt (qr r) ρ2 S → J (inj r) S x) (h : ρ[i]? = some (.val d)) (hk : keysI d = some (xs.map enc2)) (hρ : ρ = R s0)
    (turn : ∀ s x S, ∃ ρ1, bindT g (enc2 x) (R s) = some ρ1 ∧ Go env np n0 b ρ1 S [] (fun y => RX y (B s x S) (JR clr R qr)))
    (q : ∀ s S2, Go env np n0 l (R s) S2 k (fun x => RX x (rest s S2) J)) : Go env np n0 (.cons (.eachS i g b clr) l) ρ S k (fun x => RX x ((noXO (foldR B xs s0 S)).bindR inj rest) J) := by
  have hf := forS_data (env := env) (np := np) (n0 := n0) (g := g) (b := b) (clr := clr) (S := S) h hk
  have hr := for_R enc2 R turn xs s0 S
  rw [← hρ] at hr
  refine go_eachS hf ?_
  revert hr
  generalize forL none (bindT g) (evSs env np b) clr n0 (xs.map enc2) ρ S = o
  generalize foldR B xs s0 S = C
  intro hr
  cases C with
  | stuck => exact True.intro
  | exc _ _ _ => exact True.intro
  | ok s S2 =>
    cases s with
    | inl s =>
      have e : o = .nx (R s) S2 := hr
      subst e
      exact q s _
    | inr r =>
      obtain ⟨ρ2, e⟩ := hr
      subst e
      exact hj r _ _ ρ2 rfl
theorem i_enum {enc : α → Wz.D} {xs : List α} {r : Rv} (ha : evE env e ρ S = .ok r S1) (hb : boxL S1 r = none) (hf : r.fz = some (encL enc xs)) : evI env (.enum e) ρ S = .ok ⟨((List.range xs.length).zip xs).map (encP (fun (k : Nat) => Wz.D.int k) enc), none⟩ S1 := by
  show xItsL enumD _ _ _ = _
  unfold xItsL
  rw [ha, Out.bind_ok, hb]
  dsimp only
  rw [hf]
  show Out.ok (Its.mk (enumD (xs.map enc)) none) S1 = _
  unfold enumD
  rw [List.length_map, List.zip_map_right, List.map_map]
  rfl
theorem i_enumB {enc : α → Wz.D} {xs : List α} (ha : evE env e ρ S = .ok (.val (.ref n)) S1) (h : S1[n]? = some (.box (encL enc xs))) : evI env (.enum e) ρ S = .ok ⟨((List.range xs.length).zip xs).map (encP (fun (k : Nat) => Wz.D.int k) enc), some (n, encL enc xs)⟩ S1 := by
  show xItsL enumD _ _ _ = _
  unfold xItsL
  rw [ha, Out.bind_ok, show boxL S1 (.val (.ref n)) = some (n, xs.map enc) from by
    show (match S1[n]? with | some (.box (.lst l)) => some (n, l) | _ => none) = _
    rw [h]
    rfl]
  show Out.ok (Its.mk (enumD (xs.map enc)) (some (n, .lst (xs.map enc)))) S1 = _
  unfold enumD
  rw [List.length_map, List.zip_map_right, List.map_map]
  rfl
theorem i_rev {enc : α → Wz.D} {xs : List α} {r : Rv} (ha : evE env e ρ S = .ok r S1) (hb : boxL S1 r = none) (hf : r.fz = some (encL enc xs)) : evI env (.revI e) ρ S = .ok ⟨xs.reverse.map enc, none⟩ S1 := by
  show xItsL List.reverse _ _ _ = _
  unfold xItsL
  rw [ha, Out.bind_ok, hb]
  dsimp only
  rw [hf]
  show Out.ok (Its.mk (xs.map enc).reverse none) S1 = _
  rw [← List.map_reverse]
end
theorem pairKs_D {β : Type} {enc : β → Wz.D} : ∀ w : List ((Int × Int) × β), pairKs (w.map fun p => (pk p.1, enc p.2)) = some (w.map (·.1))
  | [] => rfl
  | p :: w => by
    rw [List.map_cons]
    show (match pairKs (w.map fun p => (pk p.1, enc p.2)) with | some l => some ((p.1.1, p.1.2) :: l) | none => none) = _
    rw [pairKs_D w]
    rfl
theorem srtK_DT {β : Type} {enc : β → Wz.D} {w : List ((Int × Int) × β)} : Bf.ev .srt [encDT enc w] = some (.new (encL (encP .int .int) (sP (w.map (·.1))))) := by
  show (srtD [.dt (w.map fun p => (pk p.1, enc p.2))]).or (match pairKs (w.map fun p => (pk p.1, enc p.2)) with | some ks => some (Rv.new (.lst ((sP ks).map fun p => .tup [.int p.1, .int p.2]))) | none => none) = _
  rw [pairKs_D]
  rfl
/-! ### the hall's deeds as native programs -/
noncomputable def n_Hall____init__ (S : List Cell) : Out Unit := .ok () (S ++ [hallC hs0])
noncomputable def n_Hall__must (n : Nat) (g : Int) (S : List Cell) : Out Unit := gO (vH S n) fun x => if (getK x.worn g).isSome = true then .ok () S else .exc "NoGuest" (some (.int g)) S
noncomputable def n_Hall__come (n : Nat) (g : Int) (S : List Cell) : Out Unit := gO (vH S n) fun x => gP (x.worn.length < 1000 ∧ x.holder.length < 1000 ∧ x.done.length < 1000) <| if (getK x.worn g).isSome = true then .exc "AlreadyIn" none S else .ok () (S.set n (hallC (x.come g)))
noncomputable def n_Hall__go (n : Nat) (g : Int) (S : List Cell) : Out Unit := gO (vH S n) fun x => gP (x.done.length < 1000) <| match getK x.worn g with
  | none => .exc "NoGuest" (some (.int g)) S
  | some w => gP ((getK x.holder g).isSome = true) <| if w = g then .ok () (S.set n (hallC (x.go g))) else .exc "Masked" none S
noncomputable def n_Hall__exchange (n : Nat) (a b : Int) (S : List Cell) : Out Unit := gO (vH S n) fun x => gP (x.worn.length < 1000 ∧ x.holder.length < 1000 ∧ x.touched.length < 1000 ∧ x.done.length < 1000) <| match getK x.worn a with
  | none => .exc "NoGuest" (some (.int a)) S
  | some wa => match getK x.worn b with
    | none => .exc "NoGuest" (some (.int b)) S
    | some wb => if a = b then .exc "Same" none S else if (getK x.touched (Law.odp a b)).isSome = true then .exc "Met" none S else .ok () (S.set n (hallC (x.ex a b wa wb)))
noncomputable def n_Hall__inside (n : Nat) (g : Int) (S : List Cell) : Out Bool := gO (vH S n) fun x => .ok (getK x.worn g).isSome S
noncomputable def n_Hall__guests (n : Nat) (S : List Cell) : Out (List Int) := gO (vH S n) fun x => .ok (sI (x.worn.map (·.1))) S
noncomputable def n_Hall__wears (n : Nat) (g : Int) (S : List Cell) : Out Int := gO (vH S n) fun x => match getK x.worn g with
  | none => .exc "NoGuest" (some (.int g)) S
  | some w => .ok w S
noncomputable def n_Hall__wearer (n : Nat) (g : Int) (S : List Cell) : Out Int := gO (vH S n) fun x => if (getK x.worn g).isSome = true then gO (getK x.holder g) fun w => .ok w S else .exc "NoGuest" (some (.int g)) S
noncomputable def n_Hall__met (n : Nat) (a b : Int) (S : List Cell) : Out Bool := gO (vH S n) fun x => .ok (getK x.touched (Law.odp a b)).isSome S
def partF (g : Int) : List ((Int × Int) × Bool) → List Int
  | [] => []
  | p :: r => (if p.1.1 = g then [p.1.2] else []) ++ (if p.1.2 = g then [p.1.1] else []) ++ partF g r
noncomputable def n_Hall__partners (n : Nat) (g : Int) (S : List Cell) : Out (List Int) := gO (vH S n) fun x => gP (x.touched.length < 1000) <| .ok (sI (partF g x.touched)) S
noncomputable def n_Hall__pairs (n : Nat) (S : List Cell) : Out (List (Int × Int)) := gO (vH S n) fun x => .ok (sP (x.touched.map (·.1))) S
noncomputable def n_Hall__story (n : Nat) (S : List Cell) : Out (List Deed) := gO (vH S n) fun x => .ok x.done S
noncomputable def n_Hall__moment (n : Nat) (S : List Cell) : Out Int := gO (vH S n) fun x => .ok (x.done.length : Int) S
noncomputable def n_Hall__twin (n : Nat) (S : List Cell) : Out Nat := gO (vH S n) fun x => .ok S.length (S ++ [hallC x])
theorem isi_S {α β : Type} {a : α → Wz.D} {b : β → Wz.D} {T : String} {f : α → Bool} {g : β → Bool} (h1 : ∀ x, isiD T (a x) = some (.val (.bl (f x)))) (h2 : ∀ x, isiD T (b x) = some (.val (.bl (g x)))) (x : α ⊕ β) : isiD T (encS a b x) = some (.val (.bl (Sum.elim f g x))) := by
  cases x with
  | inl x => exact h1 x
  | inr x => exact h2 x
theorem isi_O {α : Type} {a : α → Wz.D} {T : String} {f : α → Bool} (h0 : isiD T .non = some (.val (.bl false))) (h1 : ∀ x, isiD T (a x) = some (.val (.bl (f x)))) (x : Option α) : isiD T (encO a x) = some (.val (.bl (Option.elim x false f))) := by
  cases x with
  | none => exact h0
  | some x => exact h1 x
/-! ### lists that may be none; boxes that may be none; += -/
def rvN {α : Type} (enc : α → Wz.D) : Option α → Rv
  | none => .val .non
  | some x => .new (enc x)
theorem vn_rvN {α : Type} {enc : α → Wz.D} (z : Option α) : isVN (rvN enc z) = true := by cases z <;> rfl
theorem slot_rvN {α : Type} {enc : α → Wz.D} {z : Option α} : slotOf false (rvN enc z) = some (.val (encO enc z)) := by cases z <;> rfl
theorem rd_onew {α : Type} {enc : α → Wz.D} {z : Option α} {S : List Cell} : (rvN enc z).read S = some (encO enc z) := by cases z <;> rfl
def bxV {α : Type} (S : List Cell) : Option α → Option Nat
  | none => none
  | some _ => some S.length
def bxS {α : Type} (enc : α → Wz.D) (S : List Cell) : Option α → List Cell
  | none => S
  | some x => S ++ [.box (enc x)]
noncomputable def oR {α : Type} (enc : α → Wz.D) (S : List Cell) : Option Nat → Option (Option α)
  | none => some none
  | some n => (vR enc S n).map some
theorem rd_oR {α : Type} {enc : α → Wz.D} {S : List Cell} {t : Option Nat} {y : Option α} (h : oR enc S t = some y) : (Rv.val (encO Wz.D.ref t)).read S = some (encO enc y) := by
  cases t with
  | none => cases h; rfl
  | some n =>
    have h' : (vR enc S n).map some = some y := h
    cases e : vR enc S n with
    | none => rw [e] at h'; cases h'
    | some x =>
      rw [e] at h'
      cases h'
      have z := rd_refR (vR_spec e)
      exact z
section
variable {α β γ σ τ : Type} {env : Nat → FnSpec} {np n0 : Nat} {l a b : Ss} {ρ ρ' : List Slot} {S S1 S2 S3 : List Cell} {k : List Ss} {e f : E} {es : Es} {t u : T} {d : Wz.D} {r ra rb : Rv} {i j n : Nat} {J : τ → List Cell → SOut → Prop}
theorem e_some {enc : α → Wz.D} {t : Option α} {v : α} (h : evE env e ρ S = .ok (.val (encO enc t)) S1) (ht : t = some v) : evE env e ρ S = .ok (.val (enc v)) S1 := by
  subst ht
  exact h
theorem e_boxN {enc : α → Wz.D} {z : Option α} (h : evE env e ρ S = .ok (rvN enc z) S1) : evE env (.box e) ρ S = .ok (.val (encO Wz.D.ref (bxV S1 z))) (bxS enc S1 z) := by
  show xBox _ _ _ = _
  unfold xBox
  rw [h]
  cases z <;> rfl
theorem re_box {m : Out α} {q : α → Rv} {enc : γ → Wz.D} {f : α → γ} (h : RE (evE env e ρ S) m q) (hq : ∀ a, q a = .new (enc (f a))) : RE (evE env (.box e) ρ S) (m.bind fun v S1 => .ok S1.length (S1 ++ [.box (enc (f v))])) (fun n => Rv.val (.ref n)) := by
  cases m with
  | ok v S1 =>
    have h' : evE env e ρ S = .ok (.new (enc (f v))) S1 := by rw [← hq v]; exact h
    exact e_box h' rfl rfl
  | exc c d S1 =>
    have h' : evE env e ρ S = .exc c d S1 := h
    show xBox _ _ _ = _
    unfold xBox
    rw [h']
    rfl
  | stuck => trivial
theorem i_enumS {c : Int} {enc : α → Wz.D} {xs : List α} {r : Rv} (ha : evE env e ρ S = .ok r S1) (hb : boxL S1 r = none) (hf : r.fz = some (encL enc xs)) : evI env (.enumS c e) ρ S = .ok ⟨((List.range xs.length).zip xs).map (encP (fun (k : Nat) => Wz.D.int (c + (k : Nat))) enc), none⟩ S1 := by
  show xItsL (enumDk c) _ _ _ = _
  unfold xItsL
  rw [ha, Out.bind_ok, hb]
  dsimp only
  rw [hf]
  show Out.ok (Its.mk (enumDk c (xs.map enc)) none) S1 = _
  unfold enumDk
  rw [List.length_map, List.zip_map_right, List.map_map]
  rfl
theorem g_aug {enc : α → Wz.D} {xs ys : List α} {R : List α → List Slot} {rest : List α → Out τ} (h : ρ[i]? = some (.own (encL enc xs))) (he : evE env e ρ S = .ok r S1) (hv : r.fz = some (encL enc ys)) (hn : ∀ w, ρ.set i (.own (encL enc w)) = R w) (kk : ∀ w, Go env np n0 l (R w) S1 k (fun x => RX x (rest w) J)) : Go env np n0 (.cons (.aug i e) l) ρ S k (fun x => RX x (gP (xs.length + ys.length ≤ 16777216) (letK (xs ++ ys) rest)) J) := by
  refine g_gP fun hl => ?_
  refine go_cons (ρ' := R (xs ++ ys)) (S1 := S1) ?_ (kk (xs ++ ys))
  show sAug i _ n0 ρ S = _
  unfold sAug
  rw [h]
  show sE (evE env e ρ S) ρ _ = _
  rw [he, sE_ok, hv]
  show (if (xs.map enc).length + (ys.map enc).length ≤ lim then _ else _) = _
  rw [List.length_map, List.length_map, if_pos (show xs.length + ys.length ≤ lim from hl), ← hn]
  unfold encL
  rw [List.map_append]
theorem g_augI {x y : Int} {R : Int → List Slot} {rest : Int → Out τ} (h : ρ[i]? = some (.val (.int x))) (he : evE env e ρ S = .ok r S1) (hv : r.read S1 = some (.int y)) (hn : ∀ w, ρ.set i (.val (.int w)) = R w) (kk : ∀ w, Go env np n0 l (R w) S1 k (fun x => RX x (rest w) J)) : Go env np n0 (.cons (.augI i e) l) ρ S k (fun z => RX z (letK (x + y) rest) J) := by
  refine go_cons (ρ' := R (x + y)) (S1 := S1) ?_ (kk (x + y))
  show sAugI i _ n0 ρ S = _
  unfold sAugI
  rw [h]
  show sE (evE env e ρ S) ρ _ = _
  rw [he, sE_ok, hv, ← hn]
def setI {α : Type} (l : List α) (k : Int) (v : α) : Option (List α) := (L2.ixN l.length k).map fun j => l.set j v
theorem g_subL {enc : β → Wz.D} {w : List β} {kx : Int} {v : β} {R : List β → List Slot} {rest : List β → Out τ} (h : ρ[i]? = some (.own (encL enc w))) (he : evE env e ρ S = .ok r S1) (hf : evE env f ρ S1 = .ok ra S2) (hx : ra.read S2 = some (.int kx)) (hv : r.fz = some (enc v)) (hn : ∀ w, ρ.set i (.own (encL enc w)) = R w) (kk : ∀ w, Go env np n0 l (R w) S2 k (fun x => RX x (rest w) J)) : Go env np n0 (.cons (.sub i f e) l) ρ S k (fun x => RX x (gO (setI w kx v) rest) J) := by
  refine g_gO fun w' hw => ?_
  refine go_sub (d' := encL enc w') h he hf hx hv ?_ (hn _) (kk _)
  unfold setI at hw
  cases ej : L2.ixN w.length kx with
  | none => rw [ej] at hw; cases hw
  | some j =>
    rw [ej] at hw
    cases hw
    show (match L2.ixN (w.map enc).length kx with
      | some j => some (Wz.D.lst ((w.map enc).set j (enc v)))
      | none => none) = _
    rw [List.length_map, ej]
    show some (Wz.D.lst ((w.map enc).set j (enc v))) = some (Wz.D.lst ((w.set j v).map enc))
    rw [List.map_set]
end
end Wz

set_option Elab.async false
set_option linter.all false
set_option maxRecDepth 100000
set_option maxHeartbeats 1000000
namespace Wz
open PySem PySem.Spec PyProof.Rows L2

/-! ### reckoning with native programs -/
section
variable {α β γ σ τ δ : Type}
@[simp] theorem bindX_ok (a : α) (S : List Cell) (k : α → List Cell → Out β) : (Out.ok a S).bindX k = k a S := rfl
@[simp] theorem bind_id (m : Out α) : (m.bind fun v S => .ok v S) = m := by cases m <;> rfl
@[simp] theorem bindR_inl (s : σ) (S : List Cell) (inj : γ → τ) (k : σ → List Cell → Out τ) : (Out.ok (Sum.inl s) S : Out (σ ⊕ γ)).bindR inj k = k s S := rfl
@[simp] theorem bindR_inr (r : γ) (S : List Cell) (inj : γ → τ) (k : σ → List Cell → Out τ) : (Out.ok (Sum.inr r) S : Out (σ ⊕ γ)).bindR inj k = .ok (inj r) S := rfl
@[simp] theorem bindR_exc (c : Str) (d : Option Wz.D) (S : List Cell) (inj : γ → τ) (k : σ → List Cell → Out τ) : (Out.exc c d S : Out (σ ⊕ γ)).bindR inj k = .exc c d S := rfl
@[simp] theorem gO_some (v : α) (k : α → Out β) : gO (some v) k = k v := rfl
@[simp] theorem letK_eq (v : α) (k : α → Out β) : letK v k = k v := rfl
@[simp] theorem stK_eq (S : List Cell) (k : List Cell → Out β) : stK S k = k S := rfl
@[simp] theorem tryN_ok (a : α) (S : List Cell) (h : Str → Option Wz.D → List Cell → Out α) : tryN (.ok a S) h = .ok a S := rfl
@[simp] theorem tryN_exc (c : Str) (d : Option Wz.D) (S : List Cell) (h : Str → Option Wz.D → List Cell → Out α) : tryN (.exc c d S) h = h c d S := rfl
@[simp] theorem noXO_ok (a : α) (S : List Cell) : noXO (.ok a S) = .ok a S := rfl
theorem gP_pos {p : Prop} [Decidable p] {k : Out β} (h : p) : gP p k = k := if_pos h
theorem unlO_ok {n : Nat} {d : Wz.D} {a : α} {S : List Cell} (h : S[n]? = some (.lbx d)) : unlO n d (.ok a S) = .ok a (S.set n (.box d)) := gC_pos h
theorem gO_eq {o : Option α} {v : α} {k : α → Out β} (h : o = some v) : gO o k = k v := by rw [h]; rfl
@[simp] theorem foldR_nil (B : σ → β → List Cell → Out (σ ⊕ γ)) (s : σ) (S : List Cell) : foldR B [] s S = .ok (.inl s) S := rfl
theorem foldR_cons (B : σ → β → List Cell → Out (σ ⊕ γ)) (x : β) (r : List β) (s : σ) (S : List Cell) : foldR B (x :: r) s S = (B s x S).bindR .inr fun s' S' => foldR B r s' S' := rfl
@[simp] theorem foldO_nil (B : σ → β → List Cell → Out σ) (s : σ) (S : List Cell) : foldO B [] s S = .ok s S := rfl
theorem foldO_cons (B : σ → β → List Cell → Out σ) (x : β) (r : List β) (s : σ) (S : List Cell) : foldO B (x :: r) s S = (B s x S).bind fun s' S' => foldO B r s' S' := rfl
/-- a loop that changes nothing in the store; P by what is done -/
theorem foldO_run {B : σ → β → List Cell → Out σ} {S : List Cell} (f : σ → β → σ) (P : Nat → σ → Prop) : ∀ (xs : List β) (s : σ) (i : Nat), P i s → (∀ x s j, x ∈ xs → j < i + xs.length → P j s → B s x S = .ok (f s x) S ∧ P (j + 1) (f s x)) → foldO B xs s S = .ok (xs.foldl f s) S ∧ P (i + xs.length) (xs.foldl f s)
  | [], s, i, h, _ => ⟨rfl, h⟩
  | x :: r, s, i, h, k => by
    rw [List.length_cons] at k
    obtain ⟨e, h2⟩ := k x s i List.mem_cons_self (by omega) h
    rw [foldO_cons, e, Out.bind_ok]
    have := foldO_run f P r (f s x) (i + 1) h2 fun y s j hy hj => k y s j (List.mem_cons_of_mem _ hy) (by omega)
    rw [List.length_cons, show i + (r.length + 1) = i + 1 + r.length by omega]
    exact this
theorem foldl_swap (f : α × β → γ → α × β) : ∀ (xs : List γ) (a : α × β), xs.foldl (fun (s : β × α) x => ((f (s.2, s.1) x).2, (f (s.2, s.1) x).1)) (a.2, a.1) = ((xs.foldl f a).2, (xs.foldl f a).1)
  | [], a => rfl
  | x :: r, a => foldl_swap f r (f a x)
/-- .. in general -/
theorem foldO_ev {B : σ → β → List Cell → Out σ} (I : List β → σ → List Cell → Prop) : ∀ (xs pre : List β) (s : σ) (S : List Cell), I pre s S → (∀ pre' x post s S, pre ++ xs = pre' ++ x :: post → pre.length ≤ pre'.length → I pre' s S → ∃ s' S', B s x S = .ok s' S' ∧ I (pre' ++ [x]) s' S') →
    ∃ s' S', foldO B xs s S = .ok s' S' ∧ I (pre ++ xs) s' S'
  | [], pre, s, S, h, _ => ⟨s, S, rfl, by rw [List.append_nil]; exact h⟩
  | x :: r, pre, s, S, h, k => by
    obtain ⟨s', S', e, h2⟩ := k pre x r s S rfl (Nat.le_refl _) h
    rw [foldO_cons, e, Out.bind_ok]
    have := foldO_ev I r (pre ++ [x]) s' S' h2 fun pre' y post s S q hl => k pre' y post s S (by rw [← q]; simp) (by simp at hl; omega)
    rw [List.append_assoc] at this
    exact this
theorem foldR_ev {B : σ → β → List Cell → Out (σ ⊕ γ)} (I : List β → σ → List Cell → Prop) : ∀ (xs pre : List β) (s : σ) (S : List Cell), I pre s S → (∀ pre' x post s S, pre ++ xs = pre' ++ x :: post → pre.length ≤ pre'.length → I pre' s S → ∃ s' S', B s x S = .ok (.inl s') S' ∧ I (pre' ++ [x]) s' S') →
    ∃ s' S', foldR B xs s S = .ok (.inl s') S' ∧ I (pre ++ xs) s' S'
  | [], pre, s, S, h, _ => ⟨s, S, rfl, by rw [List.append_nil]; exact h⟩
  | x :: r, pre, s, S, h, k => by
    obtain ⟨s', S', e, h2⟩ := k pre x r s S rfl (Nat.le_refl _) h
    rw [foldR_cons, e, bindR_inl]
    have := foldR_ev I r (pre ++ [x]) s' S' h2 fun pre' y post s S q hl => k pre' y post s S (by rw [← q]; simp) (by simp at hl; omega)
    rw [List.append_assoc] at this
    exact this
/-- a loop none of whose turns does anything -/
theorem foldR_skip {B : Unit → β → List Cell → Out (Unit ⊕ γ)} {S : List Cell} : ∀ (xs : List β), (∀ x ∈ xs, B () x S = .ok (.inl ()) S) → foldR B xs () S = .ok (.inl ()) S
  | [], _ => rfl
  | x :: r, h => by
    rw [foldR_cons, h x List.mem_cons_self, bindR_inl]
    exact foldR_skip r fun y hy => h y (List.mem_cons_of_mem _ hy)
theorem foldB_ev {G : List Cell → Prop} {B : σ → β → List Cell → Out σ} (I : List β → σ → List Cell → Prop) (hG : ∀ l s S, I l s S → G S) : ∀ (xs pre : List β) (s : σ) (S : List Cell), I pre s S → (∀ pre' x post s S, pre ++ xs = pre' ++ x :: post → pre.length ≤ pre'.length → I pre' s S → ∃ s' S', B s x S = .ok s' S' ∧ I (pre' ++ [x]) s' S') →
    ∃ s' S', foldB G B xs s S = .ok s' S' ∧ I (pre ++ xs) s' S'
  | [], pre, s, S, h, _ => ⟨s, S, gC_pos (hG _ _ _ h), by rw [List.append_nil]; exact h⟩
  | x :: r, pre, s, S, h, k => by
    obtain ⟨s', S', e, h2⟩ := k pre x r s S rfl (Nat.le_refl _) h
    rw [show foldB G B (x :: r) s S = gC (G S) ((B s x S).bind fun s' S' => foldB G B r s' S') from rfl, gC_pos (hG _ _ _ h), e, Out.bind_ok]
    have := foldB_ev I hG r (pre ++ [x]) s' S' h2 fun pre' y post s S q hl => k pre' y post s S (by rw [← q]; simp) (by simp at hl; omega)
    rw [List.append_assoc] at this
    exact this
theorem lcO_run {C : β → List Cell → Out Bool} {E : β → List Cell → Out γ} {S : List Cell} (p : β → Bool) (f : β → γ) : ∀ (xs : List β), (∀ x ∈ xs, C x S = .ok (p x) S) → (∀ x ∈ xs, p x = true → E x S = .ok (f x) S) → lcO C E xs S = .ok ((xs.filter p).map f) S
  | [], _, _ => rfl
  | x :: r, h1, h2 => by
    have ih := lcO_run p f r (fun y hy => h1 y (List.mem_cons_of_mem _ hy)) (fun y hy => h2 y (List.mem_cons_of_mem _ hy))
    show (C x S).bindX _ = _
    rw [h1 x List.mem_cons_self, bindX_ok]
    cases hp : p x with
    | false =>
      rw [if_neg (by decide), ih, List.filter_cons_of_neg (by rw [hp]; decide)]
    | true =>
      rw [if_pos rfl, h2 x List.mem_cons_self hp, bindX_ok, ih, bindX_ok, List.filter_cons_of_pos hp, List.map_cons]
theorem lcO_map {E : β → List Cell → Out γ} {S : List Cell} (f : β → γ) (xs : List β) (h : ∀ x ∈ xs, E x S = .ok (f x) S) : lcO (fun _ S => .ok true S) E xs S = .ok (xs.map f) S := by
  rw [lcO_run (fun _ => true) f xs (fun _ _ => rfl) (fun x hx _ => h x hx), List.filter_eq_self.mpr (fun _ _ => rfl)]
theorem lcB_map {G : List Cell → Prop} {E : β → List Cell → Out γ} {S : List Cell} (hG : G S) (f : β → γ) : ∀ (xs : List β), (∀ x ∈ xs, E x S = .ok (f x) S) → lcB G (fun _ S => .ok true S) E xs S = .ok (xs.map f) S
  | [], _ => gC_pos hG
  | x :: r, h => by
    show gC (G S) _ = _
    rw [gC_pos hG, bindX_ok, if_pos rfl, h x List.mem_cons_self, bindX_ok, lcB_map hG f r fun y hy => h y (List.mem_cons_of_mem _ hy), bindX_ok, List.map_cons]
theorem whlO_ev {C : σ → List Cell → Out Bool} {B : σ → List Cell → Out σ} (I : σ → List Cell → Prop) (μ : σ → Nat) (c : σ → List Cell → Bool) (hC : ∀ s S, I s S → C s S = .ok (c s S) S) (hB : ∀ s S, I s S → c s S = true → ∃ s' S', B s S = .ok s' S' ∧ I s' S' ∧ μ s' < μ s) :
    ∀ (n : Nat) (s : σ) (S : List Cell), I s S → μ s < n → ∃ s' S', whlO C B n s S = .ok s' S' ∧ I s' S' ∧ c s' S' = false
  | 0, s, S, _, h => by omega
  | n + 1, s, S, h, hm => by
    show ∃ s' S', (C s S).bindX _ = _ ∧ _
    rw [hC s S h, bindX_ok]
    cases hc : c s S with
    | false => exact ⟨s, S, by rw [if_neg (by decide)], h, hc⟩
    | true =>
      obtain ⟨s', S', e, h2, h3⟩ := hB s S h hc
      rw [if_pos rfl, e, Out.bind_ok]
      exact whlO_ev I μ c hC hB n s' S' h2 (by omega)
end
section
variable {β γ σ τ : Type}
theorem ex_foldR {B : σ → β → List Cell → Out (σ ⊕ γ)} {inj : γ → τ} {k : σ → List Cell → Out τ} {v : τ} {xs : List β} {s : σ} {S : List Cell} (I : List β → σ → List Cell → Prop) (h0 : I [] s S) (hs : ∀ pre x post s S, xs = pre ++ x :: post → I pre s S → ∃ s' S', B s x S = .ok (.inl s') S' ∧ I (pre ++ [x]) s' S') (hk : ∀ s S, I xs s S → ∃ S', k s S = .ok v S') : ∃ S', (foldR B xs s S).bindR inj k = .ok v S' := by
  obtain ⟨s', S', e, h⟩ := foldR_ev I xs [] s S h0 fun pre x post s S q _ => hs pre x post s S q
  rw [e, bindR_inl]
  exact hk s' S' h
theorem ev_foldO {B : σ → β → List Cell → Out σ} {k : σ → List Cell → Out τ} {xs : List β} {s : σ} {S : List Cell} (Q : τ → List Cell → Prop) (I : List β → σ → List Cell → Prop) (h0 : I [] s S) (hs : ∀ pre x post s S, xs = pre ++ x :: post → I pre s S → ∃ s' S', B s x S = .ok s' S' ∧ I (pre ++ [x]) s' S') (hk : ∀ s S, I xs s S → ∃ a S', k s S = .ok a S' ∧ Q a S') : ∃ a S', (foldO B xs s S).bind k = .ok a S' ∧ Q a S' := by
  obtain ⟨s', S', e, h⟩ := foldO_ev I xs [] s S h0 fun pre x post s S q _ => hs pre x post s S q
  rw [e, Out.bind_ok]
  exact hk s' S' h
theorem ev_foldB {G : List Cell → Prop} {B : σ → β → List Cell → Out σ} {k : σ → List Cell → Out τ} {xs : List β} {s : σ} {S : List Cell} (Q : τ → List Cell → Prop) (I : List β → σ → List Cell → Prop) (hG : ∀ l s S, I l s S → G S) (h0 : I [] s S) (hs : ∀ pre x post s S, xs = pre ++ x :: post → I pre s S → ∃ s' S', B s x S = .ok s' S' ∧ I (pre ++ [x]) s' S') (hk : ∀ s S, I xs s S → ∃ a S', k s S = .ok a S' ∧ Q a S') : ∃ a S', (foldB G B xs s S).bind k = .ok a S' ∧ Q a S' := by
  obtain ⟨s', S', e, h⟩ := foldB_ev I hG xs [] s S h0 fun pre x post s S q _ => hs pre x post s S q
  rw [e, Out.bind_ok]
  exact hk s' S' h
theorem ev_foldR {B : σ → β → List Cell → Out (σ ⊕ γ)} {inj : γ → τ} {k : σ → List Cell → Out τ} {xs : List β} {s : σ} {S : List Cell} (Q : τ → List Cell → Prop) (I : List β → σ → List Cell → Prop) (h0 : I [] s S) (hs : ∀ pre x post s S, xs = pre ++ x :: post → I pre s S → ∃ s' S', B s x S = .ok (.inl s') S' ∧ I (pre ++ [x]) s' S') (hk : ∀ s S, I xs s S → ∃ a S', k s S = .ok a S' ∧ Q a S') : ∃ a S', (foldR B xs s S).bindR inj k = .ok a S' ∧ Q a S' := by
  obtain ⟨s', S', e, h⟩ := foldR_ev I xs [] s S h0 fun pre x post s S q _ => hs pre x post s S q
  rw [e, bindR_inl]
  exact hk s' S' h
theorem ex_foldB {G : List Cell → Prop} {B : σ → β → List Cell → Out σ} {k : σ → List Cell → Out τ} {v : τ} {xs : List β} {s : σ} {S : List Cell} (I : List β → σ → List Cell → Prop) (hG : ∀ l s S, I l s S → G S) (h0 : I [] s S) (hs : ∀ pre x post s S, xs = pre ++ x :: post → I pre s S → ∃ s' S', B s x S = .ok s' S' ∧ I (pre ++ [x]) s' S') (hk : ∀ s S, I xs s S → ∃ S', k s S = .ok v S') : ∃ S', (foldB G B xs s S).bind k = .ok v S' := by
  obtain ⟨s', S', e, h⟩ := foldB_ev I hG xs [] s S h0 fun pre x post s S q _ => hs pre x post s S q
  rw [e, Out.bind_ok]
  exact hk s' S' h
theorem ex_foldO {B : σ → β → List Cell → Out σ} {k : σ → List Cell → Out τ} {v : τ} {xs : List β} {s : σ} {S : List Cell} (I : List β → σ → List Cell → Prop) (h0 : I [] s S) (hs : ∀ pre x post s S, xs = pre ++ x :: post → I pre s S → ∃ s' S', B s x S = .ok s' S' ∧ I (pre ++ [x]) s' S') (hk : ∀ s S, I xs s S → ∃ S', k s S = .ok v S') : ∃ S', (foldO B xs s S).bind k = .ok v S' := by
  obtain ⟨s', S', e, h⟩ := foldO_ev I xs [] s S h0 fun pre x post s S q _ => hs pre x post s S q
  rw [e, Out.bind_ok]
  exact hk s' S' h
end
theorem law_of {sp : FnSpec} {ns : List Int} {m : Out Bool} {S : List Cell} (h : RFn (sp.run [.scr ns] []) m (fun z => Rv.val (.bl z))) (e : m = .ok true S) : ∃ outs S, sp.run [.scr ns] [] = .ok (.val (.bl true)) outs S := by
  subst e
  obtain ⟨outs, e⟩ := h
  exact ⟨outs, S, e⟩
theorem vR_box {α : Type} {enc : α → Wz.D} [h : Ij enc] {S : List Cell} {n : Nat} {x : α} (q : S[n]? = some (.box (enc x))) : vR enc S n = some x := vR_get (.inl q)
theorem vR_lbx {α : Type} {enc : α → Wz.D} [h : Ij enc] {S : List Cell} {n : Nat} {x : α} (q : S[n]? = some (.lbx (enc x))) : vR enc S n = some x := vR_get (.inr q)
theorem get_app {S : List Cell} {n : Nat} {c d : Cell} (h : S[n]? = some c) : (S ++ [d])[n]? = some c := by
  rw [List.getElem?_append_left (get_lt h)]
  exact h
theorem get_last {S : List Cell} {c : Cell} : (S ++ [c])[S.length]? = some c := by simp
theorem get_ne {S : List Cell} {n m : Nat} {c d : Cell} (h : S[n]? = some c) (hn : m ≠ n) : (S.set m d)[n]? = some c := by
  rw [List.getElem?_set_ne hn]
  exact h
/-! words -/
@[simp] theorem wd0 : ((("come" : Str) = "go")) = False := eq_false (by decide)
@[simp] theorem wd1 : ((("come" : Str) = "exchange")) = False := eq_false (by decide)
@[simp] theorem wd2 : ((("go" : Str) = "come")) = False := eq_false (by decide)
@[simp] theorem wd3 : ((("go" : Str) = "exchange")) = False := eq_false (by decide)
@[simp] theorem wd4 : ((("exchange" : Str) = "come")) = False := eq_false (by decide)
@[simp] theorem wd5 : ((("exchange" : Str) = "go")) = False := eq_false (by decide)
@[simp] theorem wd6 : ((("done" : Str) = "AlreadyIn")) = False := eq_false (by decide)
@[simp] theorem wd7 : ((("done" : Str) = "Masked")) = False := eq_false (by decide)
@[simp] theorem wd8 : ((("done" : Str) = "Same")) = False := eq_false (by decide)
@[simp] theorem wd9 : ((("done" : Str) = "Met")) = False := eq_false (by decide)
@[simp] theorem wd10 : ((("done" : Str) = "NoGuest")) = False := eq_false (by decide)
@[simp] theorem wd11 : ((("done" : Str) = "back")) = False := eq_false (by decide)
@[simp] theorem wd12 : ((("AlreadyIn" : Str) = "done")) = False := eq_false (by decide)
@[simp] theorem wd13 : ((("AlreadyIn" : Str) = "Masked")) = False := eq_false (by decide)
@[simp] theorem wd14 : ((("AlreadyIn" : Str) = "Same")) = False := eq_false (by decide)
@[simp] theorem wd15 : ((("AlreadyIn" : Str) = "Met")) = False := eq_false (by decide)
@[simp] theorem wd16 : ((("AlreadyIn" : Str) = "NoGuest")) = False := eq_false (by decide)
@[simp] theorem wd17 : ((("AlreadyIn" : Str) = "back")) = False := eq_false (by decide)
@[simp] theorem wd18 : ((("Masked" : Str) = "done")) = False := eq_false (by decide)
@[simp] theorem wd19 : ((("Masked" : Str) = "AlreadyIn")) = False := eq_false (by decide)
@[simp] theorem wd20 : ((("Masked" : Str) = "Same")) = False := eq_false (by decide)
@[simp] theorem wd21 : ((("Masked" : Str) = "Met")) = False := eq_false (by decide)
@[simp] theorem wd22 : ((("Masked" : Str) = "NoGuest")) = False := eq_false (by decide)
@[simp] theorem wd23 : ((("Masked" : Str) = "back")) = False := eq_false (by decide)
@[simp] theorem wd24 : ((("Same" : Str) = "done")) = False := eq_false (by decide)
@[simp] theorem wd25 : ((("Same" : Str) = "AlreadyIn")) = False := eq_false (by decide)
@[simp] theorem wd26 : ((("Same" : Str) = "Masked")) = False := eq_false (by decide)
@[simp] theorem wd27 : ((("Same" : Str) = "Met")) = False := eq_false (by decide)
@[simp] theorem wd28 : ((("Same" : Str) = "NoGuest")) = False := eq_false (by decide)
@[simp] theorem wd29 : ((("Same" : Str) = "back")) = False := eq_false (by decide)
@[simp] theorem wd30 : ((("Met" : Str) = "done")) = False := eq_false (by decide)
@[simp] theorem wd31 : ((("Met" : Str) = "AlreadyIn")) = False := eq_false (by decide)
@[simp] theorem wd32 : ((("Met" : Str) = "Masked")) = False := eq_false (by decide)
@[simp] theorem wd33 : ((("Met" : Str) = "Same")) = False := eq_false (by decide)
@[simp] theorem wd34 : ((("Met" : Str) = "NoGuest")) = False := eq_false (by decide)
@[simp] theorem wd35 : ((("Met" : Str) = "back")) = False := eq_false (by decide)
@[simp] theorem wd36 : ((("NoGuest" : Str) = "done")) = False := eq_false (by decide)
@[simp] theorem wd37 : ((("NoGuest" : Str) = "AlreadyIn")) = False := eq_false (by decide)
@[simp] theorem wd38 : ((("NoGuest" : Str) = "Masked")) = False := eq_false (by decide)
@[simp] theorem wd39 : ((("NoGuest" : Str) = "Same")) = False := eq_false (by decide)
@[simp] theorem wd40 : ((("NoGuest" : Str) = "Met")) = False := eq_false (by decide)
@[simp] theorem wd41 : ((("NoGuest" : Str) = "back")) = False := eq_false (by decide)
@[simp] theorem wd42 : ((("back" : Str) = "done")) = False := eq_false (by decide)
@[simp] theorem wd43 : ((("back" : Str) = "AlreadyIn")) = False := eq_false (by decide)
@[simp] theorem wd44 : ((("back" : Str) = "Masked")) = False := eq_false (by decide)
@[simp] theorem wd45 : ((("back" : Str) = "Same")) = False := eq_false (by decide)
@[simp] theorem wd46 : ((("back" : Str) = "Met")) = False := eq_false (by decide)
@[simp] theorem wd47 : ((("back" : Str) = "NoGuest")) = False := eq_false (by decide)
/-! ### dicts -/
section
variable {κ β : Type} [DecidableEq κ] {l : List (κ × β)} {k j : κ} {v : β}
theorem getK_del : getK (delK l k) j = if k = j then none else getK l j := by
  induction l with
  | nil => simp [delK, getK_nil]
  | cons p l ih =>
    unfold delK at ih ⊢
    by_cases h : p.1 = k
    · rw [List.filter_cons_of_neg (by simp [h]), ih, getK_cons]
      by_cases h2 : k = j
      · rw [if_pos h2, if_pos h2]
      · rw [if_neg h2, if_neg h2, if_neg (by rw [h]; exact h2)]
    · rw [List.filter_cons_of_pos (by simp [h]), getK_cons, getK_cons, ih]
      by_cases h2 : k = j
      · rw [if_pos h2, if_pos h2, if_neg (by rw [← h2]; exact h)]
      · rw [if_neg h2, if_neg h2]
theorem setK_len_some (h : (getK l k).isSome = true) : (setK l k v).length = l.length := by
  unfold setK
  rw [any_get, if_pos h, List.length_map]
theorem delK_len : (delK l k).length ≤ l.length := List.length_filter_le _ _
theorem delK_nodup (h : (l.map (·.1)).Nodup) : ((delK l k).map (·.1)).Nodup := by
  unfold delK
  exact h.sublist (List.Sublist.map _ List.filter_sublist)
theorem mem_setK {p : κ × β} (h : p ∈ setK l k v) : p = (k, v) ∨ p ∈ l := by
  unfold setK at h
  split at h
  · obtain ⟨q, hq, e⟩ := List.mem_map.mp h
    split at e
    · rename_i z
      subst e
      exact .inl (by rw [z])
    · subst e
      exact .inr hq
  · rcases List.mem_append.mp h with h | h
    · exact .inr h
    · exact .inl (List.mem_singleton.mp h)
end
section
variable {S : List Cell} {n : Nat} {x : HS} (h : vH S n = some x)
include h
theorem nh_guests : n_Hall__guests n S = .ok (sI (x.worn.map (·.1))) S := by unfold n_Hall__guests; rw [gO_eq h]
theorem nh_inside (g : Int) : n_Hall__inside n g S = .ok (getK x.worn g).isSome S := by unfold n_Hall__inside; rw [gO_eq h]
theorem nh_wears {g w : Int} (e : getK x.worn g = some w) : n_Hall__wears n g S = .ok w S := by unfold n_Hall__wears; rw [gO_eq h, e]
theorem nh_wearsN {g : Int} (e : getK x.worn g = none) : n_Hall__wears n g S = .exc "NoGuest" (some (.int g)) S := by unfold n_Hall__wears; rw [gO_eq h, e]
theorem nh_wearer {m g : Int} (e : (getK x.worn m).isSome = true) (e2 : getK x.holder m = some g) : n_Hall__wearer n m S = .ok g S := by unfold n_Hall__wearer; rw [gO_eq h, if_pos e, e2, gO_some]
theorem nh_wearerN {m : Int} (e : getK x.worn m = none) : n_Hall__wearer n m S = .exc "NoGuest" (some (.int m)) S := by unfold n_Hall__wearer; rw [gO_eq h, if_neg (by rw [e]; decide)]
theorem nh_met (a b : Int) : n_Hall__met n a b S = .ok (getK x.touched (Law.odp a b)).isSome S := by unfold n_Hall__met; rw [gO_eq h]
theorem nh_partners (g : Int) (l : x.touched.length < 1000) : n_Hall__partners n g S = .ok (sI (partF g x.touched)) S := by unfold n_Hall__partners; rw [gO_eq h, gP_pos l]
theorem nh_pairs : n_Hall__pairs n S = .ok (sP (x.touched.map (·.1))) S := by unfold n_Hall__pairs; rw [gO_eq h]
theorem nh_story : n_Hall__story n S = .ok x.done S := by unfold n_Hall__story; rw [gO_eq h]
theorem nh_moment : n_Hall__moment n S = .ok (x.done.length : Int) S := by unfold n_Hall__moment; rw [gO_eq h]
end
/-! ### the plain model and the hall -/
abbrev IT : List ((Int × Int) × Bool) → List ((Int × Int) × Bool) := id
def aftW (w : List (Int × Int)) : Deed → List (Int × Int)
  | .come g => setK w g g
  | .go g => delK w g
  | .ex a b => setK (setK w a ((getK w b).getD 0)) b ((getK w a).getD 0)
def aftT (mt : List ((Int × Int) × Bool)) : Deed → List ((Int × Int) × Bool)
  | .ex a b => setK mt (Law.odp a b) true
  | _ => mt
def HS.step (x : HS) : Deed → HS
  | .come g => x.come g
  | .go g => x.go g
  | .ex a b => x.ex a b ((getK x.worn a).getD 0) ((getK x.worn b).getD 0)
abbrev okM (w : List (Int × Int)) (mt : List ((Int × Int) × Bool)) (d : Deed) : Prop := (dueM w mt d).1 = "done"
theorem step_worn (x : HS) (d : Deed) : (x.step d).worn = aftW x.worn d := by cases d <;> rfl
theorem step_touched (x : HS) (d : Deed) : (x.step d).touched = aftT x.touched d := by cases d <;> rfl
theorem step_done (x : HS) (d : Deed) : (x.step d).done = x.done ++ [d] := by cases d <;> rfl
structure HInv (x : HS) : Prop where
  nd : (x.worn.map (·.1)).Nodup
  wh : ∀ g w, getK x.worn g = some w → getK x.holder w = some g
  hw : ∀ w g, getK x.holder w = some g → getK x.worn g = some w
  ks : ∀ g, (getK x.worn g).isSome = (getK x.holder g).isSome
  tp : ∀ p ∈ x.touched, p.1.1 < p.1.2
  l1 : x.worn.length ≤ x.done.length
  l2 : x.holder.length ≤ x.done.length
  l3 : x.touched.length ≤ x.done.length
theorem hinv0 : HInv hs0 := ⟨List.nodup_nil, fun _ _ h => (by cases h), fun _ _ h => (by cases h), fun _ => rfl, fun _ h => (by cases h), Nat.le_refl _, Nat.le_refl _, Nat.le_refl _⟩
theorem odp_lt {a b : Int} (h : ¬ a = b) : (Law.odp a b).1 < (Law.odp a b).2 := by
  unfold Law.odp
  split
  · assumption
  · show a < b
    omega
theorem ok_come {w : List (Int × Int)} {mt : List ((Int × Int) × Bool)} {g : Int} : okM w mt (.come g) ↔ getK w g = none := by
  show ((if (getK w g).isSome = true then (("AlreadyIn" : Str), (none : Option Int)) else ("done", none)) : Str × Option Int).1 = "done" ↔ _
  cases getK w g with
  | none => exact ⟨fun _ => rfl, fun _ => rfl⟩
  | some z => exact ⟨fun h => absurd (show ("AlreadyIn" : Str) = "done" from h) (by decide), fun h => by cases h⟩
theorem ok_go {w : List (Int × Int)} {mt : List ((Int × Int) × Bool)} {g : Int} : okM w mt (.go g) ↔ getK w g = some g := by
  show ((match getK w g with
    | none => (("NoGuest" : Str), some g)
    | some m => if m = g then ("done", none) else ("Masked", none)) : Str × Option Int).1 = "done" ↔ _
  cases getK w g with
  | none => exact ⟨fun h => absurd (show ("NoGuest" : Str) = "done" from h) (by decide), fun h => by cases h⟩
  | some m =>
    dsimp only
    by_cases h : m = g
    · rw [if_pos h, h]; exact ⟨fun _ => rfl, fun _ => rfl⟩
    · rw [if_neg h]; exact ⟨fun q => absurd q (by decide), fun q => absurd (Option.some.inj q) h⟩
theorem ok_ex {w : List (Int × Int)} {mt : List ((Int × Int) × Bool)} {a b : Int} : okM w mt (.ex a b) ↔ (getK w a).isSome = true ∧ (getK w b).isSome = true ∧ ¬ a = b ∧ ¬ (getK mt (Law.odp a b)).isSome = true := by
  show ((if (getK w a).isSome = false then (("NoGuest" : Str), some a) else if (getK w b).isSome = false then ("NoGuest", some b) else if a = b then ("Same", none) else if (getK mt (Law.odp a b)).isSome = true then ("Met", none) else ("done", none)) : Str × Option Int).1 = "done" ↔ _
  cases (getK w a).isSome with
  | false => rw [if_pos rfl]; exact ⟨fun h => absurd (show ("NoGuest" : Str) = "done" from h) (by decide), fun h => by cases h.1⟩
  | true =>
    rw [if_neg (by decide)]
    cases (getK w b).isSome with
    | false => rw [if_pos rfl]; exact ⟨fun h => absurd (show ("NoGuest" : Str) = "done" from h) (by decide), fun h => by cases h.2.1⟩
    | true =>
      rw [if_neg (by decide)]
      by_cases h : a = b
      · rw [if_pos h]; exact ⟨fun h => absurd h (by decide), fun q => absurd h q.2.2.1⟩
      · rw [if_neg h]
        by_cases h2 : (getK mt (Law.odp a b)).isSome = true
        · rw [if_pos h2]; exact ⟨fun h => absurd h (by decide), fun q => absurd h2 q.2.2.2⟩
        · rw [if_neg h2]; exact ⟨fun _ => ⟨rfl, rfl, h, h2⟩, fun _ => rfl⟩
theorem hinv_step {x : HS} {d : Deed} (h : HInv x) (ok : okM x.worn x.touched d) : HInv (x.step d) := by
  cases d with
  | come g =>
    have hg := ok_come.mp ok
    have hh : getK x.holder g = none := by
      have := h.ks g
      rw [hg] at this
      cases e : getK x.holder g with
      | none => rfl
      | some z => rw [e] at this; cases this
    refine ⟨setK_nodup h.nd, fun a w e => ?_, fun w a e => ?_, fun a => ?_, h.tp, ?_, ?_, ?_⟩
    · show getK (setK x.holder g g) w = some a
      have e' : getK (setK x.worn g g) a = some w := e
      rw [getK_set] at e' ⊢
      by_cases z : g = a
      · rw [if_pos z] at e'
        cases e'
        rw [if_pos rfl, z]
      · rw [if_neg z] at e'
        have := h.wh a w e'
        rw [if_neg (fun q => by rw [← q, hh] at this; cases this)]
        exact this
    · show getK (setK x.worn g g) a = some w
      have e' : getK (setK x.holder g g) w = some a := e
      rw [getK_set] at e' ⊢
      by_cases z : g = w
      · rw [if_pos z] at e'
        cases e'
        rw [if_pos rfl, z]
      · rw [if_neg z] at e'
        have := h.hw w a e'
        rw [if_neg (fun q => by rw [← q, hg] at this; cases this)]
        exact this
    · show (getK (setK x.worn g g) a).isSome = (getK (setK x.holder g g) a).isSome
      rw [getK_set, getK_set]
      by_cases z : g = a
      · rw [if_pos z, if_pos z]
      · rw [if_neg z, if_neg z]; exact h.ks a
    · show (setK x.worn g g).length ≤ (x.done ++ [Deed.come g]).length
      have := setK_len (l := x.worn) (k := g) (v := g)
      have := h.l1
      rw [List.length_append, List.length_singleton]
      omega
    · show (setK x.holder g g).length ≤ (x.done ++ [Deed.come g]).length
      have := setK_len (l := x.holder) (k := g) (v := g)
      have := h.l2
      rw [List.length_append, List.length_singleton]
      omega
    · show x.touched.length ≤ (x.done ++ [Deed.come g]).length
      have := h.l3
      rw [List.length_append, List.length_singleton]
      omega
  | go g =>
    have hg := ok_go.mp ok
    have hh := h.wh g g hg
    refine ⟨delK_nodup h.nd, fun a w e => ?_, fun w a e => ?_, fun a => ?_, h.tp, ?_, ?_, ?_⟩
    · show getK (delK x.holder g) w = some a
      have e' : getK (delK x.worn g) a = some w := e
      rw [getK_del] at e' ⊢
      by_cases z : g = a
      · rw [if_pos z] at e'; cases e'
      · rw [if_neg z] at e'
        have q := h.wh a w e'
        rw [if_neg (fun y => z (by rw [← y, hh] at q; exact Option.some.inj q))]
        exact q
    · show getK (delK x.worn g) a = some w
      have e' : getK (delK x.holder g) w = some a := e
      rw [getK_del] at e' ⊢
      by_cases z : g = w
      · rw [if_pos z] at e'; cases e'
      · rw [if_neg z] at e'
        have q := h.hw w a e'
        rw [if_neg (fun y => z (by rw [← y, hg] at q; exact Option.some.inj q))]
        exact q
    · show (getK (delK x.worn g) a).isSome = (getK (delK x.holder g) a).isSome
      rw [getK_del, getK_del]
      by_cases z : g = a
      · rw [if_pos z, if_pos z]
      · rw [if_neg z, if_neg z]; exact h.ks a
    · show (delK x.worn g).length ≤ (x.done ++ [Deed.go g]).length
      have := delK_len (l := x.worn) (k := g)
      have := h.l1
      rw [List.length_append]
      omega
    · show (delK x.holder g).length ≤ (x.done ++ [Deed.go g]).length
      have := delK_len (l := x.holder) (k := g)
      have := h.l2
      rw [List.length_append]
      omega
    · show x.touched.length ≤ (x.done ++ [Deed.go g]).length
      have := h.l3
      rw [List.length_append]
      omega
  | ex a b =>
    obtain ⟨ha, hb, nab, nm⟩ := ok_ex.mp ok
    obtain ⟨wa, ea⟩ := Option.isSome_iff_exists.mp ha
    obtain ⟨wb, eb⟩ := Option.isSome_iff_exists.mp hb
    have ka := h.wh a wa ea
    have kb := h.wh b wb eb
    have nw : ¬ wa = wb := fun z => nab (by rw [← z, ka] at kb; exact Option.some.inj kb)
    have ew : (x.step (.ex a b)).worn = setK (setK x.worn a wb) b wa := by
      show setK (setK x.worn a ((getK x.worn b).getD 0)) b ((getK x.worn a).getD 0) = _
      rw [ea, eb]
      rfl
    have eh : (x.step (.ex a b)).holder = setK (setK x.holder wb a) wa b := by
      show setK (setK x.holder ((getK x.worn b).getD 0) a) ((getK x.worn a).getD 0) b = _
      rw [ea, eb]
      rfl
    have et : (x.step (.ex a b)).touched = setK x.touched (Law.odp a b) true := rfl
    have sb : (getK (setK x.worn a wb) b).isSome = true := by
      rw [getK_set]
      split
      · rfl
      · exact hb
    have sh : (getK x.holder wb).isSome = true := by rw [kb]; rfl
    have sh2 : (getK (setK x.holder wb a) wa).isSome = true := by
      rw [getK_set]
      split
      · rfl
      · rw [ka]; rfl
    have gw : ∀ g, getK (setK (setK x.worn a wb) b wa) g = if b = g then some wa else if a = g then some wb else getK x.worn g := fun g => by rw [getK_set, getK_set]
    have gh : ∀ m, getK (setK (setK x.holder wb a) wa b) m = if wa = m then some b else if wb = m then some a else getK x.holder m := fun m => by rw [getK_set, getK_set]
    refine ⟨?_, fun g w e => ?_, fun w g e => ?_, fun g => ?_, fun p hp => ?_, ?_, ?_, ?_⟩
    · rw [ew]; exact setK_nodup (setK_nodup h.nd)
    · rw [ew, gw] at e
      rw [eh, gh]
      by_cases z : b = g
      · rw [if_pos z] at e
        cases e
        rw [if_pos rfl, z]
      · rw [if_neg z] at e
        by_cases z2 : a = g
        · rw [if_pos z2] at e
          cases e
          rw [if_neg nw, if_pos rfl, z2]
        · rw [if_neg z2] at e
          have q := h.wh g w e
          rw [if_neg (fun y => z2 (by rw [← y, ka] at q; exact Option.some.inj q)), if_neg (fun y => z (by rw [← y, kb] at q; exact Option.some.inj q))]
          exact q
    · rw [eh, gh] at e
      rw [ew, gw]
      by_cases z : wa = w
      · rw [if_pos z] at e
        cases e
        rw [if_pos rfl, z]
      · rw [if_neg z] at e
        by_cases z2 : wb = w
        · rw [if_pos z2] at e
          cases e
          rw [if_neg (fun y => nab y.symm), if_pos rfl, z2]
        · rw [if_neg z2] at e
          have q := h.hw w g e
          rw [if_neg (fun y => z2 (by rw [← y, eb] at q; exact Option.some.inj q)), if_neg (fun y => z (by rw [← y, ea] at q; exact Option.some.inj q))]
          exact q
    · rw [ew, eh, gw, gh]
      have k1 := h.ks g
      by_cases z : b = g
      · rw [if_pos z]
        rw [← z] at k1 ⊢
        rw [hb] at k1
        split
        · rfl
        · split
          · rfl
          · exact k1
      · rw [if_neg z]
        by_cases z2 : a = g
        · rw [if_pos z2]
          rw [← z2] at k1 ⊢
          rw [ha] at k1
          split
          · rfl
          · split
            · rfl
            · exact k1
        · rw [if_neg z2]
          split
          · rename_i y
            rw [← y] at k1 ⊢
            rw [k1, ka]
            rfl
          · split
            · rename_i y
              rw [← y] at k1 ⊢
              rw [k1, kb]
              rfl
            · exact k1
    · rw [et] at hp
      rcases mem_setK hp with rfl | hp
      · exact odp_lt nab
      · exact h.tp p hp
    · rw [ew, step_done, setK_len_some sb, setK_len_some ha]
      have := h.l1
      rw [List.length_append]
      omega
    · rw [eh, step_done, setK_len_some sh2, setK_len_some sh]
      have := h.l2
      rw [List.length_append]
      omega
    · rw [et, step_done]
      have := setK_len (l := x.touched) (k := Law.odp a b) (v := true)
      have := h.l3
      rw [List.length_append, List.length_singleton]
      omega
theorem cutL_both {α : Type} {l : List α} {a b : Int} (h : 0 ≤ a) (hb : 0 ≤ b) : cutL l (some a) (some b) = (l.take b.toNat).drop a.toNat := by
  unfold cutL HT.sIx
  dsimp only
  rw [if_neg (by omega), if_neg (by omega)]
  refine List.ext_getElem? fun i => ?_
  rw [List.getElem?_take, List.getElem?_drop, List.getElem?_drop, List.getElem?_take]
  by_cases h1 : min a.toNat l.length + i < l.length
  · have h2 : min a.toNat l.length = a.toNat := by omega
    rw [h2] at h1 ⊢
    by_cases h3 : a.toNat + i < b.toNat
    · rw [if_pos (by omega), if_pos h3]
    · rw [if_neg (by omega), if_neg h3]
  · rw [List.getElem?_eq_none (by omega), List.getElem?_eq_none (i := a.toNat + i) (by omega)]
    simp
theorem cutL_from {α : Type} {l : List α} {a : Int} (h : 0 ≤ a) : cutL l (some a) none = l.drop a.toNat := by
  have e : cutL l (some a) none = cutL l (some a) (some (l.length : Int)) := by
    unfold cutL HT.sIx
    dsimp only
    rw [if_neg (by omega : ¬ (l.length : Int) < 0), Int.toNat_natCast, Nat.min_self]
  rw [e, cutL_both h (by omega), Int.toNat_natCast, List.take_length]
theorem cutL_to {α : Type} {l : List α} {a : Int} (h : 0 ≤ a) : cutL l none (some a) = l.take a.toNat := by
  have e : cutL l none (some a) = cutL l (some 0) (some a) := by
    unfold cutL HT.sIx
    dsimp only
    rw [if_neg (by omega : ¬ (0 : Int) < 0), Int.toNat_zero, Nat.zero_min]
  rw [e, cutL_both (by omega) h, Int.toNat_zero, List.drop_zero]
/-! ### stories -/
def stF (x : HS) (l : List Deed) : HS := l.foldl HS.step x
abbrev st (l : List Deed) : HS := stF hs0 l
def OkF (x : HS) (l : List Deed) : Prop := ∀ pre d post, l = pre ++ d :: post → okM (stF x pre).worn (stF x pre).touched d
abbrev OkL (l : List Deed) : Prop := OkF hs0 l
theorem stF_app (x : HS) (l m : List Deed) : stF x (l ++ m) = stF (stF x l) m := List.foldl_append
theorem st_snoc (l : List Deed) (d : Deed) : st (l ++ [d]) = (st l).step d := stF_app ..
theorem stF_done : ∀ (l : List Deed) (x : HS), (stF x l).done = x.done ++ l
  | [], x => (List.append_nil _).symm
  | d :: l, x => by
    show (stF (x.step d) l).done = _
    rw [stF_done l, step_done, List.append_assoc]
    rfl
theorem st_done (l : List Deed) : (st l).done = l := by rw [stF_done]; rfl
theorem hinv_stF : ∀ (l : List Deed) (x : HS), HInv x → OkF x l → HInv (stF x l)
  | [], x, h, _ => h
  | d :: l, x, h, k => hinv_stF l (x.step d) (hinv_step h (k [] d l rfl)) fun pre e post q => k (d :: pre) e post (by rw [q]; rfl)
theorem hinv_st {l : List Deed} (h : OkL l) : HInv (st l) := hinv_stF l hs0 hinv0 h
theorem okl_nil : OkL [] := fun pre d post e => by cases pre <;> cases e
theorem okl_snoc {l : List Deed} {d : Deed} (h : OkL l) (ok : okM (st l).worn (st l).touched d) : OkL (l ++ [d]) := fun pre e post q => by
  rcases List.eq_nil_or_concat post with rfl | ⟨post', z, rfl⟩
  · obtain ⟨e1, e2⟩ := List.append_inj' q rfl
    cases e2
    rw [← e1]
    exact ok
  · have q' : l ++ [d] = (pre ++ e :: post') ++ [z] := by rw [q]; simp
    obtain ⟨e1, e2⟩ := List.append_inj' q' rfl
    exact h pre e post' e1
theorem okl_pre {pre post : List Deed} {d : Deed} (h : OkL (pre ++ d :: post)) : OkL pre ∧ okM (st pre).worn (st pre).touched d := ⟨fun p e q z => h p e (q ++ d :: post) (by rw [z]; simp), h pre d post rfl⟩
theorem set_last {S : List Cell} {c d : Cell} : (S ++ [c]).set S.length d = S ++ [d] := by
  rw [List.set_append_right _ _ (Nat.le_refl _)]
  simp
/-- two who have met, told the other way round -/
theorem odp_comm (a b : Int) : Law.odp a b = Law.odp b a := by
  unfold Law.odp
  by_cases h : b < a
  · rw [if_pos h, if_neg (by omega)]
  · rw [if_neg h]
    by_cases h2 : a < b
    · rw [if_pos h2]
    · rw [if_neg h2, show a = b by omega]
end Wz

set_option Elab.async false
set_option linter.all false
set_option maxRecDepth 100000
set_option maxHeartbeats 400000
namespace Law
open PySem PySem.Spec PyProof.Rows L2 Wz
@[reducible] def b_quadrille : Ss := (.cons (.ife (.tst .lt (.lset (.lst (.cons (.slot 0) (.cons (.slot 1) (.cons (.slot 2) (.cons (.slot 3) .nil)))))) (.int 4)) (.cons (.raise "Same")
    .nil) .nil)
    (.cons (.ret (.lst (.cons (.tup (.cons (.slot 0) (.cons (.slot 1) .nil))) (.cons (.tup (.cons (.slot 2) (.cons (.slot 3) .nil))) (.cons (.tup (.cons (.slot 0) (.cons (.slot 2) .nil))) (.cons (.tup (.cons (.slot 1) (.cons (.slot 3) .nil))) (.cons (.tup (.cons (.slot 0) (.cons (.slot 3) .nil))) (.cons (.tup (.cons (.slot 1) (.cons (.slot 2) .nil))) .nil))))))))
    .nil))

@[reducible] def b__law_cell_at : Ss := (.cons (.ife (.tst .lt (.slot 1) (.blt .len (.cons (.slot 0) .nil))) (.cons (.ret (.idx (.slot 0) (.slot 1)))
    .nil) .nil)
    (.cons (.ret (.int 0))
    .nil))

@[reducible] def b__law_whole : Ss := (.cons (.ret (.andV (.isi "int" (.slot 0)) (.notV (.isi "bool" (.slot 0)))))
    .nil)

@[reducible] def b__law_size : Ss := (.cons (.ife (.tst .lt (.slot 0) (.int 0)) (.cons (.ret (.neg (.slot 0)))
    .nil) .nil)
    (.cons (.ret (.slot 0))
    .nil))

@[reducible] def l__law_draws_0 : Ss := (.cons (.app 4 (.op2 .mod (.slot 3) (.slot 2)))
    (.cons (.set 3 false (.op2 .fdiv (.slot 3) (.slot 2)))
    .nil))
@[reducible] def l__law_draws_1 : Ss := (.cons (.set 7 false (.op2 .mod (.op2 .mul (.slot 7) (.int 48271)) (.int 2147483647)))
    (.cons (.app 4 (.op2 .mod (.op2 .fdiv (.op2 .mod (.op2 .mul (.slot 7) (.int 16807)) (.int 998244353)) (.int 3)) (.slot 2)))
    .nil))
@[reducible] def b__law_draws : Ss := (.cons (.set 3 false (.call 0 (.cons (.slot 0) .nil)))
    (.cons (.set 4 true (.lst .nil))
    (.cons (.ife (.tst .ge (.slot 3) (.op2 .pow (.int 10) (.int 18))) (.cons (.set 3 false (.op2 .sub (.slot 3) (.op2 .pow (.int 10) (.int 18))))
    (.cons (.set 5 false (.op2 .mod (.slot 3) (.op2 .add (.slot 1) (.int 1))))
    (.cons (.set 3 false (.op2 .fdiv (.slot 3) (.op2 .add (.slot 1) (.int 1))))
    (.cons (.each (.rng1 (.cons (.slot 5) .nil)) (.nm 6) l__law_draws_0 [6])
    (.cons (.retS 4)
    .nil))))) .nil)
    (.cons (.set 7 false (.op2 .add (.op2 .mod (.slot 3) (.int 2147483629)) (.int 1)))
    (.cons (.each (.rng1 (.cons (.op2 .mod (.slot 3) (.op2 .add (.slot 1) (.int 1))) .nil)) (.nm 6) l__law_draws_1 [6])
    (.cons (.retS 4)
    .nil))))))

@[reducible] def l__law_draws_from_0 : Ss := (.cons (.ife (.tst .lt (.blt .len (.cons (.slot 4) .nil)) (.slot 2)) (.cons (.app 4 (.slot 6))
    .nil) .nil)
    .nil)
@[reducible] def l__law_draws_from_1 : Ss := (.cons (.each (.val (.call 0 (.cons (.slot 5) (.cons (.int 24) (.cons (.slot 3) .nil))))) (.nm 6) l__law_draws_from_0 [6])
    .nil)
@[reducible] def b__law_draws_from : Ss := (.cons (.set 4 true (.lst .nil))
    (.cons (.each (.val (.slc (.slot 0) (.yes (.slot 1)) (.yes (.int 63)))) (.nm 5) l__law_draws_from_1 [5, 6])
    (.cons (.retS 4)
    .nil)))

@[reducible] def b__law_guest : Ss := (.cons (.set 2 false (.call 0 (.cons (.slot 1) .nil)))
    (.cons (.set 3 false (.op2 .add (.int 1) (.op2 .mod (.op2 .mul (.slot 2) (.int 1234567891)) (.int 2147483646))))
    (.cons (.set 4 false (.op2 .mod (.op2 .add (.op2 .mul (.slot 0) (.slot 3)) (.op2 .fdiv (.slot 2) (.int 2147483646))) (.int 2147483647)))
    (.cons (.ife (.tst .eq (.op2 .mod (.slot 2) (.int 5)) (.int 4)) (.cons (.ret (.op2 .add (.slot 4) (.int 997852516353)))
    .nil) .nil)
    (.cons (.ret (.slot 4))
    .nil)))))

@[reducible] def b__law_key : Ss := (.cons (.ife (.tst .lt (.slot 1) (.slot 0)) (.cons (.ret (.tup (.cons (.slot 1) (.cons (.slot 0) .nil))))
    .nil) .nil)
    (.cons (.ret (.tup (.cons (.slot 0) (.cons (.slot 1) .nil))))
    .nil))

@[reducible] def b__law_pair : Ss := (.cons (.ife (.or (.not (.tru (.isi "tuple" (.slot 0)))) (.tst .ne (.blt .len (.cons (.slot 0) .nil)) (.int 2))) (.cons (.ret (.bl false))
    .nil) .nil)
    (.cons (.ret (.andV (.call 0 (.cons (.idx (.slot 0) (.int 0)) .nil)) (.call 0 (.cons (.idx (.slot 0) (.int 1)) .nil))))
    .nil))

@[reducible] def b__law_row : Ss := (.cons (.ife (.not (.tru (.isi "list" (.slot 0)))) (.cons (.ret (.bl false))
    .nil) .nil)
    (.cons (.ret (.blt .all (.cons (.lc (.val (.slot 0)) [1] (.nm 1) .yes (.call 0 (.cons (.slot 1) .nil))) .nil)))
    .nil))

@[reducible] def l__law_paper_0 : Ss := (.cons (.set 4 false (.get2 (.slot 1) (.slot 2) (.slot 2)))
    (.cons (.sub 1 (.slot 2) (.get2 (.slot 1) (.slot 3) (.slot 3)))
    (.cons (.sub 1 (.slot 3) (.slot 4))
    .nil)))
@[reducible] def b__law_paper : Ss := (.cons (.each (.val (.slot 0)) (.tp [2, 3]) l__law_paper_0 [2, 3, 4])
    (.cons (.frz 1)
    (.cons (.retS 1)
    .nil)))

@[reducible] def l__law_pairs_from_0 : Ss := (.cons (.set 5 false (.op2 .mod (.slot 4) (.slot 1)))
    (.cons (.set 6 false (.op2 .mod (.op2 .add (.op2 .add (.slot 5) (.int 1)) (.op2 .mod (.op2 .fdiv (.slot 4) (.slot 1)) (.op2 .sub (.slot 1) (.int 1)))) (.slot 1)))
    (.cons (.app 3 (.tup (.cons (.call 0 (.cons (.slot 5) (.cons (.slot 2) .nil))) (.cons (.call 0 (.cons (.slot 6) (.cons (.slot 2) .nil))) .nil))))
    .nil)))
@[reducible] def b__law_pairs_from : Ss := (.cons (.set 3 true (.lst .nil))
    (.cons (.each (.val (.slot 0)) (.nm 4) l__law_pairs_from_0 [4, 5, 6])
    (.cons (.retS 3)
    .nil)))

@[reducible] def l_law_0 : Ss := (.cons (.set 8 false (.box (.call 6 (.cons (.idx (.slot 3) (.int 0)) (.cons (.idx (.slot 3) (.int 1)) (.cons (.idx (.slot 3) (.int 2)) (.cons (.idx (.slot 3) (.int 3)) .nil)))))))
    .nil)
@[reducible] def b_law : Ss := (.cons (.set 1 false (.call 0 (.cons (.slot 0) (.cons (.int 1) .nil))))
    (.cons (.set 2 false (.call 1 (.cons (.call 0 (.cons (.slot 0) (.cons (.int 0) .nil))) .nil)))
    (.cons (.setLc 3 true (.rng1 (.cons (.int 4) .nil)) [4] (.nm 4) .yes (.call 2 (.cons (.op2 .mod (.op2 .add (.slot 2) (.op2 .mul (.op2 .add (.int 1) (.op2 .mod (.op2 .fdiv (.slot 2) (.int 12)) (.int 3))) (.slot 4))) (.int 12)) (.cons (.slot 1) .nil))))
    (.cons (.set 5 false (.call 1 (.cons (.call 0 (.cons (.slot 0) (.cons (.int 2) .nil))) .nil)))
    (.cons (.ife (.tst .eq (.op2 .mod (.slot 5) (.int 4)) (.int 3)) (.cons (.sub 3 (.op2 .mod (.op2 .fdiv (.slot 5) (.int 4)) (.int 4)) (.idx (.slot 3) (.op2 .mod (.op2 .fdiv (.slot 5) (.int 16)) (.int 4))))
    .nil) .nil)
    (.cons (.set 6 false (.cmp .eq (.lset (.slot 3)) (.int 4)))
    (.cons (.set 7 false (.call 3 (.cons (.call 4 (.cons (.call 5 (.cons (.slot 0) (.cons (.int 3) (.cons (.int 30) (.cons (.int 132) .nil))))) (.cons (.int 12) (.cons (.slot 1) .nil)))) (.cons .dk .nil))))
    (.cons (.set 8 false .non)
    (.cons (.set 9 false (.str ""))
    (.cons (.try_ ["Same"] l_law_0 [⟨"Same", none, [.set 9 (.str "Same")]⟩])
    (.cons (.ife (.not (.tru (.slot 6))) (.cons (.ret (.cmp .eq (.slot 9) (.str "Same")))
    .nil) .nil)
    (.cons (.ife (.or (.tst .ne (.slot 9) (.str "")) (.or (.not (.tru (.call 7 (.cons (.slot 8) .nil)))) (.tst .ne (.blt .len (.cons (.slot 8) .nil)) (.int 6)))) (.cons (.ret (.bl false))
    .nil) .nil)
    (.cons (.ife (.tst .ne (.lset (.lc (.val (.slot 8)) [10] (.nm 10) .yes (.call 8 (.cons (.idx (.slot 10) (.int 0)) (.cons (.idx (.slot 10) (.int 1)) .nil))))) (.int 6)) (.cons (.ret (.bl false))
    .nil) .nil)
    (.cons (.ife (.tru (.blt .any (.cons (.lc (.val (.slot 8)) [10] (.nm 10) .yes (.orV (.cmp .eq (.idx (.slot 10) (.int 0)) (.idx (.slot 10) (.int 1))) (.orV (.cmp .nin (.idx (.slot 10) (.int 0)) (.slot 3)) (.cmp .nin (.idx (.slot 10) (.int 1)) (.slot 3))))) .nil))) (.cons (.ret (.bl false))
    .nil) .nil)
    (.cons (.set 11 false (.call 3 (.cons (.slot 8) (.cons (.blt .dct (.cons (.slot 7) .nil)) .nil))))
    (.cons (.ife (.not (.tru (.blt .all (.cons (.lcS 11 [12] (.nm 12) .yes (.cmp .eq (.idx (.slot 11) (.slot 12)) (.get2 (.slot 7) (.slot 12) (.slot 12)))) .nil)))) (.cons (.ret (.bl false))
    .nil) .nil)
    (.cons (.set 13 false (.blt .lst (.cons (.slot 8) .nil)))
    (.cons (.exp (.clrE (.slot 8)))
    (.cons (.ret (.cmp .eq (.call 6 (.cons (.idx (.slot 3) (.int 0)) (.cons (.idx (.slot 3) (.int 1)) (.cons (.idx (.slot 3) (.int 2)) (.cons (.idx (.slot 3) (.int 3)) .nil))))) (.slot 13)))
    .nil)))))))))))))))))))
@[reducible] noncomputable def e_quadrille : Nat → FnSpec
  | _ => noFn
noncomputable def sp_quadrille : FnSpec := spOf e_quadrille [.v, .v, .v, .v] 4 b_quadrille
@[reducible] noncomputable def e__law_cell_at : Nat → FnSpec
  | _ => noFn
noncomputable def sp__law_cell_at : FnSpec := spOf e__law_cell_at [.v, .v] 2 b__law_cell_at
@[reducible] noncomputable def e__law_whole : Nat → FnSpec
  | _ => noFn
noncomputable def sp__law_whole : FnSpec := spOf e__law_whole [.v] 1 b__law_whole
@[reducible] noncomputable def e__law_size : Nat → FnSpec
  | _ => noFn
noncomputable def sp__law_size : FnSpec := spOf e__law_size [.v] 1 b__law_size
@[reducible] noncomputable def e__law_draws : Nat → FnSpec
  | 0 => sp__law_size
  | _ => noFn
noncomputable def sp__law_draws : FnSpec := spOf e__law_draws [.v, .v, .v] 8 b__law_draws
@[reducible] noncomputable def e__law_draws_from : Nat → FnSpec
  | 0 => sp__law_draws
  | _ => noFn
noncomputable def sp__law_draws_from : FnSpec := spOf e__law_draws_from [.v, .v, .v, .v] 7 b__law_draws_from
@[reducible] noncomputable def e__law_guest : Nat → FnSpec
  | 0 => sp__law_size
  | _ => noFn
noncomputable def sp__law_guest : FnSpec := spOf e__law_guest [.v, .v] 5 b__law_guest
@[reducible] noncomputable def e__law_key : Nat → FnSpec
  | _ => noFn
noncomputable def sp__law_key : FnSpec := spOf e__law_key [.v, .v] 2 b__law_key
@[reducible] noncomputable def e__law_pair : Nat → FnSpec
  | 0 => sp__law_whole
  | _ => noFn
noncomputable def sp__law_pair : FnSpec := spOf e__law_pair [.v] 1 b__law_pair
@[reducible] noncomputable def e__law_row : Nat → FnSpec
  | 0 => sp__law_pair
  | _ => noFn
noncomputable def sp__law_row : FnSpec := spOf e__law_row [.v] 2 b__law_row
@[reducible] noncomputable def e__law_paper : Nat → FnSpec
  | _ => noFn
noncomputable def sp__law_paper : FnSpec := spOf e__law_paper [.v, .o] 5 b__law_paper
@[reducible] noncomputable def e__law_pairs_from : Nat → FnSpec
  | 0 => sp__law_guest
  | _ => noFn
noncomputable def sp__law_pairs_from : FnSpec := spOf e__law_pairs_from [.v, .v, .v] 7 b__law_pairs_from
@[reducible] noncomputable def e_law : Nat → FnSpec
  | 0 => sp__law_cell_at
  | 1 => sp__law_size
  | 2 => sp__law_guest
  | 3 => sp__law_paper
  | 4 => sp__law_pairs_from
  | 5 => sp__law_draws_from
  | 6 => sp_quadrille
  | 7 => sp__law_row
  | 8 => sp__law_key
  | _ => noFn
noncomputable def sp_law : FnSpec := spOf e_law [.v] 14 b_law
end Law

set_option Elab.async false
set_option linter.all false
set_option maxRecDepth 100000
set_option maxHeartbeats 400000
namespace Law
open PySem PySem.Spec PyProof.Rows L2 Wz
local macro_rules | `(tactic| walk_at "nrmH") => `(tactic| ((try simp only [List.set_set]); exact rfl))
local macro_rules | `(tactic| walk_at "nrm") => `(tactic| first | (simp only [List.set_cons_succ, List.set_cons_zero]; first | done | exact rfl) | exact rfl)
local macro_rules | `(tactic| walk_at "st?") => `(tactic| first
  | rfl | assumption
  | ((with_reducible refine' get_setH ?hA); (case hA => walk_at "st?"))
  | ((with_reducible refine' oget_w ?hB); (case hB => walk_at "st?")) | ((with_reducible refine' oget_h ?hB); (case hB => walk_at "st?")) | ((with_reducible refine' oget_t ?hB); (case hB => walk_at "st?")) | ((with_reducible refine' oget_d ?hB); (case hB => walk_at "st?"))
  | ((with_reducible refine' get_set ?h); (case h => assumption)) | ((with_reducible refine' oget_set ?h); (case h => assumption)) | ((with_reducible refine' oget_box ?h); (case h => assumption)))
local macro_rules | `(tactic| walk_at "nrmS") => `(tactic| first | ((with_reducible refine' (oput_w ?hN).trans ?gN); (case hN => walk_at "st?"); (case gN => walk_at "nrmH")) | ((with_reducible refine' (oput_h ?hN).trans ?gN); (case hN => walk_at "st?"); (case gN => walk_at "nrmH")) | ((with_reducible refine' (oput_t ?hN).trans ?gN); (case hN => walk_at "st?"); (case gN => walk_at "nrmH")) | ((with_reducible refine' (oput_d ?hN ?zN).trans ?gN); (case hN => walk_at "st?"); (case zN => (first | exact deed_c | exact deed_g | exact deed_x)); (case gN => walk_at "nrmH")) | exact oput_setB | (rw [oput_ob]; (try simp only [List.set_cons_succ, List.set_cons_zero]); exact rfl) | exact rfl)
local macro_rules | `(tactic| walk_at "rd") => `(tactic| first
  | with_reducible exact rd_int | with_reducible exact rd_bl | with_reducible exact rd_non | with_reducible exact rd_str | with_reducible exact rd_tup | with_reducible exact rd_lst
  | ((with_reducible refine' rd_ref ?h); (case h => walk_at "st?"))
  | ((with_reducible refine' rd_w ?hR); (case hR => walk_at "st?")) | ((with_reducible refine' rd_h ?hR); (case hR => walk_at "st?")) | ((with_reducible refine' rd_t ?hR); (case hR => walk_at "st?")) | ((with_reducible refine' rd_d ?hR); (case hR => walk_at "st?"))
  | with_reducible exact rd_new | with_reducible exact rd_bor | with_reducible exact rd_lk | with_reducible exact rd_scr | with_reducible exact rd_dk | with_reducible exact rd_dt | with_reducible exact rd_encL | with_reducible exact rd_encD | with_reducible exact rd_encDT | with_reducible exact rd_encP | rfl)
local macro_rules | `(tactic| walk_at "rds") => `(tactic| first | with_reducible exact rds_nil | ((with_reducible refine' rds_cons ?ha ?hb); (case ha => walk_at "rd"); (case hb => walk_at "rds")) | rfl)
local macro_rules | `(tactic| walk_at "side") => `(tactic| first | omega | decide | assumption)
local macro_rules | `(tactic| walk_at "op") => `(tactic| fail "op")
local macro_rules | `(tactic| walk_at "op") => `(tactic| with_reducible first
  | exact o_add | exact o_sub | exact o_pow18
  | (refine' o_mul ?hq; (with_reducible_and_instances first | (left; walk_at "side") | (right; walk_at "side")))
  | (refine' o_cat1 ?hq; (show _ ≤ 16777216; (try simp only [List.length_reverse, List.length_append, List.length_take, List.length_drop, List.length_map, List.length_cons, List.length_nil]); omega))
  | (refine' o_catP ?hq; (show _ ≤ 16777216; (try simp only [List.length_reverse, List.length_append, List.length_take, List.length_drop, List.length_map, List.length_cons, List.length_nil]); omega))
  | (refine' o_catL ?hq; (show _ ≤ 16777216; (try simp only [List.length_reverse, List.length_append, List.length_take, List.length_drop, List.length_map, List.length_cons, List.length_nil]); omega))
  | (refine' o_fdiv ?hq; (constructor <;> walk_at "side")) | (refine' o_mod ?hq; walk_at "side")
  | (refine' o_pow ?hq; decide)
  | exact c_inD | exact c_ninD | exact c_inDT | exact c_ninDT | exact c_lt | exact c_le | exact c_gt | exact c_ge | exact c_eqI | exact c_neI)
local macro_rules | `(tactic| walk_at "run") => `(tactic| fail "run")
local macro_rules | `(tactic| walk_at "blt") => `(tactic| first | (with_reducible first | exact srtK_D | exact srtI_L | exact b_len | exact b_lenS | exact b_lst | exact b_all | exact b_any | exact b_sum) | rfl | fail "blt")
local macro_rules | `(tactic| walk_at "tr") => `(tactic| first | rfl | fail "tr")
local macro_rules | `(tactic| walk_at "idx") => `(tactic| first
  | with_reducible exact ix_P0 | with_reducible exact ix_P1
  | ((with_reducible refine' ix_D ?h); (case h => assumption))
  | ((with_reducible refine' ix_scr ?hi); (case hi => (constructor <;> walk_at "side")))
  | ((with_reducible refine' ix_encL ?hi ?he); (case hi => (constructor <;> first | walk_at "side" | (simp only [List.length_cons, List.length_nil]; omega))); (case he => (first | rfl | assumption)))
  | ((with_reducible refine' ix_tup ?hi ?he); (case hi => (refine ⟨by decide, ?_⟩; simp only [List.length_cons, List.length_nil]; omega)); (case he => rfl))
  | ((with_reducible refine' ix_lst ?hi ?he); (case hi => (constructor <;> first | walk_at "side" | (simp only [List.length_cons, List.length_nil]; omega))); (case he => (first | rfl | assumption))))
local macro_rules | `(tactic| walk_at "slc") => `(tactic| first
  | ((with_reducible refine' slc_to ?ha); (case ha => walk_at "side")) | ((with_reducible refine' slc_from ?ha); (case ha => walk_at "side")) | ((with_reducible refine' slc_mid ?ha ?hb); (case ha => walk_at "side"); (case hb => walk_at "side")))
local macro_rules | `(tactic| walk_at "get") => `(tactic| first | with_reducible exact dget_D | rfl | fail "get")
local macro_rules | `(tactic| walk_at "lc") => `(tactic| fail "lc")
local macro_rules | `(tactic| walk_at "ev") => `(tactic| first
  | ((with_reducible refine' e_slot ?hs); (case hs => rfl))
  | with_reducible exact e_int | with_reducible exact e_str | with_reducible exact e_bl | with_reducible exact e_non
  | with_reducible exact e_nil | with_reducible exact e_dk | with_reducible exact e_dt | with_reducible exact o_no
  | ((with_reducible refine' e_cons ?ha ?hb); (case ha => walk_at "ev"); (case hb => walk_at "ev"))
  | ((with_reducible refine' e_op2 ?ha ?hb ?hx ?hy ?hz); (case ha => walk_at "ev"); (case hb => walk_at "ev"); (case hx => walk_at "rd"); (case hy => walk_at "rd"); (case hz => walk_at "op"))
  | ((with_reducible refine' e_cmp ?ha ?hb ?hx ?hy ?hz); (case ha => walk_at "ev"); (case hb => walk_at "ev"); (case hx => walk_at "rd"); (case hy => walk_at "rd"); (case hz => walk_at "op"))
  | ((with_reducible refine' t_cmp ?ha ?hb ?hx ?hy ?hz); (case ha => walk_at "ev"); (case hb => walk_at "ev"); (case hx => walk_at "rd"); (case hy => walk_at "rd"); (case hz => walk_at "op"))
  | ((with_reducible refine' e_idx ?ha ?hb ?hx ?hy ?hz); (case ha => walk_at "ev"); (case hb => walk_at "ev"); (case hx => walk_at "rd"); (case hy => walk_at "rd"); (case hz => walk_at "idx"))
  | ((with_reducible refine' e_neg ?ha ?hx); (case ha => walk_at "ev"); (case hx => walk_at "rd"))
  | ((with_reducible refine' e_isi ?ha ?hx ?hz); (case ha => walk_at "ev"); (case hx => walk_at "rd"); (case hz => rfl))
  | ((with_reducible refine' e_rev ?ha ?hx ?hz); (case ha => walk_at "ev"); (case hx => walk_at "rd"); (case hz => (first | (with_reducible exact rev_L) | rfl)))
  | ((with_reducible refine' e_notV ?ha ?hx); (case ha => walk_at "ev"); (case hx => walk_at "rd"))
  | ((with_reducible refine' e_andV ?ha ?hx ?hb); (case ha => walk_at "ev"); (case hx => walk_at "rd"); (case hb => (intro _; walk_at "ev")))
  | ((with_reducible refine' e_orV ?ha ?hx ?hb); (case ha => walk_at "ev"); (case hx => walk_at "rd"); (case hb => (intro _; walk_at "ev")))
  | ((with_reducible refine' e_tup ?ha ?hd ?hz); (case ha => walk_at "ev"); (case hd => rfl); (case hz => exact Nat.le_of_ble_eq_true rfl))
  | ((with_reducible refine' e_lst ?ha ?hd ?hz); (case ha => walk_at "ev"); (case hd => rfl); (case hz => exact Nat.le_of_ble_eq_true rfl))
  | ((with_reducible refine' e_blt ?ha ?hd ?hz); (case ha => walk_at "ev"); (case hd => walk_at "rds"); (case hz => walk_at "blt"))
  | ((with_reducible refine' e_call ?ha ?hm ?hp ?hr ?hv ?hn); (case ha => walk_at "ev"); (case hm => rfl); (case hp => rfl); (case hr => walk_at "run"); (case hv => rfl); (case hn => walk_at "nrm"))
  | ((with_reducible refine' o_yes ?ha ?hx); (case ha => walk_at "ev"); (case hx => walk_at "rd"))
  | ((with_reducible refine' e_slc ?ha ?hl ?hh ?hx ?hz); (case ha => walk_at "ev"); (case hl => walk_at "ev"); (case hh => walk_at "ev"); (case hx => walk_at "rd"); (case hz => walk_at "slc"))
  | ((with_reducible refine' e_getD ?ha ?hx ?hb ?hy ?hc ?hd); (case ha => walk_at "ev"); (case hx => with_reducible first | exact rd_bor | exact rd_encD | exact rd_new | exact rd_lk | (refine' rd_ref ?h; (case h => walk_at "st?"))); (case hb => walk_at "ev"); (case hy => walk_at "rd"); (case hc => walk_at "ev"); (case hd => with_reducible rfl))
  | ((with_reducible refine' e_get2 ?ha ?hd ?hb ?hc ?hx ?hy ?hz); (case ha => walk_at "ev"); (case hd => rfl); (case hb => walk_at "ev"); (case hc => walk_at "ev"); (case hx => walk_at "rd"); (case hy => walk_at "rd"); (case hz => walk_at "get"))
  | ((with_reducible refine' t_tru ?ha ?hx ?hz); (case ha => walk_at "ev"); (case hx => walk_at "rd"); (case hz => walk_at "tr"))
  | ((with_reducible refine' t_not ?ha); (case ha => walk_at "ev"))
  | ((with_reducible refine' t_and ?ha ?hb); (case ha => walk_at "ev"); (case hb => (intro _; walk_at "ev")))
  | ((with_reducible refine' t_or ?ha ?hb); (case ha => walk_at "ev"); (case hb => (intro _; walk_at "ev")))
  | ((with_reducible refine' i_val ?ha ?hb ?hd ?hz); (case ha => walk_at "ev"); (case hb => rfl); (case hd => rfl); (case hz => rfl))
  | ((with_reducible refine' i_box ?ha ?hz); (case ha => walk_at "ev"); (case hz => walk_at "st?"))
  | ((with_reducible refine' i_rng1 ?ha ?hd ?hz); (case ha => walk_at "ev"); (case hd => rfl); (case hz => (constructor <;> walk_at "side")))
  | ((with_reducible refine' i_rng2 ?ha ?hd ?hz); (case ha => walk_at "ev"); (case hd => rfl); (case hz => (refine ⟨?_, ?_, ?_, ?_⟩ <;> walk_at "side")))
  | ((with_reducible refine' e_box ?ha ?hn ?hS); (case ha => walk_at "ev"); (case hn => ((try simp only [List.length_nil, List.length_cons, List.length_append, List.length_set, Nat.reduceAdd]); exact rfl)); (case hS => ((try simp only [List.nil_append, List.cons_append]); exact rfl)))
  | ((with_reducible refine' e_appE ?ha ?hp ?hg ?he ?hk ?hv ?hl ?hn); (case ha => walk_at "ev"); (case hp => rfl); (case hg => walk_at "st?"); (case he => walk_at "ev"); (case hk => walk_at "st?"); (case hv => rfl); (case hl => walk_at "len"); (case hn => walk_at "nrmS"))
  | ((with_reducible refine' e_popD ?hc ?hp ?hg ?he ?hk ?hr ?hv ?hn); (case hc => walk_at "ev"); (case hp => rfl); (case hg => walk_at "st?"); (case he => walk_at "ev"); (case hk => walk_at "st?"); (case hr => walk_at "rd"); (case hv => assumption); (case hn => walk_at "nrmS"))
  | ((with_reducible refine' e_fldO ?ha ?hs ?hc ?hf); (case ha => walk_at "ev"); (case hs => walk_at "st?"); (case hc => rfl); (case hf => rfl))
  | ((with_reducible refine' e_meth ?ha ?hs ?hm ?he ?ho ?hp ?hr ?hv ?hn); (case ha => walk_at "ev"); (case hs => walk_at "st?"); (case hm => rfl); (case he => walk_at "ev"); (case ho => rfl); (case hp => rfl); (case hr => walk_at "run"); (case hv => rfl); (case hn => walk_at "nrm"))
  | walk_at "lc")
local macro_rules | `(tactic| walk_at "st") => `(tactic| first
  | with_reducible refine' go_nil ?hq
  | with_reducible refine' go_end ?hq
  | ((with_reducible refine' go_setA ?hs ?hr ?hi ?hn ?hq); (case hs => walk_at "ev"); (case hr => rfl); (case hi => exact Nat.le_of_ble_eq_true rfl); (case hn => walk_at "nrm"))
  | ((with_reducible refine' go_app ?hx ?hs ?hv ?hl ?hn ?hq); (case hx => rfl); (case hs => walk_at "ev"); (case hv => rfl); (case hl => walk_at "len"); (case hn => walk_at "nrm"))
  | ((with_reducible refine' go_sub ?hx ?hs ?hi ?hr ?hv ?hp ?hn ?hq); (case hx => rfl); (case hs => walk_at "ev"); (case hi => walk_at "ev"); (case hr => walk_at "rd"); (case hv => rfl); (case hp => walk_at "put"); (case hn => walk_at "nrm"))
  | ((with_reducible refine' go_exp ?hs ?hq); (case hs => walk_at "ev"))
  | ((with_reducible refine' go_ret ?hs ?hq); (case hs => walk_at "ev"))
  | with_reducible refine' go_retN ?hq
  | with_reducible refine' go_pass ?hq
  | ((with_reducible refine' go_frzO ?hx ?hn ?hq); (case hx => rfl); (case hn => walk_at "nrm"))
  | ((with_reducible refine' go_subE ?he ?hc ?hi ?hp ?hg ?hr ?hv ?hd ?hn ?hq); (case he => walk_at "ev"); (case hc => walk_at "ev"); (case hi => walk_at "ev"); (case hp => rfl); (case hg => walk_at "st?"); (case hr => walk_at "rd"); (case hv => rfl); (case hd => walk_at "put"); (case hn => walk_at "nrmS"))
  | with_reducible refine' go_raise ?hq
  | ((with_reducible refine' go_raiseV ?hs ?hv ?hq); (case hs => walk_at "ev"); (case hv => rfl))
  | ((with_reducible refine' go_tup ?hs ?hd ?hb ?hq); (case hs => walk_at "ev"); (case hd => rfl); (case hb => rfl))
  | ((with_reducible refine' go_retO ?hx ?hi ?hq); (case hx => rfl); (case hi => exact Nat.le_of_ble_eq_true rfl))
  | ((with_reducible refine' go_retV ?hx ?hq); (case hx => rfl)))
local macro_rules | `(tactic| walk_at "len") => `(tactic| first | (show _ < 16777216; omega) | (refine lt_setK ?_; show _ < 16777216; omega) | ((try simp only [List.length_map, List.length_append, List.length_cons, List.length_nil, List.length_reverse]); show _ < 16777216; omega))
local macro_rules | `(tactic| walk_at "put") => `(tactic| first | ((with_reducible refine' put_D ?hl); (case hl => walk_at "len")) | ((with_reducible refine' put_DT ?hl); (case hl => walk_at "len")))
local macro_rules | `(tactic| walk_at "if") => `(tactic| first
  | ((with_reducible refine' go_if ?hs ?hq1 ?hq2); (case hs => walk_at "ev"))
  | ((with_reducible refine' go_ife ?hs ?hq1 ?hq2); (case hs => walk_at "ev")))
local macro_rules | `(tactic| walk_at "run0") => `(tactic| ((refine' run_go ?hm ?hr ?hg); (case hm => (simp only [List.length_cons, List.length_nil, Nat.reduceAdd]; exact rfl)); (case hr => (simp only [argSlots, argSlot, List.map, List.length, List.replicate, List.cons_append, List.nil_append, Nat.reduceAdd, Nat.reduceSub]; exact rfl))))
local macro_rules | `(tactic| walk_at "run0E") => `(tactic| ((refine' run_goE ?hm ?hr ?hg); (case hm => (simp only [List.length_cons, List.length_nil, Nat.reduceAdd]; exact rfl)); (case hr => (simp only [argSlots, argSlot, List.map, List.length, List.replicate, List.cons_append, List.nil_append, Nat.reduceAdd, Nat.reduceSub]; exact rfl))))
end Law

set_option Elab.async false
set_option linter.all false
set_option maxRecDepth 100000
set_option maxHeartbeats 1000000
namespace Law
open PySem PySem.Spec PyProof.Rows L2 Wz
noncomputable def n__law_cell_at (a0 : List Int) (a1 : Int) (S : List Cell) : Out (Int) :=
  if (decide (a1 < ((List.length a0 : Nat) : Int))) = true then (
  gO (L2.atI a0 a1) fun v1 =>
  .ok v1 S)
  else (
  .ok (0 : Int) S)
theorem t__law_cell_at (a0 : List Int) (a1 : Int) (S : List Cell) : RFn (sp__law_cell_at.run [Wz.D.scr a0, Wz.D.int a1] S) (n__law_cell_at a0 a1 S) (fun z => Rv.val (Wz.D.int z)) := by
  refine rf_run (ρ := [.val (Wz.D.scr a0), .val (Wz.D.int a1)]) rfl rfl ?_
  unfold n__law_cell_at
  refine g_if (t_cmp (o := .lt) (e_slot rfl) (e_blt (e_cons (e_slot rfl) e_nil) (rds_cons (rd_val Wz.D.scr) rds_nil) b_lenS) (rd_val Wz.D.int) (rd_val Wz.D.int) c_lt) (fun hb => ?_) (fun hb => ?_)
  · refine g_gO fun v1 h2 => ?_
    exact go_ret (e_idx (e_slot rfl) (e_slot rfl) (rd_val Wz.D.scr) (rd_val Wz.D.int) (ix_atS h2)) rfl
  · refine go_nil ?_
    exact go_ret e_int rfl

noncomputable def n__law_size (a0 : Int) (S : List Cell) : Out (Int) :=
  if (decide (a0 < (0 : Int))) = true then (
  .ok (-a0) S)
  else (
  .ok a0 S)
theorem t__law_size (a0 : Int) (S : List Cell) : RFn (sp__law_size.run [Wz.D.int a0] S) (n__law_size a0 S) (fun z => Rv.val (Wz.D.int z)) := by
  refine rf_run (ρ := [.val (Wz.D.int a0)]) rfl rfl ?_
  unfold n__law_size
  refine g_if (t_cmp (o := .lt) (e_slot rfl) e_int (rd_val Wz.D.int) (rd_val Wz.D.int) c_lt) (fun hb => ?_) (fun hb => ?_)
  · exact go_ret (e_neg (e_slot rfl) (rd_val Wz.D.int)) rfl
  · refine go_nil ?_
    exact go_ret (e_slot rfl) rfl

noncomputable def n__law_guest (a0 : Int) (a1 : Int) (S : List Cell) : Out (Int) :=
  Out.bindX (n__law_size a1 S) fun v1 S3 =>
  letK (((1 : Int) + ((v1 * (1234567891 : Int)) % (2147483646 : Int))) : Int) fun v4 =>
  gP (mulOk a0 v4) <|
  letK ((((a0 * v4) + (v1 / (2147483646 : Int))) % (2147483647 : Int)) : Int) fun v6 =>
  if (decide (((v1 % (5 : Int)) : Int) = (4 : Int))) = true then (
  .ok (v6 + (997852516353 : Int)) S3)
  else (
  .ok v6 S3)
theorem t__law_guest (a0 : Int) (a1 : Int) (S : List Cell) : RFn (sp__law_guest.run [Wz.D.int a0, Wz.D.int a1] S) (n__law_guest a0 a1 S) (fun z => Rv.val (Wz.D.int z)) := by
  refine rf_run (ρ := [.val (Wz.D.int a0), .val (Wz.D.int a1), .non, .non, .non]) rfl rfl ?_
  unfold n__law_guest
  refine g_bindX fun v1 S3 h2 => ?_
  refine go_setA (ρ' := [.val (Wz.D.int a0), .val (Wz.D.int a1), .val (Wz.D.int v1), .non, .non]) (oke_call (q := fun z => Rv.val (Wz.D.int z)) (e_cons (e_slot rfl) e_nil) rfl rfl (t__law_size a1 _) (fun _ => rfl) h2) rfl (Nat.le_of_ble_eq_true rfl) rfl ?_
  refine g_setL (q := fun z => Rv.val (Wz.D.int z)) (s := fun z => Slot.val (Wz.D.int z)) (R := fun v4 => [.val (Wz.D.int a0), .val (Wz.D.int a1), .val (Wz.D.int v1), .val (Wz.D.int v4), .non]) (e_op2 (o := .add) e_int (e_op2 (o := .mod) (e_op2 (o := .mul) (e_slot rfl) e_int (rd_val Wz.D.int) (rd_val Wz.D.int) (o_mul (Or.inr (by decide)))) e_int (rd_val Wz.D.int) (rd_val Wz.D.int) (o_mod (by decide))) (rd_val Wz.D.int) (rd_val Wz.D.int) o_add) (fun _ => rfl) (Nat.le_of_ble_eq_true rfl) (fun _ => rfl) fun v4 => ?_
  refine g_gP fun h5 => ?_
  refine g_setL (q := fun z => Rv.val (Wz.D.int z)) (s := fun z => Slot.val (Wz.D.int z)) (R := fun v6 => [.val (Wz.D.int a0), .val (Wz.D.int a1), .val (Wz.D.int v1), .val (Wz.D.int v4), .val (Wz.D.int v6)]) (e_op2 (o := .mod) (e_op2 (o := .add) (e_op2 (o := .mul) (e_slot rfl) (e_slot rfl) (rd_val Wz.D.int) (rd_val Wz.D.int) (o_mul h5)) (e_op2 (o := .fdiv) (e_slot rfl) e_int (rd_val Wz.D.int) (rd_val Wz.D.int) (o_fdiv (by decide))) (rd_val Wz.D.int) (rd_val Wz.D.int) o_add) e_int (rd_val Wz.D.int) (rd_val Wz.D.int) (o_mod (by decide))) (fun _ => rfl) (Nat.le_of_ble_eq_true rfl) (fun _ => rfl) fun v6 => ?_
  refine g_if (t_cmp (o := .eq) (e_op2 (o := .mod) (e_slot rfl) e_int (rd_val Wz.D.int) (rd_val Wz.D.int) (o_mod (by decide))) e_int (rd_val Wz.D.int) (rd_val Wz.D.int) (c_eqD eqs_int (by decide) ((v1 % (5 : Int)) : Int) (4 : Int))) (fun hb => ?_) (fun hb => ?_)
  · exact go_ret (e_op2 (o := .add) (e_slot rfl) e_int (rd_val Wz.D.int) (rd_val Wz.D.int) o_add) rfl
  · refine go_nil ?_
    exact go_ret (e_slot rfl) rfl

noncomputable def n__law_draws (a0 : Int) (a1 : Int) (a2 : Int) (S : List Cell) : Out (List (Int)) :=
  Out.bindX (n__law_size a0 S) fun v1 S3 =>
  letK ([] : List (Int)) fun v4 =>
  if (decide ((1000000000000000000 : Int) ≤ v1)) = true then (
  letK ((v1 - (1000000000000000000 : Int)) : Int) fun v5 =>
  gP (0 < (a1 + (1 : Int))) <|
  letK ((v5 % (a1 + (1 : Int))) : Int) fun v7 =>
  gP (0 < (a1 + (1 : Int)) ∧ (a1 + (1 : Int)) < 18446744073709551616) <|
  letK ((v5 / (a1 + (1 : Int))) : Int) fun v9 =>
  gP (-(2 ^ 62) ≤ v7 ∧ v7 < 2 ^ 62) <|
  Out.bind (foldO (fun (s12 : Int × (List (Int))) (x11 : Nat) S13 =>
  gP (0 < a2) <|
  gP (List.length s12.2 < 16777216) <|
  letK (s12.2 ++ [(s12.1 % a2)]) fun v15 =>
  gP (0 < a2 ∧ a2 < 18446744073709551616) <|
  letK ((s12.1 / a2) : Int) fun v17 =>
  .ok (v17, v15) S13) (List.range (Int.toNat v7)) (v9, v4) S3) fun s18 S19 =>
  .ok s18.2 S19)
  else (
  letK (((v1 % (2147483629 : Int)) + (1 : Int)) : Int) fun v20 =>
  gP (0 < (a1 + (1 : Int))) <|
  gP (-(2 ^ 62) ≤ (v1 % (a1 + (1 : Int))) ∧ (v1 % (a1 + (1 : Int))) < 2 ^ 62) <|
  Out.bind (foldO (fun (s24 : (List (Int)) × Int) (x23 : Nat) S25 =>
  letK (((s24.2 * (48271 : Int)) % (2147483647 : Int)) : Int) fun v26 =>
  gP (0 < a2) <|
  gP (List.length s24.1 < 16777216) <|
  letK (s24.1 ++ [((((v26 * (16807 : Int)) % (998244353 : Int)) / (3 : Int)) % a2)]) fun v28 =>
  .ok (v28, v26) S25) (List.range (Int.toNat (v1 % (a1 + (1 : Int))))) (v4, v20) S3) fun s29 S30 =>
  .ok s29.1 S30)
theorem t__law_draws (a0 : Int) (a1 : Int) (a2 : Int) (S : List Cell) : RFn (sp__law_draws.run [Wz.D.int a0, Wz.D.int a1, Wz.D.int a2] S) (n__law_draws a0 a1 a2 S) (fun z => Rv.new ((encL Wz.D.int) z)) := by
  refine rf_run (ρ := [.val (Wz.D.int a0), .val (Wz.D.int a1), .val (Wz.D.int a2), .non, .non, .non, .non, .non]) rfl rfl ?_
  unfold n__law_draws
  refine g_bindX fun v1 S3 h2 => ?_
  refine go_setA (ρ' := [.val (Wz.D.int a0), .val (Wz.D.int a1), .val (Wz.D.int a2), .val (Wz.D.int v1), .non, .non, .non, .non]) (oke_call (q := fun z => Rv.val (Wz.D.int z)) (e_cons (e_slot rfl) e_nil) rfl rfl (t__law_size a0 _) (fun _ => rfl) h2) rfl (Nat.le_of_ble_eq_true rfl) rfl ?_
  refine g_setL (q := fun z => Rv.new ((encL Wz.D.int) z)) (s := fun z => Slot.own ((encL Wz.D.int) z)) (R := fun v4 => [.val (Wz.D.int a0), .val (Wz.D.int a1), .val (Wz.D.int a2), .val (Wz.D.int v1), .own ((encL Wz.D.int) v4), .non, .non, .non]) (e_lst e_nil rfl (Nat.le_of_ble_eq_true rfl)) (fun _ => rfl) (Nat.le_of_ble_eq_true rfl) (fun _ => rfl) fun v4 => ?_
  refine g_if (t_cmp (o := .ge) (e_slot rfl) (e_op2 (o := .pow) e_int e_int rd_int rd_int o_pow18) (rd_val Wz.D.int) (rd_val Wz.D.int) c_ge) (fun hb => ?_) (fun hb => ?_)
  · refine g_setL (q := fun z => Rv.val (Wz.D.int z)) (s := fun z => Slot.val (Wz.D.int z)) (R := fun v5 => [.val (Wz.D.int a0), .val (Wz.D.int a1), .val (Wz.D.int a2), .val (Wz.D.int v5), .own ((encL Wz.D.int) v4), .non, .non, .non]) (e_op2 (o := .sub) (e_slot rfl) (e_op2 (o := .pow) e_int e_int rd_int rd_int o_pow18) (rd_val Wz.D.int) (rd_val Wz.D.int) o_sub) (fun _ => rfl) (Nat.le_of_ble_eq_true rfl) (fun _ => rfl) fun v5 => ?_
    refine g_gP fun h6 => ?_
    refine g_setL (q := fun z => Rv.val (Wz.D.int z)) (s := fun z => Slot.val (Wz.D.int z)) (R := fun v7 => [.val (Wz.D.int a0), .val (Wz.D.int a1), .val (Wz.D.int a2), .val (Wz.D.int v5), .own ((encL Wz.D.int) v4), .val (Wz.D.int v7), .non, .non]) (e_op2 (o := .mod) (e_slot rfl) (e_op2 (o := .add) (e_slot rfl) e_int (rd_val Wz.D.int) (rd_val Wz.D.int) o_add) (rd_val Wz.D.int) (rd_val Wz.D.int) (o_mod h6)) (fun _ => rfl) (Nat.le_of_ble_eq_true rfl) (fun _ => rfl) fun v7 => ?_
    refine g_gP fun h8 => ?_
    refine g_setL (q := fun z => Rv.val (Wz.D.int z)) (s := fun z => Slot.val (Wz.D.int z)) (R := fun v9 => [.val (Wz.D.int a0), .val (Wz.D.int a1), .val (Wz.D.int a2), .val (Wz.D.int v9), .own ((encL Wz.D.int) v4), .val (Wz.D.int v7), .non, .non]) (e_op2 (o := .fdiv) (e_slot rfl) (e_op2 (o := .add) (e_slot rfl) e_int (rd_val Wz.D.int) (rd_val Wz.D.int) o_add) (rd_val Wz.D.int) (rd_val Wz.D.int) (o_fdiv h8)) (fun _ => rfl) (Nat.le_of_ble_eq_true rfl) (fun _ => rfl) fun v9 => ?_
    refine g_gP fun h10 => ?_
    refine g_for (σ := Int × (List (Int))) (fun (k : Nat) => Wz.D.int k) (fun s12 => [.val (Wz.D.int a0), .val (Wz.D.int a1), .val (Wz.D.int a2), .val (Wz.D.int s12.1), .own ((encL Wz.D.int) s12.2), .val (Wz.D.int v7), .non, .non]) (List.range (Int.toNat v7)) (v9, v4) ?_ rfl (by rfl) (fun s12 x11 S13 => ?_) (fun s18 S19 => ?_)
    · exact (i_rng1 (e_cons (e_slot rfl) e_nil) (rds_cons (rd_val Wz.D.int) rds_nil) h10)
    · refine ⟨[.val (Wz.D.int a0), .val (Wz.D.int a1), .val (Wz.D.int a2), .val (Wz.D.int s12.1), .own ((encL Wz.D.int) s12.2), .val (Wz.D.int v7), .val (Wz.D.int ((x11 : Nat) : Int)), .non], by rfl, ?_⟩
      refine g_gP fun h14 => ?_
      refine g_app (enc := Wz.D.int) (R := fun v15 => [.val (Wz.D.int a0), .val (Wz.D.int a1), .val (Wz.D.int a2), .val (Wz.D.int s12.1), .own ((encL Wz.D.int) v15), .val (Wz.D.int v7), .val (Wz.D.int ((x11 : Nat) : Int)), .non]) rfl (e_op2 (o := .mod) (e_slot rfl) (e_slot rfl) (rd_val Wz.D.int) (rd_val Wz.D.int) (o_mod h14)) rfl (fun _ => rfl) fun v15 => ?_
      refine g_gP fun h16 => ?_
      refine g_setL (q := fun z => Rv.val (Wz.D.int z)) (s := fun z => Slot.val (Wz.D.int z)) (R := fun v17 => [.val (Wz.D.int a0), .val (Wz.D.int a1), .val (Wz.D.int a2), .val (Wz.D.int v17), .own ((encL Wz.D.int) v15), .val (Wz.D.int v7), .val (Wz.D.int ((x11 : Nat) : Int)), .non]) (e_op2 (o := .fdiv) (e_slot rfl) (e_slot rfl) (rd_val Wz.D.int) (rd_val Wz.D.int) (o_fdiv h16)) (fun _ => rfl) (Nat.le_of_ble_eq_true rfl) (fun _ => rfl) fun v17 => ?_
      exact go_end ⟨_, rfl, rfl⟩
    · exact go_retO rfl (Nat.le_of_ble_eq_true rfl) rfl
  · refine go_nil ?_
    refine g_setL (q := fun z => Rv.val (Wz.D.int z)) (s := fun z => Slot.val (Wz.D.int z)) (R := fun v20 => [.val (Wz.D.int a0), .val (Wz.D.int a1), .val (Wz.D.int a2), .val (Wz.D.int v1), .own ((encL Wz.D.int) v4), .non, .non, .val (Wz.D.int v20)]) (e_op2 (o := .add) (e_op2 (o := .mod) (e_slot rfl) e_int (rd_val Wz.D.int) (rd_val Wz.D.int) (o_mod (by decide))) e_int (rd_val Wz.D.int) (rd_val Wz.D.int) o_add) (fun _ => rfl) (Nat.le_of_ble_eq_true rfl) (fun _ => rfl) fun v20 => ?_
    refine g_gP fun h21 => ?_
    refine g_gP fun h22 => ?_
    refine g_for (σ := (List (Int)) × Int) (fun (k : Nat) => Wz.D.int k) (fun s24 => [.val (Wz.D.int a0), .val (Wz.D.int a1), .val (Wz.D.int a2), .val (Wz.D.int v1), .own ((encL Wz.D.int) s24.1), .non, .non, .val (Wz.D.int s24.2)]) (List.range (Int.toNat (v1 % (a1 + (1 : Int))))) (v4, v20) ?_ rfl (by rfl) (fun s24 x23 S25 => ?_) (fun s29 S30 => ?_)
    · exact (i_rng1 (e_cons (e_op2 (o := .mod) (e_slot rfl) (e_op2 (o := .add) (e_slot rfl) e_int (rd_val Wz.D.int) (rd_val Wz.D.int) o_add) (rd_val Wz.D.int) (rd_val Wz.D.int) (o_mod h21)) e_nil) (rds_cons (rd_val Wz.D.int) rds_nil) h22)
    · refine ⟨[.val (Wz.D.int a0), .val (Wz.D.int a1), .val (Wz.D.int a2), .val (Wz.D.int v1), .own ((encL Wz.D.int) s24.1), .non, .val (Wz.D.int ((x23 : Nat) : Int)), .val (Wz.D.int s24.2)], by rfl, ?_⟩
      refine g_setL (q := fun z => Rv.val (Wz.D.int z)) (s := fun z => Slot.val (Wz.D.int z)) (R := fun v26 => [.val (Wz.D.int a0), .val (Wz.D.int a1), .val (Wz.D.int a2), .val (Wz.D.int v1), .own ((encL Wz.D.int) s24.1), .non, .val (Wz.D.int ((x23 : Nat) : Int)), .val (Wz.D.int v26)]) (e_op2 (o := .mod) (e_op2 (o := .mul) (e_slot rfl) e_int (rd_val Wz.D.int) (rd_val Wz.D.int) (o_mul (Or.inr (by decide)))) e_int (rd_val Wz.D.int) (rd_val Wz.D.int) (o_mod (by decide))) (fun _ => rfl) (Nat.le_of_ble_eq_true rfl) (fun _ => rfl) fun v26 => ?_
      refine g_gP fun h27 => ?_
      refine g_app (enc := Wz.D.int) (R := fun v28 => [.val (Wz.D.int a0), .val (Wz.D.int a1), .val (Wz.D.int a2), .val (Wz.D.int v1), .own ((encL Wz.D.int) v28), .non, .val (Wz.D.int ((x23 : Nat) : Int)), .val (Wz.D.int v26)]) rfl (e_op2 (o := .mod) (e_op2 (o := .fdiv) (e_op2 (o := .mod) (e_op2 (o := .mul) (e_slot rfl) e_int (rd_val Wz.D.int) (rd_val Wz.D.int) (o_mul (Or.inr (by decide)))) e_int (rd_val Wz.D.int) (rd_val Wz.D.int) (o_mod (by decide))) e_int (rd_val Wz.D.int) (rd_val Wz.D.int) (o_fdiv (by decide))) (e_slot rfl) (rd_val Wz.D.int) (rd_val Wz.D.int) (o_mod h27)) rfl (fun _ => rfl) fun v28 => ?_
      exact go_end ⟨_, rfl, rfl⟩
    · exact go_retO rfl (Nat.le_of_ble_eq_true rfl) rfl

noncomputable def n__law_draws_from (a0 : List Int) (a1 : Int) (a2 : Int) (a3 : Int) (S : List Cell) : Out (List (Int)) :=
  letK ([] : List (Int)) fun v1 =>
  Out.bind (foldO (fun (s3 : (List (Int))) (x2 : Int) S4 =>
  Out.bindX (n__law_draws x2 (24 : Int) a3 S4) fun v5 S7 =>
  Out.bind (foldO (fun (s9 : (List (Int))) (x8 : Int) S10 =>
  if (decide (((List.length s9 : Nat) : Int) < a2)) = true then (
  gP (List.length s9 < 16777216) <|
  letK (s9 ++ [x8]) fun v11 =>
  .ok v11 S10)
  else (
  .ok s9 S10)) v5 s3 S7) fun s12 S13 =>
  .ok s12 S13) (cutL a0 (some a1) (some (63 : Int))) v1 S) fun s14 S15 =>
  .ok s14 S15
theorem t__law_draws_from (a0 : List Int) (a1 : Int) (a2 : Int) (a3 : Int) (S : List Cell) : RFn (sp__law_draws_from.run [Wz.D.scr a0, Wz.D.int a1, Wz.D.int a2, Wz.D.int a3] S) (n__law_draws_from a0 a1 a2 a3 S) (fun z => Rv.new ((encL Wz.D.int) z)) := by
  refine rf_run (ρ := [.val (Wz.D.scr a0), .val (Wz.D.int a1), .val (Wz.D.int a2), .val (Wz.D.int a3), .non, .non, .non]) rfl rfl ?_
  unfold n__law_draws_from
  refine g_setL (q := fun z => Rv.new ((encL Wz.D.int) z)) (s := fun z => Slot.own ((encL Wz.D.int) z)) (R := fun v1 => [.val (Wz.D.scr a0), .val (Wz.D.int a1), .val (Wz.D.int a2), .val (Wz.D.int a3), .own ((encL Wz.D.int) v1), .non, .non]) (e_lst e_nil rfl (Nat.le_of_ble_eq_true rfl)) (fun _ => rfl) (Nat.le_of_ble_eq_true rfl) (fun _ => rfl) fun v1 => ?_
  refine g_for (σ := (List (Int))) Wz.D.int (fun s3 => [.val (Wz.D.scr a0), .val (Wz.D.int a1), .val (Wz.D.int a2), .val (Wz.D.int a3), .own ((encL Wz.D.int) s3), .non, .non]) (cutL a0 (some a1) (some (63 : Int))) v1 ?_ rfl (by rfl) (fun s3 x2 S4 => ?_) (fun s14 S15 => ?_)
  · exact (i_val (e_slc (e_slot rfl) (o_yes (e_slot rfl) (rd_val Wz.D.int)) (o_yes e_int (rd_val Wz.D.int)) (rd_val Wz.D.scr) slc_S) rfl rfl rfl)
  · refine ⟨[.val (Wz.D.scr a0), .val (Wz.D.int a1), .val (Wz.D.int a2), .val (Wz.D.int a3), .own ((encL Wz.D.int) s3), .val (Wz.D.int x2), .non], by rfl, ?_⟩
    refine g_bindX fun v5 S7 h6 => ?_
    refine g_for (σ := (List (Int))) Wz.D.int (fun s9 => [.val (Wz.D.scr a0), .val (Wz.D.int a1), .val (Wz.D.int a2), .val (Wz.D.int a3), .own ((encL Wz.D.int) s9), .val (Wz.D.int x2), .non]) v5 s3 ?_ rfl (by rfl) (fun s9 x8 S10 => ?_) (fun s12 S13 => ?_)
    · exact (i_val (oke_call (q := fun z => Rv.new ((encL Wz.D.int) z)) (e_cons (e_slot rfl) (e_cons e_int (e_cons (e_slot rfl) e_nil))) rfl rfl (t__law_draws x2 (24 : Int) a3 _) (fun _ => rfl) h6) rfl rfl rfl)
    · refine ⟨[.val (Wz.D.scr a0), .val (Wz.D.int a1), .val (Wz.D.int a2), .val (Wz.D.int a3), .own ((encL Wz.D.int) s9), .val (Wz.D.int x2), .val (Wz.D.int x8)], by rfl, ?_⟩
      refine g_if (t_cmp (o := .lt) (e_blt (e_cons (e_slot rfl) e_nil) (rds_cons rd_bor rds_nil) b_len) (e_slot rfl) (rd_val Wz.D.int) (rd_val Wz.D.int) c_lt) (fun hb => ?_) (fun hb => ?_)
      · refine g_app (enc := Wz.D.int) (R := fun v11 => [.val (Wz.D.scr a0), .val (Wz.D.int a1), .val (Wz.D.int a2), .val (Wz.D.int a3), .own ((encL Wz.D.int) v11), .val (Wz.D.int x2), .val (Wz.D.int x8)]) rfl (e_slot rfl) rfl (fun _ => rfl) fun v11 => ?_
        refine go_nil ?_
        exact go_end ⟨_, rfl, rfl⟩
      · refine go_nil ?_
        exact go_end ⟨_, rfl, rfl⟩
    · exact go_end ⟨_, rfl, rfl⟩
  · exact go_retO rfl (Nat.le_of_ble_eq_true rfl) rfl

noncomputable def n__law_pairs_from (a0 : List (Int)) (a1 : Int) (a2 : Int) (S : List Cell) : Out (List ((Int × Int))) :=
  letK ([] : List ((Int × Int))) fun v1 =>
  Out.bind (foldO (fun (s3 : (List ((Int × Int)))) (x2 : Int) S4 =>
  gP (0 < a1) <|
  letK ((x2 % a1) : Int) fun v6 =>
  gP (0 < a1 ∧ a1 < 18446744073709551616) <|
  gP (0 < (a1 - (1 : Int))) <|
  gP (0 < a1) <|
  letK ((((v6 + (1 : Int)) + ((x2 / a1) % (a1 - (1 : Int)))) % a1) : Int) fun v10 =>
  Out.bindX (n__law_guest v6 a2 S4) fun v11 S13 =>
  Out.bindX (n__law_guest v10 a2 S13) fun v14 S16 =>
  gP (List.length s3 < 16777216) <|
  letK (s3 ++ [(v11, v14)]) fun v17 =>
  .ok v17 S16) a0 v1 S) fun s18 S19 =>
  .ok s18 S19
theorem t__law_pairs_from (a0 : List (Int)) (a1 : Int) (a2 : Int) (S : List Cell) : RFn (sp__law_pairs_from.run [(encL Wz.D.int) a0, Wz.D.int a1, Wz.D.int a2] S) (n__law_pairs_from a0 a1 a2 S) (fun z => Rv.new ((encL (encP Wz.D.int Wz.D.int)) z)) := by
  refine rf_run (ρ := [.val ((encL Wz.D.int) a0), .val (Wz.D.int a1), .val (Wz.D.int a2), .non, .non, .non, .non]) rfl rfl ?_
  unfold n__law_pairs_from
  refine g_setL (q := fun z => Rv.new ((encL (encP Wz.D.int Wz.D.int)) z)) (s := fun z => Slot.own ((encL (encP Wz.D.int Wz.D.int)) z)) (R := fun v1 => [.val ((encL Wz.D.int) a0), .val (Wz.D.int a1), .val (Wz.D.int a2), .own ((encL (encP Wz.D.int Wz.D.int)) v1), .non, .non, .non]) (e_lst e_nil rfl (Nat.le_of_ble_eq_true rfl)) (fun _ => rfl) (Nat.le_of_ble_eq_true rfl) (fun _ => rfl) fun v1 => ?_
  refine g_for (σ := (List ((Int × Int)))) Wz.D.int (fun s3 => [.val ((encL Wz.D.int) a0), .val (Wz.D.int a1), .val (Wz.D.int a2), .own ((encL (encP Wz.D.int Wz.D.int)) s3), .non, .non, .non]) a0 v1 ?_ rfl (by rfl) (fun s3 x2 S4 => ?_) (fun s18 S19 => ?_)
  · exact (i_val (e_slot rfl) rfl rfl rfl)
  · refine ⟨[.val ((encL Wz.D.int) a0), .val (Wz.D.int a1), .val (Wz.D.int a2), .own ((encL (encP Wz.D.int Wz.D.int)) s3), .val (Wz.D.int x2), .non, .non], by rfl, ?_⟩
    refine g_gP fun h5 => ?_
    refine g_setL (q := fun z => Rv.val (Wz.D.int z)) (s := fun z => Slot.val (Wz.D.int z)) (R := fun v6 => [.val ((encL Wz.D.int) a0), .val (Wz.D.int a1), .val (Wz.D.int a2), .own ((encL (encP Wz.D.int Wz.D.int)) s3), .val (Wz.D.int x2), .val (Wz.D.int v6), .non]) (e_op2 (o := .mod) (e_slot rfl) (e_slot rfl) (rd_val Wz.D.int) (rd_val Wz.D.int) (o_mod h5)) (fun _ => rfl) (Nat.le_of_ble_eq_true rfl) (fun _ => rfl) fun v6 => ?_
    refine g_gP fun h7 => ?_
    refine g_gP fun h8 => ?_
    refine g_gP fun h9 => ?_
    refine g_setL (q := fun z => Rv.val (Wz.D.int z)) (s := fun z => Slot.val (Wz.D.int z)) (R := fun v10 => [.val ((encL Wz.D.int) a0), .val (Wz.D.int a1), .val (Wz.D.int a2), .own ((encL (encP Wz.D.int Wz.D.int)) s3), .val (Wz.D.int x2), .val (Wz.D.int v6), .val (Wz.D.int v10)]) (e_op2 (o := .mod) (e_op2 (o := .add) (e_op2 (o := .add) (e_slot rfl) e_int (rd_val Wz.D.int) (rd_val Wz.D.int) o_add) (e_op2 (o := .mod) (e_op2 (o := .fdiv) (e_slot rfl) (e_slot rfl) (rd_val Wz.D.int) (rd_val Wz.D.int) (o_fdiv h7)) (e_op2 (o := .sub) (e_slot rfl) e_int (rd_val Wz.D.int) (rd_val Wz.D.int) o_sub) (rd_val Wz.D.int) (rd_val Wz.D.int) (o_mod h8)) (rd_val Wz.D.int) (rd_val Wz.D.int) o_add) (e_slot rfl) (rd_val Wz.D.int) (rd_val Wz.D.int) (o_mod h9)) (fun _ => rfl) (Nat.le_of_ble_eq_true rfl) (fun _ => rfl) fun v10 => ?_
    refine g_bindX fun v11 S13 h12 => ?_
    refine g_bindX fun v14 S16 h15 => ?_
    refine g_app (enc := (encP Wz.D.int Wz.D.int)) (R := fun v17 => [.val ((encL Wz.D.int) a0), .val (Wz.D.int a1), .val (Wz.D.int a2), .own ((encL (encP Wz.D.int Wz.D.int)) v17), .val (Wz.D.int x2), .val (Wz.D.int v6), .val (Wz.D.int v10)]) rfl (e_tup (e_cons (oke_call (q := fun z => Rv.val (Wz.D.int z)) (e_cons (e_slot rfl) (e_cons (e_slot rfl) e_nil)) rfl rfl (t__law_guest v6 a2 _) (fun _ => rfl) h12) (e_cons (oke_call (q := fun z => Rv.val (Wz.D.int z)) (e_cons (e_slot rfl) (e_cons (e_slot rfl) e_nil)) rfl rfl (t__law_guest v10 a2 _) (fun _ => rfl) h15) e_nil)) rfl (Nat.le_of_ble_eq_true rfl)) rfl (fun _ => rfl) fun v17 => ?_
    exact go_end ⟨_, rfl, rfl⟩
  · exact go_retO rfl (Nat.le_of_ble_eq_true rfl) rfl

noncomputable def n__law_paper (a0 : List ((Int × Int))) (a1 : List (Int × Int)) (S : List Cell) : Out (List (Int × Int)) :=
  Out.bind (foldO (fun (s2 : (List (Int × Int))) (x1 : (Int × Int)) S3 =>
  letK (((getK s2 x1.1).getD x1.1) : Int) fun v4 =>
  gP (List.length s2 < 16777216) <|
  letK (setK s2 x1.1 ((getK s2 x1.2).getD x1.2)) fun v5 =>
  gP (List.length v5 < 16777216) <|
  letK (setK v5 x1.2 v4) fun v6 =>
  .ok v6 S3) a0 a1 S) fun s7 S8 =>
  .ok s7 S8
theorem t__law_paper (a0 : List ((Int × Int))) (a1 : List (Int × Int)) (S : List Cell) : RFn (sp__law_paper.run [(encL (encP Wz.D.int Wz.D.int)) a0, (encD Wz.D.int) a1] S) (n__law_paper a0 a1 S) (fun z => Rv.val ((encD Wz.D.int) z)) := by
  refine rf_run (ρ := [.val ((encL (encP Wz.D.int Wz.D.int)) a0), .own ((encD Wz.D.int) a1), .non, .non, .non]) rfl rfl ?_
  unfold n__law_paper
  refine g_for (σ := (List (Int × Int))) (encP Wz.D.int Wz.D.int) (fun s2 => [.val ((encL (encP Wz.D.int Wz.D.int)) a0), .own ((encD Wz.D.int) s2), .non, .non, .non]) a0 a1 ?_ rfl (by rfl) (fun s2 x1 S3 => ?_) (fun s7 S8 => ?_)
  · exact (i_val (e_slot rfl) rfl rfl rfl)
  · refine ⟨[.val ((encL (encP Wz.D.int Wz.D.int)) a0), .own ((encD Wz.D.int) s2), .val (Wz.D.int x1.1), .val (Wz.D.int x1.2), .non], by rfl, ?_⟩
    refine g_setL (q := fun z => Rv.val (Wz.D.int z)) (s := fun z => Slot.val (Wz.D.int z)) (R := fun v4 => [.val ((encL (encP Wz.D.int Wz.D.int)) a0), .own ((encD Wz.D.int) s2), .val (Wz.D.int x1.1), .val (Wz.D.int x1.2), .val (Wz.D.int v4)]) (e_getD (e_slot rfl) rd_bor (e_slot rfl) (rd_val Wz.D.int) (e_slot rfl) rfl) (fun _ => rfl) (Nat.le_of_ble_eq_true rfl) (fun _ => rfl) fun v4 => ?_
    refine g_subD (enc := Wz.D.int) (R := fun v5 => [.val ((encL (encP Wz.D.int Wz.D.int)) a0), .own ((encD Wz.D.int) v5), .val (Wz.D.int x1.1), .val (Wz.D.int x1.2), .val (Wz.D.int v4)]) rfl (e_getD (e_slot rfl) rd_bor (e_slot rfl) (rd_val Wz.D.int) (e_slot rfl) rfl) (e_slot rfl) (rd_val Wz.D.int) rfl (fun _ => rfl) fun v5 => ?_
    refine g_subD (enc := Wz.D.int) (R := fun v6 => [.val ((encL (encP Wz.D.int Wz.D.int)) a0), .own ((encD Wz.D.int) v6), .val (Wz.D.int x1.1), .val (Wz.D.int x1.2), .val (Wz.D.int v4)]) rfl (e_slot rfl) (e_slot rfl) (rd_val Wz.D.int) rfl (fun _ => rfl) fun v6 => ?_
    exact go_end ⟨_, rfl, rfl⟩
  · refine go_frzO rfl rfl ?_
    exact go_retV rfl  rfl

noncomputable def n_quadrille (a0 : Int) (a1 : Int) (a2 : Int) (a3 : Int) (S : List Cell) : Out (List ((Int × Int))) :=
  gP (List.length [a0, a1, a2, a3] ≤ 4000) <|
  if (decide (((List.length (fstM [a0, a1, a2, a3]) : Nat) : Int) < (4 : Int))) = true then (
  .exc "Same" none S)
  else (
  .ok [(a0, a1), (a2, a3), (a0, a2), (a1, a3), (a0, a3), (a1, a2)] S)
theorem t_quadrille (a0 : Int) (a1 : Int) (a2 : Int) (a3 : Int) (S : List Cell) : RFn (sp_quadrille.run [Wz.D.int a0, Wz.D.int a1, Wz.D.int a2, Wz.D.int a3] S) (n_quadrille a0 a1 a2 a3 S) (fun z => Rv.new ((encL (encP Wz.D.int Wz.D.int)) z)) := by
  refine rf_run (ρ := [.val (Wz.D.int a0), .val (Wz.D.int a1), .val (Wz.D.int a2), .val (Wz.D.int a3)]) rfl rfl ?_
  unfold n_quadrille
  refine g_gP fun h1 => ?_
  refine g_if (t_cmp (o := .lt) (e_lset (e_lst (e_cons (e_slot rfl) (e_cons (e_slot rfl) (e_cons (e_slot rfl) (e_cons (e_slot rfl) e_nil)))) rfl (Nat.le_of_ble_eq_true rfl)) rd_new (lset_L h1)) e_int (rd_val Wz.D.int) (rd_val Wz.D.int) c_lt) (fun hb => ?_) (fun hb => ?_)
  · exact go_raise rx_exc
  · refine go_nil ?_
    exact go_ret (e_lst (e_cons (e_tup (e_cons (e_slot rfl) (e_cons (e_slot rfl) e_nil)) rfl (Nat.le_of_ble_eq_true rfl)) (e_cons (e_tup (e_cons (e_slot rfl) (e_cons (e_slot rfl) e_nil)) rfl (Nat.le_of_ble_eq_true rfl)) (e_cons (e_tup (e_cons (e_slot rfl) (e_cons (e_slot rfl) e_nil)) rfl (Nat.le_of_ble_eq_true rfl)) (e_cons (e_tup (e_cons (e_slot rfl) (e_cons (e_slot rfl) e_nil)) rfl (Nat.le_of_ble_eq_true rfl)) (e_cons (e_tup (e_cons (e_slot rfl) (e_cons (e_slot rfl) e_nil)) rfl (Nat.le_of_ble_eq_true rfl)) (e_cons (e_tup (e_cons (e_slot rfl) (e_cons (e_slot rfl) e_nil)) rfl (Nat.le_of_ble_eq_true rfl)) e_nil)))))) rfl (Nat.le_of_ble_eq_true rfl)) rfl

noncomputable def n__law_whole (a0 : Int) (S : List Cell) : Out (Bool) :=
  .ok (true && (!false)) S
theorem t__law_whole (a0 : Int) (S : List Cell) : RFn (sp__law_whole.run [Wz.D.int a0] S) (n__law_whole a0 S) (fun z => Rv.val (Wz.D.bl z)) := by
  refine rf_run (ρ := [.val (Wz.D.int a0)]) rfl rfl ?_
  unfold n__law_whole
  exact go_ret (e_andV (e_isi (e_slot rfl) (rd_val Wz.D.int) rfl) (rd_val Wz.D.bl) fun _ => (e_notV (e_isi (e_slot rfl) (rd_val Wz.D.int) rfl) (rd_val Wz.D.bl))) rfl

noncomputable def n__law_pair (a0 : (Int × Int)) (S : List Cell) : Out (Bool) :=
  if ((!true) || (!(decide (((2 : Int) : Int) = (2 : Int))))) = true then (
  .ok false S)
  else (
  Out.bindX (n__law_whole a0.1 S) fun v1 S3 =>
  Out.bindX (if v1 = true then (Out.bindX (n__law_whole a0.2 S3) fun v4 S6 =>
  .ok v4 S6) else .ok false S3) fun v7 S9 =>
  .ok v7 S9)
theorem t__law_pair (a0 : (Int × Int)) (S : List Cell) : RFn (sp__law_pair.run [(encP Wz.D.int Wz.D.int) a0] S) (n__law_pair a0 S) (fun z => Rv.val (Wz.D.bl z)) := by
  refine rf_run (ρ := [.val ((encP Wz.D.int Wz.D.int) a0)]) rfl rfl ?_
  unfold n__law_pair
  refine g_if (t_or (t_not (t_tru (e_isi (e_slot rfl) (rd_val (encP Wz.D.int Wz.D.int) (x := a0)) rfl) (rd_val Wz.D.bl) rfl)) fun _ => (t_cmp (o := .ne) (e_blt (e_cons (e_slot rfl) e_nil) (rds_cons (rd_val (encP Wz.D.int Wz.D.int) (x := a0)) rds_nil) rfl) e_int (rd_val Wz.D.int) (rd_val Wz.D.int) (c_neD eqs_int (by decide) ((2 : Int) : Int) (2 : Int)))) (fun hb => ?_) (fun hb => ?_)
  · exact go_ret e_bl rfl
  · refine go_nil ?_
    refine g_bindX fun v1 S3 h2 => ?_
    refine g_bindX fun v7 S9 h8 => ?_
    exact go_ret (oke_use (q := fun b => Rv.val (.bl b)) h8 (by
      refine oke_andV (oke_call (q := fun z => Rv.val (Wz.D.bl z)) (e_cons (e_idx (e_slot rfl) e_int (rd_val (encP Wz.D.int Wz.D.int) (x := a0)) (rd_val Wz.D.int) ix_P0) e_nil) rfl rfl (t__law_whole a0.1 _) (fun _ => rfl) h2) (rd_val Wz.D.bl) fun hb => ?_
      refine oke_bindX fun v4 S6 h5 => ?_
      exact oke_ok (oke_call (q := fun z => Rv.val (Wz.D.bl z)) (e_cons (e_idx (e_slot rfl) e_int (rd_val (encP Wz.D.int Wz.D.int) (x := a0)) (rd_val Wz.D.int) ix_P1) e_nil) rfl rfl (t__law_whole a0.2 _) (fun _ => rfl) h5))) rfl

noncomputable def n__law_row_r (a0 : Nat) (S : List Cell) : Out (Bool) :=
  gO (vR (encL (encP Wz.D.int Wz.D.int)) S a0) fun v1 =>
  if (!true) = true then (
  .ok false S)
  else (
  gO (vB (encL (encP Wz.D.int Wz.D.int)) S a0) fun v3 =>
  gP ((List.length v3) ≤ 16777216) <|
  Out.bindX (lcB (fun S => gdOk S (some (a0, (encL (encP Wz.D.int Wz.D.int) v3)))) (fun (x6 : (Int × Int)) S11 => .ok true S11) (fun (x6 : (Int × Int)) S7 => Out.bindX (n__law_pair x6 S7) fun v8 S10 =>
  .ok v8 S10) v3 S) fun v12 S14 =>
  .ok (List.all v12 id) S14)
theorem t__law_row_r (a0 : Nat) (S : List Cell) : RFn (sp__law_row.run [Wz.D.ref a0] S) (n__law_row_r a0 S) (fun z => Rv.val (Wz.D.bl z)) := by
  refine rf_run (ρ := [.val (Wz.D.ref a0), .non]) rfl rfl ?_
  unfold n__law_row_r
  refine g_gO fun v1 h2 => ?_
  refine g_if (t_not (t_tru (e_isi (e_slot rfl) (rd_refR (vR_spec h2)) rfl) (rd_val Wz.D.bl) rfl)) (fun hb => ?_) (fun hb => ?_)
  · exact go_ret e_bl rfl
  · refine go_nil ?_
    refine g_gO fun v3 h4 => ?_
    refine g_gP fun h5 => ?_
    refine g_bindX fun v12 S14 h13 => ?_
    exact go_ret (e_blt (e_cons (oke_lcB (encP Wz.D.int Wz.D.int) Wz.D.bl (i_boxL (e_slot rfl) (vB_spec h4)) rfl rfl h5 (fun x6 S11 => ⟨[.val (Wz.D.ref a0), .val ((encP Wz.D.int Wz.D.int) x6)], rfl, (by
      exact oke_ok rfl), fun S7 => ⟨fun z => Rv.val (Wz.D.bl z), (by
      refine oke_bindX fun v8 S10 h9 => ?_
      exact oke_ok (oke_call (q := fun z => Rv.val (Wz.D.bl z)) (e_cons (e_slot rfl) e_nil) rfl rfl (t__law_pair x6 _) (fun _ => rfl) h9)), fun _ => rfl⟩⟩) h13) e_nil) (rds_cons rd_new rds_nil) b_all) rfl

noncomputable def n__law_key (a0 : Int) (a1 : Int) (S : List Cell) : Out ((Int × Int)) :=
  if (decide (a1 < a0)) = true then (
  .ok (a1, a0) S)
  else (
  .ok (a0, a1) S)
theorem t__law_key (a0 : Int) (a1 : Int) (S : List Cell) : RFn (sp__law_key.run [Wz.D.int a0, Wz.D.int a1] S) (n__law_key a0 a1 S) (fun z => Rv.val ((encP Wz.D.int Wz.D.int) z)) := by
  refine rf_run (ρ := [.val (Wz.D.int a0), .val (Wz.D.int a1)]) rfl rfl ?_
  unfold n__law_key
  refine g_if (t_cmp (o := .lt) (e_slot rfl) (e_slot rfl) (rd_val Wz.D.int) (rd_val Wz.D.int) c_lt) (fun hb => ?_) (fun hb => ?_)
  · exact go_ret (e_tup (e_cons (e_slot rfl) (e_cons (e_slot rfl) e_nil)) rfl (Nat.le_of_ble_eq_true rfl)) rfl
  · refine go_nil ?_
    exact go_ret (e_tup (e_cons (e_slot rfl) (e_cons (e_slot rfl) e_nil)) rfl (Nat.le_of_ble_eq_true rfl)) rfl

noncomputable def n__law_paper_rp (a0 : Nat) (a1 : List (Int × Int)) (S : List Cell) : Out (List (Int × Int)) :=
  gO (vB (encL (encP Wz.D.int Wz.D.int)) S a0) fun v1 =>
  Out.bind (foldB (fun S => gdOk S (some (a0, (encL (encP Wz.D.int Wz.D.int) v1)))) (fun (s4 : (List (Int × Int))) (x3 : (Int × Int)) S5 =>
  letK (((getK s4 x3.1).getD x3.1) : Int) fun v6 =>
  gP (List.length s4 < 16777216) <|
  letK (setK s4 x3.1 ((getK s4 x3.2).getD x3.2)) fun v7 =>
  gP (List.length v7 < 16777216) <|
  letK (setK v7 x3.2 v6) fun v8 =>
  .ok v8 S5) v1 a1 S) fun s9 S10 =>
  .ok s9 S10
theorem t__law_paper_rp (a0 : Nat) (a1 : List (Int × Int)) (S : List Cell) : RFn (sp__law_paper.run [Wz.D.ref a0, (encD Wz.D.int) a1] S) (n__law_paper_rp a0 a1 S) (fun z => Rv.val ((encD Wz.D.int) z)) := by
  refine rf_run (ρ := [.val (Wz.D.ref a0), .own ((encD Wz.D.int) a1), .non, .non, .non]) rfl rfl ?_
  unfold n__law_paper_rp
  refine g_gO fun v1 h2 => ?_
  refine g_forB (σ := (List (Int × Int))) (encP Wz.D.int Wz.D.int) (fun s4 => [.val (Wz.D.ref a0), .own ((encD Wz.D.int) s4), .non, .non, .non]) v1 a1 ?_ rfl (by rfl) (fun s4 x3 S5 => ?_) (fun s9 S10 => ?_)
  · exact (i_boxL (e_slot rfl) (vB_spec h2))
  · refine ⟨[.val (Wz.D.ref a0), .own ((encD Wz.D.int) s4), .val (Wz.D.int x3.1), .val (Wz.D.int x3.2), .non], by rfl, ?_⟩
    refine g_setL (q := fun z => Rv.val (Wz.D.int z)) (s := fun z => Slot.val (Wz.D.int z)) (R := fun v6 => [.val (Wz.D.ref a0), .own ((encD Wz.D.int) s4), .val (Wz.D.int x3.1), .val (Wz.D.int x3.2), .val (Wz.D.int v6)]) (e_getD (e_slot rfl) rd_bor (e_slot rfl) (rd_val Wz.D.int) (e_slot rfl) rfl) (fun _ => rfl) (Nat.le_of_ble_eq_true rfl) (fun _ => rfl) fun v6 => ?_
    refine g_subD (enc := Wz.D.int) (R := fun v7 => [.val (Wz.D.ref a0), .own ((encD Wz.D.int) v7), .val (Wz.D.int x3.1), .val (Wz.D.int x3.2), .val (Wz.D.int v6)]) rfl (e_getD (e_slot rfl) rd_bor (e_slot rfl) (rd_val Wz.D.int) (e_slot rfl) rfl) (e_slot rfl) (rd_val Wz.D.int) rfl (fun _ => rfl) fun v7 => ?_
    refine g_subD (enc := Wz.D.int) (R := fun v8 => [.val (Wz.D.ref a0), .own ((encD Wz.D.int) v8), .val (Wz.D.int x3.1), .val (Wz.D.int x3.2), .val (Wz.D.int v6)]) rfl (e_slot rfl) (e_slot rfl) (rd_val Wz.D.int) rfl (fun _ => rfl) fun v8 => ?_
    exact go_end ⟨_, rfl, rfl⟩
  · refine go_frzO rfl rfl ?_
    exact go_retV rfl  rfl

noncomputable def n_law (a0 : List Int) (S : List Cell) : Out (Bool) :=
  Out.bindX (n__law_cell_at a0 (1 : Int) S) fun v1 S3 =>
  Out.bindX (n__law_cell_at a0 (0 : Int) S3) fun v4 S6 =>
  Out.bindX (n__law_size v4 S6) fun v7 S9 =>
  gP (-(2 ^ 62) ≤ (4 : Int) ∧ (4 : Int) < 2 ^ 62) <|
  gP ((List.length (List.range (Int.toNat (4 : Int)))) ≤ 16777216) <|
  Out.bindX (lcO (fun (x12 : Nat) S18 => .ok true S18) (fun (x12 : Nat) S13 => gP (mulOk ((1 : Int) + ((v7 / (12 : Int)) % (3 : Int))) ((x12 : Nat) : Int)) <|
  Out.bindX (n__law_guest ((v7 + (((1 : Int) + ((v7 / (12 : Int)) % (3 : Int))) * ((x12 : Nat) : Int))) % (12 : Int)) v1 S13) fun v15 S17 =>
  .ok v15 S17) (List.range (Int.toNat (4 : Int))) S9) fun v19 S21 =>
  Out.bindX (n__law_cell_at a0 (2 : Int) S21) fun v22 S24 =>
  Out.bindX (n__law_size v22 S24) fun v25 S27 =>
  Out.bind (α := (List (Int))) (if (decide (((v25 % (4 : Int)) : Int) = (3 : Int))) = true then (
  gO (L2.atI v19 ((v25 / (16 : Int)) % (4 : Int))) fun v28 =>
  gO (setI v19 ((v25 / (4 : Int)) % (4 : Int)) v28) fun v30 =>
  .ok v30 S27)
  else (
  .ok v19 S27)) fun s32 S33 =>
  gP (List.length s32 ≤ 4000) <|
  letK ((decide ((((List.length (fstM s32) : Nat) : Int) : Int) = (4 : Int))) : Bool) fun v35 =>
  Out.bindX (n__law_draws_from a0 (3 : Int) (30 : Int) (132 : Int) S33) fun v36 S38 =>
  Out.bindX (n__law_pairs_from v36 (12 : Int) v1 S38) fun v39 S41 =>
  Out.bindX (n__law_paper v39 [] S41) fun v42 S44 =>
  letK (("" : Str) : Str) fun v45 =>
  Out.bind (α := (Option (Nat)) × Str) (tryN (gO (L2.atI s32 (0 : Int)) fun v46 =>
  gO (L2.atI s32 (1 : Int)) fun v48 =>
  gO (L2.atI s32 (2 : Int)) fun v50 =>
  gO (L2.atI s32 (3 : Int)) fun v52 =>
  Out.bind (Out.bind (n_quadrille v46 v48 v50 v52 S44) fun v54 S55 => .ok (List.length S55) (S55 ++ [.box ((encL (encP Wz.D.int Wz.D.int)) v54)])) fun v54 S55 => .ok ((some v54), v45) S55) (fun c d S => gP (List.contains (["Same"] : List Str) c = true) <| if c = "Same" then (.ok (none, ("Same" : Str)) S) else (.exc c d S))) fun s56 S57 =>
  if (!v35) = true then (
  .ok (decide ((s56.2 : Str) = ("Same" : Str))) S57)
  else (
  Out.bindX (if (!(decide ((s56.2 : Str) = ("" : Str)))) = true then .ok true S57 else (gO (s56.1) fun v58 =>
  Out.bindX (n__law_row_r v58 S57) fun v60 S62 =>
  Out.bindX (if (!v60) = true then .ok true S62 else (gO (s56.1) fun v63 =>
  gO (vR (encL (encP Wz.D.int Wz.D.int)) S62 v63) fun v65 =>
  .ok (!(decide ((((List.length v65 : Nat) : Int) : Int) = (6 : Int)))) S62)) fun v67 S69 =>
  .ok v67 S69)) fun v70 S72 =>
  if v70 = true then (
  .ok false S72)
  else (
  gO (s56.1) fun v73 =>
  gO (vB (encL (encP Wz.D.int Wz.D.int)) S72 v73) fun v75 =>
  gP ((List.length v75) ≤ 16777216) <|
  Out.bindX (lcB (fun S => gdOk S (some (v73, (encL (encP Wz.D.int Wz.D.int) v75)))) (fun (x78 : (Int × Int)) S83 => .ok true S83) (fun (x78 : (Int × Int)) S79 => Out.bindX (n__law_key x78.1 x78.2 S79) fun v80 S82 =>
  .ok v80 S82) v75 S72) fun v84 S86 =>
  gP (List.length v84 < 64) <|
  if (!(decide ((((List.length (ddM (prL v84)) : Nat) : Int) : Int) = (6 : Int)))) = true then (
  .ok false S86)
  else (
  gO (s56.1) fun v88 =>
  gO (vB (encL (encP Wz.D.int Wz.D.int)) S86 v88) fun v90 =>
  gP ((List.length v90) ≤ 16777216) <|
  Out.bindX (lcB (fun S => gdOk S (some (v88, (encL (encP Wz.D.int Wz.D.int) v90)))) (fun (x93 : (Int × Int)) S95 => .ok true S95) (fun (x93 : (Int × Int)) S94 => .ok ((decide ((x93.1 : Int) = x93.2)) || ((!(List.contains s32 x93.1)) || (!(List.contains s32 x93.2)))) S94) v90 S86) fun v96 S98 =>
  if (List.any v96 id) = true then (
  .ok false S98)
  else (
  gO (s56.1) fun v99 =>
  Out.bindX (n__law_paper_rp v99 v42 S98) fun v101 S103 =>
  gP ((List.length (List.map (fun x => x.1) v101)) ≤ 16777216) <|
  Out.bindX (lcO (fun (x105 : Int) S109 => .ok true S109) (fun (x105 : Int) S106 => gO (getK v101 x105) fun v107 =>
  .ok (decide ((v107 : Int) = ((getK v42 x105).getD x105))) S106) (List.map (fun x => x.1) v101) S103) fun v110 S112 =>
  if (!(List.all v110 id)) = true then (
  .ok false S112)
  else (
  gO (s56.1) fun v113 =>
  gO (vR (encL (encP Wz.D.int Wz.D.int)) S112 v113) fun v115 =>
  gO (s56.1) fun v117 =>
  gO (vB (encL (encP Wz.D.int Wz.D.int)) S112 v117) fun v119 =>
  stK (S112.set v117 (.box ((encL (encP Wz.D.int Wz.D.int)) []))) fun S121 =>
  gO (L2.atI s32 (0 : Int)) fun v122 =>
  gO (L2.atI s32 (1 : Int)) fun v124 =>
  gO (L2.atI s32 (2 : Int)) fun v126 =>
  gO (L2.atI s32 (3 : Int)) fun v128 =>
  Out.bindX (n_quadrille v122 v124 v126 v128 S121) fun v130 S132 =>
  .ok (decide ((v130 : List ((Int × Int))) = v115)) S132)))))
theorem t_law (a0 : List Int) (S : List Cell) : RFn (sp_law.run [Wz.D.scr a0] S) (n_law a0 S) (fun z => Rv.val (Wz.D.bl z)) := by
  refine rf_run (ρ := [.val (Wz.D.scr a0), .non, .non, .non, .non, .non, .non, .non, .non, .non, .non, .non, .non, .non]) rfl rfl ?_
  unfold n_law
  refine g_bindX fun v1 S3 h2 => ?_
  refine go_setA (ρ' := [.val (Wz.D.scr a0), .val (Wz.D.int v1), .non, .non, .non, .non, .non, .non, .non, .non, .non, .non, .non, .non]) (oke_call (q := fun z => Rv.val (Wz.D.int z)) (e_cons (e_slot rfl) (e_cons e_int e_nil)) rfl rfl (t__law_cell_at a0 (1 : Int) _) (fun _ => rfl) h2) rfl (Nat.le_of_ble_eq_true rfl) rfl ?_
  refine g_bindX fun v4 S6 h5 => ?_
  refine g_bindX fun v7 S9 h8 => ?_
  refine go_setA (ρ' := [.val (Wz.D.scr a0), .val (Wz.D.int v1), .val (Wz.D.int v7), .non, .non, .non, .non, .non, .non, .non, .non, .non, .non, .non]) (oke_call (q := fun z => Rv.val (Wz.D.int z)) (e_cons (oke_call (q := fun z => Rv.val (Wz.D.int z)) (e_cons (e_slot rfl) (e_cons e_int e_nil)) rfl rfl (t__law_cell_at a0 (0 : Int) _) (fun _ => rfl) h5) e_nil) rfl rfl (t__law_size v4 _) (fun _ => rfl) h8) rfl (Nat.le_of_ble_eq_true rfl) rfl ?_
  refine g_gP fun h10 => ?_
  refine g_gP fun h11 => ?_
  refine g_bindX fun v19 S21 h20 => ?_
  refine go_setLc ?_
  refine go_setA (ρ' := [.val (Wz.D.scr a0), .val (Wz.D.int v1), .val (Wz.D.int v7), .own ((encL Wz.D.int) v19), .non, .non, .non, .non, .non, .non, .non, .non, .non, .non]) (oke_lc (fun (k : Nat) => Wz.D.int k) Wz.D.int (i_rng1 (e_cons e_int e_nil) (rds_cons (rd_val Wz.D.int) rds_nil) h10) rfl rfl h11 (fun x12 S18 => ⟨[.val (Wz.D.scr a0), .val (Wz.D.int v1), .val (Wz.D.int v7), .non, .val (Wz.D.int ((x12 : Nat) : Int)), .non, .non, .non, .non, .non, .non, .non, .non, .non], rfl, (by
    exact oke_ok rfl), fun S13 => ⟨fun z => Rv.val (Wz.D.int z), (by
    refine oke_gP fun h14 => ?_
    refine oke_bindX fun v15 S17 h16 => ?_
    exact oke_ok (oke_call (q := fun z => Rv.val (Wz.D.int z)) (e_cons (e_op2 (o := .mod) (e_op2 (o := .add) (e_slot rfl) (e_op2 (o := .mul) (e_op2 (o := .add) e_int (e_op2 (o := .mod) (e_op2 (o := .fdiv) (e_slot rfl) e_int (rd_val Wz.D.int) (rd_val Wz.D.int) (o_fdiv (by decide))) e_int (rd_val Wz.D.int) (rd_val Wz.D.int) (o_mod (by decide))) (rd_val Wz.D.int) (rd_val Wz.D.int) o_add) (e_slot rfl) (rd_val Wz.D.int) (rd_val Wz.D.int) (o_mul h14)) (rd_val Wz.D.int) (rd_val Wz.D.int) o_add) e_int (rd_val Wz.D.int) (rd_val Wz.D.int) (o_mod (by decide))) (e_cons (e_slot rfl) e_nil)) rfl rfl (t__law_guest ((v7 + (((1 : Int) + ((v7 / (12 : Int)) % (3 : Int))) * ((x12 : Nat) : Int))) % (12 : Int)) v1 _) (fun _ => rfl) h16)), fun _ => rfl⟩⟩) h20) rfl (Nat.le_of_ble_eq_true rfl) rfl ?_
  refine g_bindX fun v22 S24 h23 => ?_
  refine g_bindX fun v25 S27 h26 => ?_
  refine go_setA (ρ' := [.val (Wz.D.scr a0), .val (Wz.D.int v1), .val (Wz.D.int v7), .own ((encL Wz.D.int) v19), .non, .val (Wz.D.int v25), .non, .non, .non, .non, .non, .non, .non, .non]) (oke_call (q := fun z => Rv.val (Wz.D.int z)) (e_cons (oke_call (q := fun z => Rv.val (Wz.D.int z)) (e_cons (e_slot rfl) (e_cons e_int e_nil)) rfl rfl (t__law_cell_at a0 (2 : Int) _) (fun _ => rfl) h23) e_nil) rfl rfl (t__law_size v22 _) (fun _ => rfl) h26) rfl (Nat.le_of_ble_eq_true rfl) rfl ?_
  refine g_join (S1 := S27) (σ := (List (Int))) (fun s32 => [.val (Wz.D.scr a0), .val (Wz.D.int v1), .val (Wz.D.int v7), .own ((encL Wz.D.int) s32), .non, .val (Wz.D.int v25), .non, .non, .non, .non, .non, .non, .non, .non]) ?_ (fun hb => ?_) (fun hb => ?_) (fun s32 S33 => ?_)
  · exact (t_cmp (o := .eq) (e_op2 (o := .mod) (e_slot rfl) e_int (rd_val Wz.D.int) (rd_val Wz.D.int) (o_mod (by decide))) e_int (rd_val Wz.D.int) (rd_val Wz.D.int) (c_eqD eqs_int (by decide) ((v25 % (4 : Int)) : Int) (3 : Int)))
  · refine g_gO fun v28 h29 => ?_
    refine g_subL (enc := Wz.D.int) (R := fun v30 => [.val (Wz.D.scr a0), .val (Wz.D.int v1), .val (Wz.D.int v7), .own ((encL Wz.D.int) v30), .non, .val (Wz.D.int v25), .non, .non, .non, .non, .non, .non, .non, .non]) rfl (e_idx (e_slot rfl) (e_op2 (o := .mod) (e_op2 (o := .fdiv) (e_slot rfl) e_int (rd_val Wz.D.int) (rd_val Wz.D.int) (o_fdiv (by decide))) e_int (rd_val Wz.D.int) (rd_val Wz.D.int) (o_mod (by decide))) rd_bor (rd_val Wz.D.int) (ix_at h29)) (e_op2 (o := .mod) (e_op2 (o := .fdiv) (e_slot rfl) e_int (rd_val Wz.D.int) (rd_val Wz.D.int) (o_fdiv (by decide))) e_int (rd_val Wz.D.int) (rd_val Wz.D.int) (o_mod (by decide))) (rd_val Wz.D.int) rfl (fun _ => rfl) fun v30 => ?_
    exact go_end rfl
  · exact go_end rfl
  · refine g_gP fun h34 => ?_
    refine g_setL (q := fun z => Rv.val (Wz.D.bl z)) (s := fun z => Slot.val (Wz.D.bl z)) (R := fun v35 => [.val (Wz.D.scr a0), .val (Wz.D.int v1), .val (Wz.D.int v7), .own ((encL Wz.D.int) s32), .non, .val (Wz.D.int v25), .val (Wz.D.bl v35), .non, .non, .non, .non, .non, .non, .non]) (e_cmp (o := .eq) (e_lset (e_slot rfl) rd_bor (lset_L h34)) e_int (rd_val Wz.D.int) (rd_val Wz.D.int) (c_eqD eqs_int (by decide) (((List.length (fstM s32) : Nat) : Int) : Int) (4 : Int))) (fun _ => rfl) (Nat.le_of_ble_eq_true rfl) (fun _ => rfl) fun v35 => ?_
    refine g_bindX fun v36 S38 h37 => ?_
    refine g_bindX fun v39 S41 h40 => ?_
    refine g_bindX fun v42 S44 h43 => ?_
    refine go_setA (ρ' := [.val (Wz.D.scr a0), .val (Wz.D.int v1), .val (Wz.D.int v7), .own ((encL Wz.D.int) s32), .non, .val (Wz.D.int v25), .val (Wz.D.bl v35), .val ((encD Wz.D.int) v42), .non, .non, .non, .non, .non, .non]) (oke_call (q := fun z => Rv.val ((encD Wz.D.int) z)) (e_cons (oke_call (q := fun z => Rv.new ((encL (encP Wz.D.int Wz.D.int)) z)) (e_cons (oke_call (q := fun z => Rv.new ((encL Wz.D.int) z)) (e_cons (e_slot rfl) (e_cons e_int (e_cons e_int (e_cons e_int e_nil)))) rfl rfl (t__law_draws_from a0 (3 : Int) (30 : Int) (132 : Int) _) (fun _ => rfl) h37) (e_cons e_int (e_cons (e_slot rfl) e_nil))) rfl rfl (t__law_pairs_from v36 (12 : Int) v1 _) (fun _ => rfl) h40) (e_cons e_dk e_nil)) rfl rfl (t__law_paper v39 [] _) (fun _ => rfl) h43) rfl (Nat.le_of_ble_eq_true rfl) rfl ?_
    refine go_setA (ρ' := [.val (Wz.D.scr a0), .val (Wz.D.int v1), .val (Wz.D.int v7), .own ((encL Wz.D.int) s32), .non, .val (Wz.D.int v25), .val (Wz.D.bl v35), .val ((encD Wz.D.int) v42), .val ((encO Wz.D.ref) none), .non, .non, .non, .non, .non]) e_non rfl (Nat.le_of_ble_eq_true rfl) rfl ?_
    refine g_setL (q := fun z => Rv.val (Wz.D.str z)) (s := fun z => Slot.val (Wz.D.str z)) (R := fun v45 => [.val (Wz.D.scr a0), .val (Wz.D.int v1), .val (Wz.D.int v7), .own ((encL Wz.D.int) s32), .non, .val (Wz.D.int v25), .val (Wz.D.bl v35), .val ((encD Wz.D.int) v42), .val ((encO Wz.D.ref) none), .val (Wz.D.str v45), .non, .non, .non, .non]) e_str (fun _ => rfl) (Nat.le_of_ble_eq_true rfl) (fun _ => rfl) fun v45 => ?_
    refine g_try (σ := (Option (Nat)) × Str) (fun s56 => [.val (Wz.D.scr a0), .val (Wz.D.int v1), .val (Wz.D.int v7), .own ((encL Wz.D.int) s32), .non, .val (Wz.D.int v25), .val (Wz.D.bl v35), .val ((encD Wz.D.int) v42), .val ((encO Wz.D.ref) s56.1), .val (Wz.D.str s56.2), .non, .non, .non, .non]) ?_ ?_ (fun s56 S57 => ?_)
    · refine y_gO fun v46 h47 => ?_
      refine y_gO fun v48 h49 => ?_
      refine y_gO fun v50 h51 => ?_
      refine y_gO fun v52 h53 => ?_
      exact y_setE (s := fun v54 => Slot.val ((encO Wz.D.ref) (some v54))) (re_box (enc := (encL (encP Wz.D.int Wz.D.int))) (f := fun v54 => v54) (re_call (q := fun z => Rv.new ((encL (encP Wz.D.int Wz.D.int)) z)) (e_cons (e_idx (e_slot rfl) e_int rd_bor (rd_val Wz.D.int) (ix_at h47)) (e_cons (e_idx (e_slot rfl) e_int rd_bor (rd_val Wz.D.int) (ix_at h49)) (e_cons (e_idx (e_slot rfl) e_int rd_bor (rd_val Wz.D.int) (ix_at h51)) (e_cons (e_idx (e_slot rfl) e_int rd_bor (rd_val Wz.D.int) (ix_at h53)) e_nil)))) rfl rfl (t_quadrille v46 v48 v50 v52 _) (fun _ => rfl)) (fun _ => rfl)) (fun _ => rfl) (Nat.le_of_ble_eq_true rfl) (fun _ _ => rfl)
    · intro c d S
      refine y_in ?_
      refine y_sel rfl (fun he => ?_) (fun he => ?_)
      · first | exact rfl | exact ⟨_, rfl⟩
      exact y_selN
    · refine g_if (t_not (t_tru (e_slot rfl) (rd_val Wz.D.bl) rfl)) (fun hb => ?_) (fun hb => ?_)
      · exact go_ret (e_cmp (o := .eq) (e_slot rfl) e_str (rd_val Wz.D.str) (rd_val Wz.D.str) (c_eqD eqs_str (by decide) (s56.2 : Str) ("Same" : Str))) rfl
      · refine go_nil ?_
        refine g_bindX fun v70 S72 h71 => ?_
        refine g_if (oke_use (q := id) h71 (by
          refine oke_or (t_cmp (o := .ne) (e_slot rfl) e_str (rd_val Wz.D.str) (rd_val Wz.D.str) (c_neD eqs_str (by decide) (s56.2 : Str) ("" : Str))) fun hb => ?_
          refine oke_gO fun v58 h59 => ?_
          refine oke_bindX fun v60 S62 h61 => ?_
          refine oke_bindX fun v67 S69 h68 => ?_
          exact oke_ok (oke_use (q := id) h68 (by
            refine oke_or (t_not (t_tru (oke_call (q := fun z => Rv.val (Wz.D.bl z)) (e_cons (e_some (e_slot rfl) h59) e_nil) rfl rfl (t__law_row_r v58 _) (fun _ => rfl) h61) (rd_val Wz.D.bl) rfl)) fun hb => ?_
            refine oke_gO fun v63 h64 => ?_
            refine oke_gO fun v65 h66 => ?_
            exact oke_ok (t_cmp (o := .ne) (e_blt (e_cons (e_some (e_slot rfl) h64) e_nil) (rds_cons (rd_refR (vR_spec h66)) rds_nil) b_len) e_int (rd_val Wz.D.int) (rd_val Wz.D.int) (c_neD eqs_int (by decide) (((List.length v65 : Nat) : Int) : Int) (6 : Int))))))) (fun hb => ?_) (fun hb => ?_)
        · exact go_ret e_bl rfl
        · refine go_nil ?_
          refine g_gO fun v73 h74 => ?_
          refine g_gO fun v75 h76 => ?_
          refine g_gP fun h77 => ?_
          refine g_bindX fun v84 S86 h85 => ?_
          refine g_gP fun h87 => ?_
          refine g_if (t_cmp (o := .ne) (e_lset (oke_lcB (encP Wz.D.int Wz.D.int) (encP Wz.D.int Wz.D.int) (i_boxL (e_some (e_slot rfl) h74) (vB_spec h76)) rfl rfl h77 (fun x78 S83 => ⟨[.val (Wz.D.scr a0), .val (Wz.D.int v1), .val (Wz.D.int v7), .own ((encL Wz.D.int) s32), .non, .val (Wz.D.int v25), .val (Wz.D.bl v35), .val ((encD Wz.D.int) v42), .val ((encO Wz.D.ref) s56.1), .val (Wz.D.str s56.2), .val ((encP Wz.D.int Wz.D.int) x78), .non, .non, .non], rfl, (by
            exact oke_ok rfl), fun S79 => ⟨fun z => Rv.val ((encP Wz.D.int Wz.D.int) z), (by
            refine oke_bindX fun v80 S82 h81 => ?_
            exact oke_ok (oke_call (q := fun z => Rv.val ((encP Wz.D.int Wz.D.int) z)) (e_cons (e_idx (e_slot rfl) e_int (rd_val (encP Wz.D.int Wz.D.int) (x := x78)) (rd_val Wz.D.int) ix_P0) (e_cons (e_idx (e_slot rfl) e_int (rd_val (encP Wz.D.int Wz.D.int) (x := x78)) (rd_val Wz.D.int) ix_P1) e_nil)) rfl rfl (t__law_key x78.1 x78.2 _) (fun _ => rfl) h81)), fun _ => rfl⟩⟩) h85) rd_new (lset_P h87)) e_int (rd_val Wz.D.int) (rd_val Wz.D.int) (c_neD eqs_int (by decide) (((List.length (ddM (prL v84)) : Nat) : Int) : Int) (6 : Int))) (fun hb => ?_) (fun hb => ?_)
          · exact go_ret e_bl rfl
          · refine go_nil ?_
            refine g_gO fun v88 h89 => ?_
            refine g_gO fun v90 h91 => ?_
            refine g_gP fun h92 => ?_
            refine g_bindX fun v96 S98 h97 => ?_
            refine g_if (t_tru (e_blt (e_cons (oke_lcB (encP Wz.D.int Wz.D.int) Wz.D.bl (i_boxL (e_some (e_slot rfl) h89) (vB_spec h91)) rfl rfl h92 (fun x93 S95 => ⟨[.val (Wz.D.scr a0), .val (Wz.D.int v1), .val (Wz.D.int v7), .own ((encL Wz.D.int) s32), .non, .val (Wz.D.int v25), .val (Wz.D.bl v35), .val ((encD Wz.D.int) v42), .val ((encO Wz.D.ref) s56.1), .val (Wz.D.str s56.2), .val ((encP Wz.D.int Wz.D.int) x93), .non, .non, .non], rfl, (by
              exact oke_ok rfl), fun S94 => ⟨fun z => Rv.val (Wz.D.bl z), (by
              exact oke_ok (e_orV (e_cmp (o := .eq) (e_idx (e_slot rfl) e_int (rd_val (encP Wz.D.int Wz.D.int) (x := x93)) (rd_val Wz.D.int) ix_P0) (e_idx (e_slot rfl) e_int (rd_val (encP Wz.D.int Wz.D.int) (x := x93)) (rd_val Wz.D.int) ix_P1) (rd_val Wz.D.int) (rd_val Wz.D.int) (c_eqD eqs_int (by decide) (x93.1 : Int) x93.2)) (rd_val Wz.D.bl) fun _ => (e_orV (e_cmp (o := .nin) (e_idx (e_slot rfl) e_int (rd_val (encP Wz.D.int Wz.D.int) (x := x93)) (rd_val Wz.D.int) ix_P0) (e_slot rfl) (rd_val Wz.D.int) rd_bor (ninL eqs_int (by decide))) (rd_val Wz.D.bl) fun _ => (e_cmp (o := .nin) (e_idx (e_slot rfl) e_int (rd_val (encP Wz.D.int Wz.D.int) (x := x93)) (rd_val Wz.D.int) ix_P1) (e_slot rfl) (rd_val Wz.D.int) rd_bor (ninL eqs_int (by decide)))))), fun _ => rfl⟩⟩) h97) e_nil) (rds_cons rd_new rds_nil) b_any) (rd_val Wz.D.bl) rfl) (fun hb => ?_) (fun hb => ?_)
            · exact go_ret e_bl rfl
            · refine go_nil ?_
              refine g_gO fun v99 h100 => ?_
              refine g_bindX fun v101 S103 h102 => ?_
              refine go_setA (ρ' := [.val (Wz.D.scr a0), .val (Wz.D.int v1), .val (Wz.D.int v7), .own ((encL Wz.D.int) s32), .non, .val (Wz.D.int v25), .val (Wz.D.bl v35), .val ((encD Wz.D.int) v42), .val ((encO Wz.D.ref) s56.1), .val (Wz.D.str s56.2), .non, .val ((encD Wz.D.int) v101), .non, .non]) (oke_call (q := fun z => Rv.val ((encD Wz.D.int) z)) (e_cons (e_some (e_slot rfl) h100) (e_cons (e_blt (e_cons (e_slot rfl) e_nil) (rds_cons (rd_val (encD Wz.D.int) (x := v42)) rds_nil) b_dct) e_nil)) rfl rfl (t__law_paper_rp v99 v42 _) (fun _ => rfl) h102) rfl (Nat.le_of_ble_eq_true rfl) rfl ?_
              refine g_gP fun h104 => ?_
              refine g_bindX fun v110 S112 h111 => ?_
              refine g_if (t_not (t_tru (e_blt (e_cons (oke_lcSD Wz.D.int v101 Wz.D.bl rfl rfl h104 (fun x105 S109 => ⟨[.val (Wz.D.scr a0), .val (Wz.D.int v1), .val (Wz.D.int v7), .own ((encL Wz.D.int) s32), .non, .val (Wz.D.int v25), .val (Wz.D.bl v35), .val ((encD Wz.D.int) v42), .val ((encO Wz.D.ref) s56.1), .val (Wz.D.str s56.2), .non, .val ((encD Wz.D.int) v101), .val (Wz.D.int x105), .non], rfl, (by
                exact oke_ok rfl), fun S106 => ⟨fun z => Rv.val (Wz.D.bl z), (by
                refine oke_gO fun v107 h108 => ?_
                exact oke_ok (e_cmp (o := .eq) (e_idx (e_slot rfl) (e_slot rfl) (rd_val (encD Wz.D.int) (x := v101)) (rd_val Wz.D.int) (ix_D h108)) (e_getD (e_slot rfl) (rd_val (encD Wz.D.int) (x := v42)) (e_slot rfl) (rd_val Wz.D.int) (e_slot rfl) rfl) (rd_val Wz.D.int) (rd_val Wz.D.int) (c_eqD eqs_int (by decide) (v107 : Int) ((getK v42 x105).getD x105)))), fun _ => rfl⟩⟩) h111) e_nil) (rds_cons rd_new rds_nil) b_all) (rd_val Wz.D.bl) rfl)) (fun hb => ?_) (fun hb => ?_)
              · exact go_ret e_bl rfl
              · refine go_nil ?_
                refine g_gO fun v113 h114 => ?_
                refine g_gO fun v115 h116 => ?_
                refine go_setA (ρ' := [.val (Wz.D.scr a0), .val (Wz.D.int v1), .val (Wz.D.int v7), .own ((encL Wz.D.int) s32), .non, .val (Wz.D.int v25), .val (Wz.D.bl v35), .val ((encD Wz.D.int) v42), .val ((encO Wz.D.ref) s56.1), .val (Wz.D.str s56.2), .non, .val ((encD Wz.D.int) v101), .non, .val ((encL (encP Wz.D.int Wz.D.int)) v115)]) (e_blt (e_cons (e_some (e_slot rfl) h114) e_nil) (rds_cons (rd_refR (vR_spec h116)) rds_nil) b_lst) rfl (Nat.le_of_ble_eq_true rfl) rfl ?_
                refine g_gO fun v117 h118 => ?_
                refine g_gO fun v119 h120 => ?_
                refine g_st ?_
                refine go_exp (e_clrB (enc := (encP Wz.D.int Wz.D.int)) (e_some (e_slot rfl) h118) (vB_spec h120)) ?_
                refine g_gO fun v122 h123 => ?_
                refine g_gO fun v124 h125 => ?_
                refine g_gO fun v126 h127 => ?_
                refine g_gO fun v128 h129 => ?_
                refine g_bindX fun v130 S132 h131 => ?_
                exact go_ret (e_cmp (o := .eq) (oke_call (q := fun z => Rv.new ((encL (encP Wz.D.int Wz.D.int)) z)) (e_cons (e_idx (e_slot rfl) e_int rd_bor (rd_val Wz.D.int) (ix_at h123)) (e_cons (e_idx (e_slot rfl) e_int rd_bor (rd_val Wz.D.int) (ix_at h125)) (e_cons (e_idx (e_slot rfl) e_int rd_bor (rd_val Wz.D.int) (ix_at h127)) (e_cons (e_idx (e_slot rfl) e_int rd_bor (rd_val Wz.D.int) (ix_at h129)) e_nil)))) rfl rfl (t_quadrille v122 v124 v126 v128 _) (fun _ => rfl) h131) (e_slot rfl) rd_new (rd_val (encL (encP Wz.D.int Wz.D.int)) (x := v115)) (c_eqD (eqs_list (eqs_pair eqs_int eqs_int)) (by decide) (v130 : List ((Int × Int))) v115)) rfl
end Law

set_option Elab.async false
set_option linter.all false
set_option maxRecDepth 100000
set_option maxHeartbeats 400000
namespace Law
open PySem PySem.Spec PyProof.Rows L2 Wz
theorem foldBR_ev {β γ σ : Type} {G : List Cell → Prop} {B : σ → β → List Cell → Out (σ ⊕ γ)} (I : List β → σ → List Cell → Prop) (hG : ∀ l s S, I l s S → G S) : ∀ (xs pre : List β) (s : σ) (S : List Cell), I pre s S → (∀ pre' x post s S, pre ++ xs = pre' ++ x :: post → pre.length ≤ pre'.length → I pre' s S → ∃ s' S', B s x S = .ok (.inl s') S' ∧ I (pre' ++ [x]) s' S') →
    ∃ s' S', foldBR G B xs s S = .ok (.inl s') S' ∧ I (pre ++ xs) s' S'
  | [], pre, s, S, h, _ => ⟨s, S, gC_pos (hG _ _ _ h), by rw [List.append_nil]; exact h⟩
  | x :: r, pre, s, S, h, k => by
    obtain ⟨s', S', e, h2⟩ := k pre x r s S rfl (Nat.le_refl _) h
    rw [show foldBR G B (x :: r) s S = gC (G S) ((B s x S).bindR .inr fun s' S' => foldBR G B r s' S') from rfl, gC_pos (hG _ _ _ h), e, bindR_inl]
    have := foldBR_ev I hG r (pre ++ [x]) s' S' h2 fun pre' y post s S q hl => k pre' y post s S (by rw [← q]; simp) (by simp at hl; omega)
    rw [List.append_assoc] at this
    exact this
theorem ex_foldBR {β γ σ τ : Type} {G : List Cell → Prop} {B : σ → β → List Cell → Out (σ ⊕ γ)} {inj : γ → τ} {k : σ → List Cell → Out τ} {v : τ} {xs : List β} {s : σ} {S : List Cell} (I : List β → σ → List Cell → Prop) (hG : ∀ l s S, I l s S → G S) (h0 : I [] s S) (hs : ∀ pre x post s S, xs = pre ++ x :: post → I pre s S → ∃ s' S', B s x S = .ok (.inl s') S' ∧ I (pre ++ [x]) s' S') (hk : ∀ s S, I xs s S → ∃ S', k s S = .ok v S') : ∃ S', (foldBR G B xs s S).bindR inj k = .ok v S' := by
  obtain ⟨s', S', e, h⟩ := foldBR_ev I hG xs [] s S h0 fun pre x post s S q _ => hs pre x post s S q
  rw [e, bindR_inl]
  exact hk s' S' h
/-- what stood in the store stands there -/
def Ext (S S' : List Cell) : Prop := ∀ (n : Nat) (c : Cell), S[n]? = some c → S'[n]? = some c
theorem Ext.refl {S : List Cell} : Ext S S := fun _ _ h => h
theorem Ext.trans {A B C : List Cell} (h : Ext A B) (k : Ext B C) : Ext A C := fun n c q => k n c (h n c q)
theorem Ext.app {S : List Cell} {c : Cell} : Ext S (S ++ [c]) := fun _ _ h => get_app h
theorem Ext.last {S : List Cell} {c d : Cell} : Ext S ((S ++ [c]).set S.length d) := fun _ _ h => by
  rw [set_last]; exact get_app h
/-- a loop that looks at each item and ends at the first bad one -/
def runG {σ β : Type} (good : σ → β → Bool) (nxt : σ → β → σ) : σ → List β → Bool
  | _, [] => true
  | s, x :: r => good s x && runG good nxt (nxt s x) r
theorem foldR_test {β γ σ : Type} {B : σ → β → List Cell → Out (σ ⊕ γ)} {S : List Cell} {q : γ} (good : σ → β → Bool) (nxt : σ → β → σ) (P : Nat → σ → Prop) : ∀ (xs : List β) (s : σ) (i : Nat), P i s → (∀ x s j, x ∈ xs → j < i + xs.length → P j s → B s x S = .ok (if good s x = true then .inl (nxt s x) else .inr q) S ∧ P (j + 1) (nxt s x)) → foldR B xs s S = .ok (if runG good nxt s xs = true then .inl (xs.foldl nxt s) else .inr q) S
  | [], s, i, h, _ => rfl
  | x :: r, s, i, h, k => by
    rw [List.length_cons] at k
    obtain ⟨e, h2⟩ := k x s i List.mem_cons_self (by omega) h
    have ih := foldR_test good nxt P r (nxt s x) (i + 1) h2 fun y s j hy hj => k y s j (List.mem_cons_of_mem _ hy) (by omega)
    rw [foldR_cons, e]
    show _ = Out.ok (if (good s x && runG good nxt (nxt s x) r) = true then _ else _) S
    cases good s x with
    | true => rw [if_pos rfl, bindR_inl, ih, Bool.true_and]; rfl
    | false => rfl
theorem perm_of_sub : ∀ {l m : List Int}, l.Nodup → (∀ x ∈ l, x ∈ m) → m.length ≤ l.length → l.Perm m
  | [], m, _, _, h => by
    cases m with
    | nil => exact .nil
    | cons _ _ => cases h
  | a :: l, m, nd, hs, hl => by
    obtain ⟨h1, h2⟩ := List.nodup_cons.mp nd
    have ha := hs a List.mem_cons_self
    have hp := List.perm_cons_erase ha
    have le := List.length_erase_of_mem ha
    rw [List.length_cons] at hl
    refine (List.Perm.cons a (perm_of_sub h2 (fun x hx => ?_) (by omega))).trans hp.symm
    have hx2 := hs x (List.mem_cons_of_mem _ hx)
    exact (List.mem_erase_of_ne (fun e => h1 (by rw [← e]; exact hx))).mpr hx2
theorem zip_range {xs : List α} {k : Nat} {x : α} (h : (k, x) ∈ List.zip (List.range xs.length) xs) : xs[k]? = some x := by
  obtain ⟨i, hi⟩ := List.mem_iff_getElem?.mp h
  obtain ⟨h1, h2⟩ := List.getElem?_zip_eq_some.mp hi
  dsimp only at h1 h2
  rcases Nat.lt_or_ge i xs.length with z | z
  · rw [List.getElem?_range z] at h1
    cases h1
    exact h2
  · rw [List.getElem?_eq_none z] at h2
    cases h2
/-- the mask that g wears -/
abbrev wr (x : HS) (g : Int) : Int := (getK x.worn g).getD 0
theorem hinv_masks {x : HS} (hi : HInv x) : ((sI (x.worn.map (·.1))).map (wr x)).Perm (sI (x.worn.map (·.1))) := by
  have hG : ∀ g ∈ sI (x.worn.map (·.1)), ∃ m, getK x.worn g = some m := fun g hg => Option.isSome_iff_exists.mp (getK_mem.mpr (mem_sI.mp hg))
  refine perm_of_sub ?_ ?_ (by rw [List.length_map]; exact Nat.le_refl _)
  · have nd : (sI (x.worn.map (·.1))).Nodup := (sI_perm _).nodup_iff.mpr hi.nd
    refine List.pairwise_map.mpr ?_
    refine nd.imp_of_mem ?_
    intro a b ha hb hab e
    obtain ⟨m, e1⟩ := hG a ha
    obtain ⟨n, e2⟩ := hG b hb
    have e' : (getK x.worn a).getD 0 = (getK x.worn b).getD 0 := e
    rw [e1, e2] at e'
    have e3 : m = n := e'
    subst e3
    have h1 := hi.wh a m e1
    rw [hi.wh b m e2] at h1
    exact hab (Option.some.inj h1).symm
  · intro y hy
    obtain ⟨g, hg, rfl⟩ := List.mem_map.mp hy
    obtain ⟨m, e⟩ := hG g hg
    show (getK x.worn g).getD 0 ∈ _
    rw [e]
    refine mem_sI.mpr (getK_mem.mp ?_)
    show (getK x.worn m).isSome = true
    rw [hi.ks, hi.wh g m e]
    rfl
theorem revInd {α : Type} {motive : List α → Prop} (nil : motive []) (append_singleton : ∀ l x, motive l → motive (l ++ [x])) (l : List α) : motive l := by
  have key : ∀ n (l : List α), l.length = n → motive l := by
    intro n
    induction n with
    | zero =>
      intro l h
      rw [List.length_eq_zero_iff.mp h]
      exact nil
    | succ n ih =>
      intro l h
      rcases List.eq_nil_or_concat l with rfl | ⟨b, x, rfl⟩
      · cases h
      · rw [List.concat_eq_append] at h ⊢
        rw [List.length_append, List.length_singleton] at h
        exact append_singleton b x (ih b (by omega))
  exact key _ l rfl
/-- whom a deed names -/
def dG : Deed → List Int
  | .come g => [g]
  | .go g => [g]
  | .ex a b => [a, b]
theorem mem_delK {κ β : Type} [DecidableEq κ] {l : List (κ × β)} {k : κ} {p : κ × β} (h : p ∈ delK l k) : p ∈ l := (List.mem_filter.mp h).1
theorem st_known (P : Int → Prop) : ∀ (l : List Deed) (x : HS), (∀ p ∈ x.worn, P p.1) → (∀ p ∈ x.touched, P p.1.1 ∧ P p.1.2) → (∀ d ∈ l, ∀ g ∈ dG d, P g) → (∀ p ∈ (stF x l).worn, P p.1) ∧ ∀ p ∈ (stF x l).touched, P p.1.1 ∧ P p.1.2
  | [], x, h1, h2, _ => ⟨h1, h2⟩
  | d :: l, x, h1, h2, h => by
    refine st_known P l (x.step d) ?_ ?_ fun e he => h e (List.mem_cons_of_mem _ he)
    · have hd := h d List.mem_cons_self
      cases d with
      | come g =>
        intro p hp
        rcases mem_setK hp with rfl | hp
        · exact hd g (by simp [dG])
        · exact h1 p hp
      | go g => exact fun p hp => h1 p (mem_delK hp)
      | ex a b =>
        intro p hp
        rcases mem_setK hp with rfl | hp
        · exact hd b (by simp [dG])
        · rcases mem_setK hp with rfl | hp
          · exact hd a (by simp [dG])
          · exact h1 p hp
    · have hd := h d List.mem_cons_self
      cases d with
      | come g => exact h2
      | go g => exact h2
      | ex a b =>
        intro p hp
        rcases mem_setK hp with rfl | hp
        · have ha := hd a (by simp [dG])
          have hb := hd b (by simp [dG])
          show P (odp a b).1 ∧ P (odp a b).2
          unfold odp
          split
          · exact ⟨hb, ha⟩
          · exact ⟨ha, hb⟩
        · exact h2 p hp
theorem getK_some_mem {κ β : Type} [DecidableEq κ] {l : List (κ × β)} {k : κ} (h : (getK l k).isSome = true) : ∃ p ∈ l, p.1 = k := by
  obtain ⟨p, hp, e⟩ := List.mem_map.mp (getK_mem.mp h)
  exact ⟨p, hp, e⟩
theorem s_size (c : Int) (S : List Cell) : n__law_size c S = .ok (c.natAbs : Int) S := by
  unfold n__law_size
  by_cases h : c < 0
  · rw [if_pos (by simpa using h), show -c = (c.natAbs : Int) by omega]
  · rw [if_neg (by simpa using h), show (c.natAbs : Int) = c by omega]
theorem s_guest (k cell : Int) (S : List Cell) : n__law_guest k cell S = .ok (gst k cell) S := by
  have h0 : 0 ≤ (cell.natAbs : Int) := by omega
  unfold n__law_guest gst
  rw [s_size, bindX_ok, letK_eq, gP_pos (Or.inr ⟨by omega, by omega⟩), letK_eq]
  by_cases h : (cell.natAbs : Int) % 5 = 4
  · rw [if_pos (decide_eq_true h), if_pos h]
  · rw [if_neg (by simpa using h), if_neg h]
theorem gst_coprime : ∀ d, d < 1000 → 0 < d → Nat.gcd 2147483647 d = 1 := by decide +kernel
theorem gst_inj {i j c : Int} (hi : 0 ≤ i ∧ i < 1000) (hj : 0 ≤ j ∧ j < 1000) (h : gst i c = gst j c) : i = j := by
  have key : ∀ t o : Int, 0 < t → t < 2147483647 → (i * t + o) % 2147483647 = (j * t + o) % 2147483647 → i = j := by
    intro t o h1 h2 e
    by_cases q : i = j
    · exact q
    exfalso
    have d := Int.emod_eq_emod_iff_emod_sub_eq_zero.mp e
    rw [show i * t + o - (j * t + o) = (i - j) * t by rw [Int.sub_mul]; omega] at d
    have dv := Int.natAbs_dvd_natAbs.mpr (Int.dvd_of_emod_eq_zero d)
    rw [Int.natAbs_mul] at dv
    have g := gst_coprime (i - j).natAbs (by omega) (by omega)
    have dv2 := Nat.Coprime.dvd_of_dvd_mul_left (show Nat.Coprime (2147483647 : Int).natAbs (i - j).natAbs from g) dv
    have le := Nat.le_of_dvd (by omega) dv2
    have e2 : (2147483647 : Int).natAbs = 2147483647 := rfl
    omega
  have m1 := Int.emod_nonneg ((c.natAbs : Int) * 1234567891) (show (2147483646 : Int) ≠ 0 by decide)
  have m2 := Int.emod_lt_of_pos ((c.natAbs : Int) * 1234567891) (show (0 : Int) < 2147483646 by decide)
  unfold gst at h
  have kk := key (1 + (c.natAbs : Int) * 1234567891 % 2147483646) ((c.natAbs : Int) / 2147483646) (by omega) (by omega)
  by_cases q : (c.natAbs : Int) % 5 = 4
  · rw [if_pos q, if_pos q] at h
    exact kk (by omega)
  · rw [if_neg q, if_neg q] at h
    exact kk h
theorem odp_inj {a b c d : Int} (h : odp a b = odp c d) : (a = c ∧ b = d) ∨ (a = d ∧ b = c) := by
  unfold odp at h
  split at h <;> split at h <;> cases h <;> simp
/-- one of the first forty -/
def Kn (c g : Int) : Prop := ∃ k : Int, 0 ≤ k ∧ k < 40 ∧ g = gst k c
theorem kn_not {c j : Int} (h : 40 ≤ j ∧ j < 1000) : ¬ Kn c (gst j c) := by
  rintro ⟨k, h1, h2, e⟩
  have := gst_inj (by omega) (by omega) e
  omega
theorem s_cell (ns : List Int) (k : Int) (hk : 0 ≤ k) (S : List Cell) : n__law_cell_at ns k S = .ok (ns.getD k.toNat 0) S := by
  unfold n__law_cell_at
  by_cases h : k < (ns.length : Int)
  · have hh : k.toNat < ns.length := by omega
    rw [if_pos (decide_eq_true h), gO_eq (v := ns.getD k.toNat 0) (by rw [atI_nat' ⟨hk, h⟩, List.getD_eq_getElem?_getD, List.getElem?_eq_getElem hh]; rfl)]
  · rw [if_neg (by simpa using h), List.getD_eq_getElem?_getD, List.getElem?_eq_none (by omega)]
    rfl
theorem s_draws (cell many base : Int) (hm : 0 ≤ many ∧ many ≤ 1000) (hb : 0 < base ∧ base < 1000000) (S : List Cell) : n__law_draws cell many base S = .ok (drw cell many base) S := by
  unfold n__law_draws drw
  rw [s_size, bindX_ok, letK_eq]
  by_cases h : (1000000000000000000 : Int) ≤ (cell.natAbs : Int)
  · have b1 := Int.emod_nonneg ((cell.natAbs : Int) - 1000000000000000000) (show many + 1 ≠ 0 by omega)
    have b2 := Int.emod_lt_of_pos ((cell.natAbs : Int) - 1000000000000000000) (show 0 < many + 1 by omega)
    rw [if_pos (decide_eq_true h), if_pos h, letK_eq, gP_pos (by omega), letK_eq, gP_pos (by omega), letK_eq, gP_pos (by omega)]
    rw [(foldO_run (stA base) (fun i a => a.2.length = i) _ _ 0 rfl (fun x s j hx hj hp => ?_)).1]
    · rfl
    · rw [List.length_range] at hj
      rw [gP_pos (by omega), gP_pos (by omega), letK_eq, gP_pos (by omega), letK_eq]
      exact ⟨rfl, by simp [stA]; exact hp⟩
  · have b1 := Int.emod_nonneg (cell.natAbs : Int) (show many + 1 ≠ 0 by omega)
    have b2 := Int.emod_lt_of_pos (cell.natAbs : Int) (show 0 < many + 1 by omega)
    rw [if_neg (by simpa using h), if_neg h, letK_eq, gP_pos (by omega), gP_pos (by omega)]
    rw [(foldO_run (fun (s : List Int × Int) x => ((stB base (s.2, s.1) x).2, (stB base (s.2, s.1) x).1)) (fun i a => a.1.length = i) _ _ 0 rfl (fun x s j hx hj hp => ?_)).1]
    · rw [foldl_swap (stB base) _ ((cell.natAbs : Int) % 2147483629 + 1, [])]
      rfl
    · rw [List.length_range] at hj
      rw [letK_eq, gP_pos (by omega), gP_pos (by omega), letK_eq]
      exact ⟨rfl, by simp [stB]; exact hp⟩
theorem cut_scr (ns : List Int) (a : Int) (h : 0 ≤ a) (hl : ns.length ≤ 63) : cutL ns (some a) (some 63) = ns.drop a.toNat := by
  unfold cutL HT.sIx
  dsimp only
  rw [if_neg (by omega), if_neg (by omega)]
  rw [List.take_of_length_le (by rw [List.length_drop]; omega)]
  by_cases h2 : a.toNat ≤ ns.length
  · rw [show min a.toNat ns.length = a.toNat by omega]
  · rw [show min a.toNat ns.length = ns.length by omega, List.drop_length, List.drop_eq_nil_of_le (by omega)]
theorem s_draws_from (ns : List Int) (start most base : Int) (hl : ns.length ≤ 63) (hs : 0 ≤ start) (hm : 0 ≤ most ∧ most ≤ 1000) (hb : 0 < base ∧ base < 1000000) (S : List Cell) : n__law_draws_from ns start most base S = .ok (drf ns start most base) S := by
  unfold n__law_draws_from
  rw [letK_eq, cut_scr ns start hs hl]
  rw [(foldO_run (fun row c => (row ++ drw c 24 base).take most.toNat) (fun _ (a : List Int) => a.length ≤ most.toNat) _ _ 0 (Nat.zero_le _) (fun c row j hx hj hp => ?_)).1]
  · rw [Out.bind_ok, fold_flat _ _ _ _ (Nat.zero_le _), List.nil_append]
    rfl
  · refine ⟨?_, by rw [List.length_take]; omega⟩
    rw [s_draws _ _ _ (by omega) hb, bindX_ok]
    rw [(foldO_run (fun row x => (row ++ [x]).take most.toNat) (fun _ (a : List Int) => a.length ≤ most.toNat) _ _ 0 hp (fun x row j hx hj hp => ?_)).1]
    · rw [Out.bind_ok, fold_take _ _ _ hp]
    · refine ⟨?_, by rw [List.length_take]; omega⟩
      rw [← take_snoc _ _ _ hp]
      by_cases h : (row.length : Int) < most
      · rw [if_pos (decide_eq_true h), gP_pos (by omega), letK_eq, if_pos (by omega)]
      · rw [if_neg (by simpa using h), if_neg (by omega)]
theorem s_key (a b : Int) (S : List Cell) : n__law_key a b S = .ok (odp a b) S := by
  unfold n__law_key odp
  by_cases h : b < a
  · rw [if_pos (decide_eq_true h), if_pos h]
  · rw [if_neg (by simpa using h), if_neg h]
theorem s_whole (a : Int) (S : List Cell) : n__law_whole a S = .ok true S := rfl
theorem due_come (w : List (Int × Int)) (mt : List ((Int × Int) × Bool)) (g : Int) : dueM w mt (.come g) = if (getK w g).isSome = true then (("AlreadyIn" : Str), none) else ("done", none) := rfl
theorem due_go (w : List (Int × Int)) (mt : List ((Int × Int) × Bool)) (g : Int) : dueM w mt (.go g) = match getK w g with
    | none => ("NoGuest", some g)
    | some m => if m = g then ("done", none) else ("Masked", none) := rfl
theorem due_ex (w : List (Int × Int)) (mt : List ((Int × Int) × Bool)) (a b : Int) : dueM w mt (.ex a b) = if (getK w a).isSome = false then (("NoGuest" : Str), some a) else if (getK w b).isSome = false then ("NoGuest", some b) else if a = b then ("Same", none) else if (getK mt (odp a b)).isSome = true then ("Met", none) else ("done", none) := rfl
theorem s_pair (p : Int × Int) (S : List Cell) : n__law_pair p S = .ok true S := rfl
theorem s_row_r {r : Nat} {S : List Cell} {l : List (Int × Int)} (h : S[r]? = some (.box (encL (encP Wz.D.int Wz.D.int) l))) (hl : l.length ≤ 16777216) : n__law_row_r r S = .ok true S := by
  unfold n__law_row_r
  rw [gO_eq (vR_box h), if_neg (by decide), gO_eq (vB_get h), gP_pos hl, lcB_map (G := fun S => gdOk S (some (r, encL (encP Wz.D.int Wz.D.int) l))) h (fun _ => true) _ (fun x _ => by rw [s_pair, bindX_ok]), bindX_ok]
  congr 1
  rw [List.all_map]
  simp
def evS (l : List Deed) : List Cell := [.box (encD Wz.D.int (st l).worn), .box (encDT Wz.D.bl (st l).touched), .box (encL deedD l)]
structure Rdy (c : Int) (l : List Deed) : Prop where
  ok : OkL l
  len : l.length ≤ 92
  n0 : getK (st l).worn (gst 60 c) = some (gst 60 c)
  n1 : getK (st l).worn (gst 61 c) = some (gst 61 c)
  tk : ∀ p ∈ (st l).touched, Kn c p.1.1 ∧ Kn c p.1.2
  wk : ∀ p ∈ (st l).worn, Kn c p.1 ∨ p.1 = gst 60 c ∨ p.1 = gst 61 c
theorem n01 (c : Int) : ¬ gst 60 c = gst 61 c := fun e => by have := gst_inj (by omega) (by omega) e; omega
/-! ### rings -/
theorem nodup_len : ∀ {l m : List Int}, l.Nodup → (∀ x ∈ l, x ∈ m) → l.length ≤ m.length
  | [], m, _, _ => Nat.zero_le _
  | a :: l, m, nd, hs => by
    obtain ⟨h1, h2⟩ := List.nodup_cons.mp nd
    have ha := hs a List.mem_cons_self
    have le := List.length_erase_of_mem ha
    have lp := List.length_pos_of_mem ha
    have := nodup_len (m := m.erase a) h2 fun x hx => (List.mem_erase_of_ne (fun e => h1 (by rw [← e]; exact hx))).mpr (hs x (List.mem_cons_of_mem _ hx))
    rw [List.length_cons]
    omega
/-- a permutation of K -/
structure Prf (f : Int → Int) (K : List Int) : Prop where
  nd : K.Nodup
  cl : ∀ g ∈ K, f g ∈ K
  inj : ∀ a ∈ K, ∀ b ∈ K, f a = f b → a = b
def Chn (f : Int → Int) (g : Int) : Int → List Int → Prop
  | x, [] => x = g
  | x, y :: t => y = x ∧ ¬ x = g ∧ Chn f g (f x) t
theorem chn_uni {f : Int → Int} {g : Int} : ∀ {t u : List Int} {x : Int}, Chn f g x t → Chn f g x u → t = u
  | [], [], _, _, _ => rfl
  | [], _ :: _, _, h, k => absurd h k.2.1
  | _ :: _, [], _, h, k => absurd k h.2.1
  | y :: t, z :: u, x, h, k => by
    rw [h.1, k.1, chn_uni h.2.2 k.2.2]
theorem chn_go {f : Int → Int} {K : List Int} (P : Prf f K) {g : Int} : ∀ (n : Nat) (p : List Int) (last : Int), p.Nodup → (∀ y ∈ p, y ∈ K) → last ∈ p → (∀ y ∈ p, ¬ y = g → ∃ z ∈ p, ¬ z = last ∧ f z = y) → K.length < p.length + n →
    ∃ t, Chn f g (f last) t ∧ (p ++ t).Nodup ∧ ∀ y ∈ t, y ∈ K
  | 0, p, last, nd, hk, _, _, hn => by
    have := nodup_len nd hk
    omega
  | n + 1, p, last, nd, hk, hl, hp, hn => by
    by_cases e : f last = g
    · exact ⟨[], e, by rw [List.append_nil]; exact nd, fun _ h => by cases h⟩
    · have hx : f last ∉ p := fun h => by
        obtain ⟨z, hz, hz1, hz2⟩ := hp _ h e
        exact hz1 (P.inj z (hk z hz) last (hk last hl) hz2)
      have nd' : (p ++ [f last]).Nodup := List.nodup_append.mpr ⟨nd, by simp, fun a ha b hb z => hx (by rw [List.mem_singleton.mp hb] at z; rw [← z]; exact ha)⟩
      obtain ⟨t, h1, h2, h3⟩ := chn_go P n (p ++ [f last]) (f last) nd' (fun y hy => by
        rcases List.mem_append.mp hy with hy | hy
        · exact hk y hy
        · rw [List.mem_singleton.mp hy]; exact P.cl _ (hk _ hl)) (by simp) (fun y hy ny => by
        rcases List.mem_append.mp hy with hy | hy
        · obtain ⟨z, hz, _, hz2⟩ := hp y hy ny
          exact ⟨z, List.mem_append_left _ hz, fun q => hx (q ▸ hz), hz2⟩
        · exact ⟨last, List.mem_append_left _ hl, fun q => hx (q ▸ hl), (List.mem_singleton.mp hy).symm⟩) (by rw [List.length_append, List.length_singleton]; omega)
      refine ⟨f last :: t, ⟨rfl, e, h1⟩, by rw [List.append_assoc] at h2; exact h2, fun y hy => ?_⟩
      rcases List.mem_cons.mp hy with rfl | hy
      · exact P.cl _ (hk _ hl)
      · exact h3 y hy
theorem chn_ex {f : Int → Int} {K : List Int} (P : Prf f K) {g : Int} (hg : g ∈ K) : ∃ t, Chn f g (f g) t ∧ (g :: t).Nodup ∧ ∀ y ∈ t, y ∈ K :=
  chn_go P (K.length + 1) [g] g (by simp) (fun y hy => by rw [List.mem_singleton.mp hy]; exact hg) (by simp) (fun y hy ny => absurd (List.mem_singleton.mp hy) ny) (by omega)
open Classical in
noncomputable def rngT (f : Int → Int) (g : Int) : List Int := if h : ∃ t, Chn f g (f g) t then h.choose else []
noncomputable abbrev rng (f : Int → Int) (g : Int) : List Int := g :: rngT f g
theorem rngT_spec {f : Int → Int} {K : List Int} (P : Prf f K) {g : Int} (hg : g ∈ K) : Chn f g (f g) (rngT f g) ∧ (rng f g).Nodup ∧ ∀ y ∈ rngT f g, y ∈ K := by
  obtain ⟨t, h1, h2, h3⟩ := chn_ex P hg
  have e : rngT f g = t := by
    unfold rngT
    rw [dif_pos ⟨t, h1⟩]
    exact chn_uni (Exists.choose_spec (p := fun t => Chn f g (f g) t) ⟨t, h1⟩) h1
  show Chn f g (f g) (rngT f g) ∧ (g :: rngT f g).Nodup ∧ _
  rw [e]
  exact ⟨h1, h2, h3⟩
theorem chn_succ {f : Int → Int} {g : Int} : ∀ {t : List Int} {x : Int}, Chn f g x t → ∀ y ∈ t, f y ∈ t ∨ f y = g
  | [], _, _, _, hy => by cases hy
  | z :: t, x, h, y, hy => by
    obtain ⟨rfl, h2, h3⟩ := h
    rcases List.mem_cons.mp hy with rfl | hy
    · cases t with
      | nil => exact .inr h3
      | cons a t => exact .inl (by rw [← h3.1]; simp)
    · rcases chn_succ h3 y hy with q | q
      · exact .inl (List.mem_cons_of_mem _ q)
      · exact .inr q
theorem chn_back {f : Int → Int} {g : Int} {A : Int → Prop} : ∀ {t : List Int} {x : Int}, Chn f g x t → (∀ y ∈ t, A (f y) → A y) → ∀ y ∈ t, A y → A x
  | [], _, _, _, _, hy, _ => by cases hy
  | z :: t, x, h, hb, y, hy, ha => by
    obtain ⟨rfl, h2, h3⟩ := h
    rcases List.mem_cons.mp hy with rfl | hy
    · exact ha
    · exact hb z List.mem_cons_self (chn_back h3 (fun w hw => hb w (List.mem_cons_of_mem _ hw)) y hy ha)
theorem chn_end {f : Int → Int} {g : Int} : ∀ {t : List Int} {x : Int}, Chn f g x t → t = [] ∧ x = g ∨ ∃ z ∈ t, f z = g
  | [], _, h => .inl ⟨rfl, h⟩
  | z :: t, x, h => by
    obtain ⟨rfl, h2, h3⟩ := h
    rcases chn_end h3 with ⟨rfl, q⟩ | ⟨w, hw, q⟩
    · exact .inr ⟨z, List.mem_cons_self, q⟩
    · exact .inr ⟨w, List.mem_cons_of_mem _ hw, q⟩
theorem chn_pred {f : Int → Int} {g : Int} : ∀ {t : List Int} {x : Int}, Chn f g x t → ∀ y ∈ t, y = x ∨ ∃ z ∈ t, f z = y
  | [], _, _, _, hy => by cases hy
  | z :: t, x, h, y, hy => by
    obtain ⟨rfl, h2, h3⟩ := h
    rcases List.mem_cons.mp hy with rfl | hy
    · exact .inl rfl
    · rcases chn_pred h3 y hy with q | ⟨w, hw, q⟩
      · exact .inr ⟨z, List.mem_cons_self, q.symm⟩
      · exact .inr ⟨w, List.mem_cons_of_mem _ hw, q⟩
section
variable {f : Int → Int} {K : List Int} {g : Int}
theorem rng_K (P : Prf f K) (hg : g ∈ K) : ∀ y ∈ rng f g, y ∈ K := fun y hy => by
  rcases List.mem_cons.mp hy with rfl | hy
  · exact hg
  · exact (rngT_spec P hg).2.2 y hy
theorem rng_succ (P : Prf f K) (hg : g ∈ K) : ∀ y ∈ rng f g, f y ∈ rng f g := fun y hy => by
  have h := (rngT_spec P hg).1
  rcases List.mem_cons.mp hy with rfl | hy
  · rcases chn_end h with ⟨_, q⟩ | ⟨z, hz, q⟩
    · rw [q]; exact List.mem_cons_self
    · cases e : rngT f y with
      | nil => rw [e] at hz; cases hz
      | cons a t => rw [e] at h; rw [← h.1]; simp [rng, e]
  · rcases chn_succ h y hy with q | q
    · exact List.mem_cons_of_mem _ q
    · rw [q]; exact List.mem_cons_self
theorem rng_pred (P : Prf f K) (hg : g ∈ K) : ∀ y ∈ K, f y ∈ rng f g → y ∈ rng f g := fun y hy h => by
  have hc := (rngT_spec P hg).1
  have : ∃ z ∈ rng f g, f z = f y := by
    rcases List.mem_cons.mp h with q | q
    · rcases chn_end hc with ⟨_, e⟩ | ⟨z, hz, e⟩
      · exact ⟨g, List.mem_cons_self, e.trans q.symm⟩
      · exact ⟨z, List.mem_cons_of_mem _ hz, e.trans q.symm⟩
    · rcases chn_pred hc _ q with e | ⟨z, hz, e⟩
      · exact ⟨g, List.mem_cons_self, e.symm⟩
      · exact ⟨z, List.mem_cons_of_mem _ hz, e⟩
  obtain ⟨z, hz, e⟩ := this
  rw [← P.inj z (rng_K P hg z hz) y hy e]
  exact hz
/-- a ring that meets a set that is closed backwards lies begun in it -/
theorem rng_meet (P : Prf f K) (hg : g ∈ K) {A : Int → Prop} (hA : ∀ y ∈ K, A (f y) → A y) {y : Int} (hy : y ∈ rng f g) (ha : A y) : A g := by
  rcases List.mem_cons.mp hy with rfl | hy
  · exact ha
  · obtain ⟨h1, _, h3⟩ := rngT_spec P hg
    exact hA g hg (chn_back h1 (fun z hz => hA z (h3 z hz)) y hy ha)
theorem rng_wrong (P : Prf f K) (hg : g ∈ K) (hw : ¬ f g = g) : ∀ y ∈ rng f g, ¬ f y = y := fun y hy e => by
  have := rng_meet P hg (A := fun z => z = y) (fun z hz q => by
    have q' : f z = f y := by rw [e]; exact q
    exact P.inj z hz y (rng_K P hg y hy) q') hy rfl
  rw [this] at hw
  exact hw e
end
def wrg (f : Int → Int) (K : List Int) : List Int := K.filter fun g => !decide (f g = g)
noncomputable def rgStep (f : Int → Int) (acc : List (List Int)) (g : Int) : List (List Int) := if acc.any (·.contains g) then acc else acc ++ [rng f g]
noncomputable def RG (f : Int → Int) (l : List Int) : List (List Int) := l.foldl (rgStep f) []
theorem inAny {acc : List (List Int)} {g : Int} : acc.any (·.contains g) = true ↔ g ∈ acc.flatten := by
  rw [List.any_eq_true, List.mem_flatten]
  constructor
  · rintro ⟨r, h1, h2⟩
    exact ⟨r, h1, by simpa using h2⟩
  · rintro ⟨r, h1, h2⟩
    exact ⟨r, h1, by simpa using h2⟩
/-- what holds of the rings found so far -/
structure RgI (f : Int → Int) (K : List Int) (acc : List (List Int)) : Prop where
  nd : acc.flatten.Nodup
  k : ∀ y ∈ acc.flatten, y ∈ K ∧ ¬ f y = y
  bk : ∀ y ∈ K, f y ∈ acc.flatten → y ∈ acc.flatten
  ne : ∀ r ∈ acc, ∃ g, g ∈ K ∧ r = rng f g
theorem rgI_nil {f : Int → Int} {K : List Int} : RgI f K [] := ⟨List.nodup_nil, (fun _ h => by cases h), (fun _ _ h => by cases h), fun _ h => by cases h⟩
theorem rgI_step {f : Int → Int} {K : List Int} (P : Prf f K) {acc : List (List Int)} (I : RgI f K acc) {g : Int} (hg : g ∈ K) (hw : ¬ f g = g) (hn : g ∉ acc.flatten) : RgI f K (acc ++ [rng f g]) := by
  have e : (acc ++ [rng f g]).flatten = acc.flatten ++ rng f g := by rw [List.flatten_append, List.flatten_cons, List.flatten_nil, List.append_nil]
  refine ⟨?_, fun y hy => ?_, fun y hk hy => ?_, fun r hr => ?_⟩
  · rw [e]
    refine List.nodup_append.mpr ⟨I.nd, (rngT_spec P hg).2.1, fun a ha b hb z => hn ?_⟩
    rw [z] at ha
    exact rng_meet P hg (A := fun y => y ∈ acc.flatten) I.bk hb ha
  · rw [e] at hy
    rcases List.mem_append.mp hy with hy | hy
    · exact I.k y hy
    · exact ⟨rng_K P hg y hy, rng_wrong P hg hw y hy⟩
  · rw [e] at hy ⊢
    rcases List.mem_append.mp hy with hy | hy
    · exact List.mem_append_left _ (I.bk y hk hy)
    · exact List.mem_append_right _ (rng_pred P hg y hk hy)
  · rcases List.mem_append.mp hr with hr | hr
    · exact I.ne r hr
    · exact ⟨g, hg, List.mem_singleton.mp hr⟩
theorem rgI_fold {f : Int → Int} {K : List Int} (P : Prf f K) : ∀ (l : List Int) (acc : List (List Int)), RgI f K acc → (∀ g ∈ l, g ∈ K ∧ ¬ f g = g) → RgI f K (l.foldl (rgStep f) acc) ∧ (∀ y ∈ acc.flatten, y ∈ (l.foldl (rgStep f) acc).flatten) ∧ ∀ g ∈ l, g ∈ (l.foldl (rgStep f) acc).flatten
  | [], acc, I, _ => ⟨I, fun _ h => h, fun _ h => by cases h⟩
  | g :: l, acc, I, h => by
    obtain ⟨hg, hw⟩ := h g List.mem_cons_self
    have hl := fun y hy => h y (List.mem_cons_of_mem g hy)
    rw [List.foldl_cons]
    by_cases q : g ∈ acc.flatten
    · rw [show rgStep f acc g = acc from if_pos (inAny.mpr q)]
      obtain ⟨a, b, c⟩ := rgI_fold P l acc I hl
      refine ⟨a, b, fun y hy => ?_⟩
      rcases List.mem_cons.mp hy with rfl | hy
      · exact b _ q
      · exact c y hy
    · rw [show rgStep f acc g = acc ++ [rng f g] from if_neg (fun z => q (inAny.mp z))]
      obtain ⟨a, b, c⟩ := rgI_fold P l _ (rgI_step P I hg hw q) hl
      have e : (acc ++ [rng f g]).flatten = acc.flatten ++ rng f g := by rw [List.flatten_append, List.flatten_cons, List.flatten_nil, List.append_nil]
      refine ⟨a, fun y hy => b y (by rw [e]; exact List.mem_append_left _ hy), fun y hy => ?_⟩
      rcases List.mem_cons.mp hy with rfl | hy
      · exact b _ (by rw [e]; exact List.mem_append_right _ List.mem_cons_self)
      · exact c y hy
structure Lnk (w : List (Int × Int)) (f : Int → Int) (K : List Int) : Prop where
  get : ∀ k ∈ K, getK w k = some (f k)
  out : ∀ k, k ∉ K → getK w k = none
theorem seen_fold : ∀ (t : List Int) (seen : List (Int × Bool)) (k : Int), (getK (t.foldl (fun s y => setK s y true) seen) k).isSome = true ↔ k ∈ t ∨ (getK seen k).isSome = true
  | [], seen, k => by simp
  | y :: t, seen, k => by
    rw [List.foldl_cons, seen_fold t, getK_set, List.mem_cons]
    by_cases e : y = k
    · rw [if_pos e]; simp [e]
    · rw [if_neg e]
      have : ¬ k = y := fun q => e q.symm
      simp [this]
theorem seen_nd : ∀ (t : List Int) (seen : List (Int × Bool)), (seen.map (·.1)).Nodup → ((t.foldl (fun s y => setK s y true) seen).map (·.1)).Nodup
  | [], _, h => h
  | y :: t, seen, h => by
    rw [List.foldl_cons]
    exact seen_nd t _ (setK_nodup h)
/-- seen is what lies in the rings -/
structure SeenI (K : List Int) (seen : List (Int × Bool)) (acc : List (List Int)) : Prop where
  nd : (seen.map (·.1)).Nodup
  iff : ∀ k, (getK seen k).isSome = true ↔ k ∈ acc.flatten
theorem seen_len {f : Int → Int} {K : List Int} {seen : List (Int × Bool)} {acc : List (List Int)} (s : SeenI K seen acc) (I : RgI f K acc) : seen.length ≤ K.length := by
  have := nodup_len s.nd (m := K) fun x hx => (I.k x ((s.iff x).mp (getK_mem.mpr hx))).1
  rw [List.length_map] at this
  exact this
theorem flat_snoc (acc : List (List Int)) (r : List Int) : (acc ++ [r]).flatten = acc.flatten ++ r := by rw [List.flatten_append, List.flatten_cons, List.flatten_nil, List.append_nil]
theorem rings_len {f : Int → Int} {K : List Int} (P : Prf f K) {acc : List (List Int)} (I : RgI f K acc) : acc.length ≤ K.length := by
  have h1 : acc.length ≤ acc.flatten.length := by
    have hne : ∀ r ∈ acc, 0 < r.length := fun r hr => by
      obtain ⟨g, _, rfl⟩ := I.ne r hr
      exact Nat.succ_pos _
    clear I
    induction acc with
    | nil => exact Nat.le_refl _
    | cons r acc ih =>
      have := hne r List.mem_cons_self
      have := ih fun q hq => hne q (List.mem_cons_of_mem _ hq)
      rw [List.flatten_cons, List.length_append, List.length_cons]
      omega
  exact Nat.le_trans h1 (nodup_len I.nd fun x hx => (I.k x hx).1)
/-- who wears what, as a permutation -/
def hf (w : List (Int × Int)) (g : Int) : Int := (getK w g).getD g
abbrev hK (w : List (Int × Int)) : List Int := sI (w.map (·.1))
theorem mem_hK {w : List (Int × Int)} {g : Int} : g ∈ hK w ↔ (getK w g).isSome = true := by rw [mem_sI, getK_mem]
theorem lnk_hf (w : List (Int × Int)) : Lnk w (hf w) (hK w) := ⟨fun k hk => by
  obtain ⟨m, e⟩ := Option.isSome_iff_exists.mp (mem_hK.mp hk)
  unfold hf
  rw [e]
  rfl, fun k hk => by
  cases e : getK w k with
  | none => rfl
  | some m => exact absurd (mem_hK.mpr (by rw [e]; rfl)) hk⟩
theorem hinv_prf {x : HS} (hi : HInv x) : Prf (hf x.worn) (hK x.worn) := by
  have L := lnk_hf x.worn
  refine ⟨(sI_perm _).nodup_iff.mpr hi.nd, fun g hg => ?_, fun a ha b hb e => ?_⟩
  · have e := hi.wh g _ (L.get g hg)
    exact mem_hK.mpr (by rw [hi.ks, e]; rfl)
  · have e1 := hi.wh a _ (L.get a ha)
    have e2 := hi.wh b _ (L.get b hb)
    rw [e, e2] at e1
    exact (Option.some.inj e1).symm
theorem hK_len {x : HS} (hi : HInv x) : (hK x.worn).length ≤ x.done.length := by
  rw [len_sI, List.length_map]
  exact hi.l1
/-- a row danced on paper -/
def pswap (m : List (Int × Int)) (p : Int × Int) : List (Int × Int) := setK (setK m p.1 ((getK m p.2).getD p.2)) p.2 ((getK m p.1).getD p.1)
def paperL (row : List (Int × Int)) (w : List (Int × Int)) : List (Int × Int) := row.foldl pswap w
theorem get_pswap (m : List (Int × Int)) (p : Int × Int) (k : Int) : getK (pswap m p) k = if p.2 = k then some ((getK m p.1).getD p.1) else if p.1 = k then some ((getK m p.2).getD p.2) else getK m k := by
  unfold pswap
  rw [getK_set, getK_set]
theorem paper_snoc (row : List (Int × Int)) (p : Int × Int) (w : List (Int × Int)) : paperL (row ++ [p]) w = pswap (paperL row w) p := List.foldl_append
theorem paper_len : ∀ (row w : List (Int × Int)), (paperL row w).length ≤ w.length + 2 * row.length
  | [], w => Nat.le_refl _
  | p :: row, w => by
    have h := paper_len row (pswap w p)
    have h1 := setK_len (l := w) (k := p.1) (v := (getK w p.2).getD p.2)
    have h2 := setK_len (l := setK w p.1 ((getK w p.2).getD p.2)) (k := p.2) (v := (getK w p.1).getD p.1)
    show (paperL row (pswap w p)).length ≤ _
    unfold pswap at h ⊢
    rw [List.length_cons]
    omega
theorem RG_I {f : Int → Int} {K : List Int} (P : Prf f K) : RgI f K (RG f (wrg f K)) ∧ ∀ g ∈ wrg f K, g ∈ (RG f (wrg f K)).flatten := by
  have h := rgI_fold P (wrg f K) [] rgI_nil fun g hg => by
    obtain ⟨h1, h2⟩ := List.mem_filter.mp hg
    exact ⟨h1, by simpa using h2⟩
  exact ⟨h.1, h.2.2⟩
theorem wrg_len {f : Int → Int} {K : List Int} (P : Prf f K) : (wrg f K).length = (RG f (wrg f K)).flatten.length := by
  obtain ⟨I, h⟩ := RG_I P
  have nd : (wrg f K).Nodup := P.nd.filter _
  have a := nodup_len nd h
  have b := nodup_len (m := wrg f K) I.nd fun y hy => List.mem_filter.mpr ⟨(I.k y hy).1, by simpa using (I.k y hy).2⟩
  omega
theorem setK_new {l : List (Int × Int)} {k v : Int} (h : getK l k = none) : setK l k v = l ++ [(k, v)] := by
  unfold setK
  rw [any_get, h, if_neg (by decide)]
theorem mkD_eq (f : Int → Int) : ∀ (l : List Int) (acc : List (Int × Int)), (acc.map (·.1) ++ l).Nodup → l.foldl (fun s g => setK s g (f g)) acc = acc ++ l.map fun g => (g, f g)
  | [], acc, _ => by simp
  | g :: l, acc, nd => by
    have hn : getK acc g = none := by
      cases e : getK acc g with
      | none => rfl
      | some v => exact absurd rfl ((List.nodup_append.mp nd).2.2 g (getK_mem.mp (by rw [e]; rfl)) g List.mem_cons_self)
    rw [List.foldl_cons, setK_new hn, mkD_eq f l _ (by rw [List.map_append, List.append_assoc]; exact nd), List.append_assoc]
    rfl
theorem lnk_mk {f : Int → Int} {K : List Int} (nd : K.Nodup) : Lnk (K.map fun g => (g, f g)) f K := by
  have key : ∀ k, getK (K.map fun g => (g, f g)) k = if k ∈ K then some (f k) else none := by
    intro k
    clear nd
    induction K with
    | nil => rfl
    | cons g l ih =>
      rw [List.map_cons, getK_cons, ih]
      by_cases e : g = k
      · rw [if_pos e, if_pos (by rw [e]; exact List.mem_cons_self), e]
      · rw [if_neg e]
        by_cases z : k ∈ l
        · rw [if_pos z, if_pos (List.mem_cons_of_mem _ z)]
        · rw [if_neg z, if_neg (fun h => by rcases List.mem_cons.mp h with h | h; exact e h.symm; exact z h)]
  exact ⟨fun k hk => by rw [key, if_pos hk], fun k hk => by rw [key, if_neg hk]⟩
theorem sI_idem (l : List Int) : sI (sI l) = sI l := (sI_unique (List.Perm.refl _) (sI_sorted l)).symm
/-! ### rows on paper as permutations -/
def sw (p : Int × Int) (g : Int) : Int := if p.2 = g then p.1 else if p.1 = g then p.2 else g
def sws (row : List (Int × Int)) (g : Int) : Int := row.foldr sw g
theorem sw_sw (p : Int × Int) (g : Int) : sw p (sw p g) = g := by
  unfold sw
  by_cases h : p.2 = g
  · rw [if_pos h]
    by_cases h2 : p.2 = p.1
    · rw [if_pos h2]; omega
    · rw [if_neg h2, if_pos rfl]; exact h
  · rw [if_neg h]
    by_cases h2 : p.1 = g
    · rw [if_pos h2, if_pos rfl]; exact h2
    · rw [if_neg h2, if_neg h, if_neg h2]
theorem hf_pswap (w : List (Int × Int)) (p : Int × Int) (g : Int) : hf (pswap w p) g = hf w (sw p g) := by
  show (getK (pswap w p) g).getD g = _
  rw [get_pswap]
  unfold sw hf
  by_cases h : p.2 = g
  · rw [if_pos h, if_pos h]; rfl
  · rw [if_neg h, if_neg h]
    by_cases h2 : p.1 = g
    · rw [if_pos h2, if_pos h2]; rfl
    · rw [if_neg h2, if_neg h2]
theorem hf_paper : ∀ (row w : List (Int × Int)) (g : Int), hf (paperL row w) g = hf w (sws row g)
  | [], w, g => rfl
  | p :: row, w, g => by
    show hf (paperL row (pswap w p)) g = _
    rw [hf_paper row, hf_pswap]
    rfl
theorem sws_rev : ∀ (row : List (Int × Int)) (g : Int), sws row (sws row.reverse g) = g
  | [], g => rfl
  | p :: row, g => by
    show sw p (sws row (sws (p :: row).reverse g)) = g
    unfold sws at *
    rw [List.reverse_cons, List.foldr_append]
    have := sws_rev row (sw p g)
    unfold sws at this
    rw [show List.foldr sw g [p] = sw p g from rfl, this, sw_sw]
structure Tot (w : List (Int × Int)) : Prop where
  nd : (w.map (·.1)).Nodup
  inj : ∀ a b, hf w a = hf w b → a = b
  cl : ∀ g, (getK w g).isSome = true → (getK w (hf w g)).isSome = true
theorem tot_nil : Tot [] := ⟨List.nodup_nil, fun _ _ h => h, fun _ h => h⟩
theorem tot_pswap {w : List (Int × Int)} (T : Tot w) (p : Int × Int) : Tot (pswap w p) := by
  refine ⟨setK_nodup (setK_nodup T.nd), fun a b h => ?_, fun g hg => ?_⟩
  · rw [hf_pswap, hf_pswap] at h
    have := T.inj _ _ h
    rw [← sw_sw p a, this, sw_sw]
  · have some_of : ∀ k, (getK (pswap w p) k).isSome = true ↔ p.2 = k ∨ p.1 = k ∨ (getK w k).isSome = true := fun k => by
      rw [get_pswap]
      by_cases h : p.2 = k
      · rw [if_pos h]; simp [h]
      · rw [if_neg h]
        by_cases h2 : p.1 = k
        · rw [if_pos h2]; simp [h2]
        · rw [if_neg h2]; simp [h, h2]
    rw [hf_pswap, some_of]
    by_cases q : (getK w (sw p g)).isSome = true
    · exact .inr (.inr (T.cl _ q))
    · have e : hf w (sw p g) = sw p g := by
        unfold hf
        cases z : getK w (sw p g) with
        | none => rfl
        | some m => rw [z] at q; exact absurd rfl q
      rw [e]
      rcases (some_of g).mp hg with h | h | h
      · right; left; unfold sw; rw [if_pos h]
      · by_cases h2 : p.2 = g
        · right; left; unfold sw; rw [if_pos h2]
        · left; unfold sw; rw [if_neg h2, if_pos h]
      · by_cases h2 : p.2 = g
        · right; left; unfold sw; rw [if_pos h2]
        · by_cases h3 : p.1 = g
          · left; unfold sw; rw [if_neg h2, if_pos h3]
          · exfalso; apply q; unfold sw; rw [if_neg h2, if_neg h3]; exact h
theorem tot_paper : ∀ (row w : List (Int × Int)), Tot w → Tot (paperL row w)
  | [], _, h => h
  | p :: row, w, h => tot_paper row _ (tot_pswap h p)
theorem tot_prf {w : List (Int × Int)} (T : Tot w) : Prf (hf w) (hK w) := ⟨(sI_perm _).nodup_iff.mpr T.nd, fun g hg => mem_hK.mpr (T.cl g (mem_hK.mp hg)), fun a _ b _ h => T.inj a b h⟩
theorem hf_out {w : List (Int × Int)} {g : Int} (h : ¬ hf w g = g) : g ∈ hK w := by
  refine mem_hK.mpr ?_
  cases z : getK w g with
  | none => exact absurd (by unfold hf; rw [z]; rfl) h
  | some m => rfl
/-- the same effect: the same wrong ones -/
theorem wrg_same {w v : List (Int × Int)} (T : Tot w) (U : Tot v) (h : ∀ g, hf w g = hf v g) : wrg (hf w) (hK w) = wrg (hf v) (hK v) := by
  have n1 : (wrg (hf w) (hK w)).Nodup := (tot_prf T).nd.filter _
  have n2 : (wrg (hf v) (hK v)).Nodup := (tot_prf U).nd.filter _
  have s1 : ∀ x ∈ wrg (hf w) (hK w), x ∈ wrg (hf v) (hK v) := fun x hx => by
    have q : ¬ hf w x = x := by simpa using (List.mem_filter.mp hx).2
    have q2 : ¬ hf v x = x := by rw [← h]; exact q
    exact List.mem_filter.mpr ⟨hf_out q2, by simpa using q2⟩
  have s2 : ∀ x ∈ wrg (hf v) (hK v), x ∈ wrg (hf w) (hK w) := fun x hx => by
    have q : ¬ hf v x = x := by simpa using (List.mem_filter.mp hx).2
    have q2 : ¬ hf w x = x := by rw [h]; exact q
    exact List.mem_filter.mpr ⟨hf_out q2, by simpa using q2⟩
  have p := perm_of_sub n1 s1 (nodup_len n2 s2)
  have o1 : (wrg (hf w) (hK w)).Pairwise (· ≤ ·) := (sI_sorted _).filter _
  have o2 : (wrg (hf v) (hK v)).Pairwise (· ≤ ·) := (sI_sorted _).filter _
  rw [sI_unique p o1]
  exact (sI_unique (List.Perm.refl _) o2).symm
/-- the way home turned about has the effect itself -/
theorem turned_eff {w row : List (Int × Int)} (h : ∀ k, getK (paperL row w) k = if k ∈ hK w then some k else none) (g : Int) : hf w g = hf (paperL row.reverse []) g := by
  have h2 : ∀ k, hf w (sws row k) = k := fun k => by
    rw [← hf_paper]
    show (getK (paperL row w) k).getD k = k
    rw [h]
    split <;> rfl
  rw [hf_paper]
  show _ = sws row.reverse g
  have := h2 (sws row.reverse g)
  rw [sws_rev] at this
  exact this
def PU (row : List (Int × Int)) : Prop := ∀ p ∈ row, ¬ p.1 = p.2
theorem PU.app {a b : List (Int × Int)} (h : PU a) (k : PU b) : PU (a ++ b) := fun p hp => by
  rcases List.mem_append.mp hp with hp | hp
  · exact h p hp
  · exact k p hp
theorem mem_cutL {α : Type} {l : List α} {a b : Option Int} {x : α} (h : x ∈ cutL l a b) : x ∈ l := by
  unfold cutL at h
  exact List.mem_of_mem_drop (List.mem_of_mem_take h)
theorem len_cutL {α : Type} {l : List α} {a b : Option Int} : (cutL l a b).length ≤ l.length := by
  unfold cutL
  rw [List.length_take, List.length_drop]
  omega
theorem PU.cut {row : List (Int × Int)} (h : PU row) {a b : Option Int} : PU (cutL row a b) := fun p hp => h p (mem_cutL hp)
theorem emod_ne {m a d : Int} (hm : 0 < m) (h : 0 < d) (h2 : d < m) : ¬ a % m = (a + d) % m := fun e => by
  have q := Int.emod_eq_emod_iff_emod_sub_eq_zero.mp e.symm
  rw [show a + d - a = d by omega, Int.emod_eq_of_lt (by omega) h2] at q
  omega
theorem gst_ne {m a d c : Int} (hm : 0 < m ∧ m ≤ 1000) (h : 0 < d) (h2 : d < m) : ¬ gst (a % m) c = gst ((a + d) % m) c := fun e => by
  have b1 := Int.emod_nonneg a (show m ≠ 0 by omega)
  have b2 := Int.emod_lt_of_pos a hm.1
  have b3 := Int.emod_nonneg (a + d) (show m ≠ 0 by omega)
  have b4 := Int.emod_lt_of_pos (a + d) hm.1
  exact emod_ne hm.1 h h2 (gst_inj (by omega) (by omega) e)
theorem s_pairs_fromU (ds : List Int) (many c : Int) (hm : 2 ≤ many ∧ many ≤ 1000) (hl : ds.length ≤ 1000) (S : List Cell) : ∃ row, n__law_pairs_from ds many c S = .ok row S ∧ row.length = ds.length ∧ PU row := by
  unfold n__law_pairs_from
  have h := foldO_run (S := S) (fun (s : List (Int × Int)) x => s ++ [(gst (x % many) c, gst ((x % many + 1 + x / many % (many - 1)) % many) c)]) (fun i (s : List (Int × Int)) => s.length = i ∧ PU s) ds [] 0 ⟨rfl, fun _ h => by cases h⟩ (B := fun (s3 : (List ((Int × Int)))) (x2 : Int) S4 =>
  gP (0 < many) <|
  letK ((x2 % many) : Int) fun v6 =>
  gP (0 < many ∧ many < 18446744073709551616) <|
  gP (0 < (many - (1 : Int))) <|
  gP (0 < many) <|
  letK ((((v6 + (1 : Int)) + ((x2 / many) % (many - (1 : Int)))) % many) : Int) fun v10 =>
  Out.bindX (n__law_guest v6 c S4) fun v11 S13 =>
  Out.bindX (n__law_guest v10 c S13) fun v14 S16 =>
  gP (List.length s3 < 16777216) <|
  letK (s3 ++ [(v11, v14)]) fun v17 =>
  .ok v17 S16) fun x s j hx hj hs => by
    rw [gP_pos (by omega), letK_eq, gP_pos (by omega), gP_pos (by omega), gP_pos (by omega), letK_eq, s_guest, bindX_ok, s_guest, bindX_ok, gP_pos (by omega), letK_eq]
    refine ⟨rfl, by rw [List.length_append, List.length_singleton]; omega, hs.2.app fun p hp => ?_⟩
    rw [List.mem_singleton.mp hp]
    have b1 := Int.emod_nonneg (x / many) (show many - 1 ≠ 0 by omega)
    have b2 := Int.emod_lt_of_pos (x / many) (show 0 < many - 1 by omega)
    have b3 := Int.emod_nonneg x (show many ≠ 0 by omega)
    have b4 := Int.emod_lt_of_pos x (show 0 < many by omega)
    have q := gst_ne (m := many) (a := x % many) (d := 1 + x / many % (many - 1)) (c := c) (by omega) (by omega) (by omega)
    rw [Int.emod_eq_of_lt b3 b4, show x % many + (1 + x / many % (many - 1)) = x % many + 1 + x / many % (many - 1) by omega] at q
    exact q
  rw [letK_eq, h.1, Out.bind_ok]
  exact ⟨_, rfl, by rw [h.2.1, Nat.zero_add], h.2.2⟩
/-! ### a pair more changes the number of rings by one -/
theorem chn_fwd {f : Int → Int} {g : Int} {A : Int → Prop} : ∀ {t : List Int} {x : Int}, Chn f g x t → A x → (∀ y ∈ t, A y → A (f y)) → (∀ y ∈ t, A y) ∧ A g
  | [], x, h, ha, _ => ⟨(fun _ q => by cases q), (show x = g from h) ▸ ha⟩
  | z :: t, x, h, ha, hb => by
    obtain ⟨rfl, h2, h3⟩ := h
    obtain ⟨q1, q2⟩ := chn_fwd h3 (hb z List.mem_cons_self ha) fun y hy => hb y (List.mem_cons_of_mem _ hy)
    refine ⟨fun y hy => ?_, q2⟩
    rcases List.mem_cons.mp hy with rfl | hy
    · exact ha
    · exact q1 y hy
theorem chn_cong {f f' : Int → Int} {g : Int} : ∀ {t : List Int} {x : Int}, Chn f g x t → (∀ y ∈ t, f' y = f y) → Chn f' g x t
  | [], _, h, _ => h
  | z :: t, x, h, hb => by
    obtain ⟨rfl, h2, h3⟩ := h
    refine ⟨rfl, h2, ?_⟩
    rw [hb z List.mem_cons_self]
    exact chn_cong h3 fun y hy => hb y (List.mem_cons_of_mem _ hy)
/-- cut at b -/
theorem chn_cut {f : Int → Int} {a b : Int} : ∀ {t1 t2 : List Int} {x : Int}, Chn f a x (t1 ++ b :: t2) → b ∉ t1 → Chn f b x t1 ∧ Chn f a (f b) t2
  | [], t2, x, h, _ => ⟨h.1.symm, by rw [h.1]; exact h.2.2⟩
  | z :: t1, t2, x, h, hb => by
    obtain ⟨e, h2, h3⟩ := h
    obtain ⟨q1, q2⟩ := chn_cut h3 fun hh => hb (List.mem_cons_of_mem _ hh)
    exact ⟨⟨e, fun q => hb (by rw [← q, ← e]; exact List.mem_cons_self), q1⟩, q2⟩
section
variable {f : Int → Int} {K : List Int}
theorem rng_sym (P : Prf f K) {x y : Int} (hx : x ∈ K) (h : y ∈ rng f x) : x ∈ rng f y := by
  have hy := rng_K P hx y h
  exact rng_meet P hx (A := fun z => z ∈ rng f y) (rng_pred P hy) h List.mem_cons_self
theorem rng_trans (P : Prf f K) {x y z : Int} (hx : x ∈ K) (h : y ∈ rng f x) (k : z ∈ rng f y) : z ∈ rng f x := by
  have hy := rng_K P hx y h
  rcases List.mem_cons.mp k with rfl | k
  · exact h
  · exact (chn_fwd (A := fun z => z ∈ rng f x) (rngT_spec P hy).1 (rng_succ P hx y h) fun w _ hw => rng_succ P hx w hw).1 z k
theorem rng_eqv (P : Prf f K) {x y : Int} (hx : x ∈ K) (h : y ∈ rng f x) (z : Int) : z ∈ rng f y ↔ z ∈ rng f x :=
  ⟨fun k => rng_trans P hx h k, fun k => rng_trans P (rng_K P hx y h) (rng_sym P hx h) k⟩
def isRep (f : Int → Int) (g : Int) : Prop := ∀ y ∈ rng f g, g ≤ y
open Classical in
noncomputable def cyc (f : Int → Int) (K : List Int) : Nat := (K.filter fun g => decide (isRep f g)).length
theorem min_of : ∀ (l : List Int), l ≠ [] → ∃ m ∈ l, ∀ y ∈ l, m ≤ y
  | [], h => absurd rfl h
  | [a], _ => ⟨a, List.mem_cons_self, fun y hy => by rw [List.mem_singleton.mp hy]; exact Int.le_refl _⟩
  | a :: b :: l, _ => by
    obtain ⟨m, h1, h2⟩ := min_of (b :: l) (by simp)
    by_cases q : a ≤ m
    · refine ⟨a, List.mem_cons_self, fun y hy => ?_⟩
      rcases List.mem_cons.mp hy with rfl | hy
      · exact Int.le_refl _
      · have := h2 y hy; omega
    · refine ⟨m, List.mem_cons_of_mem _ h1, fun y hy => ?_⟩
      rcases List.mem_cons.mp hy with rfl | hy
      · omega
      · exact h2 y hy
theorem count_one {p q : Int → Bool} {m : Int} : ∀ {K : List Int}, K.Nodup → m ∈ K → p m = false → q m = true → (∀ x ∈ K, x ≠ m → p x = q x) → (K.filter q).length = (K.filter p).length + 1
  | [], _, h, _, _, _ => by cases h
  | a :: K, nd, hm, h1, h2, h3 => by
    obtain ⟨n1, n2⟩ := List.nodup_cons.mp nd
    rcases List.mem_cons.mp hm with rfl | hm
    · rw [List.filter_cons_of_pos h2, List.filter_cons_of_neg (by rw [h1]; decide), List.length_cons]
      congr 2
      exact List.filter_congr fun x hx => (h3 x (List.mem_cons_of_mem _ hx) fun e => n1 (e ▸ hx)).symm
    · have ih := count_one n2 hm h1 h2 fun x hx => h3 x (List.mem_cons_of_mem _ hx)
      have ha := h3 a List.mem_cons_self fun e => n1 (e ▸ hm)
      cases q1 : q a with
      | true => rw [List.filter_cons_of_pos q1, List.filter_cons_of_pos (ha.trans q1), List.length_cons, List.length_cons, ih]
      | false => rw [List.filter_cons_of_neg (by rw [q1]; decide), List.filter_cons_of_neg (by rw [ha, q1]; decide), ih]
/-- f with a and b exchanged ahead of it -/
theorem prf_sw (P : Prf f K) {a b : Int} (ha : a ∈ K) (hb : b ∈ K) : Prf (fun g => f (sw (a, b) g)) K := by
  have hs : ∀ g ∈ K, sw (a, b) g ∈ K := fun g hg => by
    unfold sw
    split
    · exact ha
    · split
      · exact hb
      · exact hg
  refine ⟨P.nd, fun g hg => P.cl _ (hs g hg), fun x hx y hy e => ?_⟩
  have := P.inj _ (hs x hx) _ (hs y hy) e
  rw [← sw_sw (a, b) x, this, sw_sw]
open Classical in
theorem cyc_split (P : Prf f K) {a b : Int} (ha : a ∈ K) (hb : b ∈ K) (ne : ¬ a = b) (h : b ∈ rng f a) : cyc (fun g => f (sw (a, b) g)) K = cyc f K + 1 := by
  have P' := prf_sw P ha hb
  have sw_o : ∀ y, ¬ y = a → ¬ y = b → sw (a, b) y = y := fun y h1 h2 => by
    unfold sw
    rw [if_neg (fun e => h2 e.symm), if_neg (fun e => h1 e.symm)]
  have sw_a : sw (a, b) a = b := by unfold sw; rw [if_neg (fun e => ne (show b = a from e).symm), if_pos rfl]
  have sw_b : sw (a, b) b = a := by unfold sw; rw [if_pos rfl]
  obtain ⟨c1, c2, c3⟩ := rngT_spec P ha
  have hbt : b ∈ rngT f a := by
    rcases List.mem_cons.mp h with e | h
    · exact absurd e.symm ne
    · exact h
  obtain ⟨t1, t2, et⟩ := List.append_of_mem hbt
  have nd := List.nodup_cons.mp c2
  rw [et] at c1 nd
  have nd2 := List.nodup_append.mp nd.2
  have nd3 := List.nodup_cons.mp nd2.2.1
  have b1 : b ∉ t1 := fun q => nd2.2.2 b q b List.mem_cons_self rfl
  have a1 : a ∉ t1 := fun q => nd.1 (List.mem_append_left _ q)
  have a2 : a ∉ t2 := fun q => nd.1 (List.mem_append_right _ (List.mem_cons_of_mem _ q))
  obtain ⟨k1, k2⟩ := chn_cut c1 b1
  have e1 : rngT (fun g => f (sw (a, b) g)) b = t1 := by
    have := (rngT_spec P' hb).1
    refine chn_uni this ?_
    show Chn _ b (f (sw (a, b) b)) t1
    rw [sw_b]
    exact chn_cong k1 fun y hy => by rw [sw_o y (fun e => a1 (e ▸ hy)) (fun e => b1 (e ▸ hy))]
  have e2 : rngT (fun g => f (sw (a, b) g)) a = t2 := by
    have := (rngT_spec P' ha).1
    refine chn_uni this ?_
    show Chn _ a (f (sw (a, b) a)) t2
    rw [sw_a]
    exact chn_cong k2 fun y hy => by rw [sw_o y (fun e => a2 (e ▸ hy)) (fun e => nd3.1 (e ▸ hy))]
  have inC : ∀ x, x ∈ rng f a ↔ x ∈ rng (fun g => f (sw (a, b) g)) a ∨ x ∈ rng (fun g => f (sw (a, b) g)) b := fun x => by
    show x ∈ a :: rngT f a ↔ x ∈ a :: rngT _ a ∨ x ∈ b :: rngT _ b
    rw [e1, e2, et]
    simp only [List.mem_cons, List.mem_append]
    constructor
    · rintro (q | q | q | q)
      · exact .inl (.inl q)
      · exact .inr (.inr q)
      · exact .inr (.inl q)
      · exact .inl (.inr q)
    · rintro ((q | q) | (q | q))
      · exact .inl q
      · exact .inr (.inr (.inr q))
      · exact .inr (.inr (.inl q))
      · exact .inr (.inl q)
  have dj : ∀ x, x ∈ rng (fun g => f (sw (a, b) g)) a → x ∈ rng (fun g => f (sw (a, b) g)) b → False := fun x h1 h2 => by
    have h1' : x ∈ a :: rngT _ a := h1
    have h2' : x ∈ b :: rngT _ b := h2
    rw [e2] at h1'
    rw [e1] at h2'
    rcases List.mem_cons.mp h1' with rfl | q1
    · rcases List.mem_cons.mp h2' with q2 | q2
      · exact ne q2
      · exact a1 q2
    · rcases List.mem_cons.mp h2' with rfl | q2
      · exact nd3.1 q1
      · exact nd2.2.2 x q2 x (List.mem_cons_of_mem _ q1) rfl
  have out : ∀ x ∈ K, x ∉ rng f a → rng (fun g => f (sw (a, b) g)) x = rng f x := fun x hx hn => by
    have hxa : ∀ y ∈ rng f x, ¬ y = a ∧ ¬ y = b := fun y hy => by
      have q := rng_sym P hx hy
      refine ⟨fun e => hn (e ▸ q), fun e => hn ?_⟩
      rw [e] at q
      exact rng_trans P ha h q
    have : rngT (fun g => f (sw (a, b) g)) x = rngT f x := by
      refine chn_uni (rngT_spec P' hx).1 ?_
      show Chn _ x (f (sw (a, b) x)) _
      rw [sw_o x (hxa x List.mem_cons_self).1 (hxa x List.mem_cons_self).2]
      exact chn_cong (rngT_spec P hx).1 fun y hy => by
        have := hxa y (List.mem_cons_of_mem _ hy)
        rw [sw_o y this.1 this.2]
    show x :: _ = x :: _
    rw [this]
  obtain ⟨m1, hm1, lm1⟩ := min_of (rng (fun g => f (sw (a, b) g)) a) (by simp)
  obtain ⟨m2, hm2, lm2⟩ := min_of (rng (fun g => f (sw (a, b) g)) b) (by simp)
  have r1 : ∀ x ∈ rng (fun g => f (sw (a, b) g)) a, isRep (fun g => f (sw (a, b) g)) x ↔ x = m1 := fun x hx => by
    unfold isRep
    constructor
    · intro q
      have := q m1 ((rng_eqv P' ha hx m1).mpr hm1)
      have := lm1 x hx
      omega
    · rintro rfl y hy
      exact lm1 y ((rng_eqv P' ha hx y).mp hy)
  have r2 : ∀ x ∈ rng (fun g => f (sw (a, b) g)) b, isRep (fun g => f (sw (a, b) g)) x ↔ x = m2 := fun x hx => by
    unfold isRep
    constructor
    · intro q
      have := q m2 ((rng_eqv P' hb hx m2).mpr hm2)
      have := lm2 x hx
      omega
    · rintro rfl y hy
      exact lm2 y ((rng_eqv P' hb hx y).mp hy)
  have r0 : ∀ x ∈ rng f a, isRep f x ↔ x ≤ m1 ∧ x ≤ m2 := fun x hx => by
    unfold isRep
    constructor
    · intro q
      exact ⟨q m1 ((rng_eqv P ha hx m1).mpr ((inC m1).mpr (.inl hm1))), q m2 ((rng_eqv P ha hx m2).mpr ((inC m2).mpr (.inr hm2)))⟩
    · intro q y hy
      rcases (inC y).mp ((rng_eqv P ha hx y).mp hy) with z | z
      · have := lm1 y z; omega
      · have := lm2 y z; omega
  have hne : ¬ m1 = m2 := fun e => dj m1 hm1 (e ▸ hm2)
  have main : ∀ mm, mm ∈ rng f a → isRep (fun g => f (sw (a, b) g)) mm → ¬ isRep f mm → (∀ x ∈ rng f a, ¬ x = mm → (isRep f x ↔ isRep (fun g => f (sw (a, b) g)) x)) → cyc (fun g => f (sw (a, b) g)) K = cyc f K + 1 := fun mm h1 h2 h3 h4 => by
    refine count_one (m := mm) P.nd (rng_K P ha mm h1) (decide_eq_false h3) (decide_eq_true h2) fun x hx xm => ?_
    by_cases q : x ∈ rng f a
    · simp only [decide_eq_decide]
      exact h4 x q xm
    · simp only [decide_eq_decide]
      unfold isRep
      rw [out x hx q]
  by_cases q : m1 < m2
  · refine main m2 ((inC m2).mpr (.inr hm2)) ((r2 m2 hm2).mpr rfl) (fun z => by have := (r0 m2 ((inC m2).mpr (.inr hm2))).mp z; omega) fun x hx xm => ?_
    rw [r0 x hx]
    rcases (inC x).mp hx with z | z
    · rw [r1 x z]
      have := lm1 x z
      omega
    · rw [r2 x z]
      have := lm2 x z
      omega
  · refine main m1 ((inC m1).mpr (.inl hm1)) ((r1 m1 hm1).mpr rfl) (fun z => by have := (r0 m1 ((inC m1).mpr (.inl hm1))).mp z; omega) fun x hx xm => ?_
    rw [r0 x hx]
    rcases (inC x).mp hx with z | z
    · rw [r1 x z]
      have := lm1 x z
      omega
    · rw [r2 x z]
      have := lm2 x z
      omega
/-- two rings become one -/
theorem cyc_join (P : Prf f K) {a b : Int} (ha : a ∈ K) (hb : b ∈ K) (ne : ¬ a = b) (h : ¬ b ∈ rng f a) : cyc f K = cyc (fun g => f (sw (a, b) g)) K + 1 := by
  have P' := prf_sw P ha hb
  have sw_o : ∀ y, ¬ y = a → ¬ y = b → sw (a, b) y = y := fun y h1 h2 => by
    unfold sw
    rw [if_neg (fun e => h2 e.symm), if_neg (fun e => h1 e.symm)]
  have sw_a : sw (a, b) a = b := by unfold sw; rw [if_neg (fun e => ne (show b = a from e).symm), if_pos rfl]
  have hin : b ∈ rng (fun g => f (sw (a, b) g)) a := by
    obtain ⟨c1, c2, c3⟩ := rngT_spec P hb
    have nd := List.nodup_cons.mp c2
    have an : a ∉ rng f b := fun q => h (rng_sym P hb q)
    refine (chn_fwd (A := fun z => z ∈ rng (fun g => f (sw (a, b) g)) a) c1 ?_ fun y hy hA => ?_).2
    · have := rng_succ P' ha a List.mem_cons_self
      rw [sw_a] at this
      exact this
    · have := rng_succ P' ha y hA
      rw [sw_o y (fun e => an (e ▸ List.mem_cons_of_mem _ hy)) (fun e => nd.1 (e ▸ hy))] at this
      exact this
  have := cyc_split P' ha hb ne hin
  rw [← this]
  congr 1
  funext g
  show f g = f (sw (a, b) (sw (a, b) g))
  rw [sw_sw]
/-- one more or one less -/
theorem cyc_step (P : Prf f K) {a b : Int} (ha : a ∈ K) (hb : b ∈ K) (ne : ¬ a = b) : cyc (fun g => f (sw (a, b) g)) K = cyc f K + 1 ∨ cyc f K = cyc (fun g => f (sw (a, b) g)) K + 1 := by
  by_cases h : b ∈ rng f a
  · exact .inl (cyc_split P ha hb ne h)
  · exact .inr (cyc_join P ha hb ne h)
end
section
variable {f : Int → Int} {K : List Int}
theorem filt_split (p q : Int → Bool) : ∀ K : List Int, (K.filter p).length = ((K.filter q).filter p).length + ((K.filter fun x => !q x).filter p).length
  | [] => rfl
  | a :: K => by
    have ih := filt_split p q K
    cases hq : q a <;> cases hp : p a <;> simp [List.filter_cons, hq, hp] at ih ⊢ <;> omega
theorem fixed_rep (P : Prf f K) {g : Int} (hg : g ∈ K) (h : f g = g) : isRep f g := by
  have e : rngT f g = [] := chn_uni (rngT_spec P hg).1 (show Chn f g (f g) [] from h)
  intro y hy
  have hy' : y ∈ g :: rngT f g := hy
  rw [e] at hy'
  rw [List.mem_singleton.mp hy']
  exact Int.le_refl _
theorem rg_heads (f : Int → Int) : ∀ (l : List Int) (acc : List (List Int)) (r : List Int), r ∈ l.foldl (rgStep f) acc → r ∈ acc ∨ ∃ h ∈ l, r = rng f h
  | [], _, _, h => .inl h
  | g :: l, acc, r, h => by
    rcases rg_heads f l (rgStep f acc g) r h with q | ⟨z, hz, q⟩
    · unfold rgStep at q
      split at q
      · exact .inl q
      · rcases List.mem_append.mp q with q | q
        · exact .inl q
        · exact .inr ⟨g, List.mem_cons_self, List.mem_singleton.mp q⟩
    · exact .inr ⟨z, List.mem_cons_of_mem _ hz, q⟩
open Classical in
theorem rg_count (P : Prf f K) (so : K.Pairwise (· ≤ ·)) : ∀ (l pre : List Int), wrg f K = pre ++ l → (l.foldl (rgStep f) (RG f pre)).length = (RG f pre).length + (l.filter fun g => decide (isRep f g)).length
  | [], pre, _ => rfl
  | g :: l, pre, h => by
    have ih := rg_count P so l (pre ++ [g]) (by rw [h, List.append_assoc]; rfl)
    have e : RG f (pre ++ [g]) = rgStep f (RG f pre) g := by unfold RG; rw [List.foldl_append]; rfl
    rw [e] at ih
    rw [List.foldl_cons, ih]
    have hw : ∀ x ∈ pre ++ g :: l, x ∈ K ∧ ¬ f x = x := fun x hx => by
      rw [← h] at hx
      obtain ⟨h1, h2⟩ := List.mem_filter.mp hx
      exact ⟨h1, by simpa using h2⟩
    have hg := hw g (List.mem_append_right _ List.mem_cons_self)
    have hpre : ∀ x ∈ pre, x ∈ K ∧ ¬ f x = x := fun x hx => hw x (List.mem_append_left _ hx)
    obtain ⟨I, _, hin⟩ := rgI_fold P pre [] rgI_nil hpre
    have sw' : (pre ++ g :: l).Pairwise (· ≤ ·) := by rw [← h]; exact so.filter _
    have nd' : (pre ++ g :: l).Nodup := by rw [← h]; exact P.nd.filter _
    have s1 := List.pairwise_append.mp sw'
    have n1 := List.nodup_append.mp nd'
    have key : g ∈ (RG f pre).flatten ↔ ¬ isRep f g := by
      constructor
      · intro q hr
        obtain ⟨r, hr1, hr2⟩ := List.mem_flatten.mp q
        rcases rg_heads f pre [] r hr1 with z | ⟨y, hy, rfl⟩
        · cases z
        · have a1 := s1.2.2 y hy g List.mem_cons_self
          have a2 := n1.2.2 y hy g List.mem_cons_self
          have a3 := hr y (rng_sym P (hpre y hy).1 hr2)
          omega
      · intro q
        unfold isRep at q
        have : ∃ y ∈ rng f g, y < g := Classical.byContradiction fun z => q fun y hy => Classical.byContradiction fun w => z ⟨y, hy, by omega⟩
        obtain ⟨y, hy, hl⟩ := this
        have hyk := rng_K P hg.1 y hy
        have hyw := rng_wrong P hg.1 hg.2 y hy
        have hym : y ∈ pre ++ g :: l := by rw [← h]; exact List.mem_filter.mpr ⟨hyk, by simpa using hyw⟩
        have hyp : y ∈ pre := by
          rcases List.mem_append.mp hym with z | z
          · exact z
          · rcases List.mem_cons.mp z with z | z
            · omega
            · have := (List.pairwise_cons.mp s1.2.1).1 y z
              omega
        exact rng_meet P hg.1 (A := fun z => z ∈ (RG f pre).flatten) I.bk hy (hin y hyp)
    by_cases q : isRep f g
    · have nf : g ∉ (RG f pre).flatten := fun z => key.mp z q
      rw [show rgStep f (RG f pre) g = RG f pre ++ [rng f g] from if_neg (fun z => nf (inAny.mp z)), List.length_append, List.length_singleton, List.filter_cons, if_pos (decide_eq_true q), List.length_cons]
      omega
    · rw [show rgStep f (RG f pre) g = RG f pre from if_pos (inAny.mpr (key.mpr q)), List.filter_cons, if_neg (by rw [decide_eq_false q]; decide)]
open Classical in
/-- how few pairs, told by rings and by cycles -/
theorem N_eq (P : Prf f K) (so : K.Pairwise (· ≤ ·)) : K.length + (RG f (wrg f K)).length = cyc f K + (wrg f K).length := by
  have h1 := rg_count P so (wrg f K) [] rfl
  have h2 := filt_split (fun g => decide (isRep f g)) (fun g => !decide (f g = g)) K
  have h3 := filt_split (fun _ => true) (fun g => !decide (f g = g)) K
  rw [List.filter_eq_self.mpr (fun _ _ => rfl), List.filter_eq_self.mpr (fun _ _ => rfl), List.filter_eq_self.mpr (fun _ _ => rfl)] at h3
  have h4 : (K.filter fun x => !(!decide (f x = x))).filter (fun g => decide (isRep f g)) = K.filter fun x => !(!decide (f x = x)) := List.filter_eq_self.mpr fun g hg => by
    obtain ⟨a, b⟩ := List.mem_filter.mp hg
    exact decide_eq_true (fixed_rep P a (by simpa using b))
  have h5 : (RG f (wrg f K)).length = ((wrg f K).filter fun g => decide (isRep f g)).length := by
    rw [show RG f (wrg f K) = (wrg f K).foldl (rgStep f) (RG f []) from rfl, h1]
    exact Nat.zero_add _
  unfold cyc
  rw [h2, h4, h5, h3]
  show _ = ((wrg f K).filter _).length + _ + _
  show (wrg f K).length + _ + _ = _
  omega
end
theorem prf_id {K : List Int} (nd : K.Nodup) : Prf (fun g => g) K := ⟨nd, fun _ h => h, fun _ _ _ _ h => h⟩
open Classical in
theorem cyc_id {K : List Int} (nd : K.Nodup) : cyc (fun g => g) K = K.length := by
  unfold cyc
  rw [List.filter_eq_self.mpr fun g hg => decide_eq_true (fixed_rep (prf_id nd) hg rfl)]
theorem sws_snoc (row : List (Int × Int)) (p : Int × Int) (g : Int) : sws (row ++ [p]) g = sws row (sw p g) := by
  unfold sws
  rw [List.foldr_append]
  rfl
/-- a row of so many pairs: the cycles behind it -/
theorem row_cyc {K : List Int} (nd : K.Nodup) : ∀ (l pre : List (Int × Int)), (∀ p ∈ l, p.1 ∈ K ∧ p.2 ∈ K ∧ ¬ p.1 = p.2) → Prf (sws pre) K → (∃ k, cyc (sws pre) K + pre.length = K.length + 2 * k) → Prf (sws (pre ++ l)) K ∧ ∃ k, cyc (sws (pre ++ l)) K + (pre ++ l).length = K.length + 2 * k
  | [], pre, _, P, h => by rw [List.append_nil]; exact ⟨P, h⟩
  | p :: l, pre, hp, P, ⟨k, h⟩ => by
    obtain ⟨h1, h2, h3⟩ := hp p List.mem_cons_self
    have e : (fun g => sws pre (sw (p.1, p.2) g)) = sws (pre ++ [p]) := funext fun g => (sws_snoc pre p g).symm
    have P2 := prf_sw P h1 h2
    have c := cyc_step P h1 h2 h3
    rw [e] at P2 c
    have := row_cyc nd l (pre ++ [p]) (fun q hq => hp q (List.mem_cons_of_mem _ hq)) P2 (by
      rw [List.length_append, List.length_singleton]
      rcases c with c | c
      · exact ⟨k + 1, by omega⟩
      · exact ⟨k, by omega⟩)
    rw [List.append_assoc] at this
    exact this
/-- no row of this effect is shorter, and it is longer only by an even number -/
theorem row_least {K : List Int} (nd : K.Nodup) (so : K.Pairwise (· ≤ ·)) (row : List (Int × Int)) (h : ∀ p ∈ row, p.1 ∈ K ∧ p.2 ∈ K ∧ ¬ p.1 = p.2) : Prf (sws row) K ∧ ∃ k, row.length + (RG (sws row) (wrg (sws row) K)).length = (wrg (sws row) K).length + 2 * k := by
  have h0 := row_cyc nd row [] h (prf_id nd) ⟨0, by rw [show cyc (sws []) K = K.length from cyc_id nd]; rfl⟩
  rw [List.nil_append] at h0
  obtain ⟨P, k, hk⟩ := h0
  have n := N_eq P so
  exact ⟨P, k, by omega⟩
theorem srt_same {l m : List Int} (n1 : l.Nodup) (n2 : m.Nodup) (o1 : l.Pairwise (· ≤ ·)) (o2 : m.Pairwise (· ≤ ·)) (h : ∀ x, x ∈ l ↔ x ∈ m) : l = m := by
  have p := perm_of_sub n1 (fun x hx => (h x).mp hx) (nodup_len n2 fun x hx => (h x).mpr hx)
  rw [sI_unique p o1]
  exact (sI_unique (List.Perm.refl _) o2).symm
theorem paper_keys : ∀ (row w : List (Int × Int)) (k : Int), ((getK w k).isSome = true ∨ ∃ p ∈ row, k = p.1 ∨ k = p.2) → (getK (paperL row w) k).isSome = true
  | [], w, k, h => by
    rcases h with h | ⟨p, hp, _⟩
    · exact h
    · cases hp
  | p :: row, w, k, h => by
    refine paper_keys row (pswap w p) k ?_
    have key : (p.2 = k ∨ p.1 = k ∨ (getK w k).isSome = true) → (getK (pswap w p) k).isSome = true := fun q => by
      rw [get_pswap]
      by_cases h1 : p.2 = k
      · rw [if_pos h1]; rfl
      · rw [if_neg h1]
        by_cases h2 : p.1 = k
        · rw [if_pos h2]; rfl
        · rw [if_neg h2]
          rcases q with q | q | q
          · exact absurd q h1
          · exact absurd q h2
          · exact q
    rcases h with h | ⟨q, hq, h⟩
    · exact .inl (key (.inr (.inr h)))
    · rcases List.mem_cons.mp hq with rfl | hq
      · rcases h with h | h
        · exact .inl (key (.inr (.inl h.symm)))
        · exact .inl (key (.inl h.symm))
      · exact .inr ⟨q, hq, h⟩
theorem hf_sws (row : List (Int × Int)) : hf (paperL row []) = sws row := funext fun g => by rw [hf_paper]; rfl
theorem short_least (A B R : List (Int × Int)) (hR : R = A ∨ R = B) (hA : PU A) (hB : PU B) : ∃ k, R.length + (RG (sws R) (wrg (sws R) (hK (paperL R [])))).length = (wrg (sws R) (hK (paperL R []))).length + 2 * k := by
  have T := tot_paper (A ++ B) [] tot_nil
  have nd : (hK (paperL (A ++ B) [])).Nodup := (sI_perm _).nodup_iff.mpr T.nd
  have mem : ∀ p ∈ R, p.1 ∈ hK (paperL (A ++ B) []) ∧ p.2 ∈ hK (paperL (A ++ B) []) ∧ ¬ p.1 = p.2 := fun p hp => by
    have h : p ∈ A ++ B := by
      rcases hR with rfl | rfl
      · exact List.mem_append_left _ hp
      · exact List.mem_append_right _ hp
    refine ⟨mem_hK.mpr (paper_keys _ _ _ (.inr ⟨p, h, .inl rfl⟩)), mem_hK.mpr (paper_keys _ _ _ (.inr ⟨p, h, .inr rfl⟩)), (hA.app hB) p h⟩
  obtain ⟨P, k, hk⟩ := row_least nd (sI_sorted _) R mem
  have TR := tot_paper R [] tot_nil
  have e : wrg (sws R) (hK (paperL R [])) = wrg (sws R) (hK (paperL (A ++ B) [])) := by
    refine srt_same (((sI_perm _).nodup_iff.mpr TR.nd).filter _) (nd.filter _) ((sI_sorted _).filter _) ((sI_sorted _).filter _) fun x => ?_
    have moved : ¬ sws R x = x → x ∈ hK (paperL R []) ∧ x ∈ hK (paperL (A ++ B) []) := fun q => by
      have q1 : x ∈ hK (paperL R []) := hf_out (by rw [hf_sws]; exact q)
      refine ⟨q1, ?_⟩
      have : ∃ p ∈ R, x = p.1 ∨ x = p.2 := Classical.byContradiction fun z => q (by
        have key : ∀ (row : List (Int × Int)), (∀ p ∈ row, ¬ x = p.1 ∧ ¬ x = p.2) → sws row x = x := by
          intro row
          induction row with
          | nil => exact fun _ => rfl
          | cons p row ih =>
            intro h
            have h1 := h p List.mem_cons_self
            show sw p (sws row x) = x
            rw [ih fun q hq => h q (List.mem_cons_of_mem _ hq)]
            unfold sw
            rw [if_neg (fun e => h1.2 e.symm), if_neg (fun e => h1.1 e.symm)]
        exact key R fun p hp => ⟨fun e => z ⟨p, hp, .inl e⟩, fun e => z ⟨p, hp, .inr e⟩⟩)
      obtain ⟨p, hp, h⟩ := this
      rcases h with h | h
      · rw [h]; exact (mem p hp).1
      · rw [h]; exact (mem p hp).2.1
    unfold wrg
    rw [List.mem_filter, List.mem_filter]
    constructor
    · rintro ⟨_, h⟩
      exact ⟨(moved (by simpa using h)).2, h⟩
    · rintro ⟨_, h⟩
      exact ⟨(moved (by simpa using h)).1, h⟩
  exact ⟨k, by rw [e]; exact hk⟩
theorem prf_tot {w : List (Int × Int)} (nd : (w.map (·.1)).Nodup) (P : Prf (hf w) (hK w)) : Tot w := by
  have o : ∀ g, g ∉ hK w → hf w g = g := fun g hg => Classical.byContradiction fun q => hg (hf_out q)
  refine ⟨nd, fun a b e => ?_, fun g hg => mem_hK.mp (P.cl g (mem_hK.mpr hg))⟩
  by_cases ha : a ∈ hK w
  · by_cases hb : b ∈ hK w
    · exact P.inj a ha b hb e
    · rw [o b hb] at e
      exact absurd (e ▸ P.cl a ha) hb
  · by_cases hb : b ∈ hK w
    · rw [o a ha] at e
      exact absurd (e ▸ P.cl b hb) ha
    · rw [o a ha, o b hb] at e
      exact e
theorem home_least {w row : List (Int × Int)} (T : Tot w) (hp : PU row) (h : ∀ g, hf (paperL row w) g = g) : ∃ k, row.length + (RG (hf w) (wrg (hf w) (hK w))).length = (wrg (hf w) (hK w)).length + 2 * k := by
  have e : ∀ g, hf w g = sws row.reverse g := fun g => by
    have := h (sws row.reverse g)
    rw [hf_paper, sws_rev] at this
    exact this
  have ef : hf w = sws row.reverse := funext e
  have hr : PU row.reverse := fun p hp2 => hp p (List.mem_reverse.mp hp2)
  obtain ⟨k, hk⟩ := short_least row.reverse row.reverse row.reverse (.inl rfl) hr hr
  have ws := wrg_same T (tot_paper row.reverse [] tot_nil) fun g => by rw [hf_sws, ef]
  rw [hf_sws, ef] at ws
  rw [← ws, ← ef, List.length_reverse] at hk
  exact ⟨k, hk⟩
theorem Ext.setN {S T : List Cell} {n : Nat} {c : Cell} (h : Ext S T) (hn : S.length ≤ n) : Ext S (T.set n c) := fun m d e => by
  have := get_lt e
  rw [List.getElem?_set_ne (by omega)]
  exact h m d e
theorem zipR_len {α : Type} {l : List α} : ((List.range l.length).zip l).length = l.length := by rw [List.length_zip, List.length_range, Nat.min_self]
theorem zipR_snd {α : Type} (l : List α) : ((List.range l.length).zip l).map Prod.snd = l := by
  rw [List.map_snd_zip]
  rw [List.length_range]
  exact Nat.le_refl _
theorem map_split {α β : Type} {f : α → β} {l : List α} {m : List β} (h : l.map f = m) {pre post : List α} {x : α} (q : l = pre ++ x :: post) : m = pre.map f ++ f x :: post.map f := by rw [← h, q, List.map_append, List.map_cons]
theorem wrg_nil {w : List (Int × Int)} : wrg (hf w) (hK w) = [] ↔ ∀ g, hf w g = g := by
  constructor
  · intro q g
    refine Classical.byContradiction fun z => ?_
    have m : g ∈ wrg (hf w) (hK w) := List.mem_filter.mpr ⟨hf_out z, by simpa using z⟩
    rw [q] at m
    cases m
  · intro h
    exact List.filter_eq_nil_iff.mpr fun g _ => by simp [h g]
/-- a pair that may be danced, so far as the hall and the seen ones tell -/
def gdP (w : List (Int × Int)) (mt seen : List ((Int × Int) × Bool)) (p : Int × Int) : Bool := !decide (p.1 = p.2) && ((getK w p.1).isSome && ((getK w p.2).isSome && (!(getK mt (odp p.1 p.2)).isSome && !(getK seen (odp p.1 p.2)).isSome)))
def frB (w : List (Int × Int)) (mt seen : List ((Int × Int) × Bool)) (row : List (Int × Int)) : Bool := runG (gdP w mt) (fun s p => setK s (odp p.1 p.2) true) seen row
/-- a row that can be danced -/
structure FR (w : List (Int × Int)) (mt : List ((Int × Int) × Bool)) (row : List (Int × Int)) : Prop where
  ne : ∀ p ∈ row, ¬ p.1 = p.2
  w1 : ∀ p ∈ row, (getK w p.1).isSome = true
  w2 : ∀ p ∈ row, (getK w p.2).isSome = true
  nm : ∀ p ∈ row, (getK mt (odp p.1 p.2)).isSome = false
  nd : (row.map fun p => odp p.1 p.2).Nodup
theorem frB_iff (w : List (Int × Int)) (mt : List ((Int × Int) × Bool)) : ∀ (row : List (Int × Int)) (seen : List ((Int × Int) × Bool)), frB w mt seen row = true ↔ FR w mt row ∧ ∀ p ∈ row, (getK seen (odp p.1 p.2)).isSome = false
  | [], seen => ⟨fun _ => ⟨⟨(fun _ h => by cases h), (fun _ h => by cases h), (fun _ h => by cases h), (fun _ h => by cases h), List.nodup_nil⟩, fun _ h => by cases h⟩, fun _ => rfl⟩
  | p :: row, seen => by
    have ih := frB_iff w mt row (setK seen (odp p.1 p.2) true)
    show (gdP w mt seen p && frB w mt (setK seen (odp p.1 p.2) true) row) = true ↔ _
    rw [Bool.and_eq_true, ih]
    unfold gdP
    simp only [Bool.and_eq_true, Bool.not_eq_true', decide_eq_false_iff_not]
    constructor
    · rintro ⟨⟨h1, h2, h3, h4, h5⟩, F, h6⟩
      refine ⟨⟨?_, ?_, ?_, ?_, ?_⟩, ?_⟩
      · intro q hq
        rcases List.mem_cons.mp hq with rfl | hq
        · exact h1
        · exact F.ne q hq
      · intro q hq
        rcases List.mem_cons.mp hq with rfl | hq
        · exact h2
        · exact F.w1 q hq
      · intro q hq
        rcases List.mem_cons.mp hq with rfl | hq
        · exact h3
        · exact F.w2 q hq
      · intro q hq
        rcases List.mem_cons.mp hq with rfl | hq
        · exact h4
        · exact F.nm q hq
      · rw [List.map_cons]
        refine List.nodup_cons.mpr ⟨fun hm => ?_, F.nd⟩
        obtain ⟨q, hq, e⟩ := List.mem_map.mp hm
        have := h6 q hq
        rw [getK_set, if_pos e.symm] at this
        cases this
      · intro q hq
        rcases List.mem_cons.mp hq with rfl | hq
        · exact h5
        · have := h6 q hq
          rw [getK_set] at this
          split at this
          · cases this
          · exact this
    · rintro ⟨F, h⟩
      have nd := F.nd
      rw [List.map_cons] at nd
      obtain ⟨n1, n2⟩ := List.nodup_cons.mp nd
      refine ⟨⟨F.ne p List.mem_cons_self, F.w1 p List.mem_cons_self, F.w2 p List.mem_cons_self, F.nm p List.mem_cons_self, h p List.mem_cons_self⟩, ⟨fun q hq => F.ne q (List.mem_cons_of_mem _ hq), fun q hq => F.w1 q (List.mem_cons_of_mem _ hq), fun q hq => F.w2 q (List.mem_cons_of_mem _ hq), fun q hq => F.nm q (List.mem_cons_of_mem _ hq), n2⟩, fun q hq => ?_⟩
      rw [getK_set, if_neg (fun e => n1 (List.mem_map.mpr ⟨q, hq, e.symm⟩))]
      exact h q (List.mem_cons_of_mem _ hq)
theorem frB_nil {w : List (Int × Int)} {mt : List ((Int × Int) × Bool)} {row : List (Int × Int)} : frB w mt [] row = true ↔ FR w mt row := (frB_iff w mt row []).trans ⟨fun h => h.1, fun h => ⟨h, fun _ _ => rfl⟩⟩
/-! ### hubs and free places -/
abbrev mtB (t : List ((Int × Int) × Bool)) (a b : Int) : Bool := (getK t (odp a b)).isSome
theorem foldR_find {β γ : Type} {B : Unit → β → List Cell → Out (Unit ⊕ γ)} {S : List Cell} (p : β → Bool) (r : β → γ) : ∀ xs : List β, (∀ x ∈ xs, B () x S = .ok (if p x = true then .inr (r x) else .inl ()) S) → foldR B xs () S = .ok (match xs.find? p with
    | some x => .inr (r x)
    | none => .inl ()) S
  | [], _ => rfl
  | x :: l, h => by
    rw [foldR_cons, h x List.mem_cons_self]
    cases e : p x with
    | true => rw [if_pos rfl, bindR_inr, List.find?_cons_of_pos e]
    | false => rw [if_neg (by decide), bindR_inl, foldR_find p r l fun y hy => h y (List.mem_cons_of_mem _ hy), List.find?_cons_of_neg (by rw [e]; decide)]
theorem find_any {β : Type} (p : β → Bool) : ∀ xs : List β, (xs.find? p).isSome = xs.any p
  | [] => rfl
  | x :: l => by
    cases e : p x with
    | true => rw [List.find?_cons_of_pos e, List.any_cons, e]; rfl
    | false => rw [List.find?_cons_of_neg (by rw [e]; decide), find_any p l, List.any_cons, e, Bool.false_or]
theorem ok_ite {α : Type} (c : Prop) [Decidable c] (a b : α) (S : List Cell) : (if c then Out.ok a S else Out.ok b S) = Out.ok (if c then a else b) S := by split <;> rfl
theorem zip_any {β : Type} (p : β → Bool) (l : List β) : ((List.range l.length).zip l).any (fun x => p x.2) = l.any p := by
  have := congrArg (fun m => m.any p) (zipR_snd l)
  rw [List.any_map] at this
  exact this
def hubQ (t : List ((Int × Int) × Bool)) (ring : List Int) : Option (Nat × Int) := ((List.range ring.length).zip ring).find? fun x => !(ring.any fun g => mtB t x.2 g)
def freeQ (t : List ((Int × Int) × Bool)) (ring : List Int) : Option (Nat × Int) := ((List.range ring.length).zip ring).find? fun x => !(mtB t x.2 (ring.getD ((x.1 + 1) % ring.length) 0))
theorem hubQ_some {t : List ((Int × Int) × Bool)} {ring : List Int} {k : Nat} {a : Int} (h : hubQ t ring = some (k, a)) : ring[k]? = some a ∧ ∀ g ∈ ring, mtB t a g = false := by
  have h1 := List.find?_some h
  refine ⟨zip_range (List.mem_of_find?_eq_some h), fun g hg => ?_⟩
  simp at h1
  cases e : mtB t a g with
  | false => rfl
  | true =>
    have := h1 g hg
    rw [show mtB t a g = (getK t (odp a g)).isSome from rfl, this] at e
    cases e
theorem freeQ_some {t : List ((Int × Int) × Bool)} {ring : List Int} {k : Nat} {a : Int} (h : freeQ t ring = some (k, a)) : ring[k]? = some a ∧ mtB t a (ring.getD ((k + 1) % ring.length) 0) = false := by
  have h1 := List.find?_some h
  exact ⟨zip_range (List.mem_of_find?_eq_some h), by simpa using h1⟩
theorem atI_getD {l : List Int} {i : Int} (h : 0 ≤ i) (h2 : i < l.length) : L2.atI l i = some (l.getD i.toNat 0) := by
  rw [atI_nat' ⟨h, h2⟩, List.getD_eq_getElem?_getD, List.getElem?_eq_getElem (by omega)]
  rfl
theorem next_ix {k n : Nat} (hn : 0 < n) : 0 ≤ ((k : Int) + 1) % (n : Int) ∧ ((k : Int) + 1) % (n : Int) < n ∧ (((k : Int) + 1) % (n : Int)).toNat = (k + 1) % n := by
  have e : ((k : Int) + 1) % (n : Int) = (((k + 1) % n : Nat) : Int) := by
    rw [Int.natCast_emod]
    rfl
  have := Nat.mod_lt (k + 1) hn
  rw [e]
  exact ⟨by omega, by omega, by omega⟩
theorem ringZ_pos {l : List Int} {x : Nat × Int} (h : x ∈ (List.range l.length).zip l) : 0 < l.length := by
  have := zip_range (k := x.1) (x := x.2) h
  rcases Nat.eq_zero_or_pos l.length with e | e
  · rw [List.length_eq_zero_iff.mp e] at this
    cases this
  · exact e
theorem mt_self {t : List ((Int × Int) × Bool)} (tp : ∀ p ∈ t, p.1.1 < p.1.2) (a : Int) : mtB t a a = false := by
  cases e : mtB t a a with
  | false => rfl
  | true =>
    obtain ⟨p, hp, q⟩ := getK_some_mem e
    have := tp p hp
    rw [q] at this
    unfold odp at this
    split at this <;> (dsimp only at this; omega)
/-- a ring sent home by its hub -/
def hubSt (t : List ((Int × Int) × Bool)) (r : List Int) : List (Int × Int) := match hubQ t r with
  | some (k, a) => (r.drop (k + 1) ++ r.take k).map fun y => (a, y)
  | none => []
/-- a ring sent home with one newcomer -/
def oneSt (t : List ((Int × Int) × Bool)) (n : Int) (r : List Int) : List (Int × Int) := match freeQ t r with
  | some (k, a) => ((r.drop (k + 1) ++ r.take k).map fun y => (n, y)) ++ [((r.drop (k + 1) ++ r.take k).headD 0, a), (n, a)]
  | none => []
theorem oneSt_len (t : List ((Int × Int) × Bool)) (n : Int) (r : List Int) : (oneSt t n r).length ≤ r.length + 2 := by
  unfold oneSt
  split
  · rename_i k a _
    rw [List.length_append, List.length_map, List.length_append, List.length_drop, List.length_take]
    show _ + 2 ≤ _
    omega
  · exact Nat.zero_le _
theorem RG_sizes {x : HS} (hi : HInv x) (hl : x.done.length < 900) : (∀ r ∈ RG (hf x.worn) (wrg (hf x.worn) (hK x.worn)), r ≠ [] ∧ r.length ≤ 900) ∧ (RG (hf x.worn) (wrg (hf x.worn) (hK x.worn))).flatten.length ≤ 900 ∧ (RG (hf x.worn) (wrg (hf x.worn) (hK x.worn))).length ≤ 900 := by
  have P := hinv_prf hi
  have I := (RG_I P).1
  have rl := rings_len P I
  have kl := hK_len hi
  have fl := nodup_len I.nd fun y hy => (I.k y hy).1
  refine ⟨fun r hr => ?_, by omega, by omega⟩
  obtain ⟨g, hg, rfl⟩ := I.ne r hr
  have := nodup_len (rngT_spec P hg).2.1 (rng_K P hg)
  exact ⟨by simp, by omega⟩
/-- all in the order in which the second newcomer meets them -/
def ordR (R : List (List Int)) : List Int := (R.reverse.map fun r => r.drop 1 ++ r.take 1).flatten
/-- the row of two newcomers -/
def twoR (R : List (List Int)) (n m : Int) : List (Int × Int) := match ordR R with
  | [] => []
  | o :: t => (R.map fun r => (n, r.headD 0)) ++ (o :: t).map (fun y => (m, y)) ++ [(n, o), (n, m)]
theorem containsD {α : Type} [DecidableEq α] {l : List α} {y : α} : @List.contains α instBEqOfDecidableEq l y = true ↔ y ∈ l := List.contains_iff_mem
/-- the mixed row -/
def homeR (t : List ((Int × Int) × Bool)) (R : List (List Int)) (n m : Int) : List (Int × Int) :=
  ((R.filter fun r => (hubQ t r).isSome).map (hubSt t)).flatten ++ (if (R.filter fun r => (hubQ t r).isNone).any (fun r => (freeQ t r).isNone) = true then twoR (R.filter fun r => (hubQ t r).isNone) n m else ((R.filter fun r => (hubQ t r).isNone).map (oneSt t n)).flatten)
theorem flat_map_len {α β : Type} (f : α → List β) (c : α → Nat) : ∀ l : List α, (∀ x ∈ l, (f x).length ≤ c x) → (l.map f).flatten.length ≤ (l.map c).sum
  | [], _ => Nat.le_refl _
  | x :: l, h => by
    have ih := flat_map_len f c l fun y hy => h y (List.mem_cons_of_mem _ hy)
    have := h x List.mem_cons_self
    rw [List.map_cons, List.flatten_cons, List.length_append, List.map_cons, List.sum_cons]
    omega
theorem len_flat (l : List (List Int)) : (l.map List.length).sum = l.flatten.length := by rw [List.length_flatten]
theorem filt_flat (p : List Int → Bool) : ∀ l : List (List Int), (l.filter p).flatten.length ≤ l.flatten.length
  | [] => Nat.le_refl _
  | x :: l => by
    have ih := filt_flat p l
    cases e : p x with
    | true => rw [List.filter_cons_of_pos e, List.flatten_cons, List.flatten_cons, List.length_append, List.length_append]; omega
    | false => rw [List.filter_cons_of_neg (by rw [e]; decide), List.flatten_cons, List.length_append]; omega
theorem sum_add2 : ∀ l : List (List Int), (l.map fun r => r.length + 2).sum = l.flatten.length + 2 * l.length
  | [] => rfl
  | x :: l => by
    rw [List.map_cons, List.sum_cons, sum_add2 l, List.flatten_cons, List.length_append, List.length_cons]
    omega
theorem RG_two {x : HS} (hi : HInv x) : ∀ r ∈ RG (hf x.worn) (wrg (hf x.worn) (hK x.worn)), 2 ≤ r.length := fun r hr => by
  have P := hinv_prf hi
  rcases rg_heads (hf x.worn) (wrg (hf x.worn) (hK x.worn)) [] r hr with z | ⟨g, hg, rfl⟩
  · cases z
  · obtain ⟨h1, h2⟩ := List.mem_filter.mp hg
    have h2 : ¬ hf x.worn g = g := by simpa using h2
    have c := (rngT_spec P h1).1
    cases e : rngT (hf x.worn) g with
    | nil =>
      rw [e] at c
      exact absurd c h2
    | cons a t =>
      show 2 ≤ (g :: rngT (hf x.worn) g).length
      rw [e]
      simp
theorem twoR_len (R : List (List Int)) (n m : Int) : (twoR R n m).length ≤ R.length + (ordR R).length + 2 := by
  unfold twoR
  split
  · exact Nat.zero_le _
  · rename_i o t e
    rw [List.length_append, List.length_append, List.length_map, List.length_map, e]
    exact Nat.le_refl _
theorem ordR_len (R : List (List Int)) : (ordR R).length = R.flatten.length := by
  have key : ∀ l : List (List Int), (l.map fun r => r.drop 1 ++ r.take 1).flatten.length = l.flatten.length := by
    intro l
    induction l with
    | nil => rfl
    | cons x l ih =>
      rw [List.map_cons, List.flatten_cons, List.flatten_cons, List.length_append, List.length_append, ih, List.length_append, List.length_drop, List.length_take]
      omega
  unfold ordR
  rw [key]
  exact (List.reverse_perm R).flatten.length_eq
noncomputable abbrev RGx (x : HS) : List (List Int) := RG (hf x.worn) (wrg (hf x.worn) (hK x.worn))
theorem okF_cons {x : HS} {d : Deed} {l : List Deed} (h : okM x.worn x.touched d) (k : OkF (x.step d) l) : OkF x (d :: l) := fun pre e post q => by
  cases pre with
  | nil => cases q; exact h
  | cons a pre =>
    rw [List.cons_append] at q
    injection q with q1 q2
    subst q1
    exact k pre e post q2
theorem okF_nil {x : HS} : OkF x [] := fun pre d post e => by cases pre <;> cases e
theorem okF_app {x : HS} : ∀ {a b : List Deed}, OkF x a → OkF (stF x a) b → OkF x (a ++ b) := by
  intro a
  induction a generalizing x with
  | nil => exact fun _ h => h
  | cons d a ih => exact fun h1 h2 => okF_cons (h1 [] d a rfl) (ih (fun pre e post q => h1 (d :: pre) e post (by rw [q]; rfl)) h2)
theorem okF_at {x : HS} {pre post : List Deed} {d : Deed} (h : OkF x (pre ++ d :: post)) : OkF x pre ∧ okM (stF x pre).worn (stF x pre).touched d := ⟨fun p e q z => h p e (q ++ d :: post) (by rw [z]; simp), h pre d post rfl⟩
theorem okF_stop {x : HS} {pre post : List Deed} (h : OkF x (pre ++ post)) : OkF x pre := fun p e q z => h p e (q ++ post) (by rw [z]; simp)
abbrev exs (row : List (Int × Int)) : List Deed := row.map fun p => Deed.ex p.1 p.2
/-- a row that can be danced is danced, and goes as on paper -/
theorem dance : ∀ (row : List (Int × Int)) (x : HS), FR x.worn x.touched row → OkF x (exs row) ∧ (stF x (exs row)).worn = paperL row x.worn ∧ ∀ k, (getK (stF x (exs row)).worn k).isSome = (getK x.worn k).isSome
  | [], x, _ => ⟨okF_nil, rfl, fun _ => rfl⟩
  | p :: row, x, F => by
    have nd := F.nd
    rw [List.map_cons] at nd
    obtain ⟨n1, n2⟩ := List.nodup_cons.mp nd
    have w1 := F.w1 p List.mem_cons_self
    have w2 := F.w2 p List.mem_cons_self
    have ok : okM x.worn x.touched (.ex p.1 p.2) := ok_ex.mpr ⟨w1, w2, F.ne p List.mem_cons_self, by rw [F.nm p List.mem_cons_self]; decide⟩
    have ew : (x.step (.ex p.1 p.2)).worn = pswap x.worn p := by
      obtain ⟨a, ea⟩ := Option.isSome_iff_exists.mp w1
      obtain ⟨b, eb⟩ := Option.isSome_iff_exists.mp w2
      rw [step_worn]
      show setK (setK x.worn p.1 ((getK x.worn p.2).getD 0)) p.2 ((getK x.worn p.1).getD 0) = setK (setK x.worn p.1 ((getK x.worn p.2).getD p.2)) p.2 ((getK x.worn p.1).getD p.1)
      rw [ea, eb]
      rfl
    have et : (x.step (.ex p.1 p.2)).touched = setK x.touched (odp p.1 p.2) true := by rw [step_touched]; rfl
    have keep : ∀ k, (getK (pswap x.worn p) k).isSome = (getK x.worn k).isSome := fun k => by
      rw [get_pswap]
      split
      · rename_i e
        rw [← e, w2]
        rfl
      · split
        · rename_i e
          rw [← e, w1]
          rfl
        · rfl
    have F' : FR (x.step (.ex p.1 p.2)).worn (x.step (.ex p.1 p.2)).touched row := by
      rw [ew, et]
      refine ⟨fun q hq => F.ne q (List.mem_cons_of_mem _ hq), fun q hq => (keep _).trans (F.w1 q (List.mem_cons_of_mem _ hq)), fun q hq => (keep _).trans (F.w2 q (List.mem_cons_of_mem _ hq)), fun q hq => ?_, n2⟩
      rw [getK_set, if_neg (fun e : odp p.1 p.2 = odp q.1 q.2 => n1 (List.mem_map.mpr ⟨q, hq, e.symm⟩))]
      exact F.nm q (List.mem_cons_of_mem _ hq)
    obtain ⟨i1, i2, i3⟩ := dance row _ F'
    exact ⟨okF_cons ok i1, i2.trans (by rw [ew]; rfl), fun k => (i3 k).trans (by rw [ew]; exact keep k)⟩
theorem leave : ∀ (K : List Int) (x : HS), K.Nodup → (∀ g ∈ K, getK x.worn g = some g) → OkF x (K.map Deed.go) ∧ ∀ k, getK (stF x (K.map Deed.go)).worn k = if k ∈ K then none else getK x.worn k
  | [], x, _, _ => ⟨okF_nil, fun k => by rw [if_neg (by simp)]; rfl⟩
  | g :: K, x, nd, h => by
    obtain ⟨n1, n2⟩ := List.nodup_cons.mp nd
    have ew : (x.step (.go g)).worn = delK x.worn g := by rw [step_worn]; rfl
    obtain ⟨i1, i2⟩ := leave K (x.step (.go g)) n2 fun k hk => by
      rw [ew, getK_del, if_neg (fun e : g = k => n1 (e ▸ hk))]
      exact h k (List.mem_cons_of_mem _ hk)
    refine ⟨okF_cons (ok_go.mpr (h g List.mem_cons_self)) i1, fun k => (i2 k).trans ?_⟩
    rw [ew, getK_del]
    by_cases q : k ∈ K
    · rw [if_pos q, if_pos (List.mem_cons_of_mem _ q)]
    · rw [if_neg q]
      by_cases e : g = k
      · rw [if_pos e, if_pos (e ▸ List.mem_cons_self)]
      · rw [if_neg e, if_neg (fun z => (List.mem_cons.mp z).elim (fun z => e z.symm) q)]
theorem enter : ∀ (K : List Int) (x : HS), K.Nodup → (∀ g ∈ K, getK x.worn g = none) → OkF x (K.map Deed.come)
  | [], x, _, _ => okF_nil
  | g :: K, x, nd, h => by
    obtain ⟨n1, n2⟩ := List.nodup_cons.mp nd
    have ew : (x.step (.come g)).worn = setK x.worn g g := by rw [step_worn]; rfl
    refine okF_cons (ok_come.mpr (h g List.mem_cons_self)) (enter K _ n2 fun k hk => ?_)
    rw [ew, getK_set, if_neg (fun e : g = k => n1 (e ▸ hk))]
    exact h k (List.mem_cons_of_mem _ hk)
/-- a row that brings all home -/
structure Way (x : HS) (row : List (Int × Int)) : Prop where
  fr : FR x.worn x.touched row
  home : ∀ g, hf (paperL row x.worn) g = g
/-- the whole evening after a row: the row, all go, all come -/
theorem whole {x : HS} {row : List (Int × Int)} (hi : HInv x) (W : Way x row) :
    OkF x ((exs row ++ (hK x.worn).map Deed.go) ++ (hK x.worn).map Deed.come) ∧ (∀ g, hf (stF x (exs row)).worn g = g) ∧ (stF x (exs row ++ (hK x.worn).map Deed.go)).worn.map (·.1) = [] := by
  obtain ⟨d1, d2, d3⟩ := dance row x W.fr
  have nd : (hK x.worn).Nodup := (sI_perm _).nodup_iff.mpr hi.nd
  have hh : ∀ g, hf (stF x (exs row)).worn g = g := fun g => by rw [d2]; exact W.home g
  have own : ∀ g ∈ hK x.worn, getK (stF x (exs row)).worn g = some g := fun g hg => by
    obtain ⟨v, e⟩ := Option.isSome_iff_exists.mp ((d3 g).trans (mem_hK.mp hg))
    have := hh g
    unfold hf at this
    rw [e] at this
    rw [e]
    exact congrArg some this
  obtain ⟨l1, l2⟩ := leave _ _ nd own
  have gone : ∀ k, getK (stF (stF x (exs row)) ((hK x.worn).map Deed.go)).worn k = none := fun k => by
    rw [l2]
    by_cases q : k ∈ hK x.worn
    · rw [if_pos q]
    · rw [if_neg q]
      cases e : getK (stF x (exs row)).worn k with
      | none => rfl
      | some v => exact absurd (mem_hK.mpr ((d3 k).symm.trans (by rw [e]; rfl))) q
  have o2 := okF_app d1 l1
  refine ⟨okF_app o2 (enter _ _ nd fun g _ => by rw [stF_app]; exact gone g), hh, ?_⟩
  rw [stF_app]
  refine List.eq_nil_iff_forall_not_mem.mpr fun k hk => ?_
  have := getK_mem.mpr hk
  rw [gone k] at this
  cases this
theorem wrg_home {f : Int → Int} {K : List Int} (h : ∀ g, f g = g) : wrg f K = [] := List.filter_eq_nil_iff.mpr fun g _ => by simp [h g]
theorem hinv_F {x : HS} {l : List Deed} (hi : HInv x) (h : OkF x l) : HInv (stF x l) := hinv_stF l x hi h
theorem RG_small {x : HS} (hi : HInv x) : (RG (hf x.worn) (wrg (hf x.worn) (hK x.worn))).flatten.length ≤ x.done.length ∧ (RG (hf x.worn) (wrg (hf x.worn) (hK x.worn))).length ≤ x.done.length := by
  have P := hinv_prf hi
  have I := (RG_I P).1
  have rl := rings_len P I
  have kl := hK_len hi
  have fl := nodup_len I.nd fun y hy => (I.k y hy).1
  exact ⟨by omega, by omega⟩
end Law

set_option Elab.async false
set_option linter.all false
set_option maxRecDepth 100000
set_option maxHeartbeats 400000
namespace Law
open PySem PySem.Spec PyProof.Rows L2 Wz
theorem s_paperV (row w : List (Int × Int)) (S : List Cell) (l : w.length + 2 * row.length < 1000000) : n__law_paper row w S = .ok (paperL row w) S := by
  unfold n__law_paper
  rw [(foldO_run pswap (fun i m => m.length ≤ w.length + 2 * i) row w 0 (Nat.le_refl _) (fun p m j hx hj hp => ?_)).1, Out.bind_ok]
  · rfl
  · have p1 := setK_len (l := m) (k := p.1) (v := (getK m p.2).getD p.2)
    have p2 := setK_len (l := setK m p.1 ((getK m p.2).getD p.2)) (k := p.2) (v := (getK m p.1).getD p.1)
    rw [letK_eq, gP_pos (by omega), letK_eq, gP_pos (by omega), letK_eq]
    exact ⟨rfl, by unfold pswap; omega⟩
theorem s_paperB {r : Nat} {row : List (Int × Int)} {S : List Cell} (h : S[r]? = some (.box (encL (encP Wz.D.int Wz.D.int) row))) (w : List (Int × Int)) (l : w.length + 2 * row.length < 1000000) : n__law_paper_rp r w S = .ok (paperL row w) S := by
  unfold n__law_paper_rp
  rw [gO_eq (vB_get h)]
  suffices hh : ∃ a S', _ = Out.ok a S' ∧ a = paperL row w ∧ S' = S by
    obtain ⟨a, S', e, rfl, rfl⟩ := hh
    exact e
  refine ev_foldB _ (fun (pre : List (Int × Int)) (s : List (Int × Int)) S' => S' = S ∧ s = paperL pre w) (fun pre _ S' q => by rw [q.1]; exact h) ⟨rfl, rfl⟩ ?_ ?_
  · rintro pre p post s S' hs ⟨rfl, rfl⟩
    have hlen : pre.length < row.length := by
      have := congrArg List.length hs
      rw [List.length_append, List.length_cons] at this
      omega
    have pl := paper_len pre w
    have p1 := setK_len (l := paperL pre w) (k := p.1) (v := (getK (paperL pre w) p.2).getD p.2)
    rw [letK_eq, gP_pos (by omega), letK_eq, gP_pos (by omega), letK_eq]
    exact ⟨_, _, rfl, rfl, by rw [paper_snoc]; rfl⟩
  · rintro _ S' ⟨rfl, rfl⟩
    exact ⟨_, _, rfl, rfl, rfl⟩
theorem sd_len {σ : List Int} {v : Int} {n : Nat} (hl : σ.length ≤ n) (h : (step_dedup σ v).length = n + 1) : σ.length = n ∧ σ.any (· == v) = false := by
  rw [step_length] at h
  cases e : σ.any (· == v) with
  | true => rw [e, if_pos rfl] at h; omega
  | false => rw [e, if_neg (by decide)] at h; exact ⟨by omega, rfl⟩
theorem four {a b c d : Int} (h : (fstM [a, b, c, d]).length = 4) : ¬ a = b ∧ ¬ a = c ∧ ¬ a = d ∧ ¬ b = c ∧ ¬ b = d ∧ ¬ c = d := by
  have hh : (step_dedup (step_dedup (step_dedup (step_dedup [] a) b) c) d).length = 4 := h
  have le : ∀ (σ : List Int) (v : Int) (n : Nat), σ.length ≤ n → (step_dedup σ v).length ≤ n + 1 := fun σ v n hn => by
    rw [step_length]
    split <;> omega
  have l1 := le [] a 0 (Nat.le_refl _)
  have l2 := le _ b 1 l1
  have l3 := le _ c 2 l2
  obtain ⟨e3, f3⟩ := sd_len l3 hh
  obtain ⟨e2, f2⟩ := sd_len l2 e3
  obtain ⟨e1, f1⟩ := sd_len l1 e2
  rw [step_any, step_any, step_any] at f3
  rw [step_any, step_any] at f2
  rw [step_any] at f1
  simp only [List.any_nil, Bool.false_or, Bool.or_eq_false_iff, decide_eq_false_iff_not] at f1 f2 f3
  exact ⟨fun e => f1 e.symm, fun e => f2.1 e.symm, fun e => f3.1.1 e.symm, fun e => f2.2 e.symm, fun e => f3.1.2 e.symm, fun e => f3.2 e.symm⟩
abbrev qd (a b c d : Int) : List (Int × Int) := [(a, b), (c, d), (a, c), (b, d), (a, d), (b, c)]
theorem qd_home {a b c d : Int} (h1 : ¬ a = b) (h2 : ¬ a = c) (h3 : ¬ a = d) (h4 : ¬ b = c) (h5 : ¬ b = d) (h6 : ¬ c = d) (g : Int) : sws (qd a b c d) g = g := by
  have k1 : ¬ b = a := fun e => h1 e.symm
  have k2 : ¬ c = a := fun e => h2 e.symm
  have k3 : ¬ d = a := fun e => h3 e.symm
  have k4 : ¬ c = b := fun e => h4 e.symm
  have k5 : ¬ d = b := fun e => h5 e.symm
  have k6 : ¬ d = c := fun e => h6 e.symm
  show sw (a, b) (sw (c, d) (sw (a, c) (sw (b, d) (sw (a, d) (sw (b, c) g))))) = g
  by_cases ga : g = a
  · subst ga
    simp [sw, h1, h2, h3, h4, h5, h6, k1, k2, k3, k4, k5, k6]
  · by_cases gb : g = b
    · subst gb
      simp [sw, h1, h2, h3, h4, h5, h6, k1, k2, k3, k4, k5, k6]
    · by_cases gc : g = c
      · subst gc
        simp [sw, h1, h2, h3, h4, h5, h6, k1, k2, k3, k4, k5, k6]
      · by_cases gd : g = d
        · subst gd
          simp [sw, h1, h2, h3, h4, h5, h6, k1, k2, k3, k4, k5, k6]
        · have a1 : ¬ a = g := fun e => ga e.symm
          have a2 : ¬ b = g := fun e => gb e.symm
          have a3 : ¬ c = g := fun e => gc e.symm
          have a4 : ¬ d = g := fun e => gd e.symm
          simp [sw, a1, a2, a3, a4]
theorem qd_keys {a b c d : Int} (h1 : ¬ a = b) (h2 : ¬ a = c) (h3 : ¬ a = d) (h4 : ¬ b = c) (h5 : ¬ b = d) (h6 : ¬ c = d) : (ddM (prL ((qd a b c d).map fun p => odp p.1 p.2))).length = 6 := by
  have nd : ((qd a b c d).map fun p => odp p.1 p.2).Nodup := by
    show [odp a b, odp c d, odp a c, odp b d, odp a d, odp b c].Nodup
    simp only [List.nodup_cons, List.mem_cons, List.not_mem_nil, or_false, not_or, not_false_eq_true, true_and, and_true, List.nodup_nil]
    refine ⟨⟨?_, ?_, ?_, ?_, ?_⟩, ⟨?_, ?_, ?_, ?_⟩, ⟨?_, ?_, ?_⟩, ⟨?_, ?_⟩, ?_⟩
    all_goals
      intro e
      rcases odp_inj e with ⟨e1, e2⟩ | ⟨e1, e2⟩ <;> omega
  rw [ddM_nodup]
  · rfl
  · refine List.pairwise_map.mpr (nd.imp fun {p q} ne e => ne ?_)
    injection e with e1 e2
    injection e2 with e2
    exact Prod.ext e1 e2
theorem qd_mem {a b c d : Int} (h1 : ¬ a = b) (h2 : ¬ a = c) (h3 : ¬ a = d) (h4 : ¬ b = c) (h5 : ¬ b = d) (h6 : ¬ c = d) : ∀ p ∈ qd a b c d, ((decide ((p.1 : Int) = p.2)) || ((!(List.contains [a, b, c, d] p.1)) || (!(List.contains [a, b, c, d] p.2)))) = false := by
  intro p hp
  simp only [List.mem_cons, List.not_mem_nil, or_false] at hp
  rcases hp with rfl | rfl | rfl | rfl | rfl | rfl <;> simp [h1, h2, h3, h4, h5, h6]
theorem four_sets {a b c d : Int} {k j : Int} (hk : k = 0 ∨ k = 1 ∨ k = 2 ∨ k = 3) (hj : j = 0 ∨ j = 1 ∨ j = 2 ∨ j = 3) : ∃ v x y z w, L2.atI [a, b, c, d] j = some v ∧ setI [a, b, c, d] k v = some [x, y, z, w] := by
  rcases hj with rfl | rfl | rfl | rfl <;> rcases hk with rfl | rfl | rfl | rfl <;> exact ⟨_, _, _, _, _, rfl, rfl⟩
theorem law_true (ns : List Int) (hl : ns.length ≤ 63) : ∃ outs S, sp_law.run [.scr ns] [] = .ok (.val (.bl true)) outs S := by
  suffices h : ∃ S, n_law ns [] = .ok true S by
    obtain ⟨S, e⟩ := h
    exact law_of (t_law ns []) e
  unfold n_law
  rw [s_cell ns 1 (by decide), bindX_ok, s_cell ns 0 (by decide), bindX_ok, s_size, bindX_ok]
  generalize ((ns.getD (0 : Int).toNat 0).natAbs : Int) = first
  generalize ns.getD (1 : Int).toNat 0 = cc
  rw [gP_pos (by decide), gP_pos (by decide)]
  have hr : List.range (Int.toNat (4 : Int)) = [0, 1, 2, 3] := rfl
  rw [lcO_map (fun (x : Nat) => gst ((first + (((1 : Int) + ((first / (12 : Int)) % (3 : Int))) * ((x : Nat) : Int))) % (12 : Int)) cc) _ (fun x hx => by
    have hx4 : x < 4 := List.mem_range.mp hx
    rw [gP_pos (.inl ⟨by omega, by omega⟩), s_guest, bindX_ok]), bindX_ok, hr]
  obtain ⟨A, B, C, D, e4⟩ : ∃ A B C D, List.map (fun (x : Nat) => gst ((first + (((1 : Int) + ((first / (12 : Int)) % (3 : Int))) * ((x : Nat) : Int))) % (12 : Int)) cc) [0, 1, 2, 3] = [A, B, C, D] := ⟨_, _, _, _, rfl⟩
  rw [e4, s_cell ns 2 (by decide), bindX_ok, s_size, bindX_ok]
  clear e4 hr
  generalize ((ns.getD (2 : Int).toNat 0).natAbs : Int) = bend
  obtain ⟨a, b, c, d, e5⟩ : ∃ a b c d, (if (decide (((bend % (4 : Int)) : Int) = (3 : Int))) = true then (
      gO (L2.atI [A, B, C, D] ((bend / (16 : Int)) % (4 : Int))) fun v28 =>
      gO (setI [A, B, C, D] ((bend / (4 : Int)) % (4 : Int)) v28) fun v30 =>
      .ok v30 [])
      else (
      .ok [A, B, C, D] [])) = Out.ok [a, b, c, d] ([] : List Cell) := by
    by_cases q : bend % 4 = 3
    · obtain ⟨v, x, y, z, w, f1, f2⟩ := four_sets (a := A) (b := B) (c := C) (d := D) (k := bend / 4 % 4) (j := bend / 16 % 4) (by omega) (by omega)
      exact ⟨x, y, z, w, by rw [if_pos (decide_eq_true q), gO_eq f1, gO_eq f2]⟩
    · exact ⟨A, B, C, D, by rw [if_neg (fun z => q (of_decide_eq_true z))]⟩
  rw [e5, Out.bind_ok, gP_pos (Nat.le_of_ble_eq_true rfl), letK_eq]
  clear e5
  have hd := (drf_ok ns 3 30 132 (by decide)).1
  obtain ⟨row, e6, e7, _⟩ := s_pairs_fromU (drf ns 3 30 132) 12 cc (by decide) (by omega) []
  rw [s_draws_from ns 3 30 132 hl (by decide) (by decide) (by decide), bindX_ok, e6, bindX_ok, s_paperV row [] [] (by rw [List.length_nil]; omega), bindX_ok, letK_eq]
  have hw0 := paper_len row []
  rw [List.length_nil] at hw0
  generalize paperL row [] = w0 at hw0
  rw [show L2.atI [a, b, c, d] 0 = some a from rfl, show L2.atI [a, b, c, d] 1 = some b from rfl, show L2.atI [a, b, c, d] 2 = some c from rfl, show L2.atI [a, b, c, d] 3 = some d from rfl]
  simp only [gO_some]
  have le4 : (fstM [a, b, c, d]).length ≤ 4 := firstMet_length_le _ 4
  have quad : ∀ S, n_quadrille a b c d S = if (fstM [a, b, c, d]).length = 4 then .ok (qd a b c d) S else .exc "Same" none S := fun S => by
    unfold n_quadrille
    rw [gP_pos (Nat.le_of_ble_eq_true rfl)]
    by_cases q : (fstM [a, b, c, d]).length = 4
    · rw [if_pos q, if_neg (by rw [decide_eq_true_eq]; omega)]
    · rw [if_neg q, if_pos (by rw [decide_eq_true_eq]; omega)]
  simp only [quad]
  by_cases q : (fstM [a, b, c, d]).length = 4
  · obtain ⟨h1, h2, h3, h4, h5, h6⟩ := four q
    simp only [if_pos q]
    rw [Out.bind_ok, Out.bind_ok, tryN_ok, Out.bind_ok, if_neg (by rw [decide_eq_true (by omega)]; decide)]
    dsimp only
    rw [if_neg (by decide), gO_some]
    have hb : ([] ++ [Cell.box (encL (encP Wz.D.int Wz.D.int) (qd a b c d))] : List Cell)[([] : List Cell).length]? = some (.box (encL (encP Wz.D.int Wz.D.int) (qd a b c d))) := rfl
    generalize ([] ++ [Cell.box (encL (encP Wz.D.int Wz.D.int) (qd a b c d))] : List Cell) = T at hb
    generalize ([] : List Cell).length = r at hb
    have pl := paper_len (qd a b c d) w0
    have ql : (qd a b c d).length = 6 := rfl
    rw [s_row_r hb (Nat.le_of_ble_eq_true rfl), bindX_ok, if_neg (by decide), gO_some, gO_eq (vR_box hb), decide_eq_true (show (((qd a b c d).length : Nat) : Int) = 6 from rfl), bindX_ok, bindX_ok, if_neg (by decide), gO_some, gO_eq (vB_get hb), gP_pos (Nat.le_of_ble_eq_true rfl)]
    rw [lcB_map (G := fun S => gdOk S (some (r, encL (encP Wz.D.int Wz.D.int) (qd a b c d)))) hb (fun (p : Int × Int) => odp p.1 p.2) _ (fun p _ => by rw [s_key, bindX_ok]), bindX_ok, gP_pos (by show 6 < 64; decide), qd_keys h1 h2 h3 h4 h5 h6, if_neg (by decide), gO_some, gO_eq (vB_get hb), gP_pos (Nat.le_of_ble_eq_true rfl)]
    rw [lcB_map (G := fun S => gdOk S (some (r, encL (encP Wz.D.int Wz.D.int) (qd a b c d)))) hb (fun (p : Int × Int) => ((decide ((p.1 : Int) = p.2)) || ((!(List.contains [a, b, c, d] p.1)) || (!(List.contains [a, b, c, d] p.2))))) _ (fun p _ => rfl), bindX_ok]
    rw [if_neg (by
      rw [List.any_map]
      intro z
      obtain ⟨p, hp, e⟩ := List.any_eq_true.mp z
      rw [show (id ∘ _) p = _ from rfl] at e
      exact absurd ((qd_mem h1 h2 h3 h4 h5 h6 p hp).symm.trans e) (by decide)), gO_some, s_paperB hb w0 (by omega), bindX_ok, gP_pos (by rw [List.length_map]; omega)]
    have home : ∀ x, hf (paperL (qd a b c d) w0) x = hf w0 x := fun x => by rw [hf_paper, qd_home h1 h2 h3 h4 h5 h6]
    rw [lcO_map (fun _ => true) _ (fun x hx => by
      obtain ⟨v, e⟩ := Option.isSome_iff_exists.mp (getK_mem.mpr hx)
      have hv := home x
      unfold hf at hv
      rw [e] at hv
      rw [gO_eq e, decide_eq_true (show v = (getK w0 x).getD x from hv)]), bindX_ok, if_neg (by rw [List.all_map]; simp), gO_some, gO_eq (vR_box hb), gO_some, gO_eq (vB_get hb), stK_eq, bindX_ok, decide_eq_true rfl]
    exact ⟨_, rfl⟩
  · rw [if_neg q, Out.bind_exc, Out.bind_exc, tryN_exc, gP_pos (by decide), if_pos rfl, Out.bind_ok, if_pos (by rw [decide_eq_false (by omega)]; rfl)]
    exact ⟨_, rfl⟩
end Law

set_option Elab.async false
set_option linter.all false
set_option maxRecDepth 100000
set_option maxHeartbeats 0
namespace Law
open PySem PySem.Spec PyProof.Rows L2 Wz
def top (i : Nat) : Stmt := PySem.Challenge.pw_lastwaltz_k07_a_quadrille.main.body.getD i (.Pass ⟨0, 0, 0, 0⟩)

def c_quadrille : Sig := ⟨["a", "b", "c", "d"], defScope (top 4), [], ["len", "set"], true, [], [], [], ["Same"], [], [], []⟩
theorem f_quadrille : fitSs c_quadrille b_quadrille (defBody (top 4)) = true := by kernel_rfl
theorem s_quadrille : FnScope c_quadrille.N ["a", "b", "c", "d"] (defScope (top 4)) := ⟨rfl, rfl, rfl, by decide +kernel, rfl, by decide +kernel, by decide +kernel⟩

def c__law_cell_at : Sig := ⟨["_law_script", "_law_k"], defScope (top 6), [], ["len"], true, [], [], [], [], [], [], []⟩
theorem f__law_cell_at : fitSs c__law_cell_at b__law_cell_at (defBody (top 6)) = true := by kernel_rfl
theorem s__law_cell_at : FnScope c__law_cell_at.N ["_law_script", "_law_k"] (defScope (top 6)) := ⟨rfl, rfl, rfl, by decide +kernel, rfl, by decide +kernel, by decide +kernel⟩

def c__law_whole : Sig := ⟨["_law_found"], defScope (top 7), [], ["isinstance", "bool", "int"], true, [], [], [], [], [], [], []⟩
theorem f__law_whole : fitSs c__law_whole b__law_whole (defBody (top 7)) = true := by kernel_rfl
theorem s__law_whole : FnScope c__law_whole.N ["_law_found"] (defScope (top 7)) := ⟨rfl, rfl, rfl, by decide +kernel, rfl, by decide +kernel, by decide +kernel⟩

def c__law_size : Sig := ⟨["_law_cell"], defScope (top 8), [], [], true, [], [], [], [], [], [], []⟩
theorem f__law_size : fitSs c__law_size b__law_size (defBody (top 8)) = true := by kernel_rfl
theorem s__law_size : FnScope c__law_size.N ["_law_cell"] (defScope (top 8)) := ⟨rfl, rfl, rfl, by decide +kernel, rfl, by decide +kernel, by decide +kernel⟩

def c__law_draws : Sig := ⟨["_law_cell", "_law_many", "_law_base", "_law_left", "_law_row_here", "_law_count", "_law_k", "_law_now"], defScope (top 9), ["_law_size"], ["range"], true, [], [], [], [], [], [], []⟩
theorem f__law_draws : fitSs c__law_draws b__law_draws (defBody (top 9)) = true := by kernel_rfl
theorem s__law_draws : FnScope c__law_draws.N ["_law_cell", "_law_many", "_law_base"] (defScope (top 9)) := ⟨rfl, rfl, rfl, by decide +kernel, rfl, by decide +kernel, by decide +kernel⟩

def c__law_draws_from : Sig := ⟨["_law_script", "_law_start", "_law_most", "_law_base", "_law_row_here", "_law_cell", "_law_drawn"], defScope (top 10), ["_law_draws"], ["len"], true, [], [], [], [], [], [], []⟩
theorem f__law_draws_from : fitSs c__law_draws_from b__law_draws_from (defBody (top 10)) = true := by kernel_rfl
theorem s__law_draws_from : FnScope c__law_draws_from.N ["_law_script", "_law_start", "_law_most", "_law_base"] (defScope (top 10)) := ⟨rfl, rfl, rfl, by decide +kernel, rfl, by decide +kernel, by decide +kernel⟩

def c__law_guest : Sig := ⟨["_law_k", "_law_cell", "_law_left", "_law_turn", "_law_number"], defScope (top 11), ["_law_size"], [], true, [], [], [], [], [], [], []⟩
theorem f__law_guest : fitSs c__law_guest b__law_guest (defBody (top 11)) = true := by kernel_rfl
theorem s__law_guest : FnScope c__law_guest.N ["_law_k", "_law_cell"] (defScope (top 11)) := ⟨rfl, rfl, rfl, by decide +kernel, rfl, by decide +kernel, by decide +kernel⟩

def c__law_key : Sig := ⟨["_law_one", "_law_other"], defScope (top 12), [], [], true, [], [], [], [], [], [], []⟩
theorem f__law_key : fitSs c__law_key b__law_key (defBody (top 12)) = true := by kernel_rfl
theorem s__law_key : FnScope c__law_key.N ["_law_one", "_law_other"] (defScope (top 12)) := ⟨rfl, rfl, rfl, by decide +kernel, rfl, by decide +kernel, by decide +kernel⟩

def c__law_pair : Sig := ⟨["_law_found"], defScope (top 13), ["_law_whole"], ["len", "isinstance", "tuple"], true, [], [], [], [], [], [], []⟩
theorem f__law_pair : fitSs c__law_pair b__law_pair (defBody (top 13)) = true := by kernel_rfl
theorem s__law_pair : FnScope c__law_pair.N ["_law_found"] (defScope (top 13)) := ⟨rfl, rfl, rfl, by decide +kernel, rfl, by decide +kernel, by decide +kernel⟩

def c__law_row : Sig := ⟨["_law_found", "_law_pair_here"], defScope (top 14), ["_law_pair"], ["isinstance", "list", "all"], true, [], [], [], [], [], [], []⟩
theorem f__law_row : fitSs c__law_row b__law_row (defBody (top 14)) = true := by kernel_rfl
theorem s__law_row : FnScope c__law_row.N ["_law_found"] (defScope (top 14)) := ⟨rfl, rfl, rfl, by decide +kernel, rfl, by decide +kernel, by decide +kernel⟩

def c__law_paper : Sig := ⟨["_law_row_here", "_law_worn", "_law_one", "_law_other", "_law_kept"], defScope (top 15), [], [], true, [], [], [], [], [], [], []⟩
theorem f__law_paper : fitSs c__law_paper b__law_paper (defBody (top 15)) = true := by kernel_rfl
theorem s__law_paper : FnScope c__law_paper.N ["_law_row_here", "_law_worn"] (defScope (top 15)) := ⟨rfl, rfl, rfl, by decide +kernel, rfl, by decide +kernel, by decide +kernel⟩

def c__law_pairs_from : Sig := ⟨["_law_draws_here", "_law_many", "_law_cell", "_law_row_here", "_law_drawn", "_law_one", "_law_other"], defScope (top 16), ["_law_guest"], [], true, [], [], [], [], [], [], []⟩
theorem f__law_pairs_from : fitSs c__law_pairs_from b__law_pairs_from (defBody (top 16)) = true := by kernel_rfl
theorem s__law_pairs_from : FnScope c__law_pairs_from.N ["_law_draws_here", "_law_many", "_law_cell"] (defScope (top 16)) := ⟨rfl, rfl, rfl, by decide +kernel, rfl, by decide +kernel, by decide +kernel⟩

def c_law : Sig := ⟨["_law_script", "_law_names", "_law_first", "_law_four", "_law_k", "_law_bend", "_law_unlike", "_law_worn", "_law_found", "_law_word", "_law_pair_here", "_law_behind", "_law_guest_here", "_law_due"], defScope (top 17), ["_law_cell_at", "_law_size", "_law_guest", "_law_paper", "_law_pairs_from", "_law_draws_from", "quadrille", "_law_row", "_law_key"], ["range", "len", "set", "any", "dict", "all", "list"], true, [], [], [], [], [], ["Same"], ["Same"]⟩
theorem f_law : fitSs c_law b_law (defBody (top 17)) = true := by kernel_rfl
theorem s_law : FnScope c_law.N ["_law_script"] (defScope (top 17)) := ⟨rfl, rfl, rfl, by decide +kernel, rfl, by decide +kernel, by decide +kernel⟩

/-! ### the head -/
def d_quadrille : He.DefD := ⟨("quadrille", none), "quadrille", "quadrille", defArgs (top 4), defBody (top 4), defScope (top 4), [], []⟩
def d__law_cell_at : He.DefD := ⟨("_law_cell_at", none), "_law_cell_at", "_law_cell_at", defArgs (top 6), defBody (top 6), defScope (top 6), [], []⟩
def d__law_whole : He.DefD := ⟨("_law_whole", none), "_law_whole", "_law_whole", defArgs (top 7), defBody (top 7), defScope (top 7), [], []⟩
def d__law_size : He.DefD := ⟨("_law_size", none), "_law_size", "_law_size", defArgs (top 8), defBody (top 8), defScope (top 8), [], []⟩
def d__law_draws : He.DefD := ⟨("_law_draws", none), "_law_draws", "_law_draws", defArgs (top 9), defBody (top 9), defScope (top 9), [], []⟩
def d__law_draws_from : He.DefD := ⟨("_law_draws_from", none), "_law_draws_from", "_law_draws_from", defArgs (top 10), defBody (top 10), defScope (top 10), [], []⟩
def d__law_guest : He.DefD := ⟨("_law_guest", none), "_law_guest", "_law_guest", defArgs (top 11), defBody (top 11), defScope (top 11), [], []⟩
def d__law_key : He.DefD := ⟨("_law_key", none), "_law_key", "_law_key", defArgs (top 12), defBody (top 12), defScope (top 12), [], []⟩
def d__law_pair : He.DefD := ⟨("_law_pair", none), "_law_pair", "_law_pair", defArgs (top 13), defBody (top 13), defScope (top 13), [], []⟩
def d__law_row : He.DefD := ⟨("_law_row", none), "_law_row", "_law_row", defArgs (top 14), defBody (top 14), defScope (top 14), [], []⟩
def d__law_paper : He.DefD := ⟨("_law_paper", none), "_law_paper", "_law_paper", defArgs (top 15), defBody (top 15), defScope (top 15), [], []⟩
def d__law_pairs_from : He.DefD := ⟨("_law_pairs_from", none), "_law_pairs_from", "_law_pairs_from", defArgs (top 16), defBody (top 16), defScope (top 16), [], []⟩
def d_law : He.DefD := ⟨("law", none), "law", "law", defArgs (top 17), defBody (top 17), defScope (top 17), [], []⟩
def dl : List He.DefD := [d_quadrille, d__law_cell_at, d__law_whole, d__law_size, d__law_draws, d__law_draws_from, d__law_guest, d__law_key, d__law_pair, d__law_row, d__law_paper, d__law_pairs_from, d_law]
def fa : List He.Fa := [.glo "quadrille", .glo "_law_cell_at", .glo "_law_whole", .glo "_law_size", .glo "_law_draws", .glo "_law_draws_from", .glo "_law_guest", .glo "_law_key", .glo "_law_pair", .glo "_law_row", .glo "_law_paper", .glo "_law_pairs_from", .glo "law", .glo "Same", .free "len", .free "set", .free "isinstance", .free "bool", .free "int", .free "range", .free "tuple", .free "list", .free "all", .free "any", .free "dict", .exc "Same", .exm "Same" "Same" true]
def xl : List Str := []
abbrev R : PySem.W.OpenRow := PySem.W.OpenLaw.row PySem.Challenge.rw_lastwaltz_k07_a_quadrille
abbrev hk : PySem.W.Hook := hookX 5 fa dl xl
def ob (s : PySem.W.SharedT) : AlX := obsX 5 fa dl xl (HandSHeadRun.getT s)
theorem ob_eq (s : PySem.W.SharedT) : ob s = hk.obs s.abs := obsX_eq (HandSHeadRun.getT_eq s)
def loose : List Str := ["__name__", "WaltzError", "Same", "quadrille", "_law_cell_at", "_law_whole", "_law_size", "_law_draws", "_law_draws_from", "_law_guest", "_law_key", "_law_pair", "_law_row", "_law_paper", "_law_pairs_from"]
theorem run (w : World) : HandSHeadRun.RunEq R (PySem.W.view R.prog [17]) hk ob 14000 loose w := by
  intro os
  kernel_rfl
theorem nilc {α : Type} [BEq α] {x : α} {p : Prop} (h : ([] : List α).contains x = true) : p := by cases h
section
variable {P : Program} {w : World} {K : PySem.W.Frag} {h : Heap} {mg : Str → Option Value} {base : Heap}
theorem ok_quadrille {f : Addr} {fd : FuncData} (F : FunD K "quadrille" "quadrille" (defArgs (top 4)) (defBody (top 4)) (defScope (top 4)) [] [] f fd) (n_len : mg "len" = none) (n_set : mg "set" = none) (x_Same : ExPIs K mg "Same") : FnOk P w K mg base (L2.CX P w) 1 f fd ["a", "b", "c", "d"] (Gsp K sp_quadrille) := by
  refine fn_ok (k := 0) (c := c_quadrille) (env := e_quadrille) (body := b_quadrille) F s_quadrille rfl rfl ⟨?_, ?_, ?_, ?_, ?_, ?_, ?_, ?_⟩ f_quadrille (own_run rfl)
  · intro n h
    have h2 : n ∈ (["len", "set"] : List Str) := List.contains_iff_mem.mp h
    simp only [List.mem_cons, List.not_mem_nil, or_false] at h2
    rcases h2 with rfl | rfl
    · exact n_len
    · exact n_set
  · intro j y e; simp [c_quadrille] at e
  · exact fun _ _ h => nilc h
  · intro j y z e; simp [c_quadrille] at e
  · intro j y e; simp [c_quadrille] at e
  · intro n h
    have h2 : n ∈ (["Same"] : List Str) := List.contains_iff_mem.mp h
    simp only [List.mem_cons, List.not_mem_nil, or_false] at h2
    rcases h2 with rfl
    · exact x_Same
  · exact fun _ h => nilc h
  · exact fun _ h => nilc h
theorem bd_quadrille {f : Addr} {fd : FuncData} (F : FunD K "quadrille" "quadrille" (defArgs (top 4)) (defBody (top 4)) (defScope (top 4)) [] [] f fd) : Binds K fd ["a", "b", "c", "d"] [] := F.bindsN fun _ _ _ _ _ _ us hl => match us, hl with | [_, _, _, _], _ => rfl
theorem ok__law_cell_at {f : Addr} {fd : FuncData} (F : FunD K "_law_cell_at" "_law_cell_at" (defArgs (top 6)) (defBody (top 6)) (defScope (top 6)) [] [] f fd) (n_len : mg "len" = none) : FnOk P w K mg base (L2.CX P w) 1 f fd ["_law_script", "_law_k"] (Gsp K sp__law_cell_at) := by
  refine fn_ok (k := 0) (c := c__law_cell_at) (env := e__law_cell_at) (body := b__law_cell_at) F s__law_cell_at rfl rfl ⟨?_, ?_, ?_, ?_, ?_, ?_, ?_, ?_⟩ f__law_cell_at (own_run rfl)
  · intro n h
    have h2 : n ∈ (["len"] : List Str) := List.contains_iff_mem.mp h
    simp only [List.mem_cons, List.not_mem_nil, or_false] at h2
    rcases h2 with rfl
    · exact n_len
  · intro j y e; simp [c__law_cell_at] at e
  · exact fun _ _ h => nilc h
  · intro j y z e; simp [c__law_cell_at] at e
  · intro j y e; simp [c__law_cell_at] at e
  · exact fun _ h => nilc h
  · exact fun _ h => nilc h
  · exact fun _ h => nilc h
theorem bd__law_cell_at {f : Addr} {fd : FuncData} (F : FunD K "_law_cell_at" "_law_cell_at" (defArgs (top 6)) (defBody (top 6)) (defScope (top 6)) [] [] f fd) : Binds K fd ["_law_script", "_law_k"] [] := F.bindsN fun _ _ _ _ _ _ us hl => match us, hl with | [_, _], _ => rfl
theorem ok__law_whole {f : Addr} {fd : FuncData} (F : FunD K "_law_whole" "_law_whole" (defArgs (top 7)) (defBody (top 7)) (defScope (top 7)) [] [] f fd) (n_isinstance : mg "isinstance" = none) (n_bool : mg "bool" = none) (n_int : mg "int" = none) : FnOk P w K mg base (L2.CX P w) 1 f fd ["_law_found"] (Gsp K sp__law_whole) := by
  refine fn_ok (k := 0) (c := c__law_whole) (env := e__law_whole) (body := b__law_whole) F s__law_whole rfl rfl ⟨?_, ?_, ?_, ?_, ?_, ?_, ?_, ?_⟩ f__law_whole (own_run rfl)
  · intro n h
    have h2 : n ∈ (["isinstance", "bool", "int"] : List Str) := List.contains_iff_mem.mp h
    simp only [List.mem_cons, List.not_mem_nil, or_false] at h2
    rcases h2 with rfl | rfl | rfl
    · exact n_isinstance
    · exact n_bool
    · exact n_int
  · intro j y e; simp [c__law_whole] at e
  · exact fun _ _ h => nilc h
  · intro j y z e; simp [c__law_whole] at e
  · intro j y e; simp [c__law_whole] at e
  · exact fun _ h => nilc h
  · exact fun _ h => nilc h
  · exact fun _ h => nilc h
theorem bd__law_whole {f : Addr} {fd : FuncData} (F : FunD K "_law_whole" "_law_whole" (defArgs (top 7)) (defBody (top 7)) (defScope (top 7)) [] [] f fd) : Binds K fd ["_law_found"] [] := F.bindsN fun _ _ _ _ _ _ us hl => match us, hl with | [_], _ => rfl
theorem ok__law_size {f : Addr} {fd : FuncData} (F : FunD K "_law_size" "_law_size" (defArgs (top 8)) (defBody (top 8)) (defScope (top 8)) [] [] f fd) : FnOk P w K mg base (L2.CX P w) 1 f fd ["_law_cell"] (Gsp K sp__law_size) := by
  refine fn_ok (k := 0) (c := c__law_size) (env := e__law_size) (body := b__law_size) F s__law_size rfl rfl ⟨?_, ?_, ?_, ?_, ?_, ?_, ?_, ?_⟩ f__law_size (own_run rfl)
  · exact fun _ h => nilc h
  · intro j y e; simp [c__law_size] at e
  · exact fun _ _ h => nilc h
  · intro j y z e; simp [c__law_size] at e
  · intro j y e; simp [c__law_size] at e
  · exact fun _ h => nilc h
  · exact fun _ h => nilc h
  · exact fun _ h => nilc h
theorem bd__law_size {f : Addr} {fd : FuncData} (F : FunD K "_law_size" "_law_size" (defArgs (top 8)) (defBody (top 8)) (defScope (top 8)) [] [] f fd) : Binds K fd ["_law_cell"] [] := F.bindsN fun _ _ _ _ _ _ us hl => match us, hl with | [_], _ => rfl
theorem ok__law_draws {f : Addr} {fd : FuncData} (F : FunD K "_law_draws" "_law_draws" (defArgs (top 9)) (defBody (top 9)) (defScope (top 9)) [] [] f fd) (n_range : mg "range" = none) (p__law_size : FnIs P w K mg base 1 "_law_size" sp__law_size) : FnOk P w K mg base (L2.CX P w) 2 f fd ["_law_cell", "_law_many", "_law_base"] (Gsp K sp__law_draws) := by
  refine fn_ok (k := 1) (c := c__law_draws) (env := e__law_draws) (body := b__law_draws) F s__law_draws rfl rfl ⟨?_, ?_, ?_, ?_, ?_, ?_, ?_, ?_⟩ f__law_draws (own_run rfl)
  · intro n h
    have h2 : n ∈ (["range"] : List Str) := List.contains_iff_mem.mp h
    simp only [List.mem_cons, List.not_mem_nil, or_false] at h2
    rcases h2 with rfl
    · exact n_range
  · intro j y e
    match j, e with
    | 0, e => cases e; exact p__law_size
    | j + 1, e => simp [c__law_draws] at e
  · exact fun _ _ h => nilc h
  · intro j y z e; simp [c__law_draws] at e
  · intro j y e; simp [c__law_draws] at e
  · exact fun _ h => nilc h
  · exact fun _ h => nilc h
  · exact fun _ h => nilc h
theorem bd__law_draws {f : Addr} {fd : FuncData} (F : FunD K "_law_draws" "_law_draws" (defArgs (top 9)) (defBody (top 9)) (defScope (top 9)) [] [] f fd) : Binds K fd ["_law_cell", "_law_many", "_law_base"] [] := F.bindsN fun _ _ _ _ _ _ us hl => match us, hl with | [_, _, _], _ => rfl
theorem ok__law_draws_from {f : Addr} {fd : FuncData} (F : FunD K "_law_draws_from" "_law_draws_from" (defArgs (top 10)) (defBody (top 10)) (defScope (top 10)) [] [] f fd) (n_len : mg "len" = none) (p__law_draws : FnIs P w K mg base 2 "_law_draws" sp__law_draws) : FnOk P w K mg base (L2.CX P w) 3 f fd ["_law_script", "_law_start", "_law_most", "_law_base"] (Gsp K sp__law_draws_from) := by
  refine fn_ok (k := 2) (c := c__law_draws_from) (env := e__law_draws_from) (body := b__law_draws_from) F s__law_draws_from rfl rfl ⟨?_, ?_, ?_, ?_, ?_, ?_, ?_, ?_⟩ f__law_draws_from (own_run rfl)
  · intro n h
    have h2 : n ∈ (["len"] : List Str) := List.contains_iff_mem.mp h
    simp only [List.mem_cons, List.not_mem_nil, or_false] at h2
    rcases h2 with rfl
    · exact n_len
  · intro j y e
    match j, e with
    | 0, e => cases e; exact p__law_draws
    | j + 1, e => simp [c__law_draws_from] at e
  · exact fun _ _ h => nilc h
  · intro j y z e; simp [c__law_draws_from] at e
  · intro j y e; simp [c__law_draws_from] at e
  · exact fun _ h => nilc h
  · exact fun _ h => nilc h
  · exact fun _ h => nilc h
theorem bd__law_draws_from {f : Addr} {fd : FuncData} (F : FunD K "_law_draws_from" "_law_draws_from" (defArgs (top 10)) (defBody (top 10)) (defScope (top 10)) [] [] f fd) : Binds K fd ["_law_script", "_law_start", "_law_most", "_law_base"] [] := F.bindsN fun _ _ _ _ _ _ us hl => match us, hl with | [_, _, _, _], _ => rfl
theorem ok__law_guest {f : Addr} {fd : FuncData} (F : FunD K "_law_guest" "_law_guest" (defArgs (top 11)) (defBody (top 11)) (defScope (top 11)) [] [] f fd) (p__law_size : FnIs P w K mg base 1 "_law_size" sp__law_size) : FnOk P w K mg base (L2.CX P w) 2 f fd ["_law_k", "_law_cell"] (Gsp K sp__law_guest) := by
  refine fn_ok (k := 1) (c := c__law_guest) (env := e__law_guest) (body := b__law_guest) F s__law_guest rfl rfl ⟨?_, ?_, ?_, ?_, ?_, ?_, ?_, ?_⟩ f__law_guest (own_run rfl)
  · exact fun _ h => nilc h
  · intro j y e
    match j, e with
    | 0, e => cases e; exact p__law_size
    | j + 1, e => simp [c__law_guest] at e
  · exact fun _ _ h => nilc h
  · intro j y z e; simp [c__law_guest] at e
  · intro j y e; simp [c__law_guest] at e
  · exact fun _ h => nilc h
  · exact fun _ h => nilc h
  · exact fun _ h => nilc h
theorem bd__law_guest {f : Addr} {fd : FuncData} (F : FunD K "_law_guest" "_law_guest" (defArgs (top 11)) (defBody (top 11)) (defScope (top 11)) [] [] f fd) : Binds K fd ["_law_k", "_law_cell"] [] := F.bindsN fun _ _ _ _ _ _ us hl => match us, hl with | [_, _], _ => rfl
theorem ok__law_key {f : Addr} {fd : FuncData} (F : FunD K "_law_key" "_law_key" (defArgs (top 12)) (defBody (top 12)) (defScope (top 12)) [] [] f fd) : FnOk P w K mg base (L2.CX P w) 1 f fd ["_law_one", "_law_other"] (Gsp K sp__law_key) := by
  refine fn_ok (k := 0) (c := c__law_key) (env := e__law_key) (body := b__law_key) F s__law_key rfl rfl ⟨?_, ?_, ?_, ?_, ?_, ?_, ?_, ?_⟩ f__law_key (own_run rfl)
  · exact fun _ h => nilc h
  · intro j y e; simp [c__law_key] at e
  · exact fun _ _ h => nilc h
  · intro j y z e; simp [c__law_key] at e
  · intro j y e; simp [c__law_key] at e
  · exact fun _ h => nilc h
  · exact fun _ h => nilc h
  · exact fun _ h => nilc h
theorem bd__law_key {f : Addr} {fd : FuncData} (F : FunD K "_law_key" "_law_key" (defArgs (top 12)) (defBody (top 12)) (defScope (top 12)) [] [] f fd) : Binds K fd ["_law_one", "_law_other"] [] := F.bindsN fun _ _ _ _ _ _ us hl => match us, hl with | [_, _], _ => rfl
theorem ok__law_pair {f : Addr} {fd : FuncData} (F : FunD K "_law_pair" "_law_pair" (defArgs (top 13)) (defBody (top 13)) (defScope (top 13)) [] [] f fd) (n_len : mg "len" = none) (n_isinstance : mg "isinstance" = none) (n_tuple : mg "tuple" = none) (p__law_whole : FnIs P w K mg base 1 "_law_whole" sp__law_whole) : FnOk P w K mg base (L2.CX P w) 2 f fd ["_law_found"] (Gsp K sp__law_pair) := by
  refine fn_ok (k := 1) (c := c__law_pair) (env := e__law_pair) (body := b__law_pair) F s__law_pair rfl rfl ⟨?_, ?_, ?_, ?_, ?_, ?_, ?_, ?_⟩ f__law_pair (own_run rfl)
  · intro n h
    have h2 : n ∈ (["len", "isinstance", "tuple"] : List Str) := List.contains_iff_mem.mp h
    simp only [List.mem_cons, List.not_mem_nil, or_false] at h2
    rcases h2 with rfl | rfl | rfl
    · exact n_len
    · exact n_isinstance
    · exact n_tuple
  · intro j y e
    match j, e with
    | 0, e => cases e; exact p__law_whole
    | j + 1, e => simp [c__law_pair] at e
  · exact fun _ _ h => nilc h
  · intro j y z e; simp [c__law_pair] at e
  · intro j y e; simp [c__law_pair] at e
  · exact fun _ h => nilc h
  · exact fun _ h => nilc h
  · exact fun _ h => nilc h
theorem bd__law_pair {f : Addr} {fd : FuncData} (F : FunD K "_law_pair" "_law_pair" (defArgs (top 13)) (defBody (top 13)) (defScope (top 13)) [] [] f fd) : Binds K fd ["_law_found"] [] := F.bindsN fun _ _ _ _ _ _ us hl => match us, hl with | [_], _ => rfl
theorem ok__law_row {f : Addr} {fd : FuncData} (F : FunD K "_law_row" "_law_row" (defArgs (top 14)) (defBody (top 14)) (defScope (top 14)) [] [] f fd) (n_isinstance : mg "isinstance" = none) (n_list : mg "list" = none) (n_all : mg "all" = none) (p__law_pair : FnIs P w K mg base 2 "_law_pair" sp__law_pair) : FnOk P w K mg base (L2.CX P w) 3 f fd ["_law_found"] (Gsp K sp__law_row) := by
  refine fn_ok (k := 2) (c := c__law_row) (env := e__law_row) (body := b__law_row) F s__law_row rfl rfl ⟨?_, ?_, ?_, ?_, ?_, ?_, ?_, ?_⟩ f__law_row (own_run rfl)
  · intro n h
    have h2 : n ∈ (["isinstance", "list", "all"] : List Str) := List.contains_iff_mem.mp h
    simp only [List.mem_cons, List.not_mem_nil, or_false] at h2
    rcases h2 with rfl | rfl | rfl
    · exact n_isinstance
    · exact n_list
    · exact n_all
  · intro j y e
    match j, e with
    | 0, e => cases e; exact p__law_pair
    | j + 1, e => simp [c__law_row] at e
  · exact fun _ _ h => nilc h
  · intro j y z e; simp [c__law_row] at e
  · intro j y e; simp [c__law_row] at e
  · exact fun _ h => nilc h
  · exact fun _ h => nilc h
  · exact fun _ h => nilc h
theorem bd__law_row {f : Addr} {fd : FuncData} (F : FunD K "_law_row" "_law_row" (defArgs (top 14)) (defBody (top 14)) (defScope (top 14)) [] [] f fd) : Binds K fd ["_law_found"] [] := F.bindsN fun _ _ _ _ _ _ us hl => match us, hl with | [_], _ => rfl
theorem ok__law_paper {f : Addr} {fd : FuncData} (F : FunD K "_law_paper" "_law_paper" (defArgs (top 15)) (defBody (top 15)) (defScope (top 15)) [] [] f fd) : FnOk P w K mg base (L2.CX P w) 1 f fd ["_law_row_here", "_law_worn"] (Gsp K sp__law_paper) := by
  refine fn_ok (k := 0) (c := c__law_paper) (env := e__law_paper) (body := b__law_paper) F s__law_paper rfl rfl ⟨?_, ?_, ?_, ?_, ?_, ?_, ?_, ?_⟩ f__law_paper (own_run rfl)
  · exact fun _ h => nilc h
  · intro j y e; simp [c__law_paper] at e
  · exact fun _ _ h => nilc h
  · intro j y z e; simp [c__law_paper] at e
  · intro j y e; simp [c__law_paper] at e
  · exact fun _ h => nilc h
  · exact fun _ h => nilc h
  · exact fun _ h => nilc h
theorem bd__law_paper {f : Addr} {fd : FuncData} (F : FunD K "_law_paper" "_law_paper" (defArgs (top 15)) (defBody (top 15)) (defScope (top 15)) [] [] f fd) : Binds K fd ["_law_row_here", "_law_worn"] [] := F.bindsN fun _ _ _ _ _ _ us hl => match us, hl with | [_, _], _ => rfl
theorem ok__law_pairs_from {f : Addr} {fd : FuncData} (F : FunD K "_law_pairs_from" "_law_pairs_from" (defArgs (top 16)) (defBody (top 16)) (defScope (top 16)) [] [] f fd) (p__law_guest : FnIs P w K mg base 2 "_law_guest" sp__law_guest) : FnOk P w K mg base (L2.CX P w) 3 f fd ["_law_draws_here", "_law_many", "_law_cell"] (Gsp K sp__law_pairs_from) := by
  refine fn_ok (k := 2) (c := c__law_pairs_from) (env := e__law_pairs_from) (body := b__law_pairs_from) F s__law_pairs_from rfl rfl ⟨?_, ?_, ?_, ?_, ?_, ?_, ?_, ?_⟩ f__law_pairs_from (own_run rfl)
  · exact fun _ h => nilc h
  · intro j y e
    match j, e with
    | 0, e => cases e; exact p__law_guest
    | j + 1, e => simp [c__law_pairs_from] at e
  · exact fun _ _ h => nilc h
  · intro j y z e; simp [c__law_pairs_from] at e
  · intro j y e; simp [c__law_pairs_from] at e
  · exact fun _ h => nilc h
  · exact fun _ h => nilc h
  · exact fun _ h => nilc h
theorem bd__law_pairs_from {f : Addr} {fd : FuncData} (F : FunD K "_law_pairs_from" "_law_pairs_from" (defArgs (top 16)) (defBody (top 16)) (defScope (top 16)) [] [] f fd) : Binds K fd ["_law_draws_here", "_law_many", "_law_cell"] [] := F.bindsN fun _ _ _ _ _ _ us hl => match us, hl with | [_, _, _], _ => rfl
theorem ok_law {f : Addr} {fd : FuncData} (F : FunD K "law" "law" (defArgs (top 17)) (defBody (top 17)) (defScope (top 17)) [] [] f fd) (n_range : mg "range" = none) (n_len : mg "len" = none) (n_set : mg "set" = none) (n_any : mg "any" = none) (n_dict : mg "dict" = none) (n_all : mg "all" = none) (n_list : mg "list" = none) (p__law_cell_at : FnIs P w K mg base 3 "_law_cell_at" sp__law_cell_at) (p__law_size : FnIs P w K mg base 3 "_law_size" sp__law_size) (p__law_guest : FnIs P w K mg base 3 "_law_guest" sp__law_guest) (p__law_paper : FnIs P w K mg base 3 "_law_paper" sp__law_paper) (p__law_pairs_from : FnIs P w K mg base 3 "_law_pairs_from" sp__law_pairs_from) (p__law_draws_from : FnIs P w K mg base 3 "_law_draws_from" sp__law_draws_from) (p_quadrille : FnIs P w K mg base 3 "quadrille" sp_quadrille) (p__law_row : FnIs P w K mg base 3 "_law_row" sp__law_row) (p__law_key : FnIs P w K mg base 3 "_law_key" sp__law_key) (h_Same : mg "Same" = some (.ref (He.ga K "Same")) ∧ ∀ cn ∈ (["Same"] : List Str), PySem.W.exmOne K (.ref (He.ga K cn)) (.ref (He.ga K "Same")) = some (decide (cn = ("Same" : Str)))) : FnOk P w K mg base (L2.CX P w) 4 f fd ["_law_script"] (Gsp K sp_law) := by
  refine fn_ok (k := 3) (c := c_law) (env := e_law) (body := b_law) F s_law rfl rfl ⟨?_, ?_, ?_, ?_, ?_, ?_, ?_, ?_⟩ f_law (own_run rfl)
  · intro n h
    have h2 : n ∈ (["range", "len", "set", "any", "dict", "all", "list"] : List Str) := List.contains_iff_mem.mp h
    simp only [List.mem_cons, List.not_mem_nil, or_false] at h2
    rcases h2 with rfl | rfl | rfl | rfl | rfl | rfl | rfl
    · exact n_range
    · exact n_len
    · exact n_set
    · exact n_any
    · exact n_dict
    · exact n_all
    · exact n_list
  · intro j y e
    match j, e with
    | 0, e => cases e; exact p__law_cell_at
    | 1, e => cases e; exact p__law_size
    | 2, e => cases e; exact p__law_guest
    | 3, e => cases e; exact p__law_paper
    | 4, e => cases e; exact p__law_pairs_from
    | 5, e => cases e; exact p__law_draws_from
    | 6, e => cases e; exact p_quadrille
    | 7, e => cases e; exact p__law_row
    | 8, e => cases e; exact p__law_key
    | j + 9, e => simp [c_law] at e
  · exact fun _ _ h => nilc h
  · intro j y z e; simp [c_law] at e
  · intro j y e; simp [c_law] at e
  · exact fun _ h => nilc h
  · exact fun _ h => nilc h
  · intro n h
    have h2 : n ∈ (["Same"] : List Str) := List.contains_iff_mem.mp h
    simp only [List.mem_cons, List.not_mem_nil, or_false] at h2
    rcases h2 with rfl
    · exact h_Same
theorem bd_law {f : Addr} {fd : FuncData} (F : FunD K "law" "law" (defArgs (top 17)) (defBody (top 17)) (defScope (top 17)) [] [] f fd) : Binds K fd ["_law_script"] [] := F.bindsN fun _ _ _ _ _ _ us hl => match us, hl with | [_], _ => rfl
theorem facts {f : Addr} (X : K.In h) (G : h.Ns mainGlobals mg) (hfa : mg ("law" : Str) = some (.ref f)) (c : SaysX fa dl xl K) :
    ∃ fd : FuncData, (∀ (s : Shared) (v : Value), BindsTo s fd ⟨[v], []⟩ [("_law_script", v)]) ∧ ∀ base : Heap, K.In base → base.Ns mainGlobals mg → FnOk P w K mg base (L2.CX P w) 4 f fd ["_law_script"] (Gsp K sp_law) := by
  obtain ⟨fd_quadrille, F_quadrille⟩ := c.1.def_ 0 (d := d_quadrille) rfl
  obtain ⟨fd__law_cell_at, F__law_cell_at⟩ := c.1.def_ 1 (d := d__law_cell_at) rfl
  obtain ⟨fd__law_whole, F__law_whole⟩ := c.1.def_ 2 (d := d__law_whole) rfl
  obtain ⟨fd__law_size, F__law_size⟩ := c.1.def_ 3 (d := d__law_size) rfl
  obtain ⟨fd__law_draws, F__law_draws⟩ := c.1.def_ 4 (d := d__law_draws) rfl
  obtain ⟨fd__law_draws_from, F__law_draws_from⟩ := c.1.def_ 5 (d := d__law_draws_from) rfl
  obtain ⟨fd__law_guest, F__law_guest⟩ := c.1.def_ 6 (d := d__law_guest) rfl
  obtain ⟨fd__law_key, F__law_key⟩ := c.1.def_ 7 (d := d__law_key) rfl
  obtain ⟨fd__law_pair, F__law_pair⟩ := c.1.def_ 8 (d := d__law_pair) rfl
  obtain ⟨fd__law_row, F__law_row⟩ := c.1.def_ 9 (d := d__law_row) rfl
  obtain ⟨fd__law_paper, F__law_paper⟩ := c.1.def_ 10 (d := d__law_paper) rfl
  obtain ⟨fd__law_pairs_from, F__law_pairs_from⟩ := c.1.def_ 11 (d := d__law_pairs_from) rfl
  obtain ⟨fd_law, F_law⟩ := c.1.def_ 12 (d := d_law) rfl
  have g_quadrille := He.glo_ok X G (c.1.fact 0 (f := .glo "quadrille") rfl)
  have g__law_cell_at := He.glo_ok X G (c.1.fact 1 (f := .glo "_law_cell_at") rfl)
  have g__law_whole := He.glo_ok X G (c.1.fact 2 (f := .glo "_law_whole") rfl)
  have g__law_size := He.glo_ok X G (c.1.fact 3 (f := .glo "_law_size") rfl)
  have g__law_draws := He.glo_ok X G (c.1.fact 4 (f := .glo "_law_draws") rfl)
  have g__law_draws_from := He.glo_ok X G (c.1.fact 5 (f := .glo "_law_draws_from") rfl)
  have g__law_guest := He.glo_ok X G (c.1.fact 6 (f := .glo "_law_guest") rfl)
  have g__law_key := He.glo_ok X G (c.1.fact 7 (f := .glo "_law_key") rfl)
  have g__law_pair := He.glo_ok X G (c.1.fact 8 (f := .glo "_law_pair") rfl)
  have g__law_row := He.glo_ok X G (c.1.fact 9 (f := .glo "_law_row") rfl)
  have g__law_paper := He.glo_ok X G (c.1.fact 10 (f := .glo "_law_paper") rfl)
  have g__law_pairs_from := He.glo_ok X G (c.1.fact 11 (f := .glo "_law_pairs_from") rfl)
  have g_law := He.glo_ok X G (c.1.fact 12 (f := .glo "law") rfl)
  have g_Same := He.glo_ok X G (c.1.fact 13 (f := .glo "Same") rfl)
  have n_len := He.free_ok X G (c.1.fact 14 (f := .free "len") rfl)
  have n_set := He.free_ok X G (c.1.fact 15 (f := .free "set") rfl)
  have n_isinstance := He.free_ok X G (c.1.fact 16 (f := .free "isinstance") rfl)
  have n_bool := He.free_ok X G (c.1.fact 17 (f := .free "bool") rfl)
  have n_int := He.free_ok X G (c.1.fact 18 (f := .free "int") rfl)
  have n_range := He.free_ok X G (c.1.fact 19 (f := .free "range") rfl)
  have n_tuple := He.free_ok X G (c.1.fact 20 (f := .free "tuple") rfl)
  have n_list := He.free_ok X G (c.1.fact 21 (f := .free "list") rfl)
  have n_all := He.free_ok X G (c.1.fact 22 (f := .free "all") rfl)
  have n_any := He.free_ok X G (c.1.fact 23 (f := .free "any") rfl)
  have n_dict := He.free_ok X G (c.1.fact 24 (f := .free "dict") rfl)
  have x_Same : ExPIs K mg "Same" := ⟨g_Same, He.exc_ok (c.1.fact 25 (f := .exc "Same") rfl)⟩
  have h_Same : mg "Same" = some (.ref (He.ga K "Same")) ∧ ∀ cn ∈ (["Same"] : List Str), PySem.W.exmOne K (.ref (He.ga K cn)) (.ref (He.ga K "Same")) = some (decide (cn = ("Same" : Str))) := by
    refine ⟨g_Same, fun cn hcn => ?_⟩
    simp only [List.mem_cons, List.not_mem_nil, or_false] at hcn
    rcases hcn with rfl
    · exact He.exm_ok (c.1.fact 26 (f := .exm "Same" "Same" true) rfl)
  have e := hfa.symm.trans g_law
  cases e
  have b := FunD.bindsA (ps := ["_law_script"]) F_law fun _ _ _ _ _ _ us hl => match us, hl with | [_], _ => rfl
  refine ⟨fd_law, fun s v => b s [v] rfl, fun base hK hG => ?_⟩
  have i_quadrille : FnIs P w K mg base 1 "quadrille" sp_quadrille := ⟨_, _, _, ok_quadrille F_quadrille n_len n_set x_Same, g_quadrille, F_quadrille.kp, bd_quadrille F_quadrille⟩
  have i__law_cell_at : FnIs P w K mg base 1 "_law_cell_at" sp__law_cell_at := ⟨_, _, _, ok__law_cell_at F__law_cell_at n_len, g__law_cell_at, F__law_cell_at.kp, bd__law_cell_at F__law_cell_at⟩
  have i__law_whole : FnIs P w K mg base 1 "_law_whole" sp__law_whole := ⟨_, _, _, ok__law_whole F__law_whole n_isinstance n_bool n_int, g__law_whole, F__law_whole.kp, bd__law_whole F__law_whole⟩
  have i__law_size : FnIs P w K mg base 1 "_law_size" sp__law_size := ⟨_, _, _, ok__law_size F__law_size , g__law_size, F__law_size.kp, bd__law_size F__law_size⟩
  have i__law_draws : FnIs P w K mg base 2 "_law_draws" sp__law_draws := ⟨_, _, _, ok__law_draws F__law_draws n_range (i__law_size.mono (by decide)), g__law_draws, F__law_draws.kp, bd__law_draws F__law_draws⟩
  have i__law_draws_from : FnIs P w K mg base 3 "_law_draws_from" sp__law_draws_from := ⟨_, _, _, ok__law_draws_from F__law_draws_from n_len (i__law_draws.mono (by decide)), g__law_draws_from, F__law_draws_from.kp, bd__law_draws_from F__law_draws_from⟩
  have i__law_guest : FnIs P w K mg base 2 "_law_guest" sp__law_guest := ⟨_, _, _, ok__law_guest F__law_guest (i__law_size.mono (by decide)), g__law_guest, F__law_guest.kp, bd__law_guest F__law_guest⟩
  have i__law_key : FnIs P w K mg base 1 "_law_key" sp__law_key := ⟨_, _, _, ok__law_key F__law_key , g__law_key, F__law_key.kp, bd__law_key F__law_key⟩
  have i__law_pair : FnIs P w K mg base 2 "_law_pair" sp__law_pair := ⟨_, _, _, ok__law_pair F__law_pair n_len n_isinstance n_tuple (i__law_whole.mono (by decide)), g__law_pair, F__law_pair.kp, bd__law_pair F__law_pair⟩
  have i__law_row : FnIs P w K mg base 3 "_law_row" sp__law_row := ⟨_, _, _, ok__law_row F__law_row n_isinstance n_list n_all (i__law_pair.mono (by decide)), g__law_row, F__law_row.kp, bd__law_row F__law_row⟩
  have i__law_paper : FnIs P w K mg base 1 "_law_paper" sp__law_paper := ⟨_, _, _, ok__law_paper F__law_paper , g__law_paper, F__law_paper.kp, bd__law_paper F__law_paper⟩
  have i__law_pairs_from : FnIs P w K mg base 3 "_law_pairs_from" sp__law_pairs_from := ⟨_, _, _, ok__law_pairs_from F__law_pairs_from (i__law_guest.mono (by decide)), g__law_pairs_from, F__law_pairs_from.kp, bd__law_pairs_from F__law_pairs_from⟩
  exact ok_law F_law n_range n_len n_set n_any n_dict n_all n_list (i__law_cell_at.mono (by decide)) (i__law_size.mono (by decide)) (i__law_guest.mono (by decide)) (i__law_paper.mono (by decide)) (i__law_pairs_from.mono (by decide)) (i__law_draws_from.mono (by decide)) (i_quadrille.mono (by decide)) (i__law_row.mono (by decide)) (i__law_key.mono (by decide)) h_Same
end
--PURE
end Law
open PySem PySem.W PySem.Calls PyProof.Rows
set_option maxRecDepth 100000 in
theorem PySem.Challenge.cw_lastwaltz_k07_a_quadrille_holds : PySem.Challenge.rw_lastwaltz_k07_a_quadrille.Holds := by
  w_on; o_law
  refine HandSHeadRun.head_any (r := OpenLaw.row PySem.Challenge.rw_lastwaltz_k07_a_quadrille) (q := view (OpenLaw.row PySem.Challenge.rw_lastwaltz_k07_a_quadrille).prog [17]) (H := Law.hk) (ob := Law.ob) (M := 14000) (loose := Law.loose)
    (d := HandSHeadRun.topDef (OpenLaw.row PySem.Challenge.rw_lastwaltz_k07_a_quadrille).prog 17) (kwd := []) Law.ob_eq
    (by kernel_rfl) (fun s => by kernel_rfl) Law.run (by kernel_rfl) (by kernel_rfl) (by kernel_rfl) (by rfl) (by first | assumption | decide +kernel) (by decide +kernel) ⟨rfl, rfl, rfl, rfl, rfl, by decide +kernel⟩ ?hw ?hc
  case hw => w_witness2
  case hc =>
    refine L2.walk_ofE (l := PySem.Challenge.rw_lastwaltz_k07_a_quadrille) (n := 63) (k := 4) (x := "_law_script") (CX := Wz.CXF) rfl (by decide) (by kernel_rfl) ⟨rfl, by decide, by decide⟩ ?F Wz.cxf_none
    case F =>
      intro w mg fa h Y G hmg0
      obtain ⟨K, KX, c⟩ := Y
      have hmg : mg ("law" : PySem.Str) = some (.ref fa) := by
        have e : (HandSHeadRun.topDef (OpenLaw.row PySem.Challenge.rw_lastwaltz_k07_a_quadrille).prog 17).name = ("law" : PySem.Str) := by kernel_rfl
        rw [← e]
        exact hmg0
      obtain ⟨fd, hb, hF⟩ := Law.facts (P := (PySem.Challenge.rw_lastwaltz_k07_a_quadrille).prog) (w := w) KX G hmg c
      exact ⟨K, fd, _, KX, hb, fun H a ns hl _ hS => Wz.law_end rfl hS (Law.law_true ns hl), fun base a b => Wz.FnOk.cxf (hF base a b)⟩

