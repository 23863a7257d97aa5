import PyProof.Rows.All
import Wide.All
import OpenK.AllK
import Wide.FinOn
import HandS.ForMost
import HandS.Exc
import HandS.TryOnly
import HandS.ExcOwn
import HandS.CallSlots
import HandS.WordsExc
import HandS.ExcValue
import HandS.HeadHook1
import KE.GoesEnum
import KE.GoesMore
import KE.GoesZip
import HandS.Iter
import HandS.Zip
import HandS.Walk
import HandS.TupAny
import HandS.TupMul
import HandS.IsInst
import HandS.Style
import HandS.Deep
import PyProof.ReprRoads
import KE.DataEq
import KE.KEqNest
import KE.SortData
import HandS.Conv
import HandS.Ends
import HandS.HeadEnd
import HandS.HeadHook2
import HandS.Head0
import HandS.Head1
import HandS.Head2
import HandS.ExcIs
import PyProof.ExcBaseAll.ValueError
import HandS.Dict
import PyProof.StrOps2
import HandS.TupSets
import KE.GoesEnumKw
import KE.DataMinMax
import HandS.DictComp
import PyProof.DictUpdate
import PySem.Challenge.RW_reachrows_k10_greatest_forms
set_option Elab.async false
set_option linter.all false
set_option autoImplicit false
set_option maxRecDepth 100000
set_option maxHeartbeats 0
/-! The layer EV, part A: data, owned trees, worlds and steps. -/
namespace EV
open PySem PySem.Spec PyProof.Rows L2

abbrev D := PyData
abbrev St := L2.St

/-- a value as the layer sees it: frozen data, or a tree of mutable objects that this place alone holds -/
inductive O where
  | un
  | d (x : D)
  | lst (xs : List O)
  | tup (xs : List O)
  | dic (kvs : List (D × D))
  /-- a dict whose keys are tuples -/
  | dicT (kvs : List (D × D))
  | obj (c : Str) (fs : List (Str × O))
  | exn (c : Str)
  /-- the script: read, never changed -/
  | scr (xs : List Int)
  /-- a tuple of the module's top: looked into, never handed on -/
  | kst (xs : List D)

mutual
def frz : O → Option D
  | .un => none
  | .d x => some x
  | .lst xs => (frzL xs).map .list
  | .tup xs => (frzL xs).map .tuple
  | .dic kvs => some (.dict kvs)
  | .dicT [] => none
  | .dicT (p :: r) => some (.dict (p :: r))
  | .obj _ _ => none
  | .exn _ => none
  | .scr _ => none
  | .kst _ => none
def frzL : List O → Option (List D)
  | [] => some []
  | x :: xs => match frz x, frzL xs with
    | some y, some ys => some (y :: ys)
    | _, _ => none
end

abbrev Env := List O

def keyD : Key → D
  | .inl i => .int i
  | .inr s => .str s
def keyT (ks : List Key) : D := .tuple (ks.map keyD)
/-- an exception object of the module's class c, as data -/
abbrev exnD (c : Str) : D := .dict [(.none, .str c)]

section
mutual
inductive Den (K : PySem.W.Frag) (I : Hp) : D → V → Prop
  | non : Den K I .none .non
  | bl (b : Bool) : Den K I (.bool b) (.bl b)
  | int (i : Int) : Den K I (.int i) (.int i)
  | str (x : Str) : Den K I (.str x) (.str x)
  | list {a : Addr} {vs : List V} {xs : List D} : I a = some (.lst vs) → DenL K I xs vs → Den K I (.list xs) (.ref a)
  | tuple {a : Addr} {vs : List V} {xs : List D} : I a = some (.tup vs) → DenL K I xs vs → Den K I (.tuple xs) (.ref a)
  | dict {a : Addr} {kvs : List (Key × V)} {ds : List (D × D)} : Rd I a (.dK kvs) → DenK K I ds kvs → Den K I (.dict ds) (.ref a)
  | dictT {a : Addr} {kvs : List (List Key × V)} {ds : List (D × D)} : Rd I a (.dT kvs) → DenT K I ds kvs → ds ≠ [] → Den K I (.dict ds) (.ref a)
  | exn {a : Addr} {c : Str} : I a = some (ExO (.ref (He.ga K c)) a) → Den K I (exnD c) (.ref a)
inductive DenL (K : PySem.W.Frag) (I : Hp) : List D → List V → Prop
  | nil : DenL K I [] []
  | cons {x : D} {xs : List D} {v : V} {vs : List V} : Den K I x v → DenL K I xs vs → DenL K I (x :: xs) (v :: vs)
inductive DenK (K : PySem.W.Frag) (I : Hp) : List (D × D) → List (Key × V) → Prop
  | nil : DenK K I [] []
  | cons {k : Key} {x : D} {xs : List (D × D)} {v : V} {vs : List (Key × V)} : Den K I x v → DenK K I xs vs → DenK K I ((keyD k, x) :: xs) ((k, v) :: vs)
inductive DenT (K : PySem.W.Frag) (I : Hp) : List (D × D) → List (List Key × V) → Prop
  | nil : DenT K I [] []
  | cons {k : List Key} {x : D} {xs : List (D × D)} {v : V} {vs : List (List Key × V)} : Den K I x v → DenT K I xs vs → DenT K I ((keyT k, x) :: xs) ((k, v) :: vs)
end

variable (K : PySem.W.Frag) (mg : Str → Option Value)
structure RdLe (I I' : Hp) : Prop where
  rd : ∀ a u, Rd I a u → Rd I' a u
  ls : ∀ a xs, I a = some (.lst xs) → I' a = some (.lst xs)
  ts : ∀ a xs, I a = some (.tup xs) → I' a = some (.tup xs)
  ex : ∀ a C, I a = some (ExO C a) → I' a = some (ExO C a)
theorem RdLe.of {I I' : Hp} (h : Same I I') : RdLe I I' := ⟨fun a u r => r.elim (fun e => .inl (h _ _ e)) fun ⟨o, e⟩ => .inr ⟨o, h _ _ e⟩, fun a xs e => h _ _ e, fun a xs e => h _ _ e, fun a C e => h _ _ e⟩
theorem RdLe.sqL {K : PySem.W.Frag} {I I' : Hp} (h : RdLe I I') {a : Addr} {vs : List V} (q : SqL K I a vs) : SqL K I' a vs := q.elim (fun r => .inl (h.rd _ _ r)) .inr
theorem RdLe.sqT {K : PySem.W.Frag} {I I' : Hp} (h : RdLe I I') {a : Addr} {vs : List V} (q : SqT K I a vs) : SqT K I' a vs := q.elim (fun r => .inl (h.rd _ _ r)) .inr
variable {K mg}
mutual
theorem Den.mono {I I' : Hp} (h : RdLe I I') : ∀ {x : D} {v : V}, Den K I x v → Den K I' x v
  | _, _, .non => .non
  | _, _, .bl b => .bl b
  | _, _, .int i => .int i
  | _, _, .str x => .str x
  | _, _, .list s r => .list (h.ls _ _ s) (DenL.mono h r)
  | _, _, .tuple s r => .tuple (h.ts _ _ s) (DenL.mono h r)
  | _, _, .dict s r => .dict (h.rd _ _ s) (DenK.mono h r)
  | _, _, .dictT s r n => .dictT (h.rd _ _ s) (DenT.mono h r) n
  | _, _, .exn s => .exn (h.ex _ _ s)
theorem DenL.mono {I I' : Hp} (h : RdLe I I') : ∀ {x : List D} {v : List V}, DenL K I x v → DenL K I' x v
  | _, _, .nil => .nil
  | _, _, .cons a b => .cons (Den.mono h a) (DenL.mono h b)
theorem DenK.mono {I I' : Hp} (h : RdLe I I') : ∀ {x : List (D × D)} {v : List (Key × V)}, DenK K I x v → DenK K I' x v
  | _, _, .nil => .nil
  | _, _, .cons a b => .cons (Den.mono h a) (DenK.mono h b)
theorem DenT.mono {I I' : Hp} (h : RdLe I I') : ∀ {x : List (D × D)} {v : List (List Key × V)}, DenT K I x v → DenT K I' x v
  | _, _, .nil => .nil
  | _, _, .cons a b => .cons (Den.mono h a) (DenT.mono h b)
end

abbrev Pd := Addr → Prop
variable (K mg)
mutual
/-- o stands at v: its own objects lie within S and are as H says; what is frozen is read in I -/
inductive Own (I H : Hp) : O → V → Pd → Prop
  | un {v : V} {S : Pd} : Own I H .un v S
  | scr {a : Addr} {xs : List Int} {S : Pd} : SqL K I a (xs.map V.int) → Own I H (.scr xs) (.ref a) S
  | d {x : D} {v : V} {S : Pd} : Den K I x v → Own I H (.d x) v S
  | lst {a : Addr} {vs : List V} {xs : List O} {S S' : Pd} : H a = some (.lst vs) → S a → Owns I H xs vs S' → (∀ b, S' b → S b) → ¬ S' a → Own I H (.lst xs) (.ref a) S
  | kst {a : Addr} {vs : List V} {xs : List D} {S : Pd} : SqT K I a vs → DenL K I xs vs → Own I H (.kst xs) (.ref a) S
  | tup {a : Addr} {vs : List V} {xs : List O} {S : Pd} : I a = some (.tup vs) → Owns I H xs vs S → Own I H (.tup xs) (.ref a) S
  | dic {a : Addr} {kvs : List (Key × V)} {ds : List (D × D)} {S : Pd} : H a = some (.dK kvs) → S a → DenK K I ds kvs → Own I H (.dic ds) (.ref a) S
  | dicT {a : Addr} {kvs : List (List Key × V)} {ds : List (D × D)} {S : Pd} : H a = some (.dT kvs) → S a → DenT K I ds kvs → Own I H (.dicT ds) (.ref a) S
  | obj {a C dx : Addr} {c : Str} {fvs : List (Str × V)} {fs : List (Str × O)} {S S' : Pd} : H a = some (.ins C dx fvs) → mg c = some (.ref C) → S a → OwnF I H fs fvs S' → (∀ b, S' b → S b) → ¬ S' a → Own I H (.obj c fs) (.ref a) S
inductive Owns (I H : Hp) : List O → List V → Pd → Prop
  | nil {S : Pd} : Owns I H [] [] S
  | cons {x : O} {xs : List O} {v : V} {vs : List V} {S S1 S2 : Pd} : Own I H x v S1 → Owns I H xs vs S2 → (∀ b, S1 b → S b) → (∀ b, S2 b → S b) → (∀ b, S1 b → ¬ S2 b) → Owns I H (x :: xs) (v :: vs) S
inductive OwnF (I H : Hp) : List (Str × O) → List (Str × V) → Pd → Prop
  | nil {S : Pd} : OwnF I H [] [] S
  | cons {f : Str} {x : O} {xs : List (Str × O)} {v : V} {vs : List (Str × V)} {S S1 S2 : Pd} : Own I H x v S1 → OwnF I H xs vs S2 → (∀ b, S1 b → S b) → (∀ b, S2 b → S b) → (∀ b, S1 b → ¬ S2 b) → OwnF I H ((f, x) :: xs) ((f, v) :: vs) S
end
variable {K mg}
mutual
theorem Own.mono {I H : Hp} {S T : Pd} (h : ∀ b, S b → T b) : ∀ {x : O} {v : V}, Own K mg I H x v S → Own K mg I H x v T
  | _, _, .un => .un
  | _, _, .scr q => .scr q
  | _, _, .kst q r => .kst q r
  | _, _, .d q => .d q
  | _, _, .lst a b c d e => .lst a (h _ b) c (fun b q => h _ (d b q)) e
  | _, _, .tup a b => .tup a (Owns.mono h b)
  | _, _, .dic a b c => .dic a (h _ b) c
  | _, _, .dicT a b c => .dicT a (h _ b) c
  | _, _, .obj a b c d e f => .obj a b (h _ c) d (fun b q => h _ (e b q)) f
theorem Owns.mono {I H : Hp} {S T : Pd} (h : ∀ b, S b → T b) : ∀ {x : List O} {v : List V}, Owns K mg I H x v S → Owns K mg I H x v T
  | _, _, .nil => .nil
  | _, _, .cons a b c d e => .cons a b (fun b q => h _ (c b q)) (fun b q => h _ (d b q)) e
end
mutual
/-- what is owned stays as it is -/
theorem Own.step {I H I' H' : Hp} (hi : RdLe I I') : ∀ {x : O} {v : V} {S : Pd}, (∀ a o, S a → H a = some o → H' a = some o) → Own K mg I H x v S → Own K mg I' H' x v S
  | _, _, _, hh, .un => .un
  | _, _, _, hh, .scr q => .scr (hi.sqL q)
  | _, _, _, hh, .kst q r => .kst (hi.sqT q) (r.mono hi)
  | _, _, _, hh, .d q => .d (q.mono hi)
  | _, _, _, hh, .lst a b c d e => .lst (hh _ _ b a) b (Owns.step hi (fun a o s q => hh a o (d a s) q) c) d e
  | _, _, _, hh, .tup a b => .tup (hi.ts _ _ a) (Owns.step hi hh b)
  | _, _, _, hh, .dic a b c => .dic (hh _ _ b a) b (c.mono hi)
  | _, _, _, hh, .dicT a b c => .dicT (hh _ _ b a) b (c.mono hi)
  | _, _, _, hh, .obj a b c d e f => .obj (hh _ _ c a) b c (OwnF.step hi (fun a o s q => hh a o (e a s) q) d) e f
theorem Owns.step {I H I' H' : Hp} (hi : RdLe I I') : ∀ {x : List O} {v : List V} {S : Pd}, (∀ a o, S a → H a = some o → H' a = some o) → Owns K mg I H x v S → Owns K mg I' H' x v S
  | _, _, _, _, .nil => .nil
  | _, _, _, hh, .cons a b c d e => .cons (Own.step hi (fun x o s q => hh x o (c x s) q) a) (Owns.step hi (fun x o s q => hh x o (d x s) q) b) c d e
theorem OwnF.step {I H I' H' : Hp} (hi : RdLe I I') : ∀ {x : List (Str × O)} {v : List (Str × V)} {S : Pd}, (∀ a o, S a → H a = some o → H' a = some o) → OwnF K mg I H x v S → OwnF K mg I' H' x v S
  | _, _, _, _, .nil => .nil
  | _, _, _, hh, .cons a b c d e => .cons (Own.step hi (fun x o s q => hh x o (c x s) q) a) (OwnF.step hi (fun x o s q => hh x o (d x s) q) b) c d e
end

/-! ### freezing -/
open Classical in
/-- I and what H says at S -/
noncomputable def addI (I H : Hp) (S : Pd) : Hp := fun a => if S a then H a else I a
theorem addI_in {I H : Hp} {S : Pd} {a : Addr} (h : S a) : addI I H S a = H a := by unfold addI; rw [if_pos h]
theorem addI_out {I H : Hp} {S : Pd} {a : Addr} (h : ¬ S a) : addI I H S a = I a := by unfold addI; rw [if_neg h]
theorem addI_same {I H : Hp} {S : Pd} (hd : ∀ a, S a → I a = none) : Same I (addI I H S) := fun a o e => by
  rw [addI_out]
  · exact e
  · intro s; rw [hd a s] at e; cases e
theorem addI_le {I H : Hp} {S : Pd} (h : Same I H) : Same (addI I H S) H := fun a o e => by
  by_cases s : S a
  · rw [addI_in s] at e; exact e
  · rw [addI_out s] at e; exact h a o e
mutual
theorem Own.frz {I H J : Hp} (hi : RdLe I J) : ∀ {x : O} {v : V} {S : Pd} {y : D}, (∀ a o, S a → H a = some o → J a = some o) → Own K mg I H x v S → EV.frz x = some y → Den K J y v
  | _, _, _, _, hh, .un, e => by
    rw [EV.frz] at e; cases e
  | _, _, _, _, hh, .scr _, e => by
    rw [EV.frz] at e; cases e
  | _, _, _, _, hh, .kst _ _, e => by
    rw [EV.frz] at e; cases e
  | _, _, _, _, hh, .d q, e => by
    rw [EV.frz] at e; cases e
    exact q.mono hi
  | .lst xs, _, _, _, hh, .lst a b c d _, e => by
    rw [EV.frz, Option.map_eq_some_iff] at e
    obtain ⟨ys, e1, rfl⟩ := e
    exact .list (hh _ _ b a) (Owns.frz hi (fun a o s q => hh a o (d a s) q) c e1)
  | .tup xs, _, _, _, hh, .tup a b, e => by
    rw [EV.frz, Option.map_eq_some_iff] at e
    obtain ⟨ys, e1, rfl⟩ := e
    exact .tuple (hi.ts _ _ a) (Owns.frz hi hh b e1)
  | _, _, _, _, hh, .dic a b c, e => by
    rw [EV.frz] at e; cases e
    exact .dict (.inl (hh _ _ b a)) (c.mono hi)
  | .dicT [], _, _, _, hh, .dicT a b c, e => by
    rw [EV.frz] at e; cases e
  | .dicT (p :: r), _, _, _, hh, .dicT a b c, e => by
    rw [EV.frz] at e; cases e
    exact .dictT (.inl (hh _ _ b a)) (c.mono hi) (by simp)
  | _, _, _, _, _, .obj .., e => by
    rw [EV.frz] at e; cases e
theorem Owns.frz {I H J : Hp} (hi : RdLe I J) : ∀ {x : List O} {v : List V} {S : Pd} {y : List D}, (∀ a o, S a → H a = some o → J a = some o) → Owns K mg I H x v S → EV.frzL x = some y → DenL K J y v
  | _, _, _, _, _, .nil, e => by
    rw [EV.frzL] at e; cases e
    exact .nil
  | x :: xs, _, _, _, hh, .cons a b c d _, e => by
    rw [EV.frzL] at e
    split at e
    · rename_i y ys e1 e2
      cases e
      exact .cons (Own.frz hi (fun z o s q => hh z o (c z s) q) a e1) (Owns.frz hi (fun z o s q => hh z o (d z s) q) b e2)
    · cases e
end
end
end EV

/-! The layer EV, part B: worlds, steps, the readings rdE, rdA, rdT, rdS. -/
namespace EV
open PySem PySem.Spec PyProof.Rows L2

/-! ### pure results -/
inductive R (α : Type) where
  | ok (x : α) (ρ : Env)
  | exc (c : Str) (ρ : Env)
  | stuck
abbrev M (α : Type) := Env → R α
def M.bind {α β : Type} (f : M α) (g : α → M β) : M β := fun ρ => match f ρ with
  | .ok x ρ' => g x ρ'
  | .exc c ρ' => .exc c ρ'
  | .stuck => .stuck
def M.ret {α : Type} (x : α) : M α := fun ρ => .ok x ρ
def M.fail {α : Type} : M α := fun _ => .stuck
/-- a partial pure function behind -/
def M.opt {α : Type} : Option α → M α
  | some x => M.ret x
  | none => M.fail

/-! ### worlds -/
abbrev Ph := Nat → Pd
def al (φ : Ph) : Pd := fun a => ∃ i, φ i a
def noP : Pd := fun _ => False
def orP (S T : Pd) : Pd := fun a => S a ∨ T a

/-- the world: frozen I within H, the slots' owned parts apart -/
structure Gd (K : PySem.W.Frag) (mg : Str → Option Value) (I H : Hp) (φ : Ph) (ρ : Env) (σ : St) : Prop where
  le : Same I H
  dj : ∀ i a, φ i a → I a = none
  th : ∀ i a, φ i a → H a ≠ none
  sep : ∀ i j a, φ i a → φ j a → i = j
  sl : ∀ i o, ρ[i]? = some o → o ≠ .un → ∃ v, σ[i]? = some (some v) ∧ Own K mg I H o v (φ i)
/-- a value in hand -/
structure Tm (I H : Hp) (φ : Ph) (G : Pd) : Prop where
  dj : ∀ a, G a → I a = none
  th : ∀ a, G a → H a ≠ none
  sp : ∀ i a, G a → ¬ φ i a
/-- a step: what is not in F stays -/
structure Stp (I H : Hp) (F : Pd) (I' H' : Hp) (F' : Pd) : Prop where
  li : Same I I'
  kp : ∀ a o, H a = some o → ¬ F a → H' a = some o
  fr : ∀ a, F' a → F a ∨ H a = none
  fi : ∀ a o, I' a = some o → I a = some o ∨ F a ∨ H a = none

theorem Stp.refl {I H : Hp} {F F' : Pd} (h : ∀ a, F' a → F a) : Stp I H F I H F' := ⟨Same.refl _, fun _ _ e _ => e, fun a q => .inl (h a q), fun _ _ e => .inl e⟩
theorem Stp.trans {I H I1 H1 I2 H2 : Hp} {F F1 F2 : Pd} (a : Stp I H F I1 H1 F1) (b : Stp I1 H1 F1 I2 H2 F2) : Stp I H F I2 H2 F2 := by
  have back : ∀ x, H1 x = none → F x ∨ H x = none := fun x e => by
    by_cases f : F x
    · exact .inl f
    · cases q : H x with
      | none => exact .inr rfl
      | some o => rw [a.kp x o q f] at e; cases e
  refine ⟨a.li.trans b.li, fun x o e f => b.kp x o (a.kp x o e f) fun f1 => ?_, fun x f2 => ?_, fun x o e => ?_⟩
  · rcases a.fr x f1 with q | q
    · exact f q
    · rw [q] at e; cases e
  · rcases b.fr x f2 with q | q
    · exact a.fr x q
    · exact back x q
  · rcases b.fi x o e with q | q | q
    · exact a.fi x o q
    · exact .inr (a.fr x q)
    · exact .inr (back x q)
/-- a step that leaves a part aside -/
theorem Stp.frame {I H I' H' : Hp} {F F' G : Pd} (a : Stp I H F I' H' F') (hG : ∀ x, G x → H x ≠ none) : Stp I H (orP F G) I' H' (orP F' G) :=
  ⟨a.li, fun x o e f => a.kp x o e fun q => f (.inl q), fun x q => q.elim (fun q => (a.fr x q).elim (fun z => .inl (.inl z)) .inr) fun z => .inl (.inr z),
    fun x o e => (a.fi x o e).elim .inl fun q => q.elim (fun z => .inr (.inl (.inl z))) fun z => .inr (.inr z)⟩
theorem Stp.sub {I H I' H' : Hp} {F F' F2 : Pd} (a : Stp I H F I' H' F') (h : ∀ x, F2 x → F' x) : Stp I H F I' H' F2 := ⟨a.li, a.kp, fun x q => a.fr x (h x q), a.fi⟩
theorem Stp.from {I H I' H' : Hp} {F F' F2 : Pd} (a : Stp I H F I' H' F') (h : ∀ x, F x → F2 x) : Stp I H F2 I' H' F' :=
  ⟨a.li, fun x o e f => a.kp x o e fun q => f (h x q), fun x q => (a.fr x q).imp (h x) id, fun x o e => (a.fi x o e).imp id fun z => z.imp (h x) id⟩

section
variable {K : PySem.W.Frag} {mg : Str → Option Value}
/-- a value in hand stays through a step of the slots' -/
theorem Tm.own {I H I' H' : Hp} {φ : Ph} {G F' : Pd} {o : O} {v : V} (t : Tm I H φ G) (s : Stp I H (al φ) I' H' F') (w : Own K mg I H o v G) : Own K mg I' H' o v G :=
  w.step (RdLe.of s.li) fun a u g e => s.kp a u e fun ⟨i, q⟩ => t.sp i a g q
theorem Tm.owns {I H I' H' : Hp} {φ : Ph} {G F' : Pd} {o : List O} {v : List V} (t : Tm I H φ G) (s : Stp I H (al φ) I' H' F') (w : Owns K mg I H o v G) : Owns K mg I' H' o v G :=
  w.step (RdLe.of s.li) fun a u g e => s.kp a u e fun ⟨i, q⟩ => t.sp i a g q
theorem Tm.step {I H I' H' : Hp} {φ φ' : Ph} {G G' : Pd} (t : Tm I H φ G) (s : Stp I H (al φ) I' H' (orP (al φ') G')) (t' : Tm I' H' φ' G') : Tm I' H' φ' (orP G G') ∧ ∀ a, G a → ¬ G' a := by
  have old : ∀ a, G a → ¬ al φ a := fun a g ⟨i, q⟩ => t.sp i a g q
  have tk : ∀ a, G a → ∃ o, H a = some o := fun a g => Option.ne_none_iff_exists'.mp (t.th a g)
  have nf : ∀ a, G a → ¬ orP (al φ') G' a := fun a g q => by
    obtain ⟨o, e⟩ := tk a g
    rcases s.fr a q with z | z
    · exact old a g z
    · rw [e] at z; cases z
  refine ⟨⟨fun a q => q.elim (fun g => ?_) (t'.dj a), fun a q => q.elim (fun g => ?_) (t'.th a), fun i a q => q.elim (fun g z => nf a g (.inl ⟨i, z⟩)) (t'.sp i a)⟩, fun a g z => nf a g (.inr z)⟩
  · cases e : I' a with
    | none => rfl
    | some o =>
      obtain ⟨o', e'⟩ := tk a g
      rcases s.fi a o e with z | z | z
      · rw [t.dj a g] at z; cases z
      · exact absurd z (old a g)
      · rw [e'] at z; cases z
  · obtain ⟨o, e⟩ := tk a g
    rw [s.kp a o e (old a g)]
    exact Option.some_ne_none o
theorem Tm.none {I H : Hp} {φ : Ph} : Tm I H φ noP := ⟨fun _ q => q.elim, fun _ q => q.elim, fun _ _ q => q.elim⟩
theorem Tm.mono {I H : Hp} {φ : Ph} {G G' : Pd} (t : Tm I H φ G) (h : ∀ a, G' a → G a) : Tm I H φ G' := ⟨fun a q => t.dj a (h a q), fun a q => t.th a (h a q), fun i a q => t.sp i a (h a q)⟩
end

/-! ### readings -/
section
variable (K : PySem.W.Frag) (mg : Str → Option Value) (W : WX)
/-- an exception's end -/
def PostX (σ : St) (I H : Hp) (F : Pd) (c : Str) (ρ' : Env) : Prop :=
  ∀ (C : Addr) (H' I' : Hp) (φ' : Ph), mg c = some (.ref C) → Stp I H F I' H' (al φ') → Gd K mg I' H' φ' ρ' σ → W (.ref C) none σ H'
def PostE (σ : St) (I H : Hp) (F : Pd) (Q : VK) : R O → Prop
  | .ok r ρ' => ∀ (v : V) (H' I' : Hp) (φ' : Ph) (G : Pd), Stp I H F I' H' (orP (al φ') G) → Gd K mg I' H' φ' ρ' σ → Tm I' H' φ' G → Own K mg I' H' r v G → Q v H'
  | .exc c ρ' => PostX K mg W σ I H F c ρ'
  | .stuck => False
def PostA (σ : St) (I H : Hp) (F : Pd) (Q : List V → Hp → Prop) : R (List O) → Prop
  | .ok r ρ' => ∀ (v : List V) (H' I' : Hp) (φ' : Ph) (G : Pd), Stp I H F I' H' (orP (al φ') G) → Gd K mg I' H' φ' ρ' σ → Tm I' H' φ' G → Owns K mg I' H' r v G → Q v H'
  | .exc c ρ' => PostX K mg W σ I H F c ρ'
  | .stuck => False
def PostT (σ : St) (I H : Hp) (F : Pd) (Q : Bool → Hp → Prop) : R Bool → Prop
  | .ok r ρ' => ∀ (H' I' : Hp) (φ' : Ph), Stp I H F I' H' (al φ') → Gd K mg I' H' φ' ρ' σ → Q r H'
  | .exc c ρ' => PostX K mg W σ I H F c ρ'
  | .stuck => False
def rdE (f : M O) : TE := fun σ H Q => ∃ ρ I φ, Gd K mg I H φ ρ σ ∧ PostE K mg W σ I H (al φ) Q (f ρ)
def rdA (f : M (List O)) : TA := fun σ H Q => ∃ ρ I φ, Gd K mg I H φ ρ σ ∧ PostA K mg W σ I H (al φ) Q (f ρ)
def rdT (f : M Bool) : TT := fun σ H Q => ∃ ρ I φ, Gd K mg I H φ ρ σ ∧ PostT K mg W σ I H (al φ) Q (f ρ)
variable {K mg W}
theorem PostX.shift {σ : St} {I H I1 H1 : Hp} {F F1 : Pd} {c : Str} {ρ' : Env} (s : Stp I H F I1 H1 F1) (h : PostX K mg W σ I H F c ρ') : PostX K mg W σ I1 H1 F1 c ρ' := fun C H' I' φ' e t g => h C H' I' φ' e (s.trans t) g
theorem PostX.from {σ : St} {I H : Hp} {F F1 : Pd} {c : Str} {ρ' : Env} (hf : ∀ a, F1 a → F a) (h : PostX K mg W σ I H F c ρ') : PostX K mg W σ I H F1 c ρ' := fun C H' I' φ' e t g => h C H' I' φ' e (t.from hf) g
theorem PostE.shift {σ : St} {I H I1 H1 : Hp} {F F1 : Pd} {Q : VK} {r : R O} (s : Stp I H F I1 H1 F1) (h : PostE K mg W σ I H F Q r) : PostE K mg W σ I1 H1 F1 Q r := by
  cases r with
  | ok r ρ' => exact fun v H' I' φ' G t => h v H' I' φ' G (s.trans t)
  | exc c ρ' => exact PostX.shift s h
  | stuck => exact h
theorem PostE.from {σ : St} {I H : Hp} {F F1 : Pd} {Q : VK} {r : R O} (hf : ∀ a, F1 a → F a) (h : PostE K mg W σ I H F Q r) : PostE K mg W σ I H F1 Q r := by
  cases r with
  | ok r ρ' => exact fun v H' I' φ' G t => h v H' I' φ' G (t.from hf)
  | exc c ρ' => exact PostX.from hf h
  | stuck => exact h
theorem PostA.shift {σ : St} {I H I1 H1 : Hp} {F F1 : Pd} {Q : List V → Hp → Prop} {r : R (List O)} (s : Stp I H F I1 H1 F1) (h : PostA K mg W σ I H F Q r) : PostA K mg W σ I1 H1 F1 Q r := by
  cases r with
  | ok r ρ' => exact fun v H' I' φ' G t => h v H' I' φ' G (s.trans t)
  | exc c ρ' => exact PostX.shift s h
  | stuck => exact h
theorem PostT.shift {σ : St} {I H I1 H1 : Hp} {F F1 : Pd} {Q : Bool → Hp → Prop} {r : R Bool} (s : Stp I H F I1 H1 F1) (h : PostT K mg W σ I H F Q r) : PostT K mg W σ I1 H1 F1 Q r := by
  cases r with
  | ok r ρ' => exact fun H' I' φ' t => h H' I' φ' (s.trans t)
  | exc c ρ' => exact PostX.shift s h
  | stuck => exact h
end

/-! ### from one reading to another -/
section
variable {X : Cx}
theorem PE.weak {e : Expr} {t t' : TE} (h : PE X e t) (hw : ∀ σ H Q, t' σ H Q → t σ H Q) : PE X e t' := ⟨fun pins s σ H Q I q => h.run pins s σ H Q I (hw σ H Q q)⟩
theorem PT.weak {e : Expr} {t t' : TT} (h : PT X e t) (hw : ∀ σ H Q, t' σ H Q → t σ H Q) : PT X e t' := ⟨fun pins s σ H Q I q => h.run pins s σ H Q I (hw σ H Q q)⟩
theorem PW.weak {e : Expr} {t t' : TT} (h : PW X e t) (hw : ∀ σ H Q, t' σ H Q → t σ H Q) : PW X e t' := ⟨fun wh pins s σ H Q I q => h.run wh pins s σ H Q I (hw σ H Q q)⟩
theorem PA.weak {es : List Expr} {t t' : TA} (h : PA X es t) (hw : ∀ σ H Q, t' σ H Q → t σ H Q) : PA X es t' := ⟨fun pos pins s σ H Q I q => h.run pos pins s σ H Q I (hw σ H Q q)⟩
theorem PS.weak {st : Stmt} {t t' : TS} (h : PS X st t) (hw : ∀ D σ H, t' D σ H → t D σ H) : PS X st t' := ⟨fun pins s σ H D I q => h.run pins s σ H D I (hw D σ H q)⟩
theorem PSs.weak {st : List Stmt} {t t' : TS} (h : PSs X st t) (hw : ∀ D σ H, t' D σ H → t D σ H) : PSs X st t' := ⟨fun pins s σ H D I q => h.run pins s σ H D I (hw D σ H q)⟩
/-- e reads as f -/
abbrev EE (X : Cx) (W : WX) (e : Expr) (f : M O) : Prop := PE X e (rdE X.K X.mg W f)
abbrev EA (X : Cx) (W : WX) (es : List Expr) (f : M (List O)) : Prop := PA X es (rdA X.K X.mg W f)
abbrev ET (X : Cx) (W : WX) (e : Expr) (f : M Bool) : Prop := PT X e (rdT X.K X.mg W f)
abbrev EW (X : Cx) (W : WX) (e : Expr) (f : M Bool) : Prop := PW X e (rdT X.K X.mg W f)
end

section
variable {K : PySem.W.Frag} {mg : Str → Option Value} {W : WX}
/-- one value, then the rest -/
theorem bindE {α : Type} {f : M O} {g : O → M α} {σ : St} {I H : Hp} {φ : Ph} {ρ : Env} {P : R α → Prop} {T : V → Hp → Prop}
    (gd : Gd K mg I H φ ρ σ) (h : P ((f.bind g) ρ)) (hx : ∀ c ρ', P (.exc c ρ') → PostX K mg W σ I H (al φ) c ρ') (hs : ¬ P .stuck)
    (k : ∀ r ρ1, f ρ = .ok r ρ1 → P (g r ρ1) → ∀ (v : V) (H1 I1 : Hp) (φ1 : Ph) (G : Pd), Stp I H (al φ) I1 H1 (orP (al φ1) G) → Gd K mg I1 H1 φ1 ρ1 σ → Tm I1 H1 φ1 G → Own K mg I1 H1 r v G → T v H1) :
    rdE K mg W f σ H T := by
  refine ⟨ρ, I, φ, gd, ?_⟩
  unfold M.bind at h
  cases e : f ρ with
  | ok r ρ1 => rw [e] at h; exact fun v H1 I1 φ1 G s g1 t w => k r ρ1 e h v H1 I1 φ1 G s g1 t w
  | exc c ρ1 => rw [e] at h; exact hx c ρ1 h
  | stuck => rw [e] at h; exact (hs h).elim
theorem bindA {α : Type} {f : M (List O)} {g : List O → M α} {σ : St} {I H : Hp} {φ : Ph} {ρ : Env} {P : R α → Prop} {T : List V → Hp → Prop}
    (gd : Gd K mg I H φ ρ σ) (h : P ((f.bind g) ρ)) (hx : ∀ c ρ', P (.exc c ρ') → PostX K mg W σ I H (al φ) c ρ') (hs : ¬ P .stuck)
    (k : ∀ r ρ1, f ρ = .ok r ρ1 → P (g r ρ1) → ∀ (v : List V) (H1 I1 : Hp) (φ1 : Ph) (G : Pd), Stp I H (al φ) I1 H1 (orP (al φ1) G) → Gd K mg I1 H1 φ1 ρ1 σ → Tm I1 H1 φ1 G → Owns K mg I1 H1 r v G → T v H1) :
    rdA K mg W f σ H T := by
  refine ⟨ρ, I, φ, gd, ?_⟩
  unfold M.bind at h
  cases e : f ρ with
  | ok r ρ1 => rw [e] at h; exact fun v H1 I1 φ1 G s g1 t w => k r ρ1 e h v H1 I1 φ1 G s g1 t w
  | exc c ρ1 => rw [e] at h; exact hx c ρ1 h
  | stuck => rw [e] at h; exact (hs h).elim
theorem bindT {α : Type} {f : M Bool} {g : Bool → M α} {σ : St} {I H : Hp} {φ : Ph} {ρ : Env} {P : R α → Prop} {T : Bool → Hp → Prop}
    (gd : Gd K mg I H φ ρ σ) (h : P ((f.bind g) ρ)) (hx : ∀ c ρ', P (.exc c ρ') → PostX K mg W σ I H (al φ) c ρ') (hs : ¬ P .stuck)
    (k : ∀ r ρ1, f ρ = .ok r ρ1 → P (g r ρ1) → ∀ (H1 I1 : Hp) (φ1 : Ph), Stp I H (al φ) I1 H1 (al φ1) → Gd K mg I1 H1 φ1 ρ1 σ → T r H1) :
    rdT K mg W f σ H T := by
  refine ⟨ρ, I, φ, gd, ?_⟩
  unfold M.bind at h
  cases e : f ρ with
  | ok r ρ1 => rw [e] at h; exact fun H1 I1 φ1 s g1 => k r ρ1 e h H1 I1 φ1 s g1
  | exc c ρ1 => rw [e] at h; exact hx c ρ1 h
  | stuck => rw [e] at h; exact (hs h).elim
end
end EV

/-! The layer EV, part C: ends, names, displays, operators. -/
namespace EV
open PySem PySem.Spec PyProof.Rows L2

section
variable {K : PySem.W.Frag} {mg : Str → Option Value} {W : WX} {σ : St} {I H : Hp} {φ : Ph} {ρ : Env} {F G : Pd} {Q : VK}

theorem same_upd {I H : Hp} {p : Addr} {o : HO} (h : Same I H) (hp : H p = none) : Same I (upd H p o) := fun a u e => by
  rw [upd_ne (ne_of_none (h a u e) hp)]; exact h a u e
theorem same_updI {I : Hp} {p : Addr} {o : HO} (hp : I p = none) : Same I (upd I p o) := fun a u e => by
  rw [upd_ne (ne_of_none e hp)]; exact e
theorem Gd.free (gd : Gd K mg I H φ ρ σ) {p : Addr} (hp : H p = none) : I p = none := gd.le.free hp
theorem Gd.nfree (gd : Gd K mg I H φ ρ σ) {p : Addr} (hp : H p = none) : ¬ al φ p := fun ⟨i, q⟩ => gd.th i p q hp
/-- a new object that is nobody's yet -/
theorem Gd.new (gd : Gd K mg I H φ ρ σ) {p : Addr} {o : HO} (hp : H p = none) : Gd K mg I (upd H p o) φ ρ σ :=
  ⟨same_upd gd.le hp, gd.dj, fun i a q => by
      by_cases e : a = p
      · subst e; rw [upd_same]; exact Option.some_ne_none _
      · rw [upd_ne e]; exact gd.th i a q,
    gd.sep, fun i x e n => by
      obtain ⟨v, e1, w⟩ := gd.sl i x e n
      exact ⟨v, e1, w.step (RdLe.of (Same.refl _)) fun a u _ q => by rw [upd_ne (ne_of_none q hp)]; exact q⟩⟩
/-- .. that is frozen at once -/
theorem Gd.newI (gd : Gd K mg I H φ ρ σ) {p : Addr} {o : HO} (hp : H p = none) : Gd K mg (upd I p o) (upd H p o) φ ρ σ :=
  ⟨fun a u e => by
      by_cases z : a = p
      · subst z; rw [upd_same] at e ⊢; exact e
      · rw [upd_ne z] at e ⊢; exact gd.le a u e,
    fun i a q => by
      have z : a ≠ p := fun z => gd.th i a q (z ▸ hp)
      rw [upd_ne z]; exact gd.dj i a q,
    fun i a q => by
      have z : a ≠ p := fun z => gd.th i a q (z ▸ hp)
      rw [upd_ne z]; exact gd.th i a q,
    gd.sep, fun i x e n => by
      obtain ⟨v, e1, w⟩ := gd.sl i x e n
      exact ⟨v, e1, w.step (RdLe.of (same_updI (gd.free hp))) fun a u _ q => by rw [upd_ne (ne_of_none q hp)]; exact q⟩⟩
theorem Stp.new {p : Addr} {o : HO} {F' : Pd} (hp : H p = none) (h : ∀ a, F' a → F a ∨ a = p) : Stp I H F I (upd H p o) F' :=
  ⟨Same.refl _, fun a u e _ => by rw [upd_ne (ne_of_none e hp)]; exact e, fun a q => (h a q).imp id fun e => by rw [e]; exact hp, fun _ _ e => .inl e⟩
theorem Stp.newI {p : Addr} {o : HO} {F' : Pd} (hI : I p = none) (hp : H p = none) (h : ∀ a, F' a → F a) : Stp I H F (upd I p o) (upd H p o) F' :=
  ⟨same_updI hI, fun a u e _ => by rw [upd_ne (ne_of_none e hp)]; exact e, fun a q => .inl (h a q), fun a u e => by
    by_cases z : a = p
    · subst z; exact .inr (.inr hp)
    · rw [upd_ne z] at e; exact .inl e⟩

/-- frozen data comes out -/
theorem fin_d {x : D} {v : V} (h : PostE K mg W σ I H F Q (.ok (.d x) ρ)) (gd : Gd K mg I H φ ρ σ) (hf : ∀ a, al φ a → F a) (q : Den K I x v) : Q v H :=
  h v H I φ noP (Stp.refl fun a z => z.elim (hf a) False.elim) gd Tm.none (.d q)
/-- what is in hand comes out -/
theorem fin_o {o : O} {v : V} (h : PostE K mg W σ I H F Q (.ok o ρ)) (gd : Gd K mg I H φ ρ σ) (hf : ∀ a, orP (al φ) G a → F a) (t : Tm I H φ G) (q : Own K mg I H o v G) : Q v H :=
  h v H I φ G (Stp.refl hf) gd t q
/-- a new list comes out -/
theorem fin_lst {os : List O} {vs : List V} {p : Addr} (h : PostE K mg W σ I H F Q (.ok (.lst os) ρ)) (gd : Gd K mg I H φ ρ σ) (hf : ∀ a, orP (al φ) G a → F a) (t : Tm I H φ G) (q : Owns K mg I H os vs G) (hp : H p = none) : Q (.ref p) (upd H p (.lst vs)) := by
  have np : ¬ G p := fun g => t.th p g hp
  refine h (.ref p) (upd H p (.lst vs)) I φ (fun a => G a ∨ a = p) (Stp.new hp fun a z => ?_) (gd.new hp) ⟨fun a z => ?_, fun a z => ?_, fun i a z => ?_⟩ (.lst upd_same (.inr rfl) (q.step (RdLe.of (Same.refl _)) fun a u g e => ?_) (fun _ g => .inl g) np)
  · rcases z with z | z | z
    · exact .inl (hf a (.inl z))
    · exact .inl (hf a (.inr z))
    · exact .inr z
  · rcases z with z | z
    · exact t.dj a z
    · exact z ▸ gd.free hp
  · by_cases e : a = p
    · subst e; rw [upd_same]; exact Option.some_ne_none _
    · rw [upd_ne e]
      rcases z with z | z
      · exact t.th a z
      · exact absurd z e
  · rcases z with z | z
    · exact t.sp i a z
    · intro q2; exact gd.th i a q2 (z ▸ hp)
  · rw [upd_ne (ne_of_none e hp)]; exact e

/-- are all members frozen -/
def allD : List O → Option (List D)
  | [] => some []
  | .d x :: r => (allD r).map (x :: ·)
  | _ => none
def mkTup (os : List O) : O := match allD os with
  | some ds => .d (.tuple ds)
  | none => .tup os
theorem Owns.allD : ∀ {os : List O} {vs : List V} {S : Pd} {ds : List D}, Owns K mg I H os vs S → EV.allD os = some ds → DenL K I ds vs
  | _, _, _, _, .nil, e => by rw [EV.allD] at e; cases e; exact .nil
  | .d x :: r, _, _, _, .cons a b _ _ _, e => by
    rw [EV.allD, Option.map_eq_some_iff] at e
    obtain ⟨ys, e1, rfl⟩ := e
    cases a with
    | d q => exact .cons q (Owns.allD b e1)
  | .un :: _, _, _, _, .cons _ _ _ _ _, e => by simp [EV.allD] at e
  | .lst _ :: _, _, _, _, .cons _ _ _ _ _, e => by simp [EV.allD] at e
  | .tup _ :: _, _, _, _, .cons _ _ _ _ _, e => by simp [EV.allD] at e
  | .dic _ :: _, _, _, _, .cons _ _ _ _ _, e => by simp [EV.allD] at e
  | .obj _ _ :: _, _, _, _, .cons _ _ _ _ _, e => by simp [EV.allD] at e
  | .exn _ :: _, _, _, _, .cons _ _ _ _ _, e => by simp [EV.allD] at e
  | .scr _ :: _, _, _, _, .cons _ _ _ _ _, e => by simp [EV.allD] at e
  | .kst _ :: _, _, _, _, .cons _ _ _ _ _, e => by simp [EV.allD] at e
  | .dicT _ :: _, _, _, _, .cons _ _ _ _ _, e => by simp [EV.allD] at e
/-- a new tuple comes out -/
theorem fin_tup {os : List O} {vs : List V} {p : Addr} (h : PostE K mg W σ I H F Q (.ok (mkTup os) ρ)) (gd : Gd K mg I H φ ρ σ) (hf : ∀ a, orP (al φ) G a → F a) (t : Tm I H φ G) (q : Owns K mg I H os vs G) (hp : H p = none) : Q (.ref p) (upd H p (.tup vs)) := by
  have t' : Tm (upd I p (.tup vs)) (upd H p (.tup vs)) φ G := ⟨fun a g => by rw [upd_ne (fun e => t.th a g (by rw [e]; exact hp))]; exact t.dj a g, fun a g => by rw [upd_ne (fun e => t.th a g (by rw [e]; exact hp))]; exact t.th a g, t.sp⟩
  have q' : Owns K mg (upd I p (.tup vs)) (upd H p (.tup vs)) os vs G := q.step (RdLe.of (same_updI (gd.free hp))) fun a u g e => by rw [upd_ne (ne_of_none e hp)]; exact e
  refine h (.ref p) _ _ φ G (Stp.newI (gd.free hp) hp hf) (gd.newI hp) t' ?_
  unfold mkTup
  cases e : allD os with
  | some ds => exact .d (.tuple upd_same (Owns.allD q' e))
  | none => exact .tup upd_same q'
end

/-! ### the combinators -/
namespace E
def c (x : D) : M O := fun ρ => .ok (.d x) ρ
/-- a name read: what it holds is frozen from then on -/
def var (i : Nat) : M O := fun ρ => match ρ[i]? with
  | some (.d x) => .ok (.d x) ρ
  | some (.scr x) => .ok (.scr x) ρ
  | some o => (match frz o with
    | some x => .ok (.d x) (ρ.set i (.d x))
    | none => .stuck)
  | none => .stuck
/-- a name read for the last time -/
def move (i : Nat) : M O := fun ρ => match ρ[i]? with
  | some .un => .stuck
  | some o => .ok o (ρ.set i .un)
  | none => .stuck
def op2 (g : O → O → Option O) (f1 f2 : M O) : M O := f1.bind fun x => f2.bind fun y => M.opt (g x y)
def op1 (g : O → Option O) (f : M O) : M O := f.bind fun x => M.opt (g x)
def opN (g : List O → Option O) (f : M (List O)) : M O := f.bind fun xs => M.opt (g xs)
def tup (f : M (List O)) : M O := f.bind fun xs => if xs.length ≤ 1000000 then M.ret (mkTup xs) else M.fail
def lst (f : M (List O)) : M O := f.bind fun xs => if xs.length ≤ 1000000 then M.ret (.lst xs) else M.fail
def ifE (t : M Bool) (f g : M O) : M O := t.bind fun b => if b then f else g
def frzS : O → O
  | .d x => .d x
  | o => match frz o with
    | some x => .d x
    | none => .un
def isAtom : D → Bool
  | .none | .bool _ | .int _ | .str _ => true
  | _ => false
/-- a reckoning whose answer is an atom leaves all as it was -/
def borrow (f : M O) : M O := fun ρ => match f (ρ.map frzS) with
  | .ok (.d x) _ => if isAtom x then .ok (.d x) ρ else .stuck
  | .exc c _ => .exc c ρ
  | _ => .stuck
end E
namespace A
def nil : M (List O) := M.ret []
def cons (f : M O) (g : M (List O)) : M (List O) := f.bind fun x => g.bind fun xs => M.ret (x :: xs)
end A
namespace T
def val (f : M O) : M Bool := f.bind fun o => match o with
  | .d (.bool b) => M.ret b
  | _ => M.fail
def not (f : M Bool) : M Bool := f.bind fun b => M.ret (!b)
def and (f g : M Bool) : M Bool := f.bind fun b => if b then g else M.ret false
def or (f g : M Bool) : M Bool := f.bind fun b => if b then M.ret true else g
def borrow (f : M Bool) : M Bool := fun ρ => match f (ρ.map E.frzS) with
  | .ok b _ => .ok b ρ
  | .exc c _ => .exc c ρ
  | .stuck => .stuck
end T

section
variable {X : Cx} {W : WX} {a b : Expr} {fa fb : M O} {pos : Pos}
theorem ee_c {e : Expr} {v : V} {x : D} (h : PE X e (tC v)) (q : ∀ I, Den X.K I x v) : EE X W e (E.c x) :=
  PE.weak h fun σ H Q ⟨ρ, I, φ, gd, h⟩ => fin_d h gd (fun _ z => z) (q I)
theorem ee_int {i j pos} : EE X W (.Constant (.int i) j pos) (E.c (.int i)) := ee_c pe_int fun _ => .int i
theorem ee_bl {b j pos} : EE X W (.Constant (.bool b) j pos) (E.c (.bool b)) := ee_c pe_bl fun _ => .bl b
theorem ee_non {j pos} : EE X W (.Constant .none j pos) (E.c .none) := ee_c pe_non fun _ => .non
theorem ee_str {x j pos} : EE X W (.Constant (.str x) j pos) (E.c (.str x)) := ee_c pe_str fun _ => .str x

end
/-! ### slots changed -/
def setP (φ : Ph) (i : Nat) (S : Pd) : Ph := fun j => if j = i then S else φ j
theorem setP_same {φ : Ph} {i : Nat} {S : Pd} : setP φ i S i = S := if_pos rfl
theorem setP_ne {φ : Ph} {i j : Nat} {S : Pd} (h : j ≠ i) : setP φ i S j = φ j := if_neg h
section
variable {K : PySem.W.Frag} {mg : Str → Option Value} {σ σ' : St} {I H : Hp} {φ : Ph} {ρ : Env} {G : Pd} {i : Nat} {o : O}
theorem al_setP {S : Pd} {a : Addr} (h : al (setP φ i S) a) : S a ∨ al φ a := by
  obtain ⟨j, q⟩ := h
  by_cases z : j = i
  · subst z; rw [setP_same] at q; exact .inl q
  · rw [setP_ne z] at q; exact .inr ⟨j, q⟩
/-- slot i takes another value, with what it owns -/
theorem Gd.upd {S : Pd} (gd : Gd K mg I H φ ρ σ) (h1 : ∀ a, S a → I a = none) (h2 : ∀ a, S a → H a ≠ none) (h3 : ∀ j a, S a → j ≠ i → ¬ φ j a) (hs : ∀ j, j ≠ i → σ'[j]? = σ[j]?)
    (ho : i < ρ.length → o ≠ .un → ∃ v, σ'[i]? = some (some v) ∧ Own K mg I H o v S) : Gd K mg I H (setP φ i S) (ρ.set i o) σ' := by
  refine ⟨gd.le, fun j a q => ?_, fun j a q => ?_, fun j k a q r => ?_, fun j y ey ny => ?_⟩
  · by_cases z : j = i
    · subst z; rw [setP_same] at q; exact h1 a q
    · rw [setP_ne z] at q; exact gd.dj j a q
  · by_cases z : j = i
    · subst z; rw [setP_same] at q; exact h2 a q
    · rw [setP_ne z] at q; exact gd.th j a q
  · by_cases z : j = i
    · subst z
      rw [setP_same] at q
      by_cases z2 : k = j
      · exact z2.symm
      · rw [setP_ne z2] at r; exact (h3 k a q z2 r).elim
    · rw [setP_ne z] at q
      by_cases z2 : k = i
      · subst z2; rw [setP_same] at r; exact (h3 j a r z q).elim
      · rw [setP_ne z2] at r; exact gd.sep j k a q r
  · by_cases z : j = i
    · subst z
      have hl : j < ρ.length := by
        have := (List.getElem?_eq_some_iff.mp ey).1
        simpa using this
      rw [List.getElem?_set_self hl] at ey
      cases ey
      rw [setP_same]
      exact ho hl ny
    · rw [List.getElem?_set_ne (Ne.symm z)] at ey
      rw [setP_ne z, hs j z]
      exact gd.sl j y ey ny
/-- slot i is emptied, its value in hand -/
theorem Gd.move (gd : Gd K mg I H φ ρ σ) (e : ρ[i]? = some o) (ne : o ≠ .un) :
    ∃ v, σ[i]? = some (some v) ∧ (∀ a, orP (al (setP φ i noP)) (φ i) a → al φ a) ∧ Gd K mg I H (setP φ i noP) (ρ.set i .un) σ ∧ Tm I H (setP φ i noP) (φ i) ∧ Own K mg I H o v (φ i) := by
  obtain ⟨v, e1, w⟩ := gd.sl i o e ne
  refine ⟨v, e1, fun a q => ?_, gd.upd (fun _ q => q.elim) (fun _ q => q.elim) (fun _ _ q => q.elim) (fun _ _ => rfl) (fun _ z => (z rfl).elim), ⟨gd.dj i, gd.th i, fun j a q r => ?_⟩, w⟩
  · rcases q with q | q
    · exact (al_setP q).elim False.elim id
    · exact ⟨i, q⟩
  · by_cases z : j = i
    · subst z; rw [setP_same] at r; exact r.elim
    · rw [setP_ne z] at r; exact z (gd.sep j i a r q)
/-- what is in hand is frozen -/
theorem Gd.freeze (gd : Gd K mg I H φ ρ σ) (t : Tm I H φ G) : Gd K mg (addI I H G) H φ ρ σ ∧ Stp I H (orP (al φ) G) (addI I H G) H (al φ) := by
  have le' : Same I (addI I H G) := addI_same t.dj
  refine ⟨⟨addI_le gd.le, fun j a q => ?_, gd.th, gd.sep, fun j o e n => ?_⟩, ⟨le', fun _ _ e _ => e, fun _ q => .inl (.inl q), fun a u q => ?_⟩⟩
  · rw [addI_out fun s => t.sp j a s q]; exact gd.dj j a q
  · obtain ⟨v, e1, w⟩ := gd.sl j o e n
    exact ⟨v, e1, w.step (RdLe.of le') fun _ _ _ q => q⟩
  · by_cases s : G a
    · exact .inr (.inl (.inr s))
    · rw [addI_out s] at q; exact .inl q
theorem Own.den {x : D} {v : V} (w : Own K mg I H o v G) (f : EV.frz o = some x) (hd : ∀ a, G a → I a = none) : Den K (addI I H G) x v :=
  Own.frz (RdLe.of (addI_same hd)) (fun a u s q => by rw [addI_in s]; exact q) w f
/-- the slot i is frozen -/
theorem Gd.frz {x : D} (gd : Gd K mg I H φ ρ σ) (e : ρ[i]? = some o) (ne : o ≠ .un) (f : EV.frz o = some x) :
    ∃ v I' φ', σ[i]? = some (some v) ∧ Stp I H (al φ) I' H (al φ') ∧ Gd K mg I' H φ' (ρ.set i (.d x)) σ ∧ Den K I' x v := by
  obtain ⟨v, e1, hs, gd1, t, w⟩ := gd.move e ne
  obtain ⟨gd2, st⟩ := gd1.freeze t
  have den := w.den f t.dj
  have gd3 := gd2.upd (σ' := σ) (S := noP) (i := i) (o := .d x) (fun _ q => q.elim) (fun _ q => q.elim) (fun _ _ q => q.elim) (fun _ _ => rfl) (fun _ _ => ⟨v, e1, .d den⟩)
  rw [List.set_set] at gd3
  refine ⟨v, _, _, e1, (st.from hs).sub fun a q => ?_, gd3, den⟩
  rcases al_setP q with q | q
  · exact q.elim
  · exact q
end
section
variable {X : Cx} {W : WX} {a b : Expr} {fa fb : M O} {pos : Pos}
theorem ee_var (i : Nat) {x : Str} {pos : Pos} (hN : X.N[i]? = some x := by rfl) (hv : Vis X.env.scope x := by first | exact Or.inl rfl | exact Or.inr (Or.inl rfl) | exact Or.inr (Or.inr rfl)) (hd : (x == ("__debug__" : Str)) = false := by decide)
    (hcd : (x == ("__classdict__" : Str)) = false := by decide) : EE X W (.Name x pos) (E.var i) := by
  refine PE.weak (pe_var hN hv hd hcd) fun σ H Q ⟨ρ, I, φ, gd, h⟩ => ?_
  unfold E.var at h
  have froz : ∀ o x, ρ[i]? = some o → o ≠ .un → EV.frz o = some x → PostE X.K X.mg W σ I H (al φ) Q (.ok (.d x) (ρ.set i (.d x))) → tVar i σ H Q := by
    intro o x e ne f h
    obtain ⟨v, I', φ', e1, st, gd', den⟩ := gd.frz e ne f
    exact ⟨v, e1, h v H I' φ' noP (st.sub fun a z => z.elim id False.elim) gd' Tm.none (.d den)⟩
  cases e : ρ[i]? with
  | none => rw [e] at h; exact h.elim
  | some o =>
    rw [e] at h
    cases o with
    | d x =>
      obtain ⟨v, e1, w⟩ := gd.sl i _ e (by intro z; cases z)
      cases w with
      | d q => exact ⟨v, e1, fin_d h gd (fun _ z => z) q⟩
    | un => simp only [EV.frz] at h; exact h.elim
    | lst xs =>
      simp only at h
      split at h
      · rename_i x f; exact froz _ x e (by intro z; cases z) f h
      · exact h.elim
    | tup xs =>
      simp only at h
      split at h
      · rename_i x f; exact froz _ x e (by intro z; cases z) f h
      · exact h.elim
    | dic xs =>
      simp only at h
      split at h
      · rename_i x f; exact froz _ x e (by intro z; cases z) f h
      · exact h.elim
    | obj c xs => simp only [EV.frz] at h; exact h.elim
    | exn c => simp only [EV.frz] at h; exact h.elim
    | kst c => simp only [EV.frz] at h; exact h.elim
    | dicT xs =>
      simp only at h
      split at h
      · rename_i x f; exact froz _ x e (by intro z; cases z) f h
      · exact h.elim
    | scr xs =>
      obtain ⟨v, e1, w⟩ := gd.sl i _ e (by intro z; cases z)
      exact ⟨v, e1, h v H I φ noP (Stp.refl fun a z => z.elim id False.elim) gd Tm.none (by cases w with | scr q => exact .scr q)⟩
theorem ee_move (i : Nat) {x : Str} {pos : Pos} (hN : X.N[i]? = some x := by rfl) (hv : Vis X.env.scope x := by first | exact Or.inl rfl | exact Or.inr (Or.inl rfl) | exact Or.inr (Or.inr rfl)) (hd : (x == ("__debug__" : Str)) = false := by decide)
    (hcd : (x == ("__classdict__" : Str)) = false := by decide) : EE X W (.Name x pos) (E.move i) := by
  refine PE.weak (pe_var hN hv hd hcd) fun σ H Q ⟨ρ, I, φ, gd, h⟩ => ?_
  unfold E.move at h
  cases e : ρ[i]? with
  | none => rw [e] at h; exact h.elim
  | some o =>
    rw [e] at h
    have go : o ≠ .un → PostE X.K X.mg W σ I H (al φ) Q (.ok o (ρ.set i .un)) → tVar i σ H Q := fun ne h => by
      obtain ⟨v, e1, hs, gd', t, w⟩ := gd.move e ne
      exact ⟨v, e1, h v H I _ (φ i) (Stp.refl hs) gd' t w⟩
    cases o with
    | un => exact h.elim
    | d x => exact go (by intro z; cases z) h
    | lst x => exact go (by intro z; cases z) h
    | tup x => exact go (by intro z; cases z) h
    | dic x => exact go (by intro z; cases z) h
    | obj c x => exact go (by intro z; cases z) h
    | exn x => exact go (by intro z; cases z) h
    | scr x => exact go (by intro z; cases z) h
    | kst x => exact go (by intro z; cases z) h
    | dicT x => exact go (by intro z; cases z) h

/-! ### two operands, many operands -/
/-- by values: r is fulfilled where g gives something -/
def Op2Ok (X : Cx) (r : R2) (g : O → O → Option O) : Prop := ∀ (W : WX) (σ : St) (I H : Hp) (φ : Ph) (ρ : Env) (F G1 G2 : Pd) (Q : VK) (x y z : O) (a b : V), Gd X.K X.mg I H φ ρ σ → (∀ c, orP (al φ) (orP G1 G2) c → F c) →
  Tm I H φ (orP G1 G2) → Own X.K X.mg I H x a G1 → Own X.K X.mg I H y b G2 → (∀ c, G1 c → ¬ G2 c) → g x y = some z → PostE X.K X.mg W σ I H F Q (.ok z ρ) → r a b H Q
theorem op2_read {r : R2} {g : O → O → Option O} (ok : Op2Ok X r g) {σ : St} {H : Hp} {Q : VK} (h : rdE X.K X.mg W (E.op2 g fa fb) σ H Q) : tOp r (rdE X.K X.mg W fa) (rdE X.K X.mg W fb) σ H Q := by
  obtain ⟨ρ, I, φ, gd, h⟩ := h
  refine bindE (P := PostE X.K X.mg W σ I H (al φ) Q) gd h (fun _ _ z => z) (fun z => z) fun x ρ1 _ h v1 H1 I1 φ1 G1 s1 gd1 t1 w1 => ?_
  refine bindE (P := PostE X.K X.mg W σ I1 H1 (orP (al φ1) G1) Q) gd1 (h.shift s1) (fun _ _ z => PostX.from (fun _ => .inl) z) (fun z => z) fun y ρ2 _ h v2 H2 I2 φ2 G2 s2 gd2 t2 w2 => ?_
  obtain ⟨t, dis⟩ := t1.step s2 t2
  have h' := h.shift ((s2.frame (G := G1) t1.th))
  cases e : g x y with
  | none => simp only [e, M.opt, M.fail] at h'; exact h'.elim
  | some z =>
    simp only [e, M.opt, M.ret] at h'
    exact ok W σ I2 H2 φ2 ρ2 _ G1 G2 Q x y z v1 v2 gd2 (fun c q => by
      rcases q with q | q | q
      · exact .inl (.inl q)
      · exact .inr q
      · exact .inl (.inr q)) t (t1.own s2 w1) w2 dis e h'
theorem ee_op {op : Operator} {r : R2} {g : O → O → Option O} (ho : OpR X (binaryOp op) r) (ok : Op2Ok X r g) (ha : EE X W a fa) (hb : EE X W b fb) : EE X W (.BinOp a op b pos) (E.op2 g fa fb) :=
  PE.weak (pe_op ho ha hb) fun _ _ _ h => op2_read ok h
theorem ee_cmp {op : CmpOp} {r : R2} {g : O → O → Option O} (ho : OpR X (compareOp op) r) (ok : Op2Ok X r g) (ha : EE X W a fa) (hb : EE X W b fb) (hm : behindInMarks op b = false) : EE X W (.Compare a [op] [b] pos) (E.op2 g fa fb) :=
  PE.weak (pe_cmpR ho ha hb hm) fun _ _ _ h => op2_read ok h
theorem ee_ix {r : R2} {g : O → O → Option O} (hr : IxR X r) (ok : Op2Ok X r g) (ha : EE X W a fa) (hb : EE X W b fb) (hs : PlainIx b := by intro _ _; rfl) : EE X W (.Subscript a b pos) (E.op2 g fa fb) :=
  PE.weak (pe_ix hr ha hb hs) fun _ _ _ h => op2_read ok h
def Op1Ok (X : Cx) (r : V → Hp → VK → Prop) (g : O → Option O) : Prop := ∀ (W : WX) (σ : St) (I H : Hp) (φ : Ph) (ρ : Env) (F G : Pd) (Q : VK) (x z : O) (a : V), Gd X.K X.mg I H φ ρ σ → (∀ c, orP (al φ) G c → F c) →
  Tm I H φ G → Own X.K X.mg I H x a G → g x = some z → PostE X.K X.mg W σ I H F Q (.ok z ρ) → r a H Q
theorem op1_read {r : V → Hp → VK → Prop} {g : O → Option O} (ok : Op1Ok X r g) {σ : St} {H : Hp} {Q : VK} (h : rdE X.K X.mg W (E.op1 g fa) σ H Q) : tUn r (rdE X.K X.mg W fa) σ H Q := by
  obtain ⟨ρ, I, φ, gd, h⟩ := h
  refine bindE (P := PostE X.K X.mg W σ I H (al φ) Q) gd h (fun _ _ z => z) (fun z => z) fun x ρ1 _ h v1 H1 I1 φ1 G1 s1 gd1 t1 w1 => ?_
  have h' := h.shift s1
  cases e : g x with
  | none => simp only [e, M.opt, M.fail] at h'; exact h'.elim
  | some z =>
    simp only [e, M.opt, M.ret] at h'
    exact ok W σ I1 H1 φ1 ρ1 _ G1 Q x z v1 gd1 (fun c q => q) t1 w1 e h'
theorem ee_un {op : UnaryOp} {r : V → Hp → VK → Prop} {g : O → Option O} (ho : UnR X (unaryOp op) r) (ok : Op1Ok X r g) (ha : EE X W a fa) : EE X W (.UnaryOp op a pos) (E.op1 g fa) :=
  PE.weak (pe_un ho ha) fun _ _ _ h => op1_read ok h

theorem ea_nil : EA X W [] A.nil := PA.weak pa_nil fun σ H Q ⟨ρ, I, φ, gd, h⟩ => h [] H I φ noP (Stp.refl fun a z => z.elim id False.elim) gd Tm.none .nil
theorem ea_cons {e : Expr} {es : List Expr} {f : M O} {g : M (List O)} (ha : EE X W e f) (hr : EA X W es g) (hs : starEach (e :: es) X.env = (false, eval e X.env) :: starEach es X.env := by rfl) : EA X W (e :: es) (A.cons f g) := by
  refine PA.weak (pa_cons ha hr hs) fun σ H Q ⟨ρ, I, φ, gd, h⟩ => ?_
  refine bindE (P := PostA X.K X.mg W σ I H (al φ) Q) gd h (fun _ _ z => z) (fun z => z) fun x ρ1 _ h v1 H1 I1 φ1 G1 s1 gd1 t1 w1 => ?_
  refine bindA (P := PostA X.K X.mg W σ I1 H1 (orP (al φ1) G1) Q) gd1 (h.shift s1) (fun _ _ z => PostX.from (fun _ => .inl) z) (fun z => z) fun y ρ2 _ h v2 H2 I2 φ2 G2 s2 gd2 t2 w2 => ?_
  obtain ⟨t, dis⟩ := t1.step s2 t2
  refine h (v1 :: v2) H2 I2 φ2 (orP G1 G2) (((s2.frame (G := G1) t1.th)).sub fun c q => ?_) gd2 t (.cons (t1.own s2 w1) w2 (fun _ => .inl) (fun _ => .inr) dis)
  rcases q with q | q | q
  · exact .inl (.inl q)
  · exact .inr q
  · exact .inl (.inr q)
theorem Owns.len {K : PySem.W.Frag} {mg : Str → Option Value} {I H : Hp} : ∀ {os : List O} {vs : List V} {S : Pd}, Owns K mg I H os vs S → vs.length = os.length
  | _, _, _, .nil => rfl
  | _, _, _, .cons _ b _ _ _ => by rw [List.length_cons, List.length_cons, Owns.len b]
theorem mil {n : Nat} (h : n ≤ 1000000) : n ≤ sizeLine := by rw [sizeLine_eq]; omega
theorem ee_tup {es : List Expr} {f : M (List O)} {x1} (h : EA X W es f) : EE X W (.Tuple es x1 pos) (E.tup f) := by
  refine PE.weak (pe_tup h) fun σ H Q ⟨ρ, I, φ, gd, h⟩ => ?_
  refine bindA (P := PostE X.K X.mg W σ I H (al φ) Q) gd h (fun _ _ z => z) (fun z => z) fun x ρ1 _ h v1 H1 I1 φ1 G1 s1 gd1 t1 w1 => ?_
  by_cases z : x.length ≤ 1000000
  · rw [if_pos z] at h
    exact ⟨by rw [w1.len]; exact mil z, fun p hp => fin_tup (h.shift s1) gd1 (fun _ q => q) t1 w1 hp⟩
  · rw [if_neg z] at h; exact h.elim
theorem ee_lst {es : List Expr} {f : M (List O)} (h : EA X W es f) : EE X W (.List es pos) (E.lst f) := by
  refine PE.weak (pe_lst h) fun σ H Q ⟨ρ, I, φ, gd, h⟩ => ?_
  refine bindA (P := PostE X.K X.mg W σ I H (al φ) Q) gd h (fun _ _ z => z) (fun z => z) fun x ρ1 _ h v1 H1 I1 φ1 G1 s1 gd1 t1 w1 => ?_
  by_cases z : x.length ≤ 1000000
  · rw [if_pos z] at h
    exact ⟨by rw [w1.len]; exact mil z, fun p hp => fin_lst (h.shift s1) gd1 (fun _ q => q) t1 w1 hp⟩
  · rw [if_neg z] at h; exact h.elim
end
end EV

/-! The layer EV, part D: tests, statements, targets, loops. -/
namespace EV
open PySem PySem.Spec PyProof.Rows L2

section
variable {X : Cx} {W : WX} {a b c : Expr} {fa fb fc : M O} {ta tb : M Bool} {pos : Pos} {rest : List Expr}

/-! ### tests -/
theorem val_read {σ : St} {H : Hp} {Q : Bool → Hp → Prop} (h : rdT X.K X.mg W (T.val fa) σ H Q) : rdE X.K X.mg W fa σ H (fun x H1 => ∃ k, x = .bl k ∧ Q k H1) := by
  obtain ⟨ρ, I, φ, gd, h⟩ := h
  refine bindE (P := PostT X.K X.mg W σ I H (al φ) Q) gd h (fun _ _ z => z) (fun z => z) fun x ρ1 _ h v1 H1 I1 φ1 G1 s1 gd1 t1 w1 => ?_
  cases x with
  | d x =>
    cases x with
    | bool k =>
      cases w1 with
      | d q => cases q; exact ⟨k, rfl, h H1 I1 φ1 (s1.sub fun _ => .inl) gd1⟩
    | _ => exact h.elim
  | _ => exact h.elim
theorem et_val (ha : EE X W a fa) (he : ∀ whole, isTrue a X.env whole = (do let v ← whole; standAt a.pos; holding [v] (truthy v)) := by intro _; rfl) : ET X W a (T.val fa) :=
  PT.weak (pt_val ha he) fun _ _ _ h => val_read h
theorem et_cmp {op : CmpOp} {r : R2} {g : O → O → Option O} (ho : OpR X (compareOp op) r) (ok : Op2Ok X r g) (ha : EE X W a fa) (hb : EE X W b fb) (hm : behindInMarks op b = false) : ET X W (.Compare a [op] [b] pos) (T.val (E.op2 g fa fb)) := by
  refine PT.weak (pt_cmpR ho ha hb hm) fun σ H Q h => ?_
  have h2 := val_read h
  exact op2_read ok h2
theorem et_not (ha : ET X W a ta) : ET X W (.UnaryOp .Not a pos) (T.not ta) := by
  refine PT.weak (pt_not ha) fun σ H Q ⟨ρ, I, φ, gd, h⟩ => ?_
  exact bindT (P := PostT X.K X.mg W σ I H (al φ) Q) gd h (fun _ _ z => z) (fun z => z) fun x ρ1 _ h H1 I1 φ1 s1 gd1 => h H1 I1 φ1 s1 gd1
theorem EW.et (h : EW X W a ta) : ET X W a ta := PW.pt h
theorem ew_and1 (h : ET X W a ta) : EW X W (.BoolOp .And [a] pos) ta := pw_and1 h
theorem ew_or1 (h : ET X W a ta) : EW X W (.BoolOp .Or [a] pos) ta := pw_or1 h
theorem ew_and (ha : ET X W a ta) (hb : EW X W (.BoolOp .And (b :: rest) pos) tb) : EW X W (.BoolOp .And (a :: b :: rest) pos) (T.and ta tb) := by
  refine PW.weak (pw_and ha hb) fun σ H Q ⟨ρ, I, φ, gd, h⟩ => ?_
  refine bindT (P := PostT X.K X.mg W σ I H (al φ) Q) gd h (fun _ _ z => z) (fun z => z) fun x ρ1 _ h H1 I1 φ1 s1 gd1 => ?_
  cases x with
  | true => rw [if_pos rfl] at h ⊢; exact ⟨ρ1, I1, φ1, gd1, h.shift s1⟩
  | false => rw [if_neg Bool.false_ne_true] at h ⊢; exact h H1 I1 φ1 s1 gd1
theorem ew_or (ha : ET X W a ta) (hb : EW X W (.BoolOp .Or (b :: rest) pos) tb) : EW X W (.BoolOp .Or (a :: b :: rest) pos) (T.or ta tb) := by
  refine PW.weak (pw_or ha hb) fun σ H Q ⟨ρ, I, φ, gd, h⟩ => ?_
  refine bindT (P := PostT X.K X.mg W σ I H (al φ) Q) gd h (fun _ _ z => z) (fun z => z) fun x ρ1 _ h H1 I1 φ1 s1 gd1 => ?_
  cases x with
  | true => rw [if_pos rfl] at h ⊢; exact h H1 I1 φ1 s1 gd1
  | false => rw [if_neg Bool.false_ne_true] at h ⊢; exact ⟨ρ1, I1, φ1, gd1, h.shift s1⟩

/-! ### and, or, not, chains, if-else as values -/
def E.and (f g : M O) : M O := (T.val f).bind fun b => if b then g else M.ret (.d (.bool false))
def E.or (f g : M O) : M O := (T.val f).bind fun b => if b then M.ret (.d (.bool true)) else g
def E.not (f : M O) : M O := (T.val f).bind fun b => M.ret (.d (.bool (!b)))
def E.chain (g1 g2 : O → O → Option O) (f1 f2 f3 : M O) : M O := f1.bind fun x => f2.bind fun y => (T.val (M.opt (g1 x y))).bind fun b =>
  if b then f3.bind fun z => M.opt (g2 y z) else M.ret (.d (.bool false))
theorem boolE {α : Type} {f : M O} {g : Bool → M α} {σ : St} {I H : Hp} {φ : Ph} {ρ : Env} {P : R α → Prop} {T' : V → Hp → Prop} {K : PySem.W.Frag} {mg : Str → Option Value}
    (gd : Gd K mg I H φ ρ σ) (h : P (((T.val f).bind g) ρ)) (hx : ∀ c ρ', P (.exc c ρ') → PostX K mg W σ I H (al φ) c ρ') (hs : ¬ P .stuck)
    (k : ∀ r ρ1, P (g r ρ1) → ∀ (H1 I1 : Hp) (φ1 : Ph), Stp I H (al φ) I1 H1 (al φ1) → Gd K mg I1 H1 φ1 ρ1 σ → T' (.bl r) H1) : rdE K mg W f σ H T' := by
  have h' : P ((f.bind fun o => (T.val (M.ret o)).bind g) ρ) := by
    unfold M.bind T.val M.bind at h ⊢
    cases e : f ρ with
    | ok r ρ1 => rw [e] at h; exact h
    | exc c ρ1 => rw [e] at h; exact h
    | stuck => rw [e] at h; exact h
  refine bindE gd h' hx hs fun x ρ1 _ h v1 H1 I1 φ1 G1 s1 gd1 t1 w1 => ?_
  cases x with
  | d x =>
    cases x with
    | bool r =>
      cases w1 with
      | d q => cases q; exact k r ρ1 h H1 I1 φ1 (s1.sub fun _ => .inl) gd1
    | _ => exact (hs h).elim
  | _ => exact (hs h).elim
theorem ee_one {op} (h : EE X W a fa) : EE X W (.BoolOp op [a] pos) fa := pe_one h
theorem ee_and (ha : EE X W a fa) (hb : EE X W (.BoolOp .And (b :: rest) pos) fb) : EE X W (.BoolOp .And (a :: b :: rest) pos) (E.and fa fb) := by
  refine PE.weak (pe_and ha hb) fun σ H Q ⟨ρ, I, φ, gd, h⟩ => ?_
  refine boolE (P := PostE X.K X.mg W σ I H (al φ) Q) gd h (fun _ _ z => z) (fun z => z) fun x ρ1 h H1 I1 φ1 s1 gd1 => ⟨x, rfl, ?_⟩
  cases x with
  | true => rw [if_pos rfl] at h ⊢; exact ⟨ρ1, I1, φ1, gd1, h.shift s1⟩
  | false => rw [if_neg Bool.false_ne_true] at h ⊢; exact fin_d (h.shift s1) gd1 (fun _ z => z) (.bl _)
theorem ee_or (ha : EE X W a fa) (hb : EE X W (.BoolOp .Or (b :: rest) pos) fb) : EE X W (.BoolOp .Or (a :: b :: rest) pos) (E.or fa fb) := by
  refine PE.weak (pe_or ha hb) fun σ H Q ⟨ρ, I, φ, gd, h⟩ => ?_
  refine boolE (P := PostE X.K X.mg W σ I H (al φ) Q) gd h (fun _ _ z => z) (fun z => z) fun x ρ1 h H1 I1 φ1 s1 gd1 => ⟨x, rfl, ?_⟩
  cases x with
  | true => rw [if_pos rfl] at h ⊢; exact fin_d (h.shift s1) gd1 (fun _ z => z) (.bl _)
  | false => rw [if_neg Bool.false_ne_true] at h ⊢; exact ⟨ρ1, I1, φ1, gd1, h.shift s1⟩
theorem ee_not (ha : EE X W a fa) : EE X W (.UnaryOp .Not a pos) (E.not fa) := by
  refine PE.weak (pe_not ha) fun σ H Q ⟨ρ, I, φ, gd, h⟩ => ?_
  exact boolE (P := PostE X.K X.mg W σ I H (al φ) Q) gd h (fun _ _ z => z) (fun z => z) fun x ρ1 h H1 I1 φ1 s1 gd1 => ⟨x, rfl, fin_d (h.shift s1) gd1 (fun _ z => z) (.bl _)⟩
theorem ee_if {e : Expr} (hc : ET X W e ta) (ha : EE X W a fa) (hb : EE X W b fb) : EE X W (.IfExp e a b pos) (E.ifE ta fa fb) := by
  refine PE.weak (pe_ifExp hc ha hb) fun σ H Q ⟨ρ, I, φ, gd, h⟩ => ?_
  refine bindT (P := PostE X.K X.mg W σ I H (al φ) Q) gd h (fun _ _ z => z) (fun z => z) fun x ρ1 _ h H1 I1 φ1 s1 gd1 => ?_
  cases x with
  | true => rw [if_pos rfl] at h ⊢; exact ⟨ρ1, I1, φ1, gd1, h.shift s1⟩
  | false => rw [if_neg Bool.false_ne_true] at h ⊢; exact ⟨ρ1, I1, φ1, gd1, h.shift s1⟩

/-! ### a reckoning in a frozen world -/
theorem frzS_spec {o : O} {x : D} : E.frzS o = .d x → EV.frz o = some x := by
  intro h
  cases o with
  | d y => simp only [E.frzS] at h; cases h; rfl
  | un => simp [E.frzS, EV.frz] at h
  | _ =>
    simp only [E.frzS] at h
    split at h
    · cases h; assumption
    · cases h
theorem frzS_case (o : O) : E.frzS o = .un ∨ ∃ x, E.frzS o = .d x := by
  cases o with
  | d y => exact .inr ⟨y, rfl⟩
  | _ =>
    simp only [E.frzS]
    split
    · exact .inr ⟨_, rfl⟩
    · exact .inl rfl
theorem Gd.frzAll {K : PySem.W.Frag} {mg : Str → Option Value} {I H : Hp} {φ : Ph} {ρ : Env} {σ : St} (gd : Gd K mg I H φ ρ σ) : Gd K mg (addI I H (al φ)) H (fun _ => noP) (ρ.map E.frzS) σ := by
  have hd : ∀ a, al φ a → I a = none := fun a ⟨i, q⟩ => gd.dj i a q
  refine ⟨addI_le gd.le, fun _ _ q => q.elim, fun _ _ q => q.elim, fun _ _ _ q => q.elim, fun i o e n => ?_⟩
  rw [List.getElem?_map] at e
  cases e1 : ρ[i]? with
  | none => rw [e1] at e; cases e
  | some p =>
    rw [e1] at e
    have e' : E.frzS p = o := Option.some.inj e
    rcases frzS_case p with z | ⟨x, z⟩
    · exact (n (e' ▸ z)).elim
    · have ne : p ≠ .un := by intro q; subst q; simp [E.frzS, EV.frz] at z
      obtain ⟨v, e2, w⟩ := gd.sl i p e1 ne
      refine ⟨v, e2, ?_⟩
      rw [← e', z]
      exact .d (Own.frz (RdLe.of (addI_same hd)) (fun a u s q => by rw [addI_in ⟨i, s⟩]; exact q) w (frzS_spec z))
/-- nothing that stood has changed: back in the old world -/
theorem Gd.back {K : PySem.W.Frag} {mg : Str → Option Value} {I H H' : Hp} {φ : Ph} {ρ : Env} {σ : St} (gd : Gd K mg I H φ ρ σ) (s : Same H H') : Gd K mg I H' φ ρ σ ∧ Stp I H (al φ) I H' (al φ) :=
  ⟨⟨gd.le.trans s, gd.dj, (fun i a q e => by
      obtain ⟨o, h⟩ := Option.ne_none_iff_exists'.mp (gd.th i a q)
      rw [s a o h] at e; cases e),
    gd.sep, (fun i o e n => by
      obtain ⟨v, e1, w⟩ := gd.sl i o e n
      exact ⟨v, e1, w.step (RdLe.of (Same.refl _)) fun a u _ q => s a u q⟩)⟩, ⟨Same.refl _, fun a o e _ => s a o e, fun _ q => .inl q, fun _ _ e => .inl e⟩⟩
theorem al_noP {a : Addr} (h : al (fun _ => noP) a) : False := h.elim fun _ q => q
theorem den_atom {K : PySem.W.Frag} {I J : Hp} {x : D} {v : V} (h : E.isAtom x = true) (q : Den K I x v) : Den K J x v := by
  cases q with
  | non => exact .non
  | bl b => exact .bl b
  | int i => exact .int i
  | str z => exact .str z
  | list _ _ => cases h
  | tuple _ _ => cases h
  | dict _ _ => cases h
  | dictT _ _ _ => cases h
  | exn _ => cases h
theorem PostX.back {K : PySem.W.Frag} {mg : Str → Option Value} {I H : Hp} {φ : Ph} {ρ ρ0 : Env} {σ : St} {n : Str} (gd : Gd K mg I H φ ρ σ) (h : PostX K mg W σ I H (al φ) n ρ) :
    PostX K mg W σ (addI I H (al φ)) H (al fun _ => noP) n ρ0 := fun C H' I' φ' e s g => by
  obtain ⟨g1, s1⟩ := gd.back fun a o q => s.kp a o q al_noP
  exact h C H' I φ e s1 g1
theorem ee_borrow (ha : EE X W a fa) : EE X W a (E.borrow fa) := by
  refine PE.weak ha fun σ H Q ⟨ρ, I, φ, gd, h⟩ => ⟨_, _, _, gd.frzAll, ?_⟩
  unfold E.borrow at h
  cases e : fa (ρ.map E.frzS) with
  | stuck => rw [e] at h; exact h.elim
  | exc n ρ1 => rw [e] at h; exact PostX.back gd h
  | ok r ρ1 =>
    rw [e] at h
    intro v H' I' φ' G s g t w
    cases r with
    | d x =>
      simp only at h
      split at h
      · rename_i ha
        obtain ⟨g1, s1⟩ := gd.back fun a o q => s.kp a o q al_noP
        cases w with
        | d q => exact h v H' I φ noP (s1.sub fun a z => z.elim id False.elim) g1 Tm.none (.d (den_atom ha q))
      · exact h.elim
    | _ => exact h.elim
theorem et_borrow (ha : ET X W a ta) : ET X W a (T.borrow ta) := by
  refine PT.weak ha fun σ H Q ⟨ρ, I, φ, gd, h⟩ => ⟨_, _, _, gd.frzAll, ?_⟩
  unfold T.borrow at h
  cases e : ta (ρ.map E.frzS) with
  | stuck => rw [e] at h; exact h.elim
  | exc n ρ1 => rw [e] at h; exact PostX.back gd h
  | ok r ρ1 =>
    rw [e] at h
    intro H' I' φ' s g
    obtain ⟨g1, s1⟩ := gd.back fun a o q => s.kp a o q al_noP
    exact h H' I φ s1 g1
end

/-! ### statements -/
inductive Fl where
  | nx
  | ret (r : O)
  | brk
  | cnt
structure Keeps (io : List Nat) (σ σ' : St) : Prop where
  len : σ'.length = σ.length
  at_ : ∀ i ∈ io, σ'[i]? = σ[i]?
section
variable (K : PySem.W.Frag) (mg : Str → Option Value) (W : WX) (io : List Nat)
def PostS (σ : St) (I H : Hp) (F : Pd) (D : Ends) : R Fl → Prop
  | .ok .nx ρ' => ∀ (σ' : St) (H' I' : Hp) (φ' : Ph), Keeps io σ σ' → Stp I H F I' H' (al φ') → Gd K mg I' H' φ' ρ' σ' → D.nx σ' H'
  | .ok .brk ρ' => ∀ (σ' : St) (H' I' : Hp) (φ' : Ph), Keeps io σ σ' → Stp I H F I' H' (al φ') → Gd K mg I' H' φ' ρ' σ' → D.bk σ' H'
  | .ok .cnt ρ' => ∀ (σ' : St) (H' I' : Hp) (φ' : Ph), Keeps io σ σ' → Stp I H F I' H' (al φ') → Gd K mg I' H' φ' ρ' σ' → D.ct σ' H'
  | .ok (.ret r) ρ' => ∀ (v : V) (σ' : St) (H' I' : Hp) (φ' : Ph) (G : Pd), Keeps io σ σ' → Stp I H F I' H' (orP (al φ') G) → Gd K mg I' H' φ' ρ' σ' → Tm I' H' φ' G → Own K mg I' H' r v G → D.rt v H'
  | .exc c ρ' => ∀ (C : Addr) (σ' : St) (H' I' : Hp) (φ' : Ph), Keeps io σ σ' → mg c = some (.ref C) → Stp I H F I' H' (al φ') → Gd K mg I' H' φ' ρ' σ' → W (.ref C) none σ' H'
  | .stuck => False
def rdS (f : M Fl) : TS := fun D σ H => ∃ ρ I φ, Gd K mg I H φ ρ σ ∧ PostS K mg W io σ I H (al φ) D (f ρ)
/-- a target's reading: a value in hand is stored -/
def PostG (σ : St) (I H : Hp) (F : Pd) (Q : St → Hp → Prop) : R Unit → Prop
  | .ok _ ρ' => ∀ (σ' : St) (H' I' : Hp) (φ' : Ph), Keeps io σ σ' → Stp I H F I' H' (al φ') → Gd K mg I' H' φ' ρ' σ' → Q σ' H'
  | .exc _ _ => False
  | .stuck => False
def rdG (g : O → M Unit) : TG := fun v σ H Q => ∃ ρ I φ o G, Gd K mg I H φ ρ σ ∧ Tm I H φ G ∧ Own K mg I H o v G ∧ PostG K mg io σ I H (orP (al φ) G) Q (g o ρ)
def rdGs (g : List O → M Unit) : TGs := fun vs σ H Q => ∃ ρ I φ os G, Gd K mg I H φ ρ σ ∧ Tm I H φ G ∧ Owns K mg I H os vs G ∧ PostG K mg io σ I H (orP (al φ) G) Q (g os ρ)
end
abbrev ES (X : Cx) (W : WX) (io : List Nat) (st : Stmt) (f : M Fl) : Prop := PS X st (rdS X.K X.mg W io f)
abbrev EB (X : Cx) (W : WX) (io : List Nat) (st : List Stmt) (f : M Fl) : Prop := PSs X st (rdS X.K X.mg W io f)
abbrev EG (X : Cx) (io : List Nat) (tg : Expr) (g : O → M Unit) : Prop := PG X tg (rdG X.K X.mg io g)
abbrev EGs (X : Cx) (io : List Nat) (ts : List Expr) (g : List O → M Unit) : Prop := PGs X ts (rdGs X.K X.mg io g)
theorem Keeps.refl {io : List Nat} (σ : St) : Keeps io σ σ := ⟨rfl, fun _ _ => rfl⟩
theorem Keeps.trans {io : List Nat} {σ σ1 σ2 : St} (a : Keeps io σ σ1) (b : Keeps io σ1 σ2) : Keeps io σ σ2 := ⟨b.len.trans a.len, fun i h => (b.at_ i h).trans (a.at_ i h)⟩
section
variable {K : PySem.W.Frag} {mg : Str → Option Value} {W : WX} {io : List Nat} {σ σ1 : St} {I H I1 H1 : Hp} {F F1 : Pd} {D : Ends}
theorem PostS.shift {r : R Fl} (k : Keeps io σ σ1) (s : Stp I H F I1 H1 F1) (h : PostS K mg W io σ I H F D r) : PostS K mg W io σ1 I1 H1 F1 D r := by
  cases r with
  | ok r ρ' =>
    cases r with
    | nx => exact fun σ' H' I' φ' k' t => h σ' H' I' φ' (k.trans k') (s.trans t)
    | brk => exact fun σ' H' I' φ' k' t => h σ' H' I' φ' (k.trans k') (s.trans t)
    | cnt => exact fun σ' H' I' φ' k' t => h σ' H' I' φ' (k.trans k') (s.trans t)
    | ret r => exact fun v σ' H' I' φ' G k' t => h v σ' H' I' φ' G (k.trans k') (s.trans t)
  | exc c ρ' => exact fun C σ' H' I' φ' k' e t => h C σ' H' I' φ' (k.trans k') e (s.trans t)
  | stuck => exact h
theorem PostS.exc {c : Str} {ρ' : Env} (h : PostS K mg W io σ I H F D (.exc c ρ')) : PostX K mg W σ I H F c ρ' := fun C H' I' φ' e s g => h C σ H' I' φ' (Keeps.refl _) e s g
end
namespace S
def nx : M Fl := M.ret .nx
def seq (f g : M Fl) : M Fl := fun ρ => match f ρ with
  | .ok .nx ρ1 => g ρ1
  | r => r
def expr (f : M O) : M Fl := f.bind fun _ => M.ret .nx
def ret (f : M O) : M Fl := f.bind fun o => M.ret (.ret o)
def retN : M Fl := M.ret (.ret (.d .none))
def ifS (t : M Bool) (f g : M Fl) : M Fl := t.bind fun b => if b then f else g
def brk : M Fl := M.ret .brk
def cnt : M Fl := M.ret .cnt
def asg (f : M O) (g : O → M Unit) : M Fl := f.bind fun o => fun ρ => match g o ρ with
  | .ok _ ρ' => .ok .nx ρ'
  | _ => .stuck
def raise (c : Str) : M Fl := fun ρ => .exc c ρ
end S
namespace G
def nm (i : Nat) : O → M Unit := fun o ρ => .ok () (ρ.set i o)
def nil : List O → M Unit := fun os => match os with
  | [] => M.ret ()
  | _ => M.fail
def cons (g : O → M Unit) (gs : List O → M Unit) : List O → M Unit := fun os => match os with
  | o :: r => (g o).bind fun _ => gs r
  | _ => M.fail
def titems : O → Option (List O)
  | .tup os => some os
  | .d (.tuple xs) => some (xs.map .d)
  | _ => none
def litems : O → Option (List O)
  | .lst os => some os
  | .d (.list xs) => some (xs.map .d)
  | _ => none
def tup (n : Nat) (gs : List O → M Unit) : O → M Unit := fun o => match titems o with
  | some os => if os.length = n then gs os else M.fail
  | none => M.fail
def lst (n : Nat) (gs : List O → M Unit) : O → M Unit := fun o => match litems o with
  | some os => if os.length = n then gs os else M.fail
  | none => M.fail
end G
section
variable {K : PySem.W.Frag} {mg : Str → Option Value} {I H : Hp} {S : Pd}
theorem Owns.ofDen : ∀ {xs : List D} {vs : List V}, DenL K I xs vs → Owns K mg I H (xs.map .d) vs S
  | _, _, .nil => .nil
  | _, _, .cons a b => .cons (S1 := noP) (S2 := S) (.d a) (Owns.ofDen b) (fun _ q => q.elim) (fun _ q => q) (fun _ q => q.elim)
theorem Own.titems {o : O} {v : V} {os : List O} (w : Own K mg I H o v S) (e : G.titems o = some os) : ∃ a vs, v = .ref a ∧ I a = some (.tup vs) ∧ Owns K mg I H os vs S := by
  cases o with
  | tup xs =>
    cases e
    cases w with
    | tup a b => exact ⟨_, _, rfl, a, b⟩
  | d x =>
    cases x with
    | tuple xs =>
      cases e
      cases w with
      | d q =>
        cases q with
        | tuple a b => exact ⟨_, _, rfl, a, Owns.ofDen b⟩
    | _ => cases e
  | _ => cases e
theorem Own.litems {o : O} {v : V} {os : List O} (w : Own K mg I H o v S) (le : Same I H) (e : G.litems o = some os) : ∃ a vs, v = .ref a ∧ H a = some (.lst vs) ∧ Owns K mg I H os vs S := by
  cases o with
  | lst xs =>
    cases e
    cases w with
    | lst a b c d _ => exact ⟨_, _, rfl, a, c.mono d⟩
  | d x =>
    cases x with
    | list xs =>
      cases e
      cases w with
      | d q =>
        cases q with
        | list a b => exact ⟨_, _, rfl, le _ _ a, Owns.ofDen b⟩
    | _ => cases e
  | _ => cases e
theorem sqT_le {a : Addr} {vs : List V} (le : Same I H) (q : SqT K I a vs) : SqT K H a vs := (RdLe.of le).sqT q
end

section
variable {X : Cx} {W : WX} {io : List Nat} {e a b : Expr} {st : Stmt} {sts : List Stmt} {f : M O} {fs gs : M Fl} {t : M Bool} {pos : Pos}
theorem eb_nil : EB X W io [] S.nx := PSs.weak pss_nil fun D σ H ⟨ρ, I, φ, gd, h⟩ => h σ H I φ (Keeps.refl _) (Stp.refl fun _ z => z) gd
theorem seq_read {D : Ends} {σ : St} {H : Hp} (h : rdS X.K X.mg W io (S.seq fs gs) D σ H) : tSeq (rdS X.K X.mg W io fs) (rdS X.K X.mg W io gs) D σ H := by
  obtain ⟨ρ, I, φ, gd, h⟩ := h
  refine ⟨ρ, I, φ, gd, ?_⟩
  unfold S.seq at h
  cases e : fs ρ with
  | stuck => rw [e] at h; exact h
  | exc c ρ1 => rw [e] at h; exact h
  | ok r ρ1 =>
    rw [e] at h
    cases r with
    | nx => exact fun σ' H' I' φ' k s g => ⟨ρ1, I', φ', g, PostS.shift k s h⟩
    | brk => exact h
    | cnt => exact h
    | ret r => exact h
theorem eb_cons (h1 : ES X W io st fs) (h2 : EB X W io sts gs) : EB X W io (st :: sts) (S.seq fs gs) := PSs.weak (pss_cons h1 h2) fun _ _ _ h => seq_read h
theorem eb_one (h1 : ES X W io st fs) : EB X W io [st] fs := pss_one h1
theorem es_brk : ES X W io (.Break pos) S.brk := PS.weak ps_break fun D σ H ⟨ρ, I, φ, gd, h⟩ => h σ H I φ (Keeps.refl _) (Stp.refl fun _ z => z) gd
theorem es_cnt : ES X W io (.Continue pos) S.cnt := PS.weak ps_continue fun D σ H ⟨ρ, I, φ, gd, h⟩ => h σ H I φ (Keeps.refl _) (Stp.refl fun _ z => z) gd
theorem es_pass : ES X W io (.Pass pos) S.nx := PS.weak ps_pass fun D σ H ⟨ρ, I, φ, gd, h⟩ => h σ H I φ (Keeps.refl _) (Stp.refl fun _ z => z) gd
theorem es_expr (he : EE X W e f) (hs : swapsWith e none pos.line X.env = pure false := by rfl) : ES X W io (.Expr e pos) (S.expr f) := by
  refine PS.weak (ps_expr he hs) fun D σ H ⟨ρ, I, φ, gd, h⟩ => ?_
  exact bindE (P := PostS X.K X.mg W io σ I H (al φ) D) gd h (fun _ _ z => z.exc) (fun z => z) fun x ρ1 _ h v1 H1 I1 φ1 G1 s1 gd1 t1 w1 => h σ H1 I1 φ1 (Keeps.refl _) (s1.sub fun _ => .inl) gd1
theorem es_ret (he : EE X W e f) : ES X W io (.Return (some e) pos) (S.ret f) := by
  refine PS.weak (ps_ret he) fun D σ H ⟨ρ, I, φ, gd, h⟩ => ?_
  exact bindE (P := PostS X.K X.mg W io σ I H (al φ) D) gd h (fun _ _ z => z.exc) (fun z => z) fun x ρ1 _ h v1 H1 I1 φ1 G1 s1 gd1 t1 w1 => h v1 σ H1 I1 φ1 G1 (Keeps.refl _) s1 gd1 t1 w1
theorem es_retN : ES X W io (.Return none pos) S.retN := PS.weak ps_retN fun D σ H ⟨ρ, I, φ, gd, h⟩ => h _ σ H I φ noP (Keeps.refl _) (Stp.refl fun _ z => z.elim id False.elim) gd Tm.none (.d .non)
theorem es_if (hc : ET X W e t) (ha : EB X W io sts fs) {sts2 : List Stmt} (hb : EB X W io sts2 gs) : ES X W io (.If e sts sts2 pos) (S.ifS t fs gs) := by
  refine PS.weak (ps_if hc ha hb) fun D σ H ⟨ρ, I, φ, gd, h⟩ => ?_
  refine bindT (P := PostS X.K X.mg W io σ I H (al φ) D) gd h (fun _ _ z => z.exc) (fun z => z) fun x ρ1 _ h H1 I1 φ1 s1 gd1 => ?_
  cases x with
  | true => rw [if_pos rfl] at h ⊢; exact ⟨ρ1, I1, φ1, gd1, PostS.shift (Keeps.refl _) s1 h⟩
  | false => rw [if_neg Bool.false_ne_true] at h ⊢; exact ⟨ρ1, I1, φ1, gd1, PostS.shift (Keeps.refl _) s1 h⟩

/-! ### targets -/
theorem PostG.shift {K : PySem.W.Frag} {mg : Str → Option Value} {io : List Nat} {σ σ1 : St} {I H I1 H1 : Hp} {F F1 : Pd} {Q : St → Hp → Prop} {r : R Unit} (k : Keeps io σ σ1) (s : Stp I H F I1 H1 F1) (h : PostG K mg io σ I H F Q r) : PostG K mg io σ1 I1 H1 F1 Q r := by
  cases r with
  | ok r ρ' => exact fun σ' H' I' φ' k' t => h σ' H' I' φ' (k.trans k') (s.trans t)
  | exc c ρ' => exact h
  | stuck => exact h
theorem Tm.past {K : PySem.W.Frag} {mg : Str → Option Value} {I H I1 H1 : Hp} {F S : Pd} {φ1 : Ph} {os : List O} {vs : List V} (s : Stp I H F I1 H1 (al φ1)) (nf : ∀ x, S x → ¬ F x) (dj : ∀ x, S x → I x = Option.none) (th : ∀ x, S x → H x ≠ Option.none)
    (w : Owns K mg I H os vs S) : Tm I1 H1 φ1 S ∧ Owns K mg I1 H1 os vs S := by
  have tk : ∀ a, S a → ∃ o, H a = some o := fun a g => Option.ne_none_iff_exists'.mp (th a g)
  refine ⟨⟨fun a q => ?_, fun a q => ?_, fun i a q z => ?_⟩, w.step (RdLe.of s.li) fun a u g e => s.kp a u e (nf a g)⟩
  · cases e : I1 a with
    | none => rfl
    | some o =>
      obtain ⟨o', e'⟩ := tk a q
      rcases s.fi a o e with z | z | z
      · rw [dj a q] at z; cases z
      · exact absurd z (nf a q)
      · rw [e'] at z; cases z
  · obtain ⟨o, e⟩ := tk a q
    rw [s.kp a o e (nf a q)]
    exact Option.some_ne_none o
  · obtain ⟨o', e'⟩ := tk a q
    rcases s.fr a ⟨i, z⟩ with y | y
    · exact nf a q y
    · rw [e'] at y; cases y
def notIn (n : Nat) (vs : List Nat) : List Nat := (List.range n).filter fun i => !vs.contains i
theorem not_notIn {n i : Nat} {vs : List Nat} (h : i ∈ vs) : i ∉ notIn n vs := fun z => by
  unfold notIn at z
  rw [List.mem_filter] at z
  have := z.2
  simp [h] at this
theorem keeps_set {io : List Nat} {σ : St} {i : Nat} {v : Option V} (hi : i ∉ io) : Keeps io σ (σ.set i v) := ⟨List.length_set, fun j hj => List.getElem?_set_ne (fun z => hi (by rw [z]; exact hj))⟩
theorem eg_nm (i : Nat) {x : Str} (hN : X.N.Nodup) (hi : X.N[i]? = some x := by rfl) (hx : Loc X.env.scope x := by first | exact Or.inl rfl | exact Or.inr rfl) (hio : i ∉ io := by first | decide | exact not_notIn (by decide))
    (hf : X.fn x = true ∨ X.env.scope.names.lookup x = some .local := by first | exact .inl rfl | exact .inr rfl | assumption) : EG X io (.Name x pos) (G.nm i) := by
  refine ⟨fun pins s σ H v u Q I r h => ?_⟩
  obtain ⟨ρ, I', φ, o, G, gd, tm, w, h⟩ := h
  refine (pg_name hN hi hx hf).run pins s σ H v u Q I r ?_
  have hσ : i < σ.length := by rw [I.len]; exact (List.getElem?_eq_some_iff.mp hi).1
  refine h (σ.set i (some v)) H I' (setP φ i G) (keeps_set hio) (Stp.refl fun a z => (al_setP z).symm) (gd.upd tm.dj tm.th (fun j a g _ => tm.sp j a g) (fun j hj => List.getElem?_set_ne (Ne.symm hj)) fun _ _ => ⟨v, List.getElem?_set_self hσ, w⟩)
theorem egs_nil : EGs X io [] G.nil := by
  refine ⟨fun pins s σ H vs us Q I r ⟨ρ, I', φ, os, G, gd, tm, w, h⟩ => ?_⟩
  refine pgs_nil.run pins s σ H vs us Q I r ?_
  cases w with
  | nil => exact ⟨rfl, h σ H I' φ (Keeps.refl _) (Stp.refl fun _ => .inl) gd⟩
  | cons _ _ _ _ _ => exact h.elim
theorem egs_cons {ts : List Expr} {g : O → M Unit} {g2 : List O → M Unit} (h1 : EG X io e g) (h2 : EGs X io ts g2)
    (hs : (assignEach (e :: ts) X.env).map (·.2) = assign e X.env :: (assignEach ts X.env).map (·.2) := by rfl) : EGs X io (e :: ts) (G.cons g g2) := by
  refine ⟨fun pins s σ H vs us Q I r ⟨ρ, I', φ, os, G, gd, tm, w, h⟩ => ?_⟩
  refine (pgs_cons h1 h2 hs).run pins s σ H vs us Q I r ?_
  cases w with
  | nil => exact h.elim
  | @cons o os' v vs' _ S1 S2 a b c d dis =>
    refine ⟨v, vs', rfl, ρ, I', φ, o, S1, gd, tm.mono c, a, ?_⟩
    change PostG X.K X.mg io σ I' H (orP (al φ) G) Q ((EV.G.cons g g2) (o :: os') ρ) at h
    unfold EV.G.cons M.bind at h
    simp only at h
    cases e : g o ρ with
    | stuck => rw [e] at h; exact h.elim
    | exc n ρ1 => rw [e] at h; exact h.elim
    | ok _ ρ1 =>
      rw [e] at h
      intro σ1 H1 I1 φ1 k s1 gd1
      have nf : ∀ x, S2 x → ¬ orP (al φ) S1 x := fun x q z => z.elim (fun ⟨i, y⟩ => tm.sp i x (d x q) y) fun y => dis x y q
      obtain ⟨t2, w2⟩ := Tm.past s1 nf (fun x q => tm.dj x (d x q)) (fun x q => tm.th x (d x q)) b
      refine ⟨ρ1, I1, φ1, os', S2, gd1, t2, w2, ?_⟩
      have s2 : Stp I' H (orP (al φ) G) I1 H1 (orP (al φ1) S2) := by
        have s3 := (s1.frame (G := S2) fun x q => tm.th x (d x q)).from (F2 := orP (al φ) G) fun x z => by
          rcases z with (z | z) | z
          · exact .inl z
          · exact .inr (c x z)
          · exact .inr (d x z)
        exact s3
      exact PostG.shift k s2 h
theorem eg_tup {es : List Expr} {k : Nat} {g : List O → M Unit} {n : Nat} (hc : X.calm = true) (hg : EGs X io es g)
    (hn : (assignEach es X.env).length = n := by rfl) (hst : (assignEach es X.env).findIdx? (·.1) = none := by rfl) : EG X io (.Tuple es k pos) (G.tup n g) := by
  refine ⟨fun pins s σ H v u Q I r ⟨ρ, I', φ, o, G, gd, tm, w, h⟩ => ?_⟩
  refine (pg_tup hc hg hn hst).run pins s σ H v u Q I r ?_
  unfold EV.G.tup at h
  cases e : EV.G.titems o with
  | none => rw [e] at h; exact h.elim
  | some os =>
    rw [e] at h
    simp only at h
    by_cases z : os.length = n
    · rw [if_pos z] at h
      obtain ⟨a, vs, rfl, q, ws⟩ := w.titems e
      exact ⟨a, vs, rfl, SqT.of (gd.le _ _ q), by rw [ws.len]; exact z, ρ, I', φ, os, G, gd, tm, ws, h⟩
    · rw [if_neg z] at h; exact h.elim
theorem eg_lst {es : List Expr} {k : Nat} {g : List O → M Unit} {n : Nat} (hc : X.calm = true) (hg : EGs X io es g)
    (hn : (assignEach es X.env).length = n := by rfl) (hst : (assignEach es X.env).findIdx? (·.1) = none := by rfl) : EG X io (.Tuple es k pos) (G.lst n g) := by
  refine ⟨fun pins s σ H v u Q I r ⟨ρ, I', φ, o, G, gd, tm, w, h⟩ => ?_⟩
  refine (pg_lst hc hg hn hst).run pins s σ H v u Q I r ?_
  unfold EV.G.lst at h
  cases e : EV.G.litems o with
  | none => rw [e] at h; exact h.elim
  | some os =>
    rw [e] at h
    simp only at h
    by_cases z : os.length = n
    · rw [if_pos z] at h
      obtain ⟨a, vs, rfl, q, ws⟩ := w.litems gd.le e
      exact ⟨a, vs, rfl, SqL.of q, by rw [ws.len]; exact z, ρ, I', φ, os, G, gd, tm, ws, h⟩
    · rw [if_neg z] at h; exact h.elim
/-- target = value -/
theorem asg_read {g : O → M Unit} {D : Ends} {σ : St} {H : Hp} (h : rdS X.K X.mg W io (S.asg f g) D σ H) : tAsg (rdE X.K X.mg W f) (rdG X.K X.mg io g) D σ H := by
  obtain ⟨ρ, I, φ, gd, h⟩ := h
  refine bindE (P := PostS X.K X.mg W io σ I H (al φ) D) gd h (fun _ _ z => z.exc) (fun z => z) fun x ρ1 _ h v1 H1 I1 φ1 G1 s1 gd1 t1 w1 => ?_
  refine ⟨ρ1, I1, φ1, x, G1, gd1, t1, w1, ?_⟩
  have h' := PostS.shift (Keeps.refl _) s1 h
  cases e : g x ρ1 with
  | stuck => rw [e] at h'; exact h'.elim
  | exc n ρ2 => rw [e] at h'; exact h'.elim
  | ok _ ρ2 => rw [e] at h'; exact fun σ' H' I' φ' k s g => h' σ' H' I' φ' k s g
theorem es_asg {tg : Expr} {g : O → M Unit} (he : EE X W e f) (hg : EG X io tg g) (hs : swapsWithSole [tg] e pos.line X.env = pure false := by rfl) (hw : swappedStores [tg] e X.env = pure none := by rfl)
    (h1 : (assignEach [tg] X.env).map (·.2) = [assign tg X.env] := by rfl) : ES X W io (.Assign [tg] e pos) (S.asg f g) :=
  PS.weak (ps_asg he hg hs hw h1) fun _ _ _ h => asg_read h
end
end EV

/-! The layer EV, part E: what is walked; for, while, comprehensions. -/
namespace EV
open PySem PySem.Spec PyProof.Rows L2

/-- J walks ds, as long as what is in I stands -/
structure IsWalk (K : PySem.W.Frag) (J : It) (ds : List D) (I : Hp) : Prop where
  go : ∀ H2 I2 i, Same I I2 → Same I2 H2 → i < ds.length → J.go i H2
  stop : ∀ H2 I2, Same I I2 → Same I2 H2 → J.stop ds.length H2
  yld : ∀ H2 I2 i x H3 d, Same I I2 → Same I2 H2 → ds[i]? = some d → J.yld i H2 x H3 → ∃ I3, Same I2 I3 ∧ Same I3 H3 ∧ Same H2 H3 ∧ (∀ a o, I3 a = some o → I2 a = some o ∨ H2 a = none) ∧ Den K I3 d x
section
variable (K : PySem.W.Frag) (mg : Str → Option Value) (W : WX)
def PostI (σ : St) (I H : Hp) (F : Pd) (R' : It → Hp → Prop) : R (List D) → Prop
  | .ok ds ρ' => ∀ (J : It) (H' I' : Hp) (φ' : Ph), Stp I H F I' H' (al φ') → Gd K mg I' H' φ' ρ' σ → IsWalk K J ds I' → R' J H'
  | .exc c ρ' => PostX K mg W σ I H F c ρ'
  | .stuck => False
def rdI (f : M (List D)) : TI := fun σ H R' => ∃ ρ I φ, Gd K mg I H φ ρ σ ∧ PostI K mg W σ I H (al φ) R' (f ρ)
end
abbrev EI (X : Cx) (W : WX) (tg it : Expr) (f : M (List D)) : Prop := PI X tg it (rdI X.K X.mg W f)
section
variable {K : PySem.W.Frag} {mg : Str → Option Value} {W : WX} {I H : Hp} {φ : Ph} {ρ : Env} {σ : St}
theorem Gd.grow {I3 H3 : Hp} (gd : Gd K mg I H φ ρ σ) (h1 : Same I I3) (h2 : Same I3 H3) (h3 : Same H H3) (h4 : ∀ a o, I3 a = some o → I a = some o ∨ H a = none) : Gd K mg I3 H3 φ ρ σ ∧ ∀ F : Pd, (∀ a, al φ a → F a) → Stp I H F I3 H3 (al φ) := by
  refine ⟨⟨h2, fun i a q => ?_, fun i a q e => ?_, gd.sep, fun i o e n => ?_⟩, fun F hf => ⟨h1, fun a o e _ => h3 a o e, fun a q => .inl (hf a q), fun a o e => (h4 a o e).imp id .inr⟩⟩
  · cases e : I3 a with
    | none => rfl
    | some o =>
      rcases h4 a o e with z | z
      · rw [gd.dj i a q] at z; cases z
      · exact (gd.th i a q z).elim
  · obtain ⟨o, h⟩ := Option.ne_none_iff_exists'.mp (gd.th i a q)
    rw [h3 a o h] at e; cases e
  · obtain ⟨v, e1, w⟩ := gd.sl i o e n
    exact ⟨v, e1, w.step (RdLe.of h1) fun a u _ q => h3 a u q⟩
end
def loopF (g : O → M Unit) (fb : M Fl) : List D → M Fl
  | [] => M.ret .nx
  | x :: xs => fun ρ => match g (.d x) ρ with
    | .ok _ ρ1 => (match fb ρ1 with
      | .ok .nx ρ2 => loopF g fb xs ρ2
      | .ok .cnt ρ2 => loopF g fb xs ρ2
      | .ok .brk ρ2 => .ok .nx ρ2
      | r => r)
    | _ => .stuck
def loopW (t : M Bool) (fb : M Fl) : Nat → M Fl
  | 0 => M.fail
  | n + 1 => t.bind fun b => if b then (fun ρ => match fb ρ with
      | .ok .nx ρ2 => loopW t fb n ρ2
      | .ok .cnt ρ2 => loopW t fb n ρ2
      | .ok .brk ρ2 => .ok .nx ρ2
      | r => r) else M.ret .nx
def S.for (f : M (List D)) (g : O → M Unit) (fb : M Fl) : M Fl := f.bind fun ds => loopF g fb ds
def S.while (t : M Bool) (fb : M Fl) (n : Nat) : M Fl := loopW t fb n
section
variable {X : Cx} {W : WX} {io : List Nat} {tg iter e : Expr} {body : List Stmt} {f : M (List D)} {g : O → M Unit} {fb : M Fl} {t : M Bool} {pos : Pos}
theorem drop_cons {α : Type} {l : List α} {i : Nat} (h : i < l.length) : l.drop i = l[i] :: l.drop (i + 1) := by
  rw [← List.getElem_cons_drop h]
theorem es_for (hp : PassesOwn (model X.prog X.w) X.A X.env X.xe) (hc : X.calm = true) (hi : EI X W tg iter f) (hg : EG X io tg g) (hb : EB X W io body fb)
    (hs : ∀ x, foldedSetIterable iter X.env x = pure x := by intro _; rfl) : ES X W io (.For tg iter body [] pos) (S.for f g fb) := by
  refine PS.weak (ps_for hp hc hi hg hb hs) fun D σ H ⟨ρ, I, φ, gd, h⟩ => ⟨ρ, I, φ, gd, ?_⟩
  unfold S.for M.bind at h
  cases e : f ρ with
  | stuck => rw [e] at h; exact h
  | exc c ρ1 => rw [e] at h; exact h.exc
  | ok ds ρ1 =>
    rw [e] at h
    intro J H1 I1 φ1 s1 gd1 wk
    refine ⟨fun i m σ2 H2 => m = ds.length - i ∧ i ≤ ds.length ∧ ∃ ρ2 I2 φ2, Gd X.K X.mg I2 H2 φ2 ρ2 σ2 ∧ Same I1 I2 ∧ PostS X.K X.mg W io σ2 I2 H2 (al φ2) D (loopF g fb (ds.drop i) ρ2),
      ⟨_, rfl, Nat.zero_le _, ρ1, I1, φ1, gd1, Same.refl _, PostS.shift (Keeps.refl _) s1 h⟩, ?_⟩
    rintro i m σ2 H2 ⟨rfl, hi, ρ2, I2, φ2, gd2, le, h2⟩
    by_cases hlt : i < ds.length
    · rw [drop_cons hlt] at h2
      refine .inr ⟨wk.go H2 I2 i le gd2.le hlt, _, fun σ' H' q => q, fun x H3 y => ?_⟩
      obtain ⟨I3, a1, a2, a3, a4, den⟩ := wk.yld H2 I2 i x H3 _ le gd2.le (List.getElem?_eq_getElem hlt) y
      obtain ⟨gd3, st3⟩ := gd2.grow a1 a2 a3 a4
      have s3 := st3 (al φ2) fun _ q => q
      refine ⟨ρ2, I3, φ2, .d ds[i], noP, gd3, Tm.none, .d den, ?_⟩
      have h3 := PostS.shift (Keeps.refl _) s3 h2
      unfold loopF at h3
      cases eg : g (.d ds[i]) ρ2 with
      | stuck => rw [eg] at h3; exact h3
      | exc c ρ4 => rw [eg] at h3; exact h3.elim
      | ok _ ρ4 =>
        rw [eg] at h3
        intro σ4 H4 I4 φ4 k4 s4 gd4
        have s4' : Stp I3 H3 (al φ2) I4 H4 (al φ4) := s4.from fun a q => q.elim id False.elim
        refine ⟨ρ4, I4, φ4, gd4, ?_⟩
        have h4 := PostS.shift k4 s4' h3
        simp only at h4
        have again : ∀ ρ5, PostS X.K X.mg W io σ4 I4 H4 (al φ4) D (loopF g fb (ds.drop (i + 1)) ρ5) → ∀ (σ' : St) (H' I' : Hp) (φ' : Ph), Keeps io σ4 σ' → Stp I4 H4 (al φ4) I' H' (al φ') → Gd X.K X.mg I' H' φ' ρ5 σ' →
            ∃ m', m' < ds.length - i ∧ (m' = ds.length - (i + 1) ∧ i + 1 ≤ ds.length ∧ ∃ ρ2 I2 φ2, Gd X.K X.mg I2 H' φ2 ρ2 σ' ∧ Same I1 I2 ∧ PostS X.K X.mg W io σ' I2 H' (al φ2) D (loopF g fb (ds.drop (i + 1)) ρ2)) :=
          fun ρ5 hq σ' H' I' φ' k s gd5 => ⟨_, by omega, rfl, hlt, ρ5, I', φ', gd5, ((le.trans a1).trans s4.li).trans s.li, PostS.shift k s hq⟩
        cases ef : fb ρ4 with
        | stuck => rw [ef] at h4; exact h4
        | exc c ρ5 => rw [ef] at h4; exact h4
        | ok r ρ5 =>
          rw [ef] at h4
          cases r with
          | nx => exact again ρ5 h4
          | cnt => exact again ρ5 h4
          | brk => exact fun σ' H' I' φ' k s gd5 => h4 σ' H' I' φ' k s gd5
          | ret r => exact h4
    · have ei : i = ds.length := by omega
      subst ei
      rw [List.drop_length] at h2
      exact .inl ⟨wk.stop H2 I2 le gd2.le, h2 σ2 H2 I2 φ2 (Keeps.refl _) (Stp.refl fun _ z => z) gd2⟩
theorem es_while (n : Nat) (hp : PassesOwn (model X.prog X.w) X.A X.env X.xe) (hc : ET X W e t) (hb : EB X W io body fb) : ES X W io (.While e body [] pos) (S.while t fb n) := by
  refine PS.weak (ps_while hp hc hb) fun D σ H ⟨ρ, I, φ, gd, h⟩ => ?_
  refine ⟨fun m σ H => ∃ ρ I φ, Gd X.K X.mg I H φ ρ σ ∧ PostS X.K X.mg W io σ I H (al φ) D (loopW t fb m ρ), ⟨n, ρ, I, φ, gd, h⟩, ?_⟩
  rintro m σ1 H1 ⟨ρ1, I1, φ1, gd1, h1⟩
  cases m with
  | zero => exact h1.elim
  | succ m =>
    refine bindT (P := PostS X.K X.mg W io σ1 I1 H1 (al φ1) D) gd1 h1 (fun _ _ z => z.exc) (fun z => z) fun x ρ2 _ h2 H2 I2 φ2 s2 gd2 => ?_
    have h3 := PostS.shift (Keeps.refl _) s2 h2
    cases x with
    | false => rw [if_neg Bool.false_ne_true] at h3 ⊢; exact h3 σ1 H2 I2 φ2 (Keeps.refl _) (Stp.refl fun _ z => z) gd2
    | true =>
      rw [if_pos rfl] at h3 ⊢
      refine ⟨fun σ' H' => ∃ ρ I φ, Gd X.K X.mg I H' φ ρ σ' ∧ PostS X.K X.mg W io σ' I H' (al φ) D (loopW t fb m ρ), fun σ' H' q => ⟨m, Nat.lt_succ_self m, q⟩, ρ2, I2, φ2, gd2, ?_⟩
      cases ef : fb ρ2 with
      | stuck => rw [ef] at h3; exact h3
      | exc c ρ5 => rw [ef] at h3; exact h3
      | ok r ρ5 =>
        rw [ef] at h3
        cases r with
        | nx => exact fun σ' H' I' φ' k s gd5 => ⟨ρ5, I', φ', gd5, PostS.shift k s h3⟩
        | cnt => exact fun σ' H' I' φ' k s gd5 => ⟨ρ5, I', φ', gd5, PostS.shift k s h3⟩
        | brk => exact h3
        | ret r => exact h3
end

/-! ### comprehensions -/
def wipeE (ρ : Env) : List Nat → Env
  | [] => ρ
  | v :: vs => (wipeE ρ vs).set v .un
def backE (ρ ρ' : Env) : List Nat → Env
  | [] => ρ'
  | v :: vs => (backE ρ ρ' vs).set v (ρ.getD v .un)
def calmE (ρ : Env) (vs : List Nat) : Bool := vs.all fun v => match ρ.getD v .un with
  | .un => true
  | .d _ => true
  | _ => false
def lcF (vs : List Nat) (g : O → M Unit) (t : M Bool) (f : M O) : List D → List O → M (List O)
  | [], acc => M.ret acc
  | x :: xs, acc => fun ρ => match g (.d x) ρ with
    | .ok _ ρ1 => (match t ρ1 with
      | .ok true ρ2 => (match f ρ2 with
        | .ok y ρ3 => if acc.length < 1000000 then lcF vs g t f xs (acc ++ [y]) (wipeE ρ3 vs) else .stuck
        | _ => .stuck)
      | .ok false ρ2 => lcF vs g t f xs acc (wipeE ρ2 vs)
      | _ => .stuck)
    | _ => .stuck
def T.yes : M Bool := M.ret true
def E.lc (vs : List Nat) (fi : M (List D)) (g : O → M Unit) (t : M Bool) (f : M O) : M O := fi.bind fun ds => fun ρ =>
  if calmE ρ vs then (match lcF vs g t f ds [] (wipeE ρ vs) with
    | .ok acc ρ' => .ok (.lst acc) (backE ρ ρ' vs)
    | _ => .stuck) else .stuck
abbrev W0 : WX := fun _ _ _ _ => False
section
variable {σ σ' : St} {vs : List Nat}
theorem wipe_in {i : Nat} (hi : i < σ.length) : ∀ {vs : List Nat}, i ∈ vs → (wipe σ vs)[i]? = some none
  | v :: vs, h => by
    unfold wipe
    by_cases z : i = v
    · subst z; rw [List.getElem?_set_self (by rw [wipe_length]; exact hi)]
    · rw [List.getElem?_set_ne (Ne.symm z)]
      exact wipe_in hi ((List.mem_cons.mp h).resolve_left z)
theorem wipe_keep (k : Keeps (notIn σ.length vs) (wipe σ vs) σ') : wipe σ' vs = wipe σ vs := by
  have hl : σ'.length = σ.length := by rw [k.len, wipe_length]
  apply List.ext_getElem?
  intro i
  by_cases hi : i < σ.length
  · by_cases hv : i ∈ vs
    · rw [wipe_in hi hv, wipe_in (by rw [hl]; exact hi) hv]
    · rw [wipe_out hv, k.at_ i (by unfold notIn; simp [hi, hv])]
  · rw [List.getElem?_eq_none (by rw [wipe_length, hl]; omega), List.getElem?_eq_none (by rw [wipe_length]; omega)]
theorem wipeE_in {ρ : Env} {i : Nat} {o : O} : ∀ {vs : List Nat}, i ∈ vs → (wipeE ρ vs)[i]? = some o → o = .un
  | v :: vs, h, e => by
    unfold wipeE at e
    by_cases z : i = v
    · subst z
      rw [List.getElem?_set] at e
      simp only [if_true] at e
      split at e
      · exact (Option.some.inj e).symm
      · cases e
    · rw [List.getElem?_set_ne (Ne.symm z)] at e
      exact wipeE_in ((List.mem_cons.mp h).resolve_left z) e
theorem wipeE_out {ρ : Env} {i : Nat} : ∀ {vs : List Nat}, i ∉ vs → (wipeE ρ vs)[i]? = ρ[i]?
  | [], _ => rfl
  | v :: vs, h => by
    unfold wipeE
    rw [List.getElem?_set_ne (fun z => h (by rw [z]; exact List.mem_cons_self))]
    exact wipeE_out fun z => h (List.mem_cons_of_mem _ z)
theorem backE_out {ρ ρ' : Env} {i : Nat} : ∀ {vs : List Nat}, i ∉ vs → (backE ρ ρ' vs)[i]? = ρ'[i]?
  | [], _ => rfl
  | v :: vs, h => by
    unfold backE
    rw [List.getElem?_set_ne (fun z => h (by rw [z]; exact List.mem_cons_self))]
    exact backE_out fun z => h (List.mem_cons_of_mem _ z)
theorem backE_in {ρ ρ' : Env} {i : Nat} {o : O} : ∀ {vs : List Nat}, i ∈ vs → (backE ρ ρ' vs)[i]? = some o → o = ρ.getD i .un
  | v :: vs, h, e => by
    unfold backE at e
    by_cases z : i = v
    · subst z
      rw [List.getElem?_set] at e
      simp only [if_true] at e
      split at e
      · exact (Option.some.inj e).symm
      · cases e
    · rw [List.getElem?_set_ne (Ne.symm z)] at e
      exact backE_in ((List.mem_cons.mp h).resolve_left z) e
variable {K : PySem.W.Frag} {mg : Str → Option Value} {I H : Hp} {φ : Ph} {ρ : Env}
/-- into the block -/
theorem Gd.wipe (gd : Gd K mg I H φ ρ σ) : Gd K mg I H (fun i => if i ∈ vs then noP else φ i) (wipeE ρ vs) (L2.wipe σ vs) := by
  refine ⟨gd.le, fun i a q => ?_, fun i a q => ?_, fun i j a q r => ?_, fun i o e n => ?_⟩
  · split at q
    · exact q.elim
    · exact gd.dj i a q
  · split at q
    · exact q.elim
    · exact gd.th i a q
  · split at q
    · exact q.elim
    · split at r
      · exact r.elim
      · exact gd.sep i j a q r
  · by_cases hv : i ∈ vs
    · exact (n (wipeE_in hv e)).elim
    · rw [wipeE_out hv] at e
      obtain ⟨v, e1, w⟩ := gd.sl i o e n
      rw [if_neg hv]
      exact ⟨v, by rw [wipe_out hv]; exact e1, w⟩
/-- and back -/
theorem Gd.unwipe {ρ' : Env} {I' H' : Hp} {φ' : Ph} (gd : Gd K mg I H φ ρ σ) (li : Same I I') (hc : calmE ρ vs = true) (gd' : Gd K mg I' H' φ' ρ' (L2.wipe σ vs)) :
    Gd K mg I' H' (fun i => if i ∈ vs then noP else φ' i) (backE ρ ρ' vs) σ := by
  refine ⟨gd'.le, fun i a q => ?_, fun i a q => ?_, fun i j a q r => ?_, fun i o e n => ?_⟩
  · split at q
    · exact q.elim
    · exact gd'.dj i a q
  · split at q
    · exact q.elim
    · exact gd'.th i a q
  · split at q
    · exact q.elim
    · split at r
      · exact r.elim
      · exact gd'.sep i j a q r
  · by_cases hv : i ∈ vs
    · have eo := backE_in hv e
      have c := List.all_eq_true.mp hc i hv
      rw [← eo] at c
      cases o with
      | un => exact (n rfl).elim
      | d x =>
        have e2 : ρ[i]? = some (.d x) := by
          rw [List.getD_eq_getElem?_getD] at eo
          cases q : ρ[i]? with
          | none => rw [q] at eo; cases eo
          | some o => rw [q] at eo; rw [eo]; rfl
        obtain ⟨v, e1, w⟩ := gd.sl i _ e2 n
        cases w with
        | d q => exact ⟨v, e1, .d (q.mono (RdLe.of li))⟩
      | lst _ => cases c
      | tup _ => cases c
      | dic _ => cases c
      | obj _ _ => cases c
      | exn _ => cases c
      | scr _ => cases c
      | kst _ => cases c
      | dicT _ => cases c
    · rw [backE_out hv] at e
      obtain ⟨v, e1, w⟩ := gd'.sl i o e n
      rw [if_neg hv]
      rw [wipe_out hv] at e1
      exact ⟨v, e1, w⟩
end

section
variable {K : PySem.W.Frag} {mg : Str → Option Value} {I H : Hp} {φ : Ph} {ρ : Env} {σ : St}
theorem Owns.snoc {o : O} {v : V} {G2 : Pd} : ∀ {os : List O} {vs : List V} {G1 : Pd}, Owns K mg I H os vs G1 → Own K mg I H o v G2 → (∀ a, G1 a → ¬ G2 a) → Owns K mg I H (os ++ [o]) (vs ++ [v]) (orP G1 G2)
  | _, _, _, .nil, w, _ => .cons (S2 := noP) w .nil (fun _ => .inr) (fun _ q => q.elim) (fun _ _ q => q)
  | _, _, _, .cons a b c d e, w, dis => .cons a (Owns.snoc b w fun x q => dis x (d x q)) (fun x q => .inl (c x q)) (fun x q => q.elim (fun z => .inl (d x z)) .inr) (fun x q z => z.elim (e x q) (dis x (c x q)))
/-- an object that is in no slot changes -/
theorem Gd.other {p : Addr} {o : HO} (gd : Gd K mg I H φ ρ σ) (hI : I p = none) (hφ : ∀ i, ¬ φ i p) : Gd K mg I (L2.upd H p o) φ ρ σ :=
  ⟨fun a u e => by
      rw [upd_ne (fun z => by rw [z, hI] at e; cases e)]; exact gd.le a u e,
    gd.dj, (fun i a q => by rw [upd_ne (fun z => hφ i (by rw [← z]; exact q))]; exact gd.th i a q), gd.sep, (fun i x e n => by
      obtain ⟨v, e1, w⟩ := gd.sl i x e n
      exact ⟨v, e1, w.step (RdLe.of (Same.refl _)) fun a u s q => by rw [upd_ne (fun z => hφ i (by rw [← z]; exact s))]; exact q⟩)⟩
end
section
variable {X : Cx} {W : WX} {vs : List Nat} {fi : M (List D)} {g : O → M Unit} {t : M Bool} {f : M O}
theorem lc_read {σ : St} {H : Hp} {Q : VK} (hσ : σ.length = X.N.length) (h : rdE X.K X.mg W (E.lc vs fi g t f) σ H Q) :
    tLc (rdI X.K X.mg W fi) (rdG X.K X.mg (notIn X.N.length vs) g) (rdT X.K X.mg W0 t) (rdE X.K X.mg W0 f) vs σ H Q := by
  obtain ⟨ρ, I, φ, gd, h⟩ := h
  refine ⟨ρ, I, φ, gd, ?_⟩
  unfold E.lc M.bind at h
  cases e : fi ρ with
  | stuck => rw [e] at h; exact h
  | exc c ρ1 => rw [e] at h; exact h
  | ok ds ρ1 =>
    rw [e] at h
    intro J H1 I1 φ1 s1 gd1 wk Dd hD
    have h' := PostE.shift s1 h
    simp only at h'
    by_cases hc : calmE ρ1 vs = true
    · rw [if_pos hc] at h'
      cases er : lcF vs g t f ds [] (wipeE ρ1 vs) with
      | stuck => rw [er] at h'; exact h'.elim
      | exc c ρF => rw [er] at h'; exact h'.elim
      | ok accF ρF =>
        rw [er] at h'
        refine ⟨fun i m H2 => m = ds.length - i ∧ i ≤ ds.length ∧ ∃ ρ2 I2 φ2 acc vacc GA, Gd X.K X.mg I2 H2 φ2 ρ2 (wipe σ vs) ∧ Same I1 I2 ∧ H2 Dd = some (.lst vacc) ∧ Owns X.K X.mg I2 H2 acc vacc GA ∧
            Tm I2 H2 φ2 (orP GA fun a => a = Dd) ∧ ¬ GA Dd ∧ Stp I1 H1 (al φ1) I2 H2 (orP (al φ2) (orP GA fun a => a = Dd)) ∧ lcF vs g t f (ds.drop i) acc ρ2 = .ok accF ρF,
          ⟨_, rfl, Nat.zero_le _, wipeE ρ1 vs, I1, fun i => if i ∈ vs then noP else φ1 i, [], [], noP, (gd1.wipe).new hD, Same.refl _, upd_same, .nil, ⟨fun a q => ?_, fun a q => ?_, fun i a q z => ?_⟩, fun z => z, Stp.new hD fun a q => ?_, er⟩, ?_⟩
        · rcases q with q | q
          · exact q.elim
          · rw [q]; exact gd1.free hD
        · rcases q with q | q
          · exact q.elim
          · rw [q, upd_same]; exact Option.some_ne_none _
        · rcases q with q | q
          · exact q.elim
          · split at z
            · exact z
            · rw [q] at z; exact gd1.th i _ z hD
        · rcases q with ⟨i, q⟩ | q | q
          · split at q
            · exact q.elim
            · exact .inl ⟨i, q⟩
          · exact q.elim
          · exact .inr q
        rintro i m H2 ⟨rfl, hi, ρ2, I2, φ2, acc, vacc, GA, gd2, le, hDd, wA, tA, nA, st, hr⟩
        by_cases hlt : i < ds.length
        · rw [drop_cons hlt] at hr
          refine .inr ⟨wk.go H2 I2 i le gd2.le hlt, _, fun H' q => q, fun x H3 y => ?_⟩
          obtain ⟨I3, a1, a2, a3, a4, den⟩ := wk.yld H2 I2 i x H3 _ le gd2.le (List.getElem?_eq_getElem hlt) y
          obtain ⟨gd3, st3⟩ := gd2.grow a1 a2 a3 a4
          have tA3 : Tm I3 H3 φ2 (orP GA fun a => a = Dd) := by
            refine ⟨fun a q => ?_, fun a q z => ?_, tA.sp⟩
            · cases ea : I3 a with
              | none => rfl
              | some o =>
                rcases a4 a o ea with z | z
                · rw [tA.dj a q] at z; cases z
                · exact (tA.th a q z).elim
            · obtain ⟨o, ho⟩ := Option.ne_none_iff_exists'.mp (tA.th a q)
              rw [a3 a o ho] at z; cases z
          have st3' : Stp I1 H1 (al φ1) I3 H3 (orP (al φ2) (orP GA fun a => a = Dd)) := st.trans ((st3 (al φ2) fun _ q => q).frame (G := orP GA fun a => a = Dd) tA.th)
          have wA3 : Owns X.K X.mg I3 H3 acc vacc GA := wA.step (RdLe.of a1) fun a u _ q => a3 a u q
          have hD3 : H3 Dd = some (.lst vacc) := a3 _ _ hDd
          unfold lcF at hr
          refine ⟨ρ2, I3, φ2, .d ds[i], noP, gd3, Tm.none, .d den, ?_⟩
          cases eg : g (.d ds[i]) ρ2 with
          | stuck => rw [eg] at hr; cases hr
          | exc c ρ4 => rw [eg] at hr; cases hr
          | ok _ ρ4 =>
            rw [eg] at hr
            intro σ4 H4 I4 φ4 k4 s4 gd4
            have s4' : Stp I3 H3 (al φ2) I4 H4 (al φ4) := s4.from fun a q => q.elim id False.elim
            have hw : wipe σ4 vs = wipe σ vs := wipe_keep (by rw [hσ]; exact k4)
            refine ⟨hw, ρ4, I4, φ4, gd4, ?_⟩
            have tA4 := (tA3.step (G' := noP) (s4'.sub fun a q => q.elim id False.elim) Tm.none).1.mono (G' := orP GA fun a => a = Dd) fun a => .inl
            have wA4 : Owns X.K X.mg I4 H4 acc vacc GA := (tA3.mono fun a => .inl).owns s4' wA3
            have hD4 : H4 Dd = some (.lst vacc) := s4'.kp _ _ hD3 fun ⟨j, z⟩ => tA3.sp j Dd (.inr rfl) z
            have st4 := st3'.trans (s4'.frame (G := orP GA fun a => a = Dd) tA3.th)
            simp only at hr
            cases et : t ρ4 with
            | stuck => rw [et] at hr; cases hr
            | exc c ρ5 => rw [et] at hr; cases hr
            | ok b ρ5 =>
              rw [et] at hr
              intro H5 I5 φ5 s5 gd5
              have tA5 := (tA4.step (G' := noP) (s5.sub fun a q => q.elim id False.elim) Tm.none).1.mono (G' := orP GA fun a => a = Dd) fun a => .inl
              have wA5 : Owns X.K X.mg I5 H5 acc vacc GA := (tA4.mono fun a => .inl).owns s5 wA4
              have hD5 : H5 Dd = some (.lst vacc) := s5.kp _ _ hD4 fun ⟨j, z⟩ => tA4.sp j Dd (.inr rfl) z
              have st5 := st4.trans (s5.frame (G := orP GA fun a => a = Dd) tA4.th)
              have li5 : Same I1 I5 := ((le.trans a1).trans s4.li).trans s5.li
              have sm : ∀ (φ : Ph) (a : Addr), al (fun i => if i ∈ vs then noP else φ i) a → al φ a := fun φ a ⟨j, q⟩ => by
                simp only at q
                split at q
                · exact q.elim
                · exact ⟨j, q⟩
              cases b with
              | false =>
                rw [if_neg Bool.false_ne_true]
                simp only at hr
                have gw := gd5.wipe (vs := vs)
                rw [hw] at gw
                refine ⟨ds.length - (i + 1), by omega, rfl, hlt, wipeE ρ5 vs, I5, _, acc, vacc, GA, gw, li5, hD5, wA5, ⟨tA5.dj, tA5.th, fun j a q z => ?_⟩, nA, st5.sub fun a q => q.imp (sm _ a) id, hr⟩
                obtain ⟨j', z'⟩ := sm φ5 a ⟨j, z⟩
                exact tA5.sp j' a q z'
              | true =>
                rw [if_pos rfl]
                simp only at hr
                refine ⟨ρ5, I5, φ5, gd5, ?_⟩
                cases ef : f ρ5 with
                | stuck => rw [ef] at hr; cases hr
                | exc c ρ6 => rw [ef] at hr; cases hr
                | ok y ρ6 =>
                  rw [ef] at hr
                  intro v H6 I6 φ6 G6 s6 gd6 t6 w6
                  simp only at hr
                  split at hr
                  case isFalse => cases hr
                  rename_i hz
                  obtain ⟨tt, dis⟩ := tA5.step s6 t6
                  have wA6 : Owns X.K X.mg I6 H6 acc vacc GA := (tA5.mono fun a => .inl).owns s6 wA5
                  have hD6 : H6 Dd = some (.lst vacc) := s6.kp _ _ hD5 fun ⟨j, z⟩ => tA5.sp j Dd (.inr rfl) z
                  have st6 := st5.trans (s6.frame (G := orP GA fun a => a = Dd) tA5.th)
                  refine ⟨vacc, hD6, by rw [wA6.len, sizeLine_eq]; omega, ?_⟩
                  have iD : I6 Dd = none := tt.dj Dd (.inl (.inr rfl))
                  have gw := gd6.wipe (vs := vs)
                  rw [hw] at gw
                  have nD : ∀ j, ¬ φ6 j Dd := fun j => tt.sp j Dd (.inl (.inr rfl))
                  have gw2 := gw.other (p := Dd) (o := .lst (vacc ++ [v])) iD fun j z => by
                    obtain ⟨j', z'⟩ := sm φ6 Dd ⟨j, z⟩
                    exact nD j' z'
                  have nG : ∀ a, orP GA G6 a → a ≠ Dd := fun a q z => by
                    subst z
                    rcases q with q | q
                    · exact nA q
                    · exact dis _ (.inr rfl) q
                  have w7 : Owns X.K X.mg I6 (upd H6 Dd (.lst (vacc ++ [v]))) (acc ++ [y]) (vacc ++ [v]) (orP GA G6) := (wA6.snoc w6 fun a q => dis a (.inl q)).step (RdLe.of (Same.refl _)) fun a u q z => by rw [upd_ne (nG a q)]; exact z
                  refine ⟨ds.length - (i + 1), by omega, rfl, hlt, wipeE ρ6 vs, I6, _, acc ++ [y], vacc ++ [v], orP GA G6, gw2, li5.trans s6.li, upd_same, w7, ⟨fun a q => ?_, fun a q => ?_, fun j a q z => ?_⟩, fun q => nG _ q rfl, ?_, hr⟩
                  · rcases q with (q | q) | q
                    · exact tt.dj a (.inl (.inl q))
                    · exact tt.dj a (.inr q)
                    · exact tt.dj a (.inl (.inr q))
                  · by_cases z : a = Dd
                    · rw [z, upd_same]; exact Option.some_ne_none _
                    · rw [upd_ne z]
                      rcases q with (q | q) | q
                      · exact tt.th a (.inl (.inl q))
                      · exact tt.th a (.inr q)
                      · exact (z q).elim
                  · obtain ⟨j', z'⟩ := sm φ6 a ⟨j, z⟩
                    rcases q with (q | q) | q
                    · exact tt.sp j' a (.inl (.inl q)) z'
                    · exact tt.sp j' a (.inr q) z'
                    · exact tt.sp j' a (.inl (.inr q)) z'
                  · have s7 : Stp I6 H6 (orP (orP (al φ6) G6) (orP GA fun a => a = Dd)) I6 (upd H6 Dd (.lst (vacc ++ [v]))) (orP (orP (al φ6) G6) (orP GA fun a => a = Dd)) :=
                      ⟨Same.refl _, fun a o e nF => by rw [upd_ne (fun z => nF (.inr (.inr z)))]; exact e, fun a q => .inl q, fun a o e => .inl e⟩
                    refine (st6.trans s7).sub fun a q => ?_
                    rcases q with q | (q | q) | q
                    · exact .inl (.inl (sm φ6 a q))
                    · exact .inr (.inl q)
                    · exact .inl (.inr q)
                    · exact .inr (.inr q)
        · have ei : i = ds.length := by omega
          subst ei
          rw [List.drop_length] at hr
          refine .inl ⟨wk.stop H2 I2 le gd2.le, ?_⟩
          unfold lcF M.ret at hr
          cases hr
          have gu := gd1.unwipe (vs := vs) le hc gd2
          have sm : ∀ a, al (fun i => if i ∈ vs then noP else φ2 i) a → al φ2 a := fun a ⟨j, q⟩ => by
            simp only at q
            split at q
            · exact q.elim
            · exact ⟨j, q⟩
          refine h' (.ref Dd) H2 I2 _ (orP GA fun a => a = Dd) (st.sub fun a q => q.imp (sm a) id) gu ⟨tA.dj, tA.th, fun j a q z => ?_⟩ (.lst hDd (.inr rfl) wA (fun _ => .inl) nA)
          obtain ⟨j', z'⟩ := sm a ⟨j, z⟩
          exact tA.sp j' a q z'
    · rw [if_neg hc] at h'; exact h'.elim
end
end EV

/-! The layer EV, part F: what is walked: lists and tuples, ranges, enumerate, zip. -/
namespace EV
open PySem PySem.Spec PyProof.Rows L2

/-! ### lists and tuples alike -/
inductive SK where
  | l
  | t
def SqA (k : SK) (K : PySem.W.Frag) (H : Hp) (a : Addr) (xs : List V) : Prop := match k with
  | .l => SqL K H a xs
  | .t => SqT K H a xs
def ItAt (k : SK) (h : Heap) (it a : Addr) (i : Nat) : Prop := match k with
  | .l => h.IsListIter it a i
  | .t => h.IsTupleIter it a i
def HSq (k : SK) (h : Heap) (a : Addr) (its : Array Value) : Prop := match k with
  | .l => h.IsList a its
  | .t => h.IsTuple a its
def itO (k : SK) (a : Addr) : Obj := match k with
  | .l => { cls := .type "list_iterator", data := .fields #[.ref a, .int 0 0] }
  | .t => { cls := .type "tuple_iterator", data := .fields #[.ref a, .int 0 0] }
section
variable {X : Cx} {pins : List (Addr × Obj)} {σ : St} {H : Hp} {s : Shared} {k : SK} {a it : Addr} {xs ys : List V}
theorem inv_sq (I : Inv X pins σ H s) (h : SqA k X.K H a xs) : ∃ its : List Value, Vals xs its ∧ HSq k s.heap a its.toArray ∧ xs.length ≤ sizeLine := by
  cases k with
  | l => obtain ⟨its, r, p, z⟩ := I.list h; exact ⟨its, r, p.isList, z⟩
  | t => obtain ⟨its, r, p, z⟩ := I.tuple h; exact ⟨its, r, p, z⟩
theorem inv_sq_inj (I : Inv X pins σ H s) (h : SqA k X.K H a xs) (h' : SqA k X.K H a ys) : xs = ys := by
  cases k with
  | l => exact I.list_inj h h'
  | t => exact I.tuple_inj h h'
theorem HSq.lt {h : Heap} {its : Array Value} (q : HSq k h a its) : a < h.objs.size := by
  cases k with
  | l => obtain ⟨o, e, _⟩ := q; exact Heap.lt_size e
  | t => obtain ⟨o, e, _⟩ := q; exact Heap.lt_size e
theorem ItAt.there {h : Heap} {i : Nat} (q : ItAt k h it a i) : ∃ o, h.get? it = some o ∧ ∀ v, o.data ≠ .cell v := by
  cases k with
  | l => obtain ⟨o, e, _, d⟩ := q; exact ⟨o, e, fun v z => by rw [d] at z; cases z⟩
  | t => obtain ⟨o, e, _, d⟩ := q; exact ⟨o, e, fun v z => by rw [d] at z; cases z⟩
theorem ItAt.at {h h' : Heap} {i : Nat} (q : ItAt k h it a i) (hk : ∀ o, h.get? it = some o → h'.get? it = some o) : ItAt k h' it a i := by
  cases k with
  | l => exact Heap.IsListIter.at q hk
  | t => exact Heap.IsTupleIter.at q hk
theorem HSq.at {h h' : Heap} {its : Array Value} (q : HSq k h a its) (hk : ∀ o, h.get? a = some o → h'.get? a = some o) : HSq k h' a its := by
  cases k with
  | l => exact Heap.IsList.at q hk
  | t => exact Heap.IsTuple.at q hk
theorem ItAt.ne {h : Heap} {i : Nat} {its : Array Value} (q : ItAt k h it a i) (r : HSq k h a its) : a ≠ it := by
  intro z
  subst z
  cases k with
  | l =>
    obtain ⟨o, e, c, d⟩ := q
    obtain ⟨o', e', c', n, d'⟩ := r
    rw [e] at e'; cases e'; rw [d] at d'; cases d'
  | t =>
    obtain ⟨o, e, c, d⟩ := q
    obtain ⟨o', e', c', n, d'⟩ := r
    rw [e] at e'; cases e'; rw [d] at d'; cases d'
theorem draws_sq {prog : Program} {w : World} {A : Around} (hh : A.handled = none) (k : SK) (it a : Addr) (hne : a ≠ it) (items : Array Value) :
    Draws prog w A it [it, a] items.size (fun i v => items[i]? = some v) (fun i h => ItAt k h it a i ∧ HSq k h a items) := by
  cases k with
  | l => exact Draws.list hh it a hne items
  | t => exact Draws.tuple hh it a hne items
theorem begins_sq (k : SK) (a : Addr) (items : Array Value) : Begins (.ref a) (itO k a) fun h => HSq k h a items := by
  cases k with
  | l => exact begins_list a items
  | t => exact begins_tuple a items
end

/-! ### enumerate -/
def ItN (k : SK) (K : PySem.W.Frag) (a : Addr) : It :=
  ⟨fun i H => ∃ (xs : List V) (x : V), SqA k K H a xs ∧ xs[i]? = some x, fun i H v H' => ∃ T x, v = .ref T ∧ H T = none ∧ H' = upd H T (.tup [.int (i : Nat), x]) ∧ ∀ xs, SqA k K H a xs → xs[i]? = some x, fun i H => ∃ xs : List V, SqA k K H a xs ∧ xs.length = i⟩
theorem turn_enumA {P : Program} {w : World} {K : PySem.W.Frag} {elts : List Expr} {kk : Nat} {tpos : Pos} (k : SK) (a e it : Addr) (hea : e ≠ a) :
    Turn P w K (.Tuple elts kk tpos) (ItN k K a) [e, it] e (fun i h => (∃ old, IsEnum h e it ((i : Nat) : Int) old) ∧ ItAt k h it a i ∧ e ≠ it) where
  mem := by simp
  obj := fun i h st b hb => by
    obtain ⟨⟨old, he⟩, hit, _⟩ := st
    have e' : b = e ∨ b = it := by simpa using hb
    rcases e' with z | z
    · rw [z]; exact ⟨_, he, fun v q => nomatch q⟩
    · rw [z]; exact hit.there
  keep := fun i h h' st k => let ⟨⟨old, he⟩, hi, hne⟩ := st; ⟨⟨old, k e (by simp) _ he⟩, hi.at fun o q => k it (by simp) o q, hne⟩
  item := by
    intro X hP hw hK hc i pins s σ H E I hf st hg
    subst hP hw hK
    obtain ⟨⟨old, he⟩, hit, hne⟩ := st
    obtain ⟨xs, x, hq, hx⟩ := hg
    obtain ⟨its, rv, p, hz⟩ := inv_sq I hq
    obtain ⟨u, hu, ru⟩ := rv.get hx
    have hel : e < s.heap.objs.size := Heap.lt_size he
    have hil : it < s.heap.objs.size := by obtain ⟨_, q, _⟩ := hit.there; exact Heap.lt_size q
    have hai : a ≠ it := ItAt.ne hit p
    have hlt : i < its.toArray.size := by
      have := (List.getElem?_eq_some_iff.mp hu).1
      simpa using this
    refine wpAny_pyNext_enum_itemD (draws_sq (A := X.A.in1) (I.ok.hd hc) k it a hai its.toArray) he ⟨hit, p⟩ hlt hne (by simp [hne, hea]) fun u' h' tk hu' ho hit' hT hsz hk => ?_
    have hu'' : its.toArray[i]? = some u' := hu'
    have eu : u' = u := by
      have : its[i]? = some u' := by simpa using hu''
      rw [hu] at this
      exact (Option.some.inj this).symm
    subst eu
    refine ⟨_, rfl, wpAny_letOwnedTupleGo_enum (s := { s with heap := h', toks := tk + 1 }) ho fun h'' he' sb => ?_⟩
    have hT2 : h''.get? s.heap.objs.size = some { cls := .type "tuple", data := .seq #[.int i tk, u'] } := (sb.2 _ (Nat.ne_of_gt hel)).trans hT
    have new : ObjOk X.prog X.w (upd H s.heap.objs.size (.tup [.int (i : Nat), x])) h'' s.heap.objs.size (.tup [.int (i : Nat), x]) :=
      ⟨by show 2 ≤ sizeLine; decide, [.int i tk, u'], .cons ⟨_, rfl⟩ (.cons ru .nil), ⟨_, hT2, rfl, _, rfl⟩⟩
    have I1 : Inv X pins σ (upd H s.heap.objs.size (.tup [.int (i : Nat), x])) { s with heap := h'', toks := tk + 1 } :=
      I.turnedNew (ch := [e, it]) (fun b ob hb q => (sb.2 b (fun z => hb (by simp [z]))).trans (hk b ob (fun z => hb (by simp [z])) (fun z => hb (by simp [z])) q)) hf (Nat.le_refl _) new
    refine ⟨.ref s.heap.objs.size, _, I1, rfl, ⟨_, x, rfl, I.hok.fresh (Nat.le_refl _), rfl, fun ys hy => by rw [inv_sq_inj I hy hq]; exact hx⟩, ⟨⟨u', ?_⟩, hit'.1.at fun o q => (sb.2 it (Ne.symm hne)).trans q, hne⟩, fun b hb => ?_⟩
    · have e1 : ((i + 1 : Nat) : Int) = (i : Int) + 1 := by omega
      rw [e1]; exact he'
    · have hb' : b < s.heap.objs.size := by
        have e' : b = e ∨ b = it := by simpa using hb
        rcases e' with z | z
        · rw [z]; exact hel
        · rw [z]; exact hil
      rw [upd_ne (Nat.ne_of_lt hb')]
      exact (hf b hb).1
  done := by
    intro X hP hw hK hc i pins s σ H E I hf st hg
    subst hP hw hK
    obtain ⟨⟨old, he⟩, hit, hne⟩ := st
    obtain ⟨xs, hq, hx⟩ := hg
    obtain ⟨its, rv, p, hz⟩ := inv_sq I hq
    obtain ⟨f0, f1, f2, f3, f4, f5⟩ := hf it (by simp)
    have hai : a ≠ it := ItAt.ne hit p
    have hsz : its.toArray.size = i := by rw [List.size_toArray, ← rv.length]; exact hx
    refine wpAny_pyNext_enum_endD (n := its.toArray.size) (i := (i : Int)) (draws_sq (A := X.A.in1) (I.ok.hd hc) k it a hai its.toArray) he ⟨by rw [hsz]; exact hit, p⟩ fun h' eb => ⟨rfl, I.turned (t' := s.toks) (fun b o hb q => eb b o hb q) f0 f1 f3 f4 f5⟩
  self := fun A i s Q E st h => let ⟨⟨_, he⟩, _⟩ := st; wpAny_pyIter_enum he h
theorem meets_enumerate_newB1 {v : Value} {o : Obj} {H : Heap → Prop} (B : Begins v o H) :
    Meets (Builtin.«enumerate.__new__» ⟨[.type "enumerate", v], []⟩) (fun _ R s => H s.heap ∧
      R (.ok (.ret (.ref (s.heap.push o).objs.size))) { s with heap := (s.heap.push o).push { cls := .type "enumerate", data := .fields #[.none, .bool false, .ref s.heap.objs.size, rawInt 0, .none, .none] } }) :=
  .of_wp fun prog w A R s h => by
    obtain ⟨hp, g, d, tk, os⟩ := s; obtain ⟨h1, h⟩ := h
    have hsub := sub_enumerate
    have q1 : ∀ {A' : Around} {E : Value → Shared → Prop} {Q : Value → Shared → Prop}, Q (.ref hp.objs.size) ⟨hp.push o, g, d, tk, os⟩ → wpAny (model prog w) A' (pyIter v) Q E ⟨hp, g, d, tk, os⟩ :=
      fun q => B.iter prog w _ _ ⟨hp, g, d, tk, os⟩ _ h1 q
    wp_walk using q1
    refine wpAny_stack_any fun st => wpAny_pure ?_
    split
    · rename_i c _ _ _ _ _
      cases (c == Value.type "enumerate")
      · wp_walk using q1
        exact ⟨_, rfl, h⟩
      · wp_walk using q1
        exact ⟨_, rfl, h⟩
    · wp_walk using q1
      exact ⟨_, rfl, h⟩
theorem enum_begins1 {prog : Program} {w : World} {A : Around} {E : Value → Shared → Prop} {s : Shared} {v : Value} {o : Obj} {H : Heap → Prop} {Q : Value → Shared → Prop} (B : Begins v o H) (h1 : H s.heap)
    (h : ∀ h', IsEnum h' (s.heap.objs.size + 1) s.heap.objs.size 0 .none → h'.get? s.heap.objs.size = some o → h'.objs.size = s.heap.objs.size + 2 →
      (∀ b o, s.heap.get? b = some o → h'.get? b = some o) → Q (.ref (s.heap.objs.size + 1)) { s with heap := h' }) :
    wpAny (model prog w) A (call (.type "enumerate") [v]) Q E s := by
  refine callType_new F.called_enumerate (by decide) (F.typeCall_enumerate_1 _) (F.newCall_enumerate_1 _) (fun obj => F.args_object_init_2 obj _) F.entry_enumerate_new
    (meets_enumerate_newB1 B) ⟨h1, ?_⟩
  have hz : (s.heap.push o).objs.size = s.heap.objs.size + 1 := Heap.size_push ..
  show _ ∧ _
  rw [hz]
  have he : IsEnum ((s.heap.push o).push { cls := .type "enumerate", data := .fields #[.none, .bool false, .ref s.heap.objs.size, rawInt 0, .none, .none] }) (s.heap.objs.size + 1) s.heap.objs.size 0 .none := by
    have := Heap.get?_push_size (s.heap.push o) (o := { cls := .type "enumerate", data := .fields #[.none, .bool false, .ref s.heap.objs.size, rawInt 0, .none, .none] }) rfl
    rw [hz] at this; exact this
  refine ⟨⟨_, he, rfl⟩, h _ he (Heap.get?_push_of_some _ (Heap.get?_push_size _ B.free)) (by rw [Heap.size_push, hz]) fun b o x => Heap.get?_push_of_some _ (Heap.get?_push_of_some _ x)⟩
def iEnumA (K : PySem.W.Frag) (ta : TA) : TI := fun σ H R => ta σ H fun vs H1 => ∃ k a xs, vs = [.ref a] ∧ SqA k K H1 a xs ∧ R (ItN k K a) H1
theorem pi_enumA {X : Cx} {e : Expr} {ta : TA} {p pos tpos : Pos} {elts : List Expr} {kk : Nat} (hg : Gl X "enumerate") (hm : X.mg "enumerate" = none) (ha : PA X [e] ta) (hs : starEach [e] X.env = [(false, eval e X.env)] := by rfl) :
    PI X (.Tuple elts kk tpos) (.Call (.Name "enumerate" p) [e] [] pos) (iEnumA X.K ta) := by
  refine ⟨fun pins s σ H R I h => ?_⟩
  refine Call_ (ld_blt I hg hm boot_enumerate (PyProof.Rows.callWith_type1 (thn (ha.run pos pins s σ H _ I h) fun us s1 ⟨vs, H1, I1, r1, q1⟩ => ?_) hs rfl))
  obtain ⟨k, a, xs, ex, hq, q⟩ := q1
  subst ex
  cases r1 with
  | cons r rr =>
    cases rr
    cases r
    obtain ⟨its, rv, p', hz⟩ := inv_sq I1 hq
    have hal : a < s1.heap.objs.size := p'.lt
    refine enum_begins1 (begins_sq k a its.toArray) p' fun h' he hit hsz hk => wpAny_pyIter_enum he ?_
    have I2 : Inv X pins σ H1 { s1 with heap := h' } := I1.kept (t' := s1.toks) hk
    have hit0 : ItAt k h' s1.heap.objs.size a 0 := by
      cases k with
      | l => exact ⟨_, hit, rfl, rfl⟩
      | t => exact ⟨_, hit, rfl, rfl⟩
    refine ⟨s1.heap.objs.size + 1, [s1.heap.objs.size + 1, s1.heap.objs.size], _, _, H1, rfl, I2, turn_enumA k a (s1.heap.objs.size + 1) s1.heap.objs.size (by intro z; exact absurd hal (by rw [← z]; exact Nat.not_lt_of_ge (Nat.le_succ _))), ⟨⟨.none, he⟩, hit0, Nat.succ_ne_self _⟩, fun b hb => ?_, q⟩
    have e' : b = s1.heap.objs.size + 1 ∨ b = s1.heap.objs.size := by simpa using hb
    have hle : s1.heap.objs.size ≤ b := by
      rcases e' with z | z
      · rw [z]; exact Nat.le_add_right _ _
      · rw [z]; exact Nat.le_refl _
    exact I1.fpOk hle (I1.hok.fresh hle)

/-! ### zip of two -/
def ItZ (k1 k2 : SK) (K : PySem.W.Frag) (a b : Addr) : It :=
  ⟨fun i H => ∃ (xs ys : List V) (x y : V), SqA k1 K H a xs ∧ SqA k2 K H b ys ∧ xs[i]? = some x ∧ ys[i]? = some y,
    fun i H v H' => ∃ T x y, v = .ref T ∧ H T = none ∧ H' = upd H T (.tup [x, y]) ∧ (∀ xs, SqA k1 K H a xs → xs[i]? = some x) ∧ ∀ ys, SqA k2 K H b ys → ys[i]? = some y,
    fun i H => ∃ xs ys : List V, SqA k1 K H a xs ∧ SqA k2 K H b ys ∧ i = min xs.length ys.length⟩
theorem turn_zipA {P : Program} {w : World} {K : PySem.W.Frag} {elts : List Expr} {kk : Nat} {tpos : Pos} (k1 k2 : SK) {a b z TI TO i1 i2 : Addr} (D : ZipSep2 z TI TO i1 i2 [i1, a] [i2, b]) :
    Turn P w K (.Tuple elts kk tpos) (ItZ k1 k2 K a b) [z, TI, TO, i1, i2] z (fun i h => IsZip h z TI TO .none ∧ IsTupOf2 h TI (.ref i1) (.ref i2) ∧ (∃ x y, IsTupOf2 h TO x y) ∧ ItAt k1 h i1 a i ∧ ItAt k2 h i2 b i) where
  mem := by simp
  obj := fun i h st c hc => by
    obtain ⟨hz, hTI, ⟨x, y, hTO⟩, h1, h2⟩ := st
    have e' : c = z ∨ c = TI ∨ c = TO ∨ c = i1 ∨ c = i2 := by simpa using hc
    rcases e' with q | q | q | q | q
    · rw [q]; exact ⟨_, hz, fun v q => nomatch q⟩
    · rw [q]; exact ⟨_, hTI, fun v q => nomatch q⟩
    · rw [q]; exact ⟨_, hTO, fun v q => nomatch q⟩
    · rw [q]; exact h1.there
    · rw [q]; exact h2.there
  keep := fun i h h' st k => by
    obtain ⟨hz, hTI, ⟨x, y, hTO⟩, h1, h2⟩ := st
    exact ⟨k z (by simp) _ hz, k TI (by simp) _ hTI, ⟨x, y, k TO (by simp) _ hTO⟩, h1.at fun o q => k i1 (by simp) o q, h2.at fun o q => k i2 (by simp) o q⟩
  item := by
    intro X hP hw hK hc i pins s σ H E I hf st hg
    subst hP hw hK
    obtain ⟨hz, hTI, ⟨x0, y0, hTO⟩, h1, h2⟩ := st
    obtain ⟨xs, ys, x, y, hqx, hqy, hx, hy⟩ := hg
    obtain ⟨its, rv, p, _⟩ := inv_sq I hqx
    obtain ⟨its2, rv2, p2, _⟩ := inv_sq I hqy
    obtain ⟨u, hu, ru⟩ := rv.get hx
    obtain ⟨u2, hu2, ru2⟩ := rv2.get hy
    have hzl : z < s.heap.objs.size := Heap.lt_size hz
    have l1 : i < its.toArray.size := by
      have := (List.getElem?_eq_some_iff.mp hu).1
      simpa using this
    have l2 : i < its2.toArray.size := by
      have := (List.getElem?_eq_some_iff.mp hu2).1
      simpa using this
    refine wpAny_pyNext_zipD2_item D (draws_sq (A := X.A.in1) (I.ok.hd hc) k1 i1 a (h1.ne p) its.toArray) (draws_sq (A := X.A.in1) (I.ok.hd hc) k2 i2 b (h2.ne p2) its2.toArray) hz hTI hTO ⟨h1, p⟩ ⟨h2, p2⟩ l1 l2 fun v1 v2 h' tk e1 e2 z' TO' h1' h2' hT hsz hk => ?_
    have e1' : v1 = u := by
      have q : its.toArray[i]? = some v1 := e1
      have q2 : its[i]? = some v1 := by simpa using q
      rw [hu] at q2; exact (Option.some.inj q2).symm
    have e2' : v2 = u2 := by
      have q : its2.toArray[i]? = some v2 := e2
      have q2 : its2[i]? = some v2 := by simpa using q
      rw [hu2] at q2; exact (Option.some.inj q2).symm
    subst e1' e2'
    refine ⟨_, rfl, wpAny_letOwnedTupleGo_zip (s := { s with heap := h', toks := tk }) z' fun h'' z'' sb => ?_⟩
    have hT2 : h''.get? s.heap.objs.size = some { cls := .type "tuple", data := .seq #[v1, v2] } := (sb.2 _ (Nat.ne_of_gt hzl)).trans hT
    have new : ObjOk X.prog X.w (upd H s.heap.objs.size (.tup [x, y])) h'' s.heap.objs.size (.tup [x, y]) :=
      ⟨by show 2 ≤ sizeLine; decide, [v1, v2], .cons ru (.cons ru2 .nil), ⟨_, hT2, rfl, _, rfl⟩⟩
    have I1 : Inv X pins σ (upd H s.heap.objs.size (.tup [x, y])) { s with heap := h'', toks := tk } :=
      I.turnedNew (t' := tk) (ch := [z, TI, TO, i1, i2]) (fun c o hb q => (sb.2 c (fun q' => hb (by simp [q']))).trans (hk c o (fun q' => hb (by simp [q'])) (fun q' => hb (by simp [q'])) (fun q' => hb (by simp [q'])) (fun q' => hb (by simp [q'])) q)) hf (Nat.le_refl _) new
    have nz1 : i1 ≠ z := fun q => D.zf1 (by rw [← q]; exact D.mem1)
    have nz2 : i2 ≠ z := fun q => D.zf2 (by rw [← q]; exact D.mem2)
    refine ⟨.ref s.heap.objs.size, _, I1, rfl, ⟨_, x, y, rfl, I.hok.fresh (Nat.le_refl _), rfl, fun l hl => by rw [inv_sq_inj I hl hqx]; exact hx, fun l hl => by rw [inv_sq_inj I hl hqy]; exact hy⟩, ⟨z'', ?_, ⟨v1, v2, ?_⟩, ?_, ?_⟩, fun c hcm => ?_⟩
    · exact (sb.2 _ D.TIz).trans (hk _ _ D.TIz D.TITO D.TIi1 D.TIi2 hTI)
    · exact (sb.2 _ D.TOz).trans TO'
    · exact h1'.1.at fun o q => (sb.2 _ nz1).trans q
    · exact h2'.1.at fun o q => (sb.2 _ nz2).trans q
    · have hlt : c < s.heap.objs.size := by
        have e' : c = z ∨ c = TI ∨ c = TO ∨ c = i1 ∨ c = i2 := by simpa using hcm
        rcases e' with q | q | q | q | q
        · rw [q]; exact hzl
        · rw [q]; exact Heap.lt_size hTI
        · rw [q]; exact Heap.lt_size hTO
        · rw [q]; obtain ⟨_, e1, _⟩ := h1.there; exact Heap.lt_size e1
        · rw [q]; obtain ⟨_, e2, _⟩ := h2.there; exact Heap.lt_size e2
      rw [upd_ne (Nat.ne_of_lt hlt)]
      exact (hf c hcm).1
  done := by
    intro X hP hw hK hc i pins s σ H E I hf st hg
    subst hP hw hK
    obtain ⟨hz, hTI, ⟨x0, y0, hTO⟩, h1, h2⟩ := st
    obtain ⟨xs, ys, hqx, hqy, hend⟩ := hg
    obtain ⟨its, rv, p, _⟩ := inv_sq I hqx
    obtain ⟨its2, rv2, p2, _⟩ := inv_sq I hqy
    have l1 := rv.length
    have l2 := rv2.length
    have m1 : i ≤ its.toArray.size := by rw [List.size_toArray, ← l1, hend]; exact Nat.min_le_left _ _
    have m2 : i ≤ its2.toArray.size := by rw [List.size_toArray, ← l2, hend]; exact Nat.min_le_right _ _
    have m3 : i = its.toArray.size ∨ i = its2.toArray.size := by rw [List.size_toArray, List.size_toArray, ← l1, ← l2, hend]; omega
    exact wpAny_pyNext_zipD2_end D (draws_sq (A := X.A.in1) (I.ok.hd hc) k1 i1 a (h1.ne p) its.toArray) (draws_sq (A := X.A.in1) (I.ok.hd hc) k2 i2 b (h2.ne p2) its2.toArray) hz hTI hTO ⟨h1, p⟩ ⟨h2, p2⟩ m1 m2 m3 fun h' tk hk => ⟨rfl, I.turnedL (t' := tk) (ch := [z, TI, TO, i1, i2]) (fun c o hb q =>
      hk c o (fun q' => hb (by simp [q'])) (fun q' => hb (by simp [q'])) (fun q' => hb (by simp [q'])) (fun q' => hb (by simp [q'])) q) hf⟩
  self := fun A i s Q E st h => wpAny_pyIter_zip st.1 h
def iZipK (K : PySem.W.Frag) (ta : TA) : TI := fun σ H R => ta σ H fun vs H1 => ∃ k1 k2 a b xs ys, vs = [.ref a, .ref b] ∧ SqA k1 K H1 a xs ∧ SqA k2 K H1 b ys ∧ R (ItZ k1 k2 K a b) H1
theorem pi_zipK {X : Cx} {e e2 : Expr} {ta : TA} {p pos tpos : Pos} {elts : List Expr} {kk : Nat} (hg : Gl X "zip") (hm : X.mg "zip" = none) (ha : PA X [e, e2] ta)
    (hs : starEach [e, e2] X.env = (false, eval e X.env) :: starEach [e2] X.env := by rfl) (hpl : (backTo pos (starEach [e2] X.env)).any (·.1) = false := by rfl) :
    PI X (.Tuple elts kk tpos) (.Call (.Name "zip" p) [e, e2] [] pos) (iZipK X.K ta) := by
  refine ⟨fun pins s σ H R I h => ?_⟩
  refine Call_ (ld_blt I hg hm PyProof.Rows.boot_zip (PyProof.Rows.callWith_type1 (thn (ha.run pos pins s σ H _ I h) fun us s1 ⟨vs, H1, I1, r1, q1⟩ => ?_) hs hpl))
  obtain ⟨k1, k2, a, b, xs, ys, ex, hqx, hqy, q⟩ := q1
  subst ex
  cases r1 with
  | cons r rr =>
    cases rr with
    | cons r' rr =>
      cases rr
      cases r
      cases r'
      obtain ⟨its, rv, p1, _⟩ := inv_sq I1 hqx
      obtain ⟨its2, rv2, p2, _⟩ := inv_sq I1 hqy
      have la : a < s1.heap.objs.size := p1.lt
      have lb : b < s1.heap.objs.size := p2.lt
      refine zip_begins2 (begins_sq k1 a its.toArray) (begins_sq k2 b its2.toArray) p1 p2 fun h' hz hTI hTO h1 h2 hsz hk => wpAny_pyIter_zip hz ?_
      have I2 : Inv X pins σ H1 { s1 with heap := h' } := I1.kept (t' := s1.toks) hk
      have t1 : ItAt k1 h' s1.heap.objs.size a 0 := by
        cases k1 with
        | l => exact ⟨_, h1, rfl, rfl⟩
        | t => exact ⟨_, h1, rfl, rfl⟩
      have t2 : ItAt k2 h' (s1.heap.objs.size + 1) b 0 := by
        cases k2 with
        | l => exact ⟨_, h2, rfl, rfl⟩
        | t => exact ⟨_, h2, rfl, rfl⟩
      refine ⟨s1.heap.objs.size + 4, [s1.heap.objs.size + 4, s1.heap.objs.size + 2, s1.heap.objs.size + 3, s1.heap.objs.size, s1.heap.objs.size + 1], _, _, H1, rfl, I2, turn_zipA k1 k2 (zip_sep2 (fun c hc => by rw [List.mem_singleton.mp hc]; exact la) (fun c hc => by rw [List.mem_singleton.mp hc]; exact lb)), ⟨hz, hTI, ⟨_, _, hTO⟩, t1, t2⟩, fun c hcm => ?_, q⟩
      have e' : c = s1.heap.objs.size + 4 ∨ c = s1.heap.objs.size + 2 ∨ c = s1.heap.objs.size + 3 ∨ c = s1.heap.objs.size ∨ c = s1.heap.objs.size + 1 := by simpa using hcm
      have hle : s1.heap.objs.size ≤ c := by
        rcases e' with z | z | z | z | z
        · rw [z]; exact Nat.le_add_right _ _
        · rw [z]; exact Nat.le_add_right _ _
        · rw [z]; exact Nat.le_add_right _ _
        · rw [z]; exact Nat.le_refl _
        · rw [z]; exact Nat.le_add_right _ _
      exact I1.fpOk hle (I1.hok.fresh hle)
/-- a list or a tuple, walked -/
def iSeq (K : PySem.W.Frag) (tl : TE) : TI := fun σ H R => tl σ H fun x H1 => ∃ a, x = .ref a ∧ ((∃ xs, SqL K H1 a xs ∧ R (Itl K a) H1) ∨ ∃ xs, SqT K H1 a xs ∧ R (Itt K a) H1)
theorem pi_seq {X : Cx} {tg l : Expr} {tl : TE} (hl : PE X l tl) : PI X tg l (iSeq X.K tl) := by
  refine ⟨fun pins s σ H R I h => ?_⟩
  refine thn (hl.run pins s σ H _ I h) fun v s1 ⟨x, H1, I1, r1, q1⟩ => ?_
  obtain ⟨a, e, q⟩ := q1
  subst e
  cases r1
  have fp : ∀ b ∈ [s1.heap.objs.size], FpOk X pins H1 b := fun b hb => by
    have e : b = s1.heap.objs.size := by simpa using hb
    subst e
    exact I1.fpOk (Nat.le_refl _) (I1.hok.fresh (Nat.le_refl _))
  rcases q with ⟨xs, hq, q⟩ | ⟨xs, hq, q⟩
  · obtain ⟨its, rv, p, hz⟩ := I1.list hq
    refine wpAny_pyIter_list p.isList ?_
    exact ⟨s1.heap.objs.size, [s1.heap.objs.size], _, _, H1, rfl, I1.kept (t' := s1.toks) fun b o e => Heap.get?_push_of_some _ e, turn_list a _, ⟨_, Heap.get?_push_size _ rfl, rfl, rfl⟩, fp, q⟩
  · obtain ⟨its, rv, p, hz⟩ := I1.tuple hq
    refine wpAny_pyIter_tuple (show s1.heap.IsTuple a its.toArray from p) ?_
    exact ⟨s1.heap.objs.size, [s1.heap.objs.size], _, _, H1, rfl, I1.kept (t' := s1.toks) fun b o e => Heap.get?_push_of_some _ e, turn_tuple a _, ⟨_, Heap.get?_push_size _ rfl, rfl, rfl⟩, fp, q⟩

/-! ### the rules -/
/-- the members of a list or a tuple, frozen -/
def dseq : D → Option (List D)
  | .list xs => some xs
  | .tuple xs => some xs
  | _ => none
def oseq (o : O) : Option (List D) := match frz o with
  | some x => dseq x
  | none => none
namespace Wk
def seq (f : M O) : M (List D) := f.bind fun o => M.opt (oseq o)
def range1 (f : M (List O)) : M (List D) := f.bind fun os => match os with
  | [.d (.int j)] => if -1000000000000 ≤ j ∧ j ≤ 1000000000000 then M.ret ((List.range j.toNat).map fun (i : Nat) => .int (i : Int)) else M.fail
  | _ => M.fail
def range2 (f : M (List O)) : M (List D) := f.bind fun os => match os with
  | [.d (.int i), .d (.int j)] => if -1000000000000 ≤ i ∧ i ≤ 1000000000000 ∧ -1000000000000 ≤ j ∧ j ≤ 1000000000000 then M.ret ((List.range (j - i).toNat).map fun (n : Nat) => .int (i + n)) else M.fail
  | _ => M.fail
def enums (xs : List D) : List D := xs.zipIdx.map fun p => .tuple [.int p.2, p.1]
def enum (f : M (List O)) : M (List D) := f.bind fun os => match os with
  | [o] => M.opt ((oseq o).map enums)
  | _ => M.fail
def zips (xs ys : List D) : List D := (xs.zip ys).map fun p => .tuple [p.1, p.2]
def zip (f : M (List O)) : M (List D) := f.bind fun os => match os with
  | [o, p] => (match oseq o, oseq p with
    | some xs, some ys => M.ret (zips xs ys)
    | _, _ => M.fail)
  | _ => M.fail
end Wk
section
variable {K : PySem.W.Frag} {mg : Str → Option Value} {I H : Hp} {xs ys : List D} {vs ws : List V} {a b : Addr}
theorem DenL.get : ∀ {xs : List D} {vs : List V} {i : Nat} {d : D}, DenL K I xs vs → xs[i]? = some d → ∃ v, vs[i]? = some v ∧ Den K I d v
  | _, _, _, _, .nil, e => by simp at e
  | _, _, 0, _, .cons r _, e => by simp at e; subst e; exact ⟨_, rfl, r⟩
  | _, _, i + 1, d, .cons _ t, e => by
    obtain ⟨u, h1, h2⟩ := DenL.get (i := i) (d := d) t (by simpa using e)
    exact ⟨u, by simpa using h1, h2⟩
theorem DenL.len : ∀ {xs : List D} {vs : List V}, DenL K I xs vs → vs.length = xs.length
  | _, _, .nil => rfl
  | _, _, .cons _ b => by rw [List.length_cons, List.length_cons, DenL.len b]
theorem walk_seqL (q : SqL K I a vs) (r : DenL K I xs vs) : IsWalk K (Itl K a) xs I := by
  have sq : ∀ {H2 I2 : Hp}, Same I I2 → Same I2 H2 → SqL K H2 a vs := fun h1 h2 => (h1.trans h2).seq q
  refine ⟨fun H2 I2 i h1 h2 hi => ?_, fun H2 I2 h1 h2 => ⟨vs, sq h1 h2, by rw [r.len]; exact Nat.le_refl _⟩, fun H2 I2 i x H3 d h1 h2 e y => ?_⟩
  · have hl : i < vs.length := by rw [r.len]; exact hi
    exact ⟨vs, vs[i], sq h1 h2, by simp [hl]⟩
  · obtain ⟨rfl, y⟩ := y
    obtain ⟨v, e1, dv⟩ := r.get e
    have e2 := y vs (sq h1 h2)
    rw [e1] at e2; cases e2
    exact ⟨I2, Same.refl _, h2, Same.refl _, fun _ _ e => .inl e, dv.mono (RdLe.of h1)⟩
theorem walk_seqT (q : SqT K I a vs) (r : DenL K I xs vs) : IsWalk K (Itt K a) xs I := by
  have sq : ∀ {H2 I2 : Hp}, Same I I2 → Same I2 H2 → SqT K H2 a vs := fun h1 h2 => sqT_le (h1.trans h2) q
  refine ⟨fun H2 I2 i h1 h2 hi => ?_, fun H2 I2 h1 h2 => ⟨vs, sq h1 h2, by rw [r.len]; exact Nat.le_refl _⟩, fun H2 I2 i x H3 d h1 h2 e y => ?_⟩
  · have hl : i < vs.length := by rw [r.len]; exact hi
    exact ⟨vs, vs[i], sq h1 h2, by simp [hl]⟩
  · obtain ⟨rfl, y⟩ := y
    obtain ⟨v, e1, dv⟩ := r.get e
    have e2 := y vs (sq h1 h2)
    rw [e1] at e2; cases e2
    exact ⟨I2, Same.refl _, h2, Same.refl _, fun _ _ e => .inl e, dv.mono (RdLe.of h1)⟩
theorem walk_range (lo : Int) (n : Nat) : IsWalk K (Itr lo n) ((List.range n).map fun (i : Nat) => .int (lo + i)) I := by
  refine ⟨fun H2 I2 i h1 h2 hi => ?_, fun H2 I2 h1 h2 => ?_, fun H2 I2 i x H3 d h1 h2 e y => ?_⟩
  · show i < n; simpa using hi
  · show n ≤ _; simp
  · obtain ⟨rfl, rfl⟩ := y
    rw [List.getElem?_map] at e
    cases q : (List.range n)[i]? with
    | none => rw [q] at e; cases e
    | some j =>
      rw [q] at e
      have hj : j = i := by
        obtain ⟨hl, e2⟩ := List.getElem?_eq_some_iff.mp q
        rw [List.getElem_range] at e2; exact e2.symm
      subst hj
      cases e
      exact ⟨I2, Same.refl _, h2, Same.refl _, fun _ _ e => .inl e, .int _⟩
/-- the new pair at T -/
theorem den_pair {I2 H2 : Hp} {T : Addr} {x y : V} {d e : D} (le : Same I2 H2) (hT : H2 T = none) (h1 : Den K I2 d x) (h2 : Den K I2 e y) :
    ∃ I3, Same I2 I3 ∧ Same I3 (upd H2 T (.tup [x, y])) ∧ Same H2 (upd H2 T (.tup [x, y])) ∧ (∀ a o, I3 a = some o → I2 a = some o ∨ H2 a = none) ∧ Den K I3 (.tuple [d, e]) (.ref T) := by
  have fI : I2 T = none := le.free hT
  refine ⟨upd I2 T (.tup [x, y]), same_updI fI, fun a u q => ?_, same_updI hT, fun a o q => ?_, .tuple upd_same (.cons (h1.mono (RdLe.of (same_updI fI))) (.cons (h2.mono (RdLe.of (same_updI fI))) .nil))⟩
  · by_cases z : a = T
    · subst z; rw [upd_same] at q ⊢; exact q
    · rw [upd_ne z] at q ⊢; exact le a u q
  · by_cases z : a = T
    · subst z; exact .inr hT
    · rw [upd_ne z] at q; exact .inl q
theorem sqA_le {k : SK} (le : Same I H) (q : SqA k K I a vs) : SqA k K H a vs := by
  cases k with
  | l => exact le.seq q
  | t => exact sqT_le le q
theorem enums_get {i : Nat} {d : D} (e : (Wk.enums xs)[i]? = some d) : ∃ x, xs[i]? = some x ∧ d = .tuple [.int (i : Nat), x] := by
  unfold Wk.enums at e
  rw [List.getElem?_map, List.getElem?_zipIdx] at e
  cases q : xs[i]? with
  | none => rw [q] at e; cases e
  | some x =>
    rw [q] at e
    refine ⟨x, rfl, ?_⟩
    simpa using e.symm
theorem walk_enum {k : SK} (q : SqA k K I a vs) (r : DenL K I xs vs) : IsWalk K (ItN k K a) (Wk.enums xs) I := by
  have sq : ∀ {H2 I2 : Hp}, Same I I2 → Same I2 H2 → SqA k K H2 a vs := fun h1 h2 => sqA_le (h1.trans h2) q
  have ln : (Wk.enums xs).length = xs.length := by unfold Wk.enums; simp
  refine ⟨fun H2 I2 i h1 h2 hi => ?_, fun H2 I2 h1 h2 => ⟨vs, sq h1 h2, by rw [r.len, ln]⟩, fun H2 I2 i x H3 d h1 h2 e y => ?_⟩
  · have hl : i < vs.length := by rw [r.len, ← ln]; exact hi
    exact ⟨vs, vs[i], sq h1 h2, by simp [hl]⟩
  · obtain ⟨T, v, rfl, hT, rfl, y⟩ := y
    obtain ⟨d', e1, rfl⟩ := enums_get e
    obtain ⟨v', e2, dv⟩ := r.get e1
    have e3 := y vs (sq h1 h2)
    rw [e2] at e3; cases e3
    exact den_pair h2 hT (.int _) (dv.mono (RdLe.of h1))
theorem walk_zip {k1 k2 : SK} (q : SqA k1 K I a vs) (r : DenL K I xs vs) (q2 : SqA k2 K I b ws) (r2 : DenL K I ys ws) : IsWalk K (ItZ k1 k2 K a b) (Wk.zips xs ys) I := by
  have sq : ∀ {H2 I2 : Hp}, Same I I2 → Same I2 H2 → SqA k1 K H2 a vs := fun h1 h2 => sqA_le (h1.trans h2) q
  have sq2 : ∀ {H2 I2 : Hp}, Same I I2 → Same I2 H2 → SqA k2 K H2 b ws := fun h1 h2 => sqA_le (h1.trans h2) q2
  have ln : (Wk.zips xs ys).length = min xs.length ys.length := by unfold Wk.zips; simp
  refine ⟨fun H2 I2 i h1 h2 hi => ?_, fun H2 I2 h1 h2 => ⟨vs, ws, sq h1 h2, sq2 h1 h2, by rw [r.len, r2.len, ln]⟩, fun H2 I2 i x H3 d h1 h2 e y => ?_⟩
  · have hl : i < vs.length := by rw [r.len]; omega
    have hl2 : i < ws.length := by rw [r2.len]; omega
    exact ⟨vs, ws, vs[i], ws[i], sq h1 h2, sq2 h1 h2, by simp [hl], by simp [hl2]⟩
  · obtain ⟨T, v, w, rfl, hT, rfl, y, y2⟩ := y
    unfold Wk.zips at e
    rw [List.getElem?_map, Option.map_eq_some_iff] at e
    obtain ⟨⟨d1, d2⟩, e0, rfl⟩ := e
    rw [List.getElem?_zip_eq_some] at e0
    obtain ⟨v', e2, dv⟩ := r.get e0.1
    obtain ⟨w', e2', dw⟩ := r2.get e0.2
    have e3 := y vs (sq h1 h2)
    rw [e2] at e3; cases e3
    have e4 := y2 ws (sq2 h1 h2)
    rw [e2'] at e4; cases e4
    exact den_pair h2 hT (dv.mono (RdLe.of h1)) (dw.mono (RdLe.of h1))
theorem den_seq {x : D} {v : V} {ds : List D} (q : Den K I x v) (e : dseq x = some ds) : ∃ k a vs, v = .ref a ∧ SqA k K I a vs ∧ DenL K I ds vs := by
  cases q with
  | list a b => cases e; exact ⟨.l, _, _, rfl, SqL.of a, b⟩
  | tuple a b => cases e; exact ⟨.t, _, _, rfl, SqT.of a, b⟩
  | _ => cases e
end
section
variable {X : Cx} {W : WX} {tg l e e2 : Expr} {f : M O} {fa : M (List O)} {p pos tpos : Pos} {elts : List Expr} {kk : Nat}
theorem frz_oseq {o : O} {ds : List D} (h : oseq o = some ds) : ∃ x, frz o = some x ∧ dseq x = some ds := by
  unfold oseq at h
  cases e : frz o with
  | none => rw [e] at h; cases h
  | some x => rw [e] at h; exact ⟨x, rfl, h⟩
theorem ei_seq (hl : EE X W l f) : EI X W tg l (Wk.seq f) := by
  refine ⟨fun pins s σ H R' I0 h => (pi_seq hl).run pins s σ H R' I0 ?_⟩
  obtain ⟨ρ, I, φ, gd, h⟩ := h
  refine bindE (P := PostI X.K X.mg W σ I H (al φ) R') gd h (fun _ _ z => z) (fun z => z) fun x ρ1 _ h v1 H1 I1 φ1 G1 s1 gd1 t1 w1 => ?_
  cases eo : oseq x with
  | none => rw [eo] at h; exact h.elim
  | some ds =>
    rw [eo] at h
    obtain ⟨x', ex, ed⟩ := frz_oseq eo
    obtain ⟨gd2, st2⟩ := gd1.freeze t1
    obtain ⟨k, a, vs, rfl, q, r⟩ := den_seq (w1.den ex t1.dj) ed
    have go : ∀ J, IsWalk X.K J ds (addI I1 H1 G1) → R' J H1 := fun J wk => h J H1 _ φ1 (s1.trans st2) gd2 wk
    refine ⟨a, rfl, ?_⟩
    cases k with
    | l => exact .inl ⟨vs, gd2.le.seq q, go _ (walk_seqL q r)⟩
    | t => exact .inr ⟨vs, sqT_le gd2.le q, go _ (walk_seqT q r)⟩
theorem ei_range1 (hg : Gl X "range") (hm : X.mg "range" = none) (ha : EA X W [e] fa) (hs : starEach [e] X.env = [(false, eval e X.env)] := by rfl) : EI X W tg (.Call (.Name "range" p) [e] [] pos) (Wk.range1 fa) := by
  refine ⟨fun pins s σ H R' I0 h => (pi_range1 hg hm ha hs).run pins s σ H R' I0 ?_⟩
  obtain ⟨ρ, I, φ, gd, h⟩ := h
  refine bindA (P := PostI X.K X.mg W σ I H (al φ) R') gd h (fun _ _ z => z) (fun z => z) fun x ρ1 hx0 h v1 H1 I1 φ1 G1 s1 gd1 t1 w1 => ?_
  clear hx0
  split at h
  · rename_i j
    split at h
    · rename_i hb
      cases w1 with
      | cons a b _ _ _ =>
        cases b
        cases a with
        | d q =>
          cases q
          refine ⟨j, rfl, by omega, by omega, h _ H1 I1 φ1 (s1.sub fun _ => .inl) gd1 ?_⟩
          have := walk_range (K := X.K) (I := I1) 0 j.toNat
          simpa using this
    · exact h.elim
  · exact h.elim
theorem ei_range2 (hg : Gl X "range") (hm : X.mg "range" = none) (ha : EA X W [e, e2] fa) (hs : starEach [e, e2] X.env = [(false, eval e X.env), (false, eval e2 X.env)] := by rfl) (hs2 : starEach [e2] X.env = [(false, eval e2 X.env)] := by rfl) :
    EI X W tg (.Call (.Name "range" p) [e, e2] [] pos) (Wk.range2 fa) := by
  refine ⟨fun pins s σ H R' I0 h => (pi_range2 hg hm ha hs hs2).run pins s σ H R' I0 ?_⟩
  obtain ⟨ρ, I, φ, gd, h⟩ := h
  refine bindA (P := PostI X.K X.mg W σ I H (al φ) R') gd h (fun _ _ z => z) (fun z => z) fun x ρ1 hx0 h v1 H1 I1 φ1 G1 s1 gd1 t1 w1 => ?_
  clear hx0
  split at h
  · rename_i i j
    split at h
    · rename_i hb
      cases w1 with
      | cons a b _ _ _ =>
        cases b with
        | cons b c _ _ _ =>
        cases c
        cases a with
        | d q =>
          cases q
          cases b with
          | d q =>
          cases q
          exact ⟨i, j, rfl, ⟨by omega, by omega, by omega, by omega⟩, h _ H1 I1 φ1 (s1.sub fun _ => .inl) gd1 (walk_range i _)⟩
    · exact h.elim
  · exact h.elim
theorem ei_enum (hg : Gl X "enumerate") (hm : X.mg "enumerate" = none) (ha : EA X W [e] fa) (hs : starEach [e] X.env = [(false, eval e X.env)] := by rfl) :
    EI X W (.Tuple elts kk tpos) (.Call (.Name "enumerate" p) [e] [] pos) (Wk.enum fa) := by
  refine ⟨fun pins s σ H R' I0 h => (pi_enumA hg hm ha hs).run pins s σ H R' I0 ?_⟩
  obtain ⟨ρ, I, φ, gd, h⟩ := h
  refine bindA (P := PostI X.K X.mg W σ I H (al φ) R') gd h (fun _ _ z => z) (fun z => z) fun x ρ1 hx0 h v1 H1 I1 φ1 G1 s1 gd1 t1 w1 => ?_
  clear hx0
  split at h
  · rename_i o
    cases w1 with
    | @cons _ _ v vs' _ S1 S2 a b c _ _ =>
      cases b
      cases eo : oseq o with
      | none => rw [eo] at h; exact h.elim
      | some ds =>
        rw [eo] at h
        obtain ⟨x', ex, ed⟩ := frz_oseq eo
        obtain ⟨gd2, st2⟩ := gd1.freeze t1
        obtain ⟨k, a', vs, rfl, q, r⟩ := den_seq ((a.mono c).den ex t1.dj) ed
        exact ⟨k, a', vs, rfl, sqA_le gd2.le q, h _ H1 _ φ1 (s1.trans st2) gd2 (walk_enum q r)⟩
  · exact h.elim
theorem ei_zip (hg : Gl X "zip") (hm : X.mg "zip" = none) (ha : EA X W [e, e2] fa)
    (hs : starEach [e, e2] X.env = (false, eval e X.env) :: starEach [e2] X.env := by rfl) (hpl : (backTo pos (starEach [e2] X.env)).any (·.1) = false := by rfl) :
    EI X W (.Tuple elts kk tpos) (.Call (.Name "zip" p) [e, e2] [] pos) (Wk.zip fa) := by
  refine ⟨fun pins s σ H R' I0 h => (pi_zipK hg hm ha hs hpl).run pins s σ H R' I0 ?_⟩
  obtain ⟨ρ, I, φ, gd, h⟩ := h
  refine bindA (P := PostI X.K X.mg W σ I H (al φ) R') gd h (fun _ _ z => z) (fun z => z) fun x ρ1 hx0 h v1 H1 I1 φ1 G1 s1 gd1 t1 w1 => ?_
  clear hx0
  split at h
  · rename_i o o2
    cases w1 with
    | @cons _ _ v vs' _ S1 S2 a b c d _ =>
      cases b with
      | @cons _ _ v2 vs2 _ S3 S4 a2 b2 c2 _ _ =>
      cases b2
      cases eo : oseq o with
      | none => rw [eo] at h; exact h.elim
      | some xs =>
      cases eo2 : oseq o2 with
      | none => rw [eo, eo2] at h; exact h.elim
      | some ys =>
        rw [eo, eo2] at h
        obtain ⟨x', ex, ed⟩ := frz_oseq eo
        obtain ⟨y', ey, ed2⟩ := frz_oseq eo2
        obtain ⟨gd2, st2⟩ := gd1.freeze t1
        obtain ⟨k, a', vs, rfl, q, r⟩ := den_seq ((a.mono c).den ex t1.dj) ed
        obtain ⟨k2, a2', vs2, rfl, q2, r2⟩ := den_seq ((a2.mono fun z hz => d z (c2 z hz)).den ey t1.dj) ed2
        exact ⟨k, k2, a', a2', vs, vs2, rfl, sqA_le gd2.le q, sqA_le gd2.le q2, h _ H1 _ φ1 (s1.trans st2) gd2 (walk_zip q r q2 r2)⟩
  · exact h.elim
end
end EV

/-! The layer EV, part G: comprehensions as rules, defs and their calls, raise. -/
namespace EV
open PySem PySem.Spec PyProof.Rows L2

section
variable {K : PySem.W.Frag} {mg : Str → Option Value} {W : WX} {σ : St} {I H : Hp} {F : Pd} {Q Q' : VK}
theorem PostE.mono {r : R O} (hq : ∀ v H, Q v H → Q' v H) (h : PostE K mg W σ I H F Q r) : PostE K mg W σ I H F Q' r := by
  cases r with
  | ok r ρ' => exact fun v H' I' φ' G a b c d => hq _ _ (h v H' I' φ' G a b c d)
  | exc c ρ' => exact h
  | stuck => exact h
theorem rdE.mono {f : M O} (hq : ∀ v H, Q v H → Q' v H) (h : rdE K mg W f σ H Q) : rdE K mg W f σ H Q' := by
  obtain ⟨ρ, I, φ, gd, h⟩ := h
  exact ⟨ρ, I, φ, gd, h.mono hq⟩
end
section
variable {X : Cx} {W : WX} {io : List Nat}
theorem ets_nil : PTs X [] (rdT X.K X.mg W T.yes) := by
  refine ⟨fun pins s σ H Q I h => pts_nil.run pins s σ H Q I ?_⟩
  obtain ⟨ρ, I, φ, gd, h⟩ := h
  exact h H I φ (Stp.refl fun _ z => z) gd
theorem ets_one {c : Expr} {t : M Bool} (h : ET X W c t) : PTs X [c] (rdT X.K X.mg W t) := pts_one h
theorem ee_lc {elt tg iter : Expr} {ifs : List Expr} {scope : Scope} {own : List (Str × Nat)} {pos : Pos} {fi : M (List D)} {g : O → M Unit} {t : M Bool} {f : M O} (hc : X.calm = true) (hN : X.N.Nodup) (hi : EI X W tg iter fi) (ok : BlkOk X.N X.env.scope scope own)
    (hg : ∀ (s : Shared) (H : Hp) (C : Addr) (cl : List (Str × Addr)) (fp : List Addr), PG (X.blk s H scope (compEnvC scope cl C X.env) fp) tg (rdG X.K X.mg (notIn X.N.length (own.map (·.2))) g))
    (ht : ∀ (s : Shared) (H : Hp) (C : Addr) (cl : List (Str × Addr)) (fp : List Addr), PTs (X.blk s H scope (compEnvC scope cl C X.env) fp) ifs (rdT X.K X.mg W0 t))
    (he : ∀ (s : Shared) (H : Hp) (C : Addr) (cl : List (Str × Addr)) (fp : List Addr), PE (X.blk s H scope (compEnvC scope cl C X.env) fp) elt (rdE X.K X.mg W0 f)) (hs : ∀ x, foldedSetIterable iter X.env x = pure x := by intro _; rfl) :
    EE X W (.ListComp elt [⟨tg, iter, ifs, 0⟩] scope pos) (E.lc (own.map (·.2)) fi g t f) :=
  ⟨fun pins s σ H Q I h => (pe_lc hc hN hi ok hg ht he hs).run pins s σ H Q I (lc_read I.len h)⟩
theorem es_setLc (i : Nat) {y : Str} {py : Pos} {elt tg iter : Expr} {ifs : List Expr} {scope : Scope} {own : List (Str × Nat)} {pos spos : Pos} {fi : M (List D)} {g : O → M Unit} {t : M Bool} {f : M O} (hc : X.calm = true) (hN : X.N.Nodup)
    (hy : X.N[i]? = some y) (hyl : X.env.scope.names.lookup y = some .local) (hio : i ∉ io)
    (hsw : swapsWith (.ListComp elt [⟨tg, iter, ifs, 0⟩] scope pos) (some (.Name y py)) spos.line X.env = pure true) (hi : EI X W tg iter fi) (ok : BlkOk X.N X.env.scope scope own)
    (hg : ∀ (s : Shared) (H : Hp) (C : Addr) (cl : List (Str × Addr)) (fp : List Addr), PG (X.blk s H scope (compEnvC scope cl C X.env) fp) tg (rdG X.K X.mg (notIn X.N.length (own.map (·.2))) g))
    (ht : ∀ (s : Shared) (H : Hp) (C : Addr) (cl : List (Str × Addr)) (fp : List Addr), PTs (X.blk s H scope (compEnvC scope cl C X.env) fp) ifs (rdT X.K X.mg W0 t))
    (he : ∀ (s : Shared) (H : Hp) (C : Addr) (cl : List (Str × Addr)) (fp : List Addr), PE (X.blk s H scope (compEnvC scope cl C X.env) fp) elt (rdE X.K X.mg W0 f)) (hs : ∀ x, foldedSetIterable iter X.env x = pure x := by intro _; rfl) :
    ES X W io (.Assign [.Name y py] (.ListComp elt [⟨tg, iter, ifs, 0⟩] scope pos) spos) (S.asg (E.lc (own.map (·.2)) fi g t f) (G.nm i)) := by
  refine ⟨fun pins s σ H D I h => (ps_setLc hc hN hy hyl hsw hi ok hg ht he hs).run pins s σ H D I ?_⟩
  have h2 := asg_read h
  have hl : i < σ.length := by
    rw [I.len]
    exact (List.getElem?_eq_some_iff.mp hy).1
  have h3 : rdE X.K X.mg W (E.lc (own.map (·.2)) fi g t f) σ H (fun x H1 => gName i x σ H1 D.nx) := by
    refine rdE.mono (fun v H1 q => ?_) h2
    obtain ⟨ρ, I', φ, o, G, gd, tm, w, q⟩ := q
    exact q (σ.set i (some v)) H1 I' (setP φ i G) (keeps_set hio) (Stp.refl fun a z => (al_setP z).symm) (gd.upd tm.dj tm.th (fun j a g _ => tm.sp j a g) (fun j hj => List.getElem?_set_ne (Ne.symm hj)) fun _ _ => ⟨v, List.getElem?_set_self hl, w⟩)
  exact lc_read I.len h3

/-! ### raise -/
theorem es_raise {x m : Str} {j : Nat} {p p2 pos rpos : Pos} {C : Addr} {B newId initId : String} {bmB bm : List Value} (hc : X.calm = true) (tk : Takes X W) (F : ExcBaseFacts B newId initId bmB) (q : PySem.W.excIn X.K C bmB newId = true) (gC : X.mg x = some (.ref C)) (kC : PySem.W.keepIn X.K (.ref C) = true) (r : Raises X (.ref C)) (hg : Gl X x)
    (hdb : (x == ("__debug__" : Str)) = false := by decide) : ES X W io (.Raise (some (.Call (.Name x p) [.Constant (.str m) j p2] [] pos)) none rpos) (S.raise x) := by
  refine PS.weak (ps_raise hc tk (pmk_own F q gC kC r hg hdb)) fun D σ H ⟨ρ, I, φ, gd, h⟩ => ?_
  exact h C σ H I φ (Keeps.refl _) gC (Stp.refl fun _ z => z) gd
end

/-! ### what a def is worth -/
inductive FRes where
  | ok (r : O) (outs : List O)
  | exc (c : Str) (outs : List O)
  | stuck
/-- a body as a function of its arguments; io: the parameters that are handed back -/
def runF (io : List Nat) (n : Nat) (body : M Fl) (os : List O) : FRes := match body (os ++ List.replicate (n - os.length) .un) with
  | .ok (.ret r) ρ => .ok r (io.map fun i => ρ.getD i .un)
  | .ok .nx ρ => .ok (.d .none) (io.map fun i => ρ.getD i .un)
  | .exc c ρ => .exc c (io.map fun i => ρ.getD i .un)
  | _ => .stuck
section
variable (K : PySem.W.Frag) (mg : Str → Option Value)
structure Holds (I H : Hp) (G : Pd) : Prop where
  le : Same I H
  dj : ∀ a, G a → I a = none
  th : ∀ a, G a → H a ≠ none
def PostF (I H : Hp) (F : Pd) (io : List V) (Q : VK) (E : XK) : FRes → Prop
  | .ok r outs => ∀ (v : V) (H' I' : Hp) (G : Pd), Stp I H F I' H' G → Holds I' H' G → Owns K mg I' H' (r :: outs) (v :: io) G → Q v H'
  | .exc c outs => ∀ (C : Addr) (H' I' : Hp) (G : Pd), mg c = some (.ref C) → Stp I H F I' H' G → Holds I' H' G → Owns K mg I' H' outs io G → E (.ref C) none H'
  | .stuck => False
/-- the promise of a def that is worth m -/
def spF (np : Nat) (io : List Nat) (m : List O → FRes) : Sp := fun vs H Q E => ∃ os I G, os.length = np ∧ Holds I H G ∧ Owns K mg I H os vs G ∧ PostF K mg I H G (io.map fun i => vs.getD i .non) Q E (m os)
end
/-- FnOk where no repr is under way -/
structure FnG (P : Program) (w : World) (K : PySem.W.Frag) (mg : Str → Option Value) (base : Heap) (k : Nat) (f : Addr) (fd : FuncData) (ps : List Str) (sp : Sp) : Prop where
  len : ∀ vs H Q E, sp vs H Q E → vs.length = ps.length
  run : ∀ (A : Around) (outer : List PySem.Env) (s : Shared) (H : Hp) (args : Args) (us : List Value) (vs : List V) (Q : VK) (E : XK), Room k A → A.guards = some [] → Env0 P w K mg base A outer s H → BindsTo s fd args (ps.zip us) → Vals vs us → sp vs H Q E →
    codeAny (model P w) A (.call (.ref f) args) (CR (L2.CX P w) outer P w H s Q E) s
theorem FnG.mono {P : Program} {w : World} {K : PySem.W.Frag} {mg : Str → Option Value} {base : Heap} {j k : Nat} {f : Addr} {fd : FuncData} {ps : List Str} {sp : Sp} (F : FnG P w K mg base j f fd ps sp) (h : j ≤ k) :
    FnG P w K mg base k f fd ps sp := ⟨F.len, fun A outer s H args us vs Q E hr => F.run A outer s H args us vs Q E (hr.mono h)⟩
theorem fnG_of {P : Program} {w : World} {K : PySem.W.Frag} {mg : Str → Option Value} {base : Heap} {k : Nat} {f : Addr} {name qual : Str} {params : Arguments} {body : List Stmt} {scope : Scope} {dV kV doc pm cdv ct oc : Value} {an od : Option Addr}
    {osl : Array (Option Value)} {N ps : List Str} {sp : Sp} (lk : K.lookup f = some ⟨oc, od, .func (PySem.W.fnOf name qual params body scope dV kV doc pm an cdv ct), osl⟩) (hcd : PySem.W.codeIn K cdv qual = true) (S : FnScope N ps scope)
    (len : ∀ vs H Q E, sp vs H Q E → vs.length = ps.length)
    (hbody : ∀ (A : Around) (outer : List PySem.Env) (s : Shared) (H : Hp) (vs : List V) (Q : VK) (E : XK), Room k (A.deeper (envOfC qual scope s.heap.objs.size f cdv)) → A.guards = some [] → sp vs H Q E →
      ∃ t, PSs (cxOf (L2.CX P w) P w K mg base N qual scope f cdv A outer s H E) body t ∧ t { nx := fun _ H' => Q .non H', rt := Q } (L2.start N vs) H) :
    FnG P w K mg base (k + 1) f (PySem.W.fnOf name qual params body scope dV kV doc pm an cdv ct) ps sp := by
  refine ⟨len, fun A outer s H args us vs Q E hr hgd e0 hb r hsp => ?_⟩
  have hl := len _ _ _ _ hsp
  have KX : K.In s.heap := e0.mod.kin.keeps fun b o e => (e0.bs b o e).1
  have lim : s.heap.NoLimit := e0.mod.nolimit.keeps fun b o e => (e0.bs b o e).1
  have hkind : ∀ y ∈ ps.zip us, scope.names.lookup y.1 = some .local ∨ (scope.names.lookup y.1 = some .cell ∧ ((cellsFrom (s.heap.objs.size + 1) scope.names []).lookup y.1).isSome = true) := fun ⟨n, v⟩ hy => by
    rcases S.par n (List.of_mem_zip hy).1 with q | q
    · exact .inl q
    · exact .inr ⟨q, PySem.W.cellsFrom_some _ _ _ (.inl q)⟩
  refine codeAny_call_function hr.depth (KX _ _ lk) rfl S.co S.gen rfl (PySem.W.codeRec_of KX hcd) (hb _ _ _ _ ?_)
  refine wpAny_newFunctionEnv_cells S.kind hkind fun env he s1 x => ?_
  subst he
  refine ⟨lim.keeps x.toInCall.keep, codeAny_func ?_⟩
  obtain ⟨t, ht, hq⟩ := hbody A outer s H vs Q E (hr.deeper _) hgd hsp
  have I : Inv (cxOf (L2.CX P w) P w K mg base N qual scope f cdv A outer s H E) [] (L2.start N vs) H s1 := inv_start S hr.hd e0 hl r x
  refine wpAny_mono (ht.run [] s1 (L2.start N vs) H _ I hq) (fun fl s' hs => ?_) fun e s' hs => hs
  have fin : ∀ {σ' : St} {H' : Hp} {v : V} {u : Value}, Inv (cxOf (L2.CX P w) P w K mg base N qual scope f cdv A outer s H E) [] σ' H' s' → RelV v u → Q v H' → CE outer P w H s Q u s' :=
    fun {σ' H' v u} J rv q => ⟨v, H', J.os, J.bare, J.base, J.hok, rv, q⟩
  cases fl with
  | ret u =>
    obtain ⟨v, σ', H', J, rv, q⟩ := hs
    exact fin J rv q
  | next =>
    obtain ⟨σ', H', J, q⟩ := hs
    exact fin (v := V.non) (u := Value.none) J rfl q
  | brk =>
    obtain ⟨_, _, _, q⟩ := hs
    exact False.elim q
  | cont =>
    obtain ⟨_, _, _, q⟩ := hs
    exact False.elim q
section
variable {X : Cx} {k : Nat} {f : Addr} {fd : FuncData} {ps : List Str} {sp : Sp} {E : St → XK} {x : Str} {p pos : Pos} {e : Expr} {es : List Expr} {t : TA}
theorem run_fnG {pins : List (Addr × Obj)} {σ : St} {H : Hp} {s : Shared} {Q : VK} {us : List Value} {vs : List V} (F : FnG X.prog X.w X.K X.mg X.base k f fd ps sp) (hr : Room k X.A) (hgd : X.A.guards = some []) (hb : Binds X.K fd ps []) (hx : PassesAt (L2.CX X.prog X.w) X σ (E σ))
    (I : Inv X pins σ H s) (r : Vals vs us) (h : sp vs H Q (E σ)) : wpAny (model X.prog X.w) X.A (call (.ref f) us) (EP X pins σ Q) X.xe s := by
  have hl : (us ++ []).length = ps.length := by rw [List.append_nil, ← r.length]; exact F.len _ _ _ _ h
  have hb' := hb s us I.kIn hl
  rw [List.append_nil] at hb'
  refine wpAny_call (codeAny_mono (F.run X.A X.stack s H ⟨us, []⟩ us vs Q (E σ) hr hgd I.env0 hb' r h) fun r s' hq => ?_)
  cases r with
  | error e => exact hx pins H s e s' I hq
  | ok fl =>
    cases fl with
    | ret u => exact I.after hq
    | next => exact False.elim hq
    | brk => exact False.elim hq
    | cont => exact False.elim hq
theorem pe_callG (F : FnG X.prog X.w X.K X.mg X.base k f fd ps sp) (hr : Room k X.A) (hgd : X.A.guards = some []) (hg : Gl X x) (hm : X.mg x = some (.ref f)) (hk : PySem.W.keepIn X.K (.ref f) = true) (hb : Binds X.K fd ps []) (hx : ∀ σ, PassesAt (L2.CX X.prog X.w) X σ (E σ))
    (ha : PA X (e :: es) t) (hdb : (x == ("__debug__" : Str)) = false := by decide) (he : starEach (e :: es) X.env = (false, eval e X.env) :: starEach es X.env := by rfl) (hpl : (backTo pos (starEach es X.env)).any (·.1) = false := by rfl) :
    PE X (.Call (.Name x p) (e :: es) [] pos) (fun σ H Q => t σ H fun vs H1 => sp vs H1 Q (E σ)) := by
  refine ⟨fun pins s σ H Q I h => ?_⟩
  refine wpAny_Call_Name_kw (ld_glob I hg hm ?_ hdb)
  refine PySem.W.callWith_K (h₀ := X.base) I.ok.mod.kin hk (thn (ha.run pos pins s σ H _ I h) fun us s1 ⟨vs, H1, I1, r, q⟩ => ⟨I1.kIn, ?_⟩) he hpl
  exact run_fnG F hr hgd hb (hx σ) I1 r q
end
abbrev FE (P : Program) (w : World) (K : PySem.W.Frag) (mg : Str → Option Value) (base : Heap) (k : Nat) (f : Addr) (fd : FuncData) (ps : List Str) (io : List Nat) (m : List O → FRes) : Prop :=
  FnG P w K mg base k f fd ps (spF K mg ps.length io m)
section
variable {K : PySem.W.Frag} {mg : Str → Option Value}
/-- the arguments, slot by slot -/
theorem Owns.slots {I H : Hp} : ∀ {os : List O} {vs : List V} {G : Pd}, Owns K mg I H os vs G → ∃ φ : Ph, (∀ i a, φ i a → G a) ∧ (∀ i j a, φ i a → φ j a → i = j) ∧ ∀ i o, os[i]? = some o → ∃ v, vs[i]? = some v ∧ Own K mg I H o v (φ i)
  | _, _, _, .nil => ⟨fun _ => noP, fun _ _ q => q.elim, fun _ _ _ q => q.elim, fun i o e => by simp at e⟩
  | _, _, _, .cons (S1 := S1) (v := v) a b c d dis => by
    obtain ⟨φ, h1, h2, h3⟩ := Owns.slots b
    refine ⟨fun i => match i with | 0 => S1 | i + 1 => φ i, fun i x q => ?_, fun i j x q r => ?_, fun i o e => ?_⟩
    · cases i with
      | zero => exact c x q
      | succ i => exact d x (h1 i x q)
    · cases i with
      | zero =>
        cases j with
        | zero => rfl
        | succ j => exact (dis x q (h1 j x r)).elim
      | succ i =>
        cases j with
        | zero => exact (dis x r (h1 i x q)).elim
        | succ j => rw [h2 i j x q r]
    · cases i with
      | zero => simp at e; subst e; exact ⟨v, by simp, a⟩
      | succ i =>
        obtain ⟨u, e1, w⟩ := h3 i o (by simpa using e)
        exact ⟨u, by simpa using e1, w⟩
/-- some slots handed back -/
theorem Gd.outs {I H : Hp} {φ : Ph} {ρ : Env} {σ : St} (gd : Gd K mg I H φ ρ σ) {vs : List V} : ∀ {io : List Nat}, io.Nodup → (∀ i ∈ io, ∃ v, vs[i]? = some v ∧ σ[i]? = some (some v)) →
    Owns K mg I H (io.map fun i => ρ.getD i .un) (io.map fun i => vs.getD i .non) (fun a => ∃ i ∈ io, φ i a)
  | [], _, _ => .nil
  | i :: io, nd, h => by
    obtain ⟨hn, nd'⟩ := List.nodup_cons.mp nd
    obtain ⟨v, e1, e2⟩ := h i List.mem_cons_self
    have ih := Gd.outs gd nd' fun j hj => h j (List.mem_cons_of_mem _ hj)
    refine .cons (S1 := φ i) ?_ ih (fun a q => ⟨i, List.mem_cons_self, q⟩) (fun a ⟨j, hj, q⟩ => ⟨j, List.mem_cons_of_mem _ hj, q⟩) fun a q ⟨j, hj, r⟩ => hn (by rw [gd.sep i j a q r]; exact hj)
    have ev : vs.getD i .non = v := by rw [List.getD_eq_getElem?_getD, e1]; rfl
    show Own K mg I H (ρ.getD i .un) (vs.getD i .non) (φ i)
    rw [ev]
    rw [List.getD_eq_getElem?_getD]
    cases e : ρ[i]? with
    | none => exact .un
    | some o =>
      by_cases z : o = .un
      · rw [z]; exact .un
      · obtain ⟨v', e3, w⟩ := gd.sl i o e z
        rw [e2] at e3
        cases e3
        exact w
variable {P : Program} {w : World} {base : Heap}
/-- THE RULE for a def -/
theorem fe_of {x qual : Str} {st : Stmt} {f : Addr} {fd : FuncData} {N ps : List Str} {k : Nat} {io : List Nat} {body : M Fl} (F : Fun K x qual st f fd) (S : FnScope N ps (defScope st)) (hio : io.Nodup) (hps : ∀ i ∈ io, i < ps.length)
    (hbody : ∀ (cdv : Value) (A : Around) (outer : List PySem.Env) (s : Shared) (H : Hp) (E : XK), Room k (cxOf (L2.CX P w) P w K mg base N qual (defScope st) f cdv A outer s H E).A → (cxOf (L2.CX P w) P w K mg base N qual (defScope st) f cdv A outer s H E).A.guards = some [] →
      Takes (cxOf (L2.CX P w) P w K mg base N qual (defScope st) f cdv A outer s H E) (fun cls d _ H => E cls d H) → EB (cxOf (L2.CX P w) P w K mg base N qual (defScope st) f cdv A outer s H E) (fun cls d _ H => E cls d H) io (defBody st) body) :
    FE P w K mg base (k + 1) f fd ps io (runF io N.length body) := by
  obtain ⟨oc, od, kV, doc, pm, an, cdv, ct, osl, rfl, lk, hcd⟩ := F.ex
  refine fnG_of lk hcd S (fun vs H Q E h => ?_) fun A outer s H vs Q E hr hgd h => ?_
  · obtain ⟨os, I, G, hl, _, w, _⟩ := h
    rw [w.len, hl]
  · obtain ⟨os, I, G, hl, hd, ow, h⟩ := h
    have tk : Takes (cxOf (L2.CX P w) P w K mg base N qual (defScope st) f cdv A outer s H E) (fun cls d _ H => E cls d H) := takes_of rfl rfl rfl rfl
    refine ⟨_, hbody cdv A outer s H E hr hgd tk, ?_⟩
    obtain ⟨φ, h1, h2, h3⟩ := ow.slots
    have hvl : vs.length = os.length := ow.len
    have gd : Gd K mg I H φ (os ++ List.replicate (N.length - os.length) .un) (L2.start N vs) := by
      refine ⟨hd.le, fun i a q => hd.dj a (h1 i a q), fun i a q => hd.th a (h1 i a q), h2, fun i o e n => ?_⟩
      by_cases hi : i < os.length
      · rw [List.getElem?_append_left hi] at e
        obtain ⟨v, e1, ww⟩ := h3 i o e
        refine ⟨v, ?_, ww⟩
        unfold L2.start
        rw [List.getElem?_append_left (by rw [List.length_map, hvl]; exact hi), List.getElem?_map, e1]
        rfl
      · rw [List.getElem?_append_right (by omega), List.getElem?_replicate] at e
        split at e
        · exact (n (Option.some.inj e).symm).elim
        · cases e
    have sub : ∀ a, al φ a → G a := fun a ⟨i, q⟩ => h1 i a q
    have args : ∀ i ∈ io, ∃ v, vs[i]? = some v ∧ (L2.start N vs)[i]? = some (some v) := fun i hi => by
      have hlt : i < vs.length := by rw [hvl, hl]; exact hps i hi
      refine ⟨vs[i], List.getElem?_eq_getElem hlt, ?_⟩
      unfold L2.start
      rw [List.getElem?_append_left (by rw [List.length_map]; exact hlt), List.getElem?_map, List.getElem?_eq_getElem hlt]
      rfl
    have outs : ∀ {σ' : St} {H' I' : Hp} {φ' : Ph} {ρ' : Env}, Keeps io (L2.start N vs) σ' → Gd K mg I' H' φ' ρ' σ' → Owns K mg I' H' (io.map fun i => ρ'.getD i .un) (io.map fun i => vs.getD i .non) (fun a => ∃ i ∈ io, φ' i a) :=
      fun {σ' H' I' φ' ρ'} kp g => g.outs hio fun i hi => by
        obtain ⟨v, e1, e2⟩ := args i hi
        exact ⟨v, e1, (kp.at_ i hi).trans e2⟩
    refine ⟨_, I, φ, gd, ?_⟩
    unfold runF at h
    have fin : ∀ {r : O} {v : V} {σ' : St} {H' I' : Hp} {φ' : Ph} {G' : Pd} {ρ' : Env}, PostF K mg I H G (io.map fun i => vs.getD i .non) Q E (.ok r (io.map fun i => ρ'.getD i .un)) → Keeps io (L2.start N vs) σ' → Stp I H (al φ) I' H' (orP (al φ') G') → Gd K mg I' H' φ' ρ' σ' →
        Tm I' H' φ' G' → Own K mg I' H' r v G' → Q v H' := fun {r v σ' H' I' φ' G' ρ'} h kp s g t ww => by
      refine h v H' I' (fun a => G' a ∨ ∃ i ∈ io, φ' i a) ((s.from sub).sub fun a q => ?_) ⟨g.le, fun a q => ?_, fun a q => ?_⟩ (.cons ww (outs kp g) (fun a => .inl) (fun a => .inr) fun a q ⟨i, _, r⟩ => t.sp i a q r)
      · rcases q with q | ⟨i, _, q⟩
        · exact .inr q
        · exact .inl ⟨i, q⟩
      · rcases q with q | ⟨i, _, q⟩
        · exact t.dj a q
        · exact g.dj i a q
      · rcases q with q | ⟨i, _, q⟩
        · exact t.th a q
        · exact g.th i a q
    cases e : body (os ++ List.replicate (N.length - os.length) .un) with
    | stuck => rw [e] at h; exact h.elim
    | exc c ρ' =>
      rw [e] at h
      intro C σ' H' I' φ' kp eC s g
      exact h C H' I' (fun a => ∃ i ∈ io, φ' i a) eC ((s.from sub).sub fun a ⟨i, _, q⟩ => ⟨i, q⟩) ⟨g.le, fun a ⟨i, _, q⟩ => g.dj i a q, fun a ⟨i, _, q⟩ => g.th i a q⟩ (outs kp g)
    | ok r ρ' =>
      rw [e] at h
      cases r with
      | nx => exact fun σ' H' I' φ' kp s g => fin h kp (s.sub fun a q => q.elim id False.elim) g Tm.none (.d .non)
      | brk => exact h.elim
      | cnt => exact h.elim
      | ret r => exact fun v σ' H' I' φ' G' kp s g t ww => fin h kp s g t ww
end

/-! ### calls -/
/-- the arguments of a call, frozen -/
def frzA : O → Option O
  | .scr xs => some (.scr xs)
  | o => (frz o).map .d
theorem frzA_cases {o y : O} (h : frzA o = some y) : (∃ xs, o = .scr xs ∧ y = .scr xs) ∨ ∃ x, frz o = some x ∧ y = .d x := by
  unfold frzA at h
  split at h
  · cases h; exact .inl ⟨_, rfl, rfl⟩
  · rw [Option.map_eq_some_iff] at h
    obtain ⟨x, h1, rfl⟩ := h
    exact .inr ⟨x, h1, rfl⟩
def frzArgs : List O → Option (List O)
  | [] => some []
  | o :: r => match frzA o, frzArgs r with
    | some x, some xs => some (x :: xs)
    | _, _ => none
def E.call (n : Nat) (m : List O → FRes) (f : M (List O)) : M O := f.bind fun os => fun ρ => match frzArgs os with
  | some xs => if xs.length = n then (match m xs with
    | .ok r [] => .ok r ρ
    | .exc c [] => .exc c ρ
    | _ => .stuck) else .stuck
  | none => .stuck
/-- .. whose first argument is the slot i, which is handed back -/
def E.callIO (n : Nat) (m : List O → FRes) (i : Nat) (f : M (List O)) : M O := fun ρ0 => match ρ0[i]? with
  | some .un => .stuck
  | none => .stuck
  | some _ => (f.bind fun os => fun ρ => match frzArgs os, ρ[i]? with
    | some xs, some o => if xs.length + 1 = n then (match m (o :: xs) with
      | .ok r [o'] => .ok r (ρ.set i o')
      | .exc c [o'] => .exc c (ρ.set i o')
      | _ => .stuck) else .stuck
    | _, _ => .stuck) ρ0
section
variable {K : PySem.W.Frag} {mg : Str → Option Value} {I H : Hp}
theorem Owns.frzArgs {G : Pd} : ∀ {os xs : List O} {vs : List V} {S S' : Pd}, Owns K mg I H os vs S → (∀ a, S a → G a) → (∀ a, G a → I a = none) → EV.frzArgs os = some xs → Owns K mg (addI I H G) H xs vs S'
  | _, _, _, _, _, .nil, _, _, e => by rw [EV.frzArgs] at e; cases e; exact .nil
  | o :: r, _, _, _, S', .cons a b c d _, hS, hd, e => by
    rw [EV.frzArgs] at e
    split at e
    · rename_i x xs e1 e2
      cases e
      refine .cons (S1 := noP) (S2 := S') ?_ (Owns.frzArgs b (fun z q => hS z (d z q)) hd e2) (fun _ q => q.elim) (fun _ q => q) (fun _ q => q.elim)
      rcases frzA_cases e1 with ⟨ys, rfl, rfl⟩ | ⟨y, e3, rfl⟩
      · cases a with
        | scr q => exact .scr ((RdLe.of (addI_same hd)).sqL q)
      · exact .d ((a.mono fun z q => hS z (c z q)).den e3 hd)
    · cases e
end
section
variable {X : Cx} {W : WX} {k : Nat} {f : Addr} {fd : FuncData} {ps : List Str} {m : List O → FRes} {x : Str} {p pos : Pos} {e : Expr} {es : List Expr} {fa : M (List O)}
theorem call_read {σ : St} {H : Hp} {Q : VK} {n : Nat} (h : rdE X.K X.mg W (E.call n m fa) σ H Q) : (rdA X.K X.mg W fa) σ H (fun vs H1 => spF X.K X.mg n [] m vs H1 Q (WE W σ)) := by
  obtain ⟨ρ, I, φ, gd, h⟩ := h
  refine bindA (P := PostE X.K X.mg W σ I H (al φ) Q) gd h (fun _ _ z => z) (fun z => z) fun os ρ1 _ h vs H1 I1 φ1 G1 s1 gd1 t1 w1 => ?_
  have h' := h.shift s1
  cases e : EV.frzArgs os with
  | none => rw [e] at h'; exact h'.elim
  | some xs =>
    rw [e] at h'
    obtain ⟨gd2, st2⟩ := gd1.freeze t1
    have w2 : Owns X.K X.mg (addI I1 H1 G1) H1 xs vs noP := w1.frzArgs (fun _ q => q) t1.dj e
    simp only at h'
    split at h'
    case isFalse => exact h'.elim
    rename_i hl2
    refine ⟨xs, addI I1 H1 G1, noP, hl2, ⟨gd2.le, fun _ q => q.elim, fun _ q => q.elim⟩, w2, ?_⟩
    have back : ∀ {H' I' : Hp} {G' : Pd}, Stp (addI I1 H1 G1) H1 noP I' H' G' → Holds I' H' G' → Gd X.K X.mg I' H' φ1 ρ1 σ ∧ Stp I1 H1 (orP (al φ1) G1) I' H' (orP (al φ1) G') ∧ Tm I' H' φ1 G' := by
      intro H' I' G' s hd
      have tk : ∀ i a, φ1 i a → ∃ o, H1 a = some o := fun i a q => Option.ne_none_iff_exists'.mp (gd1.th i a q)
      refine ⟨⟨hd.le, fun i a q => ?_, fun i a q => ?_, gd1.sep, fun i o e n => ?_⟩, ?_, ⟨hd.dj, hd.th, fun i a g q => ?_⟩⟩
      · cases ei : I' a with
        | none => rfl
        | some o =>
          obtain ⟨o', ho⟩ := tk i a q
          rcases s.fi a o ei with z | z | z
          · rw [gd2.dj i a q] at z; cases z
          · exact z.elim
          · rw [ho] at z; cases z
      · obtain ⟨o, ho⟩ := tk i a q
        rw [s.kp a o ho id]; exact Option.some_ne_none _
      · obtain ⟨v, e1, ww⟩ := gd2.sl i o e n
        exact ⟨v, e1, ww.step (RdLe.of s.li) fun a u _ z => s.kp a u z id⟩
      · refine st2.trans ((s.frame (G := al φ1) fun a ⟨i, q⟩ => gd1.th i a q).from (F2 := al φ1) fun a q => q.elim False.elim id |>.elim fun i z => ⟨i, z⟩) |>.sub fun a q => q.elim .inr .inl
      · obtain ⟨o, ho⟩ := tk i a q
        rcases s.fr a g with z | z
        · exact z
        · rw [ho] at z; cases z
    cases em : m xs with
    | stuck => rw [em] at h'; exact h'.elim
    | ok r outs =>
      rw [em] at h'
      cases outs with
      | cons _ _ => exact h'.elim
      | nil =>
        intro v H' I' G' s hd ow
        obtain ⟨g, st, t⟩ := back s hd
        cases ow with
        | cons a b c d dis => exact h' v H' I' φ1 G' st g t (a.mono c)
    | exc c outs =>
      rw [em] at h'
      cases outs with
      | cons _ _ => exact h'.elim
      | nil =>
        intro C H' I' G' eC s hd ow
        obtain ⟨g, st, t⟩ := back s hd
        exact h' C H' I' φ1 eC (st.sub fun a q => .inl q) g
end

section
variable {K : PySem.W.Frag} {mg : Str → Option Value} {I H I' H' : Hp} {φ : Ph} {ρ : Env} {σ : St} {F F' : Pd}
/-- a step that leaves all slots aside -/
theorem Gd.past (gd : Gd K mg I H φ ρ σ) (s : Stp I H F I' H' F') (nf : ∀ a, al φ a → ¬ F a) (le : Same I' H') : Gd K mg I' H' φ ρ σ ∧ ∀ a, al φ a → ¬ F' a := by
  have tk : ∀ i a, φ i a → ∃ o, H a = some o := fun i a q => Option.ne_none_iff_exists'.mp (gd.th i a q)
  refine ⟨⟨le, fun i a q => ?_, fun i a q => ?_, gd.sep, fun i o e n => ?_⟩, fun a ⟨i, q⟩ z => ?_⟩
  · cases ei : I' a with
    | none => rfl
    | some o =>
      obtain ⟨o', ho⟩ := tk i a q
      rcases s.fi a o ei with z | z | z
      · rw [gd.dj i a q] at z; cases z
      · exact (nf a ⟨i, q⟩ z).elim
      · rw [ho] at z; cases z
  · obtain ⟨o, ho⟩ := tk i a q
    rw [s.kp a o ho (nf a ⟨i, q⟩)]; exact Option.some_ne_none _
  · obtain ⟨v, e1, w⟩ := gd.sl i o e n
    exact ⟨v, e1, w.step (RdLe.of s.li) fun a u g z => s.kp a u z (nf a ⟨i, g⟩)⟩
  · obtain ⟨o, ho⟩ := tk i a q
    rcases s.fr a z with y | y
    · exact nf a ⟨i, q⟩ y
    · rw [ho] at y; cases y
end
section
variable {X : Cx} {W : WX} {k : Nat} {f : Addr} {fd : FuncData} {ps : List Str} {m : List O → FRes} {x : Str} {p pos : Pos} {e : Expr} {es : List Expr} {fa : M (List O)}
theorem callIO_read {σ : St} {H : Hp} {Q : VK} {n i : Nat} (h : rdE X.K X.mg W (E.callIO n m i fa) σ H Q) : tCons (tVar i) (rdA X.K X.mg W fa) σ H (fun vs H1 => spF X.K X.mg n [0] m vs H1 Q (WE W σ)) := by
  obtain ⟨ρ, I, φ, gd, h⟩ := h
  unfold E.callIO at h
  obtain ⟨v0, hv0, h⟩ : ∃ v, σ[i]? = some (some v) ∧ PostE X.K X.mg W σ I H (al φ) Q ((fa.bind fun os => fun ρ => match frzArgs os, ρ[i]? with
    | some xs, some o => if xs.length + 1 = n then (match m (o :: xs) with
      | .ok r [o'] => .ok r (ρ.set i o')
      | .exc c [o'] => .exc c (ρ.set i o')
      | _ => .stuck) else .stuck
    | _, _ => .stuck) ρ) := by
    cases e : ρ[i]? with
    | none => rw [e] at h; exact h.elim
    | some o =>
      rw [e] at h
      have ne : o ≠ .un := by intro z; subst z; exact h
      obtain ⟨v, e1, _⟩ := gd.sl i o e ne
      refine ⟨v, e1, ?_⟩
      cases o with
      | un => exact h.elim
      | _ => exact h
  refine ⟨v0, hv0, ?_⟩
  refine bindA (P := PostE X.K X.mg W σ I H (al φ) Q) gd h (fun _ _ z => z) (fun z => z) fun os ρ1 _ h vs H1 I1 φ1 G1 s1 gd1 t1 w1 => ?_
  have h' := h.shift s1
  show spF X.K X.mg n [0] m (v0 :: vs) H1 Q (WE W σ)
  cases e : EV.frzArgs os with
  | none => rw [e] at h'; exact h'.elim
  | some xs =>
    cases eo : ρ1[i]? with
    | none => rw [e, eo] at h'; exact h'.elim
    | some o =>
      rw [e, eo] at h'
      simp only at h'
      split at h'
      case isFalse => exact h'.elim
      rename_i hl
      obtain ⟨gd2, st2⟩ := gd1.freeze t1
      have w2 : Owns X.K X.mg (addI I1 H1 G1) H1 xs vs noP := w1.frzArgs (fun _ q => q) t1.dj e
      have wo : Own X.K X.mg (addI I1 H1 G1) H1 o v0 (φ1 i) := by
        by_cases z : o = .un
        · rw [z]; exact .un
        · obtain ⟨v, e1, ww⟩ := gd2.sl i o eo z
          rw [hv0] at e1; cases e1
          exact ww
      have gd3 : Gd X.K X.mg (addI I1 H1 G1) H1 (setP φ1 i noP) (ρ1.set i .un) σ := gd2.upd (fun _ q => q.elim) (fun _ q => q.elim) (fun _ _ q => q.elim) (fun _ _ => rfl) (fun _ z => (z rfl).elim)
      have nf : ∀ a, al (setP φ1 i noP) a → ¬ φ1 i a := fun a ⟨j, q⟩ r => by
        by_cases z : j = i
        · subst z; rw [setP_same] at q; exact q
        · rw [setP_ne z] at q; exact z (gd1.sep j i a q r)
      refine ⟨o :: xs, addI I1 H1 G1, φ1 i, hl, ⟨gd2.le, gd2.dj i, gd2.th i⟩, .cons wo w2 (fun _ q => q) (fun _ q => q.elim) (fun _ _ q => q), ?_⟩
      have step : ∀ {H' I' : Hp} {G' : Pd}, Stp (addI I1 H1 G1) H1 (φ1 i) I' H' G' → Holds I' H' G' → ∀ {o' : O} {S2 S1 : Pd}, (∀ a, S2 a → G' a) → (∀ a, S1 a → G' a) → (∀ a, S1 a → ¬ S2 a) → Own X.K X.mg I' H' o' v0 S2 →
          Gd X.K X.mg I' H' (setP φ1 i S2) (ρ1.set i o') σ ∧ Stp I1 H1 (orP (al φ1) G1) I' H' (orP (al (setP φ1 i S2)) S1) ∧ Tm I' H' (setP φ1 i S2) S1 := by
        intro H' I' G' s hd o' S2 S1 h2 h1 dis wo'
        obtain ⟨g, nf'⟩ := gd3.past s nf hd.le
        have hg := g.upd (σ' := σ) (S := S2) (i := i) (o := o') (fun a q => hd.dj a (h2 a q)) (fun a q => hd.th a (h2 a q)) (fun j a q hj r => nf' a ⟨j, r⟩ (h2 a q)) (fun _ _ => rfl) (fun _ _ => ⟨v0, hv0, wo'⟩)
        rw [List.set_set] at hg
        have es : setP (setP φ1 i noP) i S2 = setP φ1 i S2 := by
          funext j
          unfold setP
          split <;> rfl
        rw [es] at hg
        refine ⟨hg, (st2.trans ((s.frame (G := al (setP φ1 i noP)) fun a ⟨j, q⟩ => gd3.th j a q).from (F2 := al φ1) fun a q => ?_)).sub fun a q => ?_, ⟨fun a q => hd.dj a (h1 a q), fun a q => hd.th a (h1 a q), fun j a q r => ?_⟩⟩
        · rcases q with q | q
          · exact ⟨i, q⟩
          · exact (al_setP q).elim False.elim id
        · rcases q with ⟨j, q⟩ | q
          · by_cases z : j = i
            · subst z; rw [setP_same] at q; exact .inl (h2 a q)
            · rw [setP_ne z] at q
              exact .inr ⟨j, by rw [setP_ne z]; exact q⟩
          · exact .inl (h1 a q)
        · by_cases z : j = i
          · subst z; rw [setP_same] at r; exact dis a q r
          · rw [setP_ne z] at r
            exact nf' a ⟨j, by rw [setP_ne z]; exact r⟩ (h1 a q)
      cases em : m (o :: xs) with
      | stuck => rw [em] at h'; exact h'.elim
      | ok r outs =>
        rw [em] at h'
        match outs, h' with
        | [], h' => exact h'.elim
        | _ :: _ :: _, h' => exact h'.elim
        | [o'], h' =>
          intro v H' I' G' s hd ow
          cases ow with
          | cons a b c d dis =>
            cases b with
            | cons b1 b2 c2 d2 dis2 =>
              obtain ⟨g, st, t⟩ := step s hd (fun z q => d z (c2 z q)) c (fun z q r => dis z q (c2 z r)) b1
              exact h' v H' I' _ _ st g t a
      | exc c outs =>
        rw [em] at h'
        match outs, h' with
        | [], h' => exact h'.elim
        | _ :: _ :: _, h' => exact h'.elim
        | [o'], h' =>
          intro C H' I' G' eC s hd ow
          cases ow with
          | cons b1 b2 c2 d2 dis2 =>
            obtain ⟨g, st, t⟩ := step s hd (S1 := noP) c2 (fun _ q => q.elim) (fun _ q => q.elim) b1
            exact h' C H' I' _ eC (st.sub fun a q => .inl q) g
theorem ee_call (F : FE X.prog X.w X.K X.mg X.base k f fd ps [] m) (hr : Room k X.A) (hgd : X.A.guards = some []) (hg : Gl X x) (hm : X.mg x = some (.ref f)) (hk : PySem.W.keepIn X.K (.ref f) = true) (hb : Binds X.K fd ps []) (tk : Takes X W)
    (ha : EA X W (e :: es) fa) (hdb : (x == ("__debug__" : Str)) = false := by decide) (he : starEach (e :: es) X.env = (false, eval e X.env) :: starEach es X.env := by rfl) (hpl : (backTo pos (starEach es X.env)).any (·.1) = false := by rfl) :
    EE X W (.Call (.Name x p) (e :: es) [] pos) (E.call ps.length m fa) :=
  PE.weak (pe_callG F hr hgd hg hm hk hb (fun σ => passAt tk σ) ha hdb he hpl) fun _ _ _ h => call_read h
theorem ee_callIO (i : Nat) {y : Str} {py : Pos} (F : FE X.prog X.w X.K X.mg X.base k f fd ps [0] m) (hr : Room k X.A) (hgd : X.A.guards = some []) (hg : Gl X x) (hm : X.mg x = some (.ref f)) (hk : PySem.W.keepIn X.K (.ref f) = true) (hb : Binds X.K fd ps []) (tk : Takes X W)
    (hy : PE X (.Name y py) (tVar i)) (ha : EA X W es fa) (hdb : (x == ("__debug__" : Str)) = false := by decide) (hs : starEach (.Name y py :: es) X.env = (false, eval (.Name y py) X.env) :: starEach es X.env := by rfl) (hpl : (backTo pos (starEach es X.env)).any (·.1) = false := by rfl) :
    EE X W (.Call (.Name x p) (.Name y py :: es) [] pos) (E.callIO ps.length m i fa) :=
  PE.weak (pe_callG F hr hgd hg hm hk hb (fun σ => passAt tk σ) (pa_cons hy ha hs) hdb hs hpl) fun _ _ _ h => callIO_read h
end
end EV

/-! The layer EV, part H: operators and built-ins by values. -/
namespace EV
open PySem PySem.Spec PyProof.Rows L2
section
variable {K : PySem.W.Frag} {mg : Str → Option Value} {I H : Hp} {G : Pd}

theorem Own.int {i : Int} {v : V} (w : Own K mg I H (.d (.int i)) v G) : v = .int i := by
  cases w with
  | d q => cases q; rfl
theorem Own.bool {b : Bool} {v : V} (w : Own K mg I H (.d (.bool b)) v G) : v = .bl b := by
  cases w with
  | d q => cases q; rfl
theorem Own.str {x : Str} {v : V} (w : Own K mg I H (.d (.str x)) v G) : v = .str x := by
  cases w with
  | d q => cases q; rfl
theorem Own.none' {v : V} (w : Own K mg I H (.d .none) v G) : v = .non := by
  cases w with
  | d q => cases q; rfl
theorem Owns.append : ∀ {xs ys : List O} {vs ws : List V} {G1 G2 : Pd}, Owns K mg I H xs vs G1 → Owns K mg I H ys ws G2 → (∀ a, G1 a → ¬ G2 a) → Owns K mg I H (xs ++ ys) (vs ++ ws) (orP G1 G2)
  | _, _, _, _, _, _, .nil, w, _ => w.mono fun _ => .inr
  | _, _, _, _, _, _, .cons a b c d e, w, dis => .cons a (Owns.append b w fun x q => dis x (d x q)) (fun x q => .inl (c x q)) (fun x q => q.elim (fun z => .inl (d x z)) .inr) (fun x q z => z.elim (e x q) (dis x (c x q)))
theorem Owns.get : ∀ {xs : List O} {vs : List V} {G : Pd} {i : Nat} {o : O}, Owns K mg I H xs vs G → xs[i]? = some o → ∃ v, vs[i]? = some v ∧ Own K mg I H o v G
  | _, _, _, _, _, .nil, e => by simp at e
  | _, _, _, 0, _, .cons a _ c _ _, e => by simp at e; subst e; exact ⟨_, rfl, a.mono c⟩
  | _, _, _, i + 1, o, .cons _ b _ d _, e => by
    obtain ⟨v, h1, h2⟩ := Owns.get (i := i) (o := o) b (by simpa using e)
    exact ⟨v, by simpa using h1, h2.mono d⟩
theorem Owns.take : ∀ {xs : List O} {vs : List V} {G : Pd} (n : Nat), Owns K mg I H xs vs G → Owns K mg I H (xs.take n) (vs.take n) G
  | _, _, _, 0, _ => .nil
  | _, _, _, _ + 1, .nil => .nil
  | _, _, _, n + 1, .cons a b c d e => .cons a (Owns.take n b) c d e
theorem Owns.drop : ∀ {xs : List O} {vs : List V} {G : Pd} (n : Nat), Owns K mg I H xs vs G → Owns K mg I H (xs.drop n) (vs.drop n) G
  | _, _, _, 0, w => w
  | _, _, _, _ + 1, .nil => .nil
  | _, _, _, n + 1, .cons a b c d e => (Owns.drop n b).mono d
theorem allD_map : ∀ xs : List D, allD (xs.map .d) = some xs
  | [] => rfl
  | x :: xs => by rw [List.map_cons, allD, allD_map xs]; rfl
/-- a tuple that stands already, as mkTup -/
theorem own_mkTup {a : Addr} {vs : List V} {os : List O} (q : I a = some (.tup vs)) (w : Owns K mg I H os vs G) : Own K mg I H (mkTup os) (.ref a) G := by
  unfold mkTup
  cases e : allD os with
  | some ds => exact .d (.tuple q (w.allD e))
  | none => exact .tup q w
end

/-! ### + -/
def lenOk (n : Nat) : Bool := decide (n ≤ 1000000)
def o_addS (x y : O) : Option O := match G.litems x, G.litems y with
  | some xs, some ys => if xs.length + ys.length ≤ 1000000 then some (.lst (xs ++ ys)) else none
  | _, _ => match G.titems x, G.titems y with
    | some xs, some ys => if xs.length + ys.length ≤ 1000000 then some (mkTup (xs ++ ys)) else none
    | _, _ => none
def o_add (x y : O) : Option O := match x, y with
  | .d (.int i), .d (.int j) => some (.d (.int (i + j)))
  | x, y => o_addS x y
section
variable {X : Cx}
def rAdd2 (K : PySem.W.Frag) : R2 := fun x y H Q => rI0 (fun i j => .int (i + j)) x y H Q ∨ (rCat x y H Q ∨ rCatA K x y H Q)
theorem op_add2 : OpR X (binaryOp .Add) (rAdd2 X.K) := op_add.or (op_cat.or op_catA)
theorem ok_add : Op2Ok X (rAdd2 X.K) o_add := by
  intro W σ I H φ ρ F G1 G2 Q x y z a b gd hf tm w1 w2 dis e h
  have lists : ∀ xs ys, G.litems x = some xs → G.litems y = some ys → (if xs.length + ys.length ≤ 1000000 then some (O.lst (xs ++ ys)) else none) = some z → rAdd2 X.K a b H Q := by
    intro xs ys ex ey e
    split at e
    case isFalse => cases e
    rename_i hz
    cases e
    obtain ⟨a1, vs, rfl, q1, o1⟩ := w1.litems gd.le ex
    obtain ⟨a2, ws, rfl, q2, o2⟩ := w2.litems gd.le ey
    exact .inr (.inl ⟨a1, a2, vs, ws, rfl, rfl, q1, q2, by rw [o1.len, o2.len, sizeLine_eq]; omega, fun p hp => fin_lst h gd hf tm (o1.append o2 dis) hp⟩)
  have tups : ∀ xs ys, G.titems x = some xs → G.titems y = some ys → (if xs.length + ys.length ≤ 1000000 then some (mkTup (xs ++ ys)) else none) = some z → rAdd2 X.K a b H Q := by
    intro xs ys ex ey e
    split at e
    case isFalse => cases e
    rename_i hz
    cases e
    obtain ⟨a1, vs, rfl, q1, o1⟩ := w1.titems ex
    obtain ⟨a2, ws, rfl, q2, o2⟩ := w2.titems ey
    refine .inr (.inr ⟨a1, a2, vs, ws, rfl, rfl, SqT.of (gd.le _ _ q1), SqT.of (gd.le _ _ q2), by rw [o1.len, o2.len, sizeLine_eq]; omega, fun ev => ?_, fun ev ev2 => ?_, fun _ _ p hp => fin_tup h gd hf tm (o1.append o2 dis) hp⟩)
    · have ex0 : xs = [] := List.length_eq_zero_iff.mp (by rw [← o1.len, ev]; rfl)
      subst ex0
      exact fin_o h gd hf tm ((own_mkTup q2 o2).mono fun _ => .inr)
    · have ey0 : ys = [] := List.length_eq_zero_iff.mp (by rw [← o2.len, ev2]; rfl)
      subst ey0
      rw [List.append_nil] at h
      exact fin_o h gd hf tm ((own_mkTup q1 o1).mono fun _ => .inl)
  have gen : o_addS x y = some z → rAdd2 X.K a b H Q := by
    intro e
    unfold o_addS at e
    cases ex : G.litems x with
    | some xs =>
      cases ey : G.litems y with
      | some ys => rw [ex, ey] at e; exact lists xs ys ex ey e
      | none =>
        rw [ex, ey] at e
        simp only at e
        cases ex' : G.titems x with
        | none => rw [ex'] at e; cases e
        | some xs' =>
          cases ey' : G.titems y with
          | none => rw [ex', ey'] at e; cases e
          | some ys' => rw [ex', ey'] at e; exact tups xs' ys' ex' ey' e
    | none =>
      rw [ex] at e
      simp only at e
      cases ex' : G.titems x with
      | none => rw [ex'] at e; cases e
      | some xs' =>
        cases ey' : G.titems y with
        | none => rw [ex', ey'] at e; cases e
        | some ys' => rw [ex', ey'] at e; exact tups xs' ys' ex' ey' e
  by_cases hi : ∃ i j, x = .d (.int i) ∧ y = .d (.int j)
  · obtain ⟨i, j, rfl, rfl⟩ := hi
    cases e
    cases w1.int
    cases w2.int
    exact .inl ⟨i, j, rfl, rfl, fin_d h gd (fun c q => hf c (.inl q)) (.int _)⟩
  · refine gen ?_
    rw [← e]
    symm
    apply o_add.eq_2
    intro i j e1 e2
    exact hi ⟨i, j, e1, e2⟩
end

/-! ### other arithmetic -/
def o_ii (c : Int → Int → Bool) (g : Int → Int → D) (x y : O) : Option O := match x, y with
  | .d (.int i), .d (.int j) => if c i j then some (.d (g i j)) else none
  | _, _ => none
section
variable {X : Cx}
theorem ok_ii {C : Int → Int → Prop} {g : Int → Int → V} {c : Int → Int → Bool} {g' : Int → Int → D} (hc : ∀ i j, c i j = true → C i j) (hg : ∀ i j I, Den X.K I (g' i j) (g i j)) : Op2Ok X (rI C g) (o_ii c g') := by
  intro W σ I H φ ρ F G1 G2 Q x y z a b gd hf tm w1 w2 dis e h
  unfold o_ii at e
  split at e
  · rename_i i j
    split at e
    · rename_i hcc
      cases e
      cases w1.int
      cases w2.int
      exact ⟨i, j, rfl, rfl, hc i j hcc, fin_d h gd (fun c q => hf c (.inl q)) (hg i j I)⟩
    · cases e
  · cases e
theorem ok_ii0 {g : Int → Int → V} {g' : Int → Int → D} (hg : ∀ i j I, Den X.K I (g' i j) (g i j)) : Op2Ok X (rI0 g) (o_ii (fun _ _ => true) g') := by
  intro W σ I H φ ρ F G1 G2 Q x y z a b gd hf tm w1 w2 dis e h
  unfold o_ii at e
  split at e
  · rename_i i j
    rw [if_pos rfl] at e
    cases e
    cases w1.int
    cases w2.int
    exact ⟨i, j, rfl, rfl, fin_d h gd (fun c q => hf c (.inl q)) (hg i j I)⟩
  · cases e
def o_sub : O → O → Option O := o_ii (fun _ _ => true) fun i j => .int (i - j)
def o_fdiv : O → O → Option O := o_ii (fun _ j => decide (0 < j) && decide (j < 1073741824)) fun i j => .int (i / j)
def o_mod : O → O → Option O := o_ii (fun _ j => decide (0 < j)) fun i j => .int (i % j)
def o_pow : O → O → Option O := o_ii (fun i j => decide (0 ≤ j) && decide (j ≤ 1000) && decide (-18446744073709551616 < i) && decide (i < 18446744073709551616)) fun i j => .int (i ^ j.toNat)
def o_lt : O → O → Option O := o_ii (fun _ _ => true) fun i j => .bool (decide (i < j))
def o_le : O → O → Option O := o_ii (fun _ _ => true) fun i j => .bool (decide (i ≤ j))
def o_gt : O → O → Option O := o_ii (fun _ _ => true) fun i j => .bool (decide (j < i))
def o_ge : O → O → Option O := o_ii (fun _ _ => true) fun i j => .bool (decide (j ≤ i))
theorem ok_sub : Op2Ok X (rI0 fun i j => .int (i - j)) o_sub := ok_ii0 fun _ _ _ => .int _
theorem ok_fdiv : Op2Ok X (rI CDiv fun i j => .int (i / j)) o_fdiv := ok_ii (fun i j h => by
  rw [Bool.and_eq_true, decide_eq_true_eq, decide_eq_true_eq] at h; exact h) fun _ _ _ => .int _
theorem ok_mod : Op2Ok X (rI (fun _ j => 0 < j) fun i j => .int (i % j)) o_mod := ok_ii (fun i j h => of_decide_eq_true h) fun _ _ _ => .int _
theorem ok_pow : Op2Ok X (rI CPow fun i j => .int (i ^ j.toNat)) o_pow := ok_ii (fun i j h => by
  simp only [Bool.and_eq_true, decide_eq_true_eq] at h
  exact ⟨h.1.1.1, by omega, by omega⟩) fun _ _ _ => .int _
theorem ok_lt : Op2Ok X (rI0 fun i j => .bl (decide (i < j))) o_lt := ok_ii0 fun _ _ _ => .bl _
theorem ok_le : Op2Ok X (rI0 fun i j => .bl (decide (i ≤ j))) o_le := ok_ii0 fun _ _ _ => .bl _
theorem ok_gt : Op2Ok X (rI0 fun i j => .bl (decide (j < i))) o_gt := ok_ii0 fun _ _ _ => .bl _
theorem ok_ge : Op2Ok X (rI0 fun i j => .bl (decide (j ≤ i))) o_ge := ok_ii0 fun _ _ _ => .bl _
end

/-! ### * : two ints, a list or a tuple times an int -/
def o_mul (x y : O) : Option O := match x, y with
  | .d (.int i), .d (.int j) => if (-18446744073709551616 < i ∧ i < 18446744073709551616) ∨ (-18446744073709551616 < j ∧ j < 18446744073709551616) then some (.d (.int (i * j))) else none
  | x, .d (.int k) => match G.litems x with
    | some xs => (match allD xs with
      | some ds => if 0 ≤ k ∧ k ≤ 1000 ∧ ds.length ≤ 1000 then some (.lst ((List.replicate k.toNat ds).flatten.map .d)) else none
      | none => none)
    | none => match G.titems x with
      | some xs => (match allD xs with
        | some ds => if ds ≠ [] ∧ 2 ≤ k ∧ k ≤ 1000 ∧ ds.length ≤ 1000 then some (.d (.tuple (List.replicate k.toNat ds).flatten)) else none
        | none => none)
      | none => none
  | _, _ => none
section
variable {K : PySem.W.Frag} {I H : Hp}
theorem DenL.append : ∀ {xs ys : List D} {vs ws : List V}, DenL K I xs vs → DenL K I ys ws → DenL K I (xs ++ ys) (vs ++ ws)
  | _, _, _, _, .nil, w => w
  | _, _, _, _, .cons a b, w => .cons a (DenL.append b w)
theorem DenL.rep {xs : List D} {vs : List V} (h : DenL K I xs vs) : ∀ k : Nat, DenL K I (List.replicate k xs).flatten (List.replicate k vs).flatten
  | 0 => .nil
  | k + 1 => by rw [List.replicate_succ, List.replicate_succ, List.flatten_cons, List.flatten_cons]; exact h.append (DenL.rep h k)
end
section
variable {X : Cx}
def rMul2 (K : PySem.W.Frag) : R2 := fun x y H Q => rI CMul (fun i j => .int (i * j)) x y H Q ∨ (rRep x y H Q ∨ rRepT K x y H Q)
theorem op_mul2 : OpR X (binaryOp .Mult) (rMul2 X.K) := op_mul.or (op_rep.or op_repT)
theorem ok_mul : Op2Ok X (rMul2 X.K) o_mul := by
  intro W σ I H φ ρ F G1 G2 Q x y z a b gd hf tm w1 w2 dis e h
  unfold o_mul at e
  split at e
  · rename_i i j
    split at e
    case isFalse => cases e
    rename_i hc
    cases e
    cases w1.int
    cases w2.int
    exact .inl ⟨i, j, rfl, rfl, hc, fin_d h gd (fun c q => hf c (.inl q)) (.int _)⟩
  · rename_i x k _
    cases w2.int
    split at e
    · rename_i xs ex
      split at e
      · rename_i ds ed
        split at e
        case isFalse => cases e
        rename_i hk
        cases e
        obtain ⟨a1, vs, rfl, q1, o1⟩ := w1.litems gd.le ex
        have dl := o1.allD ed
        have hm : ds.length * k.toNat ≤ 1000 * 1000 := Nat.mul_le_mul hk.2.2 (by omega)
        refine .inr (.inl ⟨a1, k, vs, rfl, rfl, q1, by omega, by omega, by rw [dl.len, sizeLine_eq]; omega, fun p hp => ?_⟩)
        exact fin_lst (G := noP) h gd (fun c q => hf c (.inl (q.elim id False.elim))) Tm.none (Owns.ofDen (dl.rep k.toNat)) hp
      · cases e
    · split at e
      · rename_i xs ex
        split at e
        · rename_i ds ed
          split at e
          case isFalse => cases e
          rename_i hk
          cases e
          obtain ⟨a1, vs, rfl, q1, o1⟩ := w1.titems ex
          have dl := o1.allD ed
          have hne : vs ≠ [] := fun z => hk.1 (List.length_eq_zero_iff.mp (by rw [← dl.len, z]; rfl))
          refine .inr (.inr ⟨a1, k, vs, rfl, rfl, SqT.of (gd.le _ _ q1), hne, hk.2.1, hk.2.2.1, by rw [dl.len]; exact hk.2.2.2, fun p hp => ?_⟩)
          have h2 : PostE X.K X.mg W σ I H F Q (.ok (mkTup (((List.replicate k.toNat ds).flatten).map .d)) ρ) := by
            unfold mkTup
            rw [allD_map]
            exact h
          exact fin_tup (G := noP) h2 gd (fun c q => hf c (.inl (q.elim id False.elim))) Tm.none (Owns.ofDen (dl.rep k.toNat)) hp
        · cases e
      · cases e
  · cases e
end
end EV

/-! The layer EV, part I: views (reading without freezing), comparisons. -/
namespace EV
open PySem PySem.Spec PyProof.Rows L2

/-! ### what a place reads as -/
mutual
def rdO : O → Option D
  | .un => none
  | .d x => some x
  | .lst xs => (rdOs xs).map .list
  | .tup xs => (rdOs xs).map .tuple
  | .dic kvs => some (.dict kvs)
  | .dicT _ => none
  | .obj _ _ => none
  | .exn _ => none
  | .scr xs => some (.list (xs.map .int))
  | .kst xs => some (.tuple xs)
def rdOs : List O → Option (List D)
  | [] => some []
  | x :: xs => match rdO x, rdOs xs with
    | some y, some ys => some (y :: ys)
    | _, _ => none
end
section
variable {K : PySem.W.Frag} {mg : Str → Option Value} {I H : Hp}
theorem SqL.of {a : Addr} {xs : List V} (h : H a = some (.lst xs)) : SqL K H a xs := .inl (.inl h)
mutual
theorem Den.dp (le : Same I H) : ∀ {x : D} {v : V}, Den K I x v → x.plain = true → Dp K H v x
  | _, _, .non, _ => .non
  | _, _, .bl b, _ => .bl b
  | _, _, .int i, _ => .int i
  | _, _, .str x, _ => .str x
  | _, _, .list s r, p => .lst (SqL.of (le _ _ s)) (DenL.dp le r (by simpa [PyData.plain] using p))
  | _, _, .tuple s r, p => .tup (SqT.of (le _ _ s)) (DenL.dp le r (by simpa [PyData.plain] using p))
  | _, _, .dict _ _, p => by simp [PyData.plain] at p
  | _, _, .dictT _ _ _, p => by simp [PyData.plain] at p
  | _, _, .exn _, p => by simp [PyData.plain] at p
theorem DenL.dp (le : Same I H) : ∀ {x : List D} {v : List V}, DenL K I x v → PyData.plainAll x = true → DpAll K H v x
  | _, _, .nil, _ => .nil
  | _, _, .cons a b, p => by
    simp only [PyData.plainAll, Bool.and_eq_true] at p
    exact .cons (Den.dp le a p.1) (DenL.dp le b p.2)
end
theorem dp_ints : ∀ xs : List Int, DpAll K H (xs.map V.int) (xs.map .int)
  | [] => .nil
  | x :: xs => .cons (.int x) (dp_ints xs)
mutual
theorem Own.dp (le : Same I H) : ∀ {o : O} {v : V} {S : Pd} {x : D}, Own K mg I H o v S → rdO o = some x → x.plain = true → Dp K H v x
  | _, _, _, _, .un, e, _ => by rw [rdO] at e; cases e
  | _, _, _, _, .d q, e, p => by rw [rdO] at e; cases e; exact q.dp le p
  | _, _, _, _, .scr q, e, p => by
    rw [rdO] at e; cases e
    exact .lst (RdLe.sqL (RdLe.of le) q) (dp_ints _)
  | _, _, _, _, .kst q r, e, p => by
    rw [rdO] at e; cases e
    exact .tup (sqT_le le q) (DenL.dp le r (by simpa [PyData.plain] using p))
  | .lst xs, _, _, _, .lst a b c d _, e, p => by
    rw [rdO, Option.map_eq_some_iff] at e
    obtain ⟨ys, e1, rfl⟩ := e
    exact .lst (SqL.of a) (Owns.dp le c e1 (by simpa [PyData.plain] using p))
  | .tup xs, _, _, _, .tup a b, e, p => by
    rw [rdO, Option.map_eq_some_iff] at e
    obtain ⟨ys, e1, rfl⟩ := e
    exact .tup (SqT.of (le _ _ a)) (Owns.dp le b e1 (by simpa [PyData.plain] using p))
  | _, _, _, _, .dic _ _ _, e, p => by rw [rdO] at e; cases e; simp [PyData.plain] at p
  | _, _, _, _, .dicT _ _ _, e, _ => by rw [rdO] at e; cases e
  | _, _, _, _, .obj _ _ _ _ _ _, e, _ => by rw [rdO] at e; cases e
theorem Owns.dp (le : Same I H) : ∀ {o : List O} {v : List V} {S : Pd} {x : List D}, Owns K mg I H o v S → rdOs o = some x → PyData.plainAll x = true → DpAll K H v x
  | _, _, _, _, .nil, e, _ => by rw [rdOs] at e; cases e; exact .nil
  | x :: xs, _, _, _, .cons a b c d _, e, p => by
    rw [rdOs] at e
    cases e1 : rdO x with
    | none => rw [e1] at e; simp at e
    | some y =>
      cases e2 : rdOs xs with
      | none => rw [e1, e2] at e; simp at e
      | some ys =>
        rw [e1, e2] at e
        cases e
        simp only [PyData.plainAll, Bool.and_eq_true] at p
        exact .cons (Own.dp le a e1 p.1) (Owns.dp le b e2 p.2)
end
end

/-! ### views -/
inductive Vws (K : PySem.W.Frag) (mg : Str → Option Value) (I H : Hp) : List O → List V → Prop
  | nil : Vws K mg I H [] []
  | cons {x : O} {xs : List O} {v : V} {vs : List V} {S : Pd} : Own K mg I H x v S → Vws K mg I H xs vs → Vws K mg I H (x :: xs) (v :: vs)
/-- growth by frozen objects -/
structure Grw (K : PySem.W.Frag) (mg : Str → Option Value) (φ : Ph) (ρ : Env) (σ : St) (I H I' H' : Hp) : Prop where
  st : Stp I H noP I' H' noP
  gd : Gd K mg I' H' φ ρ σ
section
variable {K : PySem.W.Frag} {mg : Str → Option Value} {I H I1 H1 I2 H2 : Hp} {φ : Ph} {ρ : Env} {σ : St}
theorem Grw.refl (gd : Gd K mg I H φ ρ σ) : Grw K mg φ ρ σ I H I H := ⟨Stp.refl fun _ z => z, gd⟩
theorem Grw.trans (a : Grw K mg φ ρ σ I H I1 H1) (b : Grw K mg φ ρ σ I1 H1 I2 H2) : Grw K mg φ ρ σ I H I2 H2 := ⟨a.st.trans b.st, b.gd⟩
theorem Own.grow {o : O} {v : V} {S : Pd} (g : Grw K mg φ ρ σ I H I1 H1) (w : Own K mg I H o v S) : Own K mg I1 H1 o v S := w.step (RdLe.of g.st.li) fun a u _ e => g.st.kp a u e id
theorem Vws.grow (g : Grw K mg φ ρ σ I H I1 H1) : ∀ {os : List O} {vs : List V}, Vws K mg I H os vs → Vws K mg I1 H1 os vs
  | _, _, .nil => .nil
  | _, _, .cons a b => .cons (a.grow g) (Vws.grow g b)
/-- a new frozen object -/
theorem Grw.new (gd : Gd K mg I H φ ρ σ) {p : Addr} {o : HO} (hp : H p = none) : Grw K mg φ ρ σ I H (upd I p o) (upd H p o) := ⟨Stp.newI (gd.free hp) hp fun _ z => z, gd.newI hp⟩
theorem Vws.allD : ∀ {os : List O} {vs : List V} {ds : List D}, Vws K mg I H os vs → EV.allD os = some ds → DenL K I ds vs
  | _, _, _, .nil, e => by rw [EV.allD] at e; cases e; exact .nil
  | o :: os, _, _, .cons a b, e => by
    have e' : ∃ x, o = .d x := by cases o <;> simp [EV.allD] at e ⊢
    obtain ⟨x, rfl⟩ := e'
    rw [EV.allD, Option.map_eq_some_iff] at e
    obtain ⟨ys, e2, rfl⟩ := e
    cases a with
    | d q => exact .cons q (Vws.allD b e2)
theorem Vws.len : ∀ {os : List O} {vs : List V}, Vws K mg I H os vs → vs.length = os.length
  | _, _, .nil => rfl
  | _, _, .cons _ b => by rw [List.length_cons, List.length_cons, Vws.len b]
end
/-- what a view asks at the end -/
def VP (K : PySem.W.Frag) (mg : Str → Option Value) (φ : Ph) (ρ : Env) (σ : St) (I H : Hp) (Q : VK) : Option O → Prop
  | some o => ∀ v S I' H', Grw K mg φ ρ σ I H I' H' → Own K mg I' H' o v S → Q v H'
  | none => False
def VPs (K : PySem.W.Frag) (mg : Str → Option Value) (φ : Ph) (ρ : Env) (σ : St) (I H : Hp) (Q : List V → Hp → Prop) : Option (List O) → Prop
  | some os => ∀ vs I' H', Grw K mg φ ρ σ I H I' H' → Vws K mg I' H' os vs → Q vs H'
  | none => False
section
variable {K : PySem.W.Frag} {mg : Str → Option Value} {I H I1 H1 : Hp} {φ : Ph} {ρ : Env} {σ : St} {Q : VK}
theorem VP.grow (g : Grw K mg φ ρ σ I H I1 H1) {r : Option O} (h : VP K mg φ ρ σ I H Q r) : VP K mg φ ρ σ I1 H1 Q r := by
  cases r with
  | none => exact h
  | some o => exact fun v S I' H' g' w => h v S I' H' (g.trans g') w
theorem VPs.grow {Q : List V → Hp → Prop} (g : Grw K mg φ ρ σ I H I1 H1) {r : Option (List O)} (h : VPs K mg φ ρ σ I H Q r) : VPs K mg φ ρ σ I1 H1 Q r := by
  cases r with
  | none => exact h
  | some o => exact fun v I' H' g' w => h v I' H' (g.trans g') w
/-- a view of data ends -/
theorem VP.d {x : D} {v : V} (gd : Gd K mg I H φ ρ σ) (h : VP K mg φ ρ σ I H Q (some (.d x))) (q : Den K I x v) : Q v H := h v noP I H (Grw.refl gd) (.d q)
/-- a new frozen list, a new frozen tuple -/
theorem VP.lst {xs : List D} {vs : List V} {p : Addr} (gd : Gd K mg I H φ ρ σ) (h : VP K mg φ ρ σ I H Q (some (.d (.list xs)))) (q : DenL K I xs vs) (hp : H p = none) : Q (.ref p) (upd H p (.lst vs)) :=
  h _ noP _ _ (Grw.new gd hp) (.d (.list upd_same (q.mono (RdLe.of (same_updI (gd.free hp))))))
theorem VP.tup {xs : List D} {vs : List V} {p : Addr} (gd : Gd K mg I H φ ρ σ) (h : VP K mg φ ρ σ I H Q (some (.d (.tuple xs)))) (q : DenL K I xs vs) (hp : H p = none) : Q (.ref p) (upd H p (.tup vs)) :=
  h _ noP _ _ (Grw.new gd hp) (.d (.tuple upd_same (q.mono (RdLe.of (same_updI (gd.free hp))))))
end
section
variable (K : PySem.W.Frag) (mg : Str → Option Value)
def rdV (f : Env → Option O) : TE := fun σ H Q => ∃ ρ I φ, Gd K mg I H φ ρ σ ∧ VP K mg φ ρ σ I H Q (f ρ)
def rdVs (f : Env → Option (List O)) : TA := fun σ H Q => ∃ ρ I φ, Gd K mg I H φ ρ σ ∧ VPs K mg φ ρ σ I H Q (f ρ)
end
abbrev VE (X : Cx) (e : Expr) (f : Env → Option O) : Prop := PE X e (rdV X.K X.mg f)
abbrev VA (X : Cx) (es : List Expr) (f : Env → Option (List O)) : Prop := PA X es (rdVs X.K X.mg f)
/-- an operation that changes nothing -/
def Vw2 (X : Cx) (r : R2) (g : O → O → Option O) : Prop := ∀ (I H : Hp) (φ : Ph) (ρ : Env) (σ : St) (Q : VK) (x y z : O) (a b : V) (S1 S2 : Pd), Gd X.K X.mg I H φ ρ σ → Own X.K X.mg I H x a S1 → Own X.K X.mg I H y b S2 → g x y = some z → VP X.K X.mg φ ρ σ I H Q (some z) → r a b H Q
def Vw1 (X : Cx) (r : V → Hp → VK → Prop) (g : O → Option O) : Prop := ∀ (I H : Hp) (φ : Ph) (ρ : Env) (σ : St) (Q : VK) (x z : O) (a : V) (S : Pd), Gd X.K X.mg I H φ ρ σ → Own X.K X.mg I H x a S → g x = some z → VP X.K X.mg φ ρ σ I H Q (some z) → r a H Q
def VwN (X : Cx) (r : List V → Hp → VK → Prop) (g : List O → Option O) : Prop := ∀ (I H : Hp) (φ : Ph) (ρ : Env) (σ : St) (Q : VK) (xs : List O) (z : O) (as : List V), Gd X.K X.mg I H φ ρ σ → Vws X.K X.mg I H xs as → g xs = some z → VP X.K X.mg φ ρ σ I H Q (some z) → r as H Q
namespace Vw
def c (x : D) : Env → Option O := fun _ => some (.d x)
def var (i : Nat) : Env → Option O := fun ρ => match ρ[i]? with
  | some .un => none
  | o => o
def op1 (g : O → Option O) (f : Env → Option O) : Env → Option O := fun ρ => (f ρ).bind g
def op2 (g : O → O → Option O) (f1 f2 : Env → Option O) : Env → Option O := fun ρ => (f1 ρ).bind fun x => (f2 ρ).bind fun y => g x y
def nil : Env → Option (List O) := fun _ => some []
def cons (f : Env → Option O) (g : Env → Option (List O)) : Env → Option (List O) := fun ρ => (f ρ).bind fun x => (g ρ).bind fun xs => some (x :: xs)
def opN (g : List O → Option O) (f : Env → Option (List O)) : Env → Option O := fun ρ => (f ρ).bind g
def opM (g : O → List O → Option O) (f : Env → Option O) (fs : Env → Option (List O)) : Env → Option O := fun ρ => (f ρ).bind fun x => (fs ρ).bind fun xs => g x xs
def boo : O → Option Bool
  | .d (.bool b) => some b
  | _ => none
def and (f g : Env → Option O) : Env → Option O := fun ρ => (f ρ).bind fun o => (boo o).bind fun b => if b then g ρ else some (.d (.bool false))
def or (f g : Env → Option O) : Env → Option O := fun ρ => (f ρ).bind fun o => (boo o).bind fun b => if b then some (.d (.bool true)) else g ρ
def not (f : Env → Option O) : Env → Option O := fun ρ => (f ρ).bind fun o => (boo o).bind fun b => some (.d (.bool (!b)))
def ifE (t f g : Env → Option O) : Env → Option O := fun ρ => (t ρ).bind fun o => (boo o).bind fun b => if b then f ρ else g ρ
def chain (g1 g2 : O → O → Option O) (f1 f2 f3 : Env → Option O) : Env → Option O := fun ρ => (f1 ρ).bind fun x => (f2 ρ).bind fun y => (g1 x y).bind fun o => (boo o).bind fun b => if b then (f3 ρ).bind fun z => g2 y z else some (.d (.bool false))
def tup (f : Env → Option (List O)) : Env → Option O := fun ρ => (f ρ).bind fun os => (allD os).bind fun ds => if ds.length ≤ 1000000 then some (.d (.tuple ds)) else none
def lst (f : Env → Option (List O)) : Env → Option O := fun ρ => (f ρ).bind fun os => (allD os).bind fun ds => if ds.length ≤ 1000000 then some (.d (.list ds)) else none
end Vw
def E.view (f : Env → Option O) : M O := fun ρ => match f ρ with
  | some (.d x) => .ok (.d x) ρ
  | some (.scr x) => .ok (.scr x) ρ
  | _ => .stuck
def T.view (f : Env → Option O) : M Bool := fun ρ => match f ρ with
  | some (.d (.bool b)) => .ok b ρ
  | _ => .stuck

section
variable {X : Cx} {W : WX} {pos : Pos} {a b c : Expr} {f f1 f2 f3 : Env → Option O} {g1 g2 : O → O → Option O}
/-- running a view within another -/
theorem vbind {σ : St} {I H : Hp} {φ : Ph} {ρ : Env} {Q Q' : VK} {k : O → Option O} (gd : Gd X.K X.mg I H φ ρ σ) (h : VP X.K X.mg φ ρ σ I H Q ((f ρ).bind k))
    (hk : ∀ o v S I1 H1, Grw X.K X.mg φ ρ σ I H I1 H1 → Own X.K X.mg I1 H1 o v S → VP X.K X.mg φ ρ σ I1 H1 Q (k o) → Q' v H1) : rdV X.K X.mg f σ H Q' := by
  refine ⟨ρ, I, φ, gd, ?_⟩
  cases e : f ρ with
  | none => rw [e] at h; exact h
  | some o => rw [e] at h; exact fun v S I1 H1 g w => hk o v S I1 H1 g w (h.grow g)
theorem vbinds {σ : St} {I H : Hp} {φ : Ph} {ρ : Env} {Q : VK} {Q' : List V → Hp → Prop} {f : Env → Option (List O)} {k : List O → Option O} (gd : Gd X.K X.mg I H φ ρ σ) (h : VP X.K X.mg φ ρ σ I H Q ((f ρ).bind k))
    (hk : ∀ o v I1 H1, Grw X.K X.mg φ ρ σ I H I1 H1 → Vws X.K X.mg I1 H1 o v → VP X.K X.mg φ ρ σ I1 H1 Q (k o) → Q' v H1) : rdVs X.K X.mg f σ H Q' := by
  refine ⟨ρ, I, φ, gd, ?_⟩
  cases e : f ρ with
  | none => rw [e] at h; exact h
  | some o => rw [e] at h; exact fun v I1 H1 g w => hk o v I1 H1 g w (h.grow g)
theorem VP.some {σ : St} {I H : Hp} {φ : Ph} {ρ : Env} {Q : VK} {r : Option O} {P : Prop} (h : VP X.K X.mg φ ρ σ I H Q r) (k : ∀ z, r = some z → VP X.K X.mg φ ρ σ I H Q (some z) → P) : P := by
  cases r with
  | none => exact h.elim
  | some z => exact k z rfl h
theorem ve_c {x : D} {v : V} (hd : ∀ I, Den X.K I x v) (h : PE X a (tC v)) : VE X a (Vw.c x) := PE.weak h fun _ _ _ ⟨_, _, _, gd, h⟩ => h.d gd (hd _)
theorem ve_int {i j} : VE X (.Constant (.int i) j pos) (Vw.c (.int i)) := ve_c (fun _ => .int i) pe_int
theorem ve_bl {i j} : VE X (.Constant (.bool i) j pos) (Vw.c (.bool i)) := ve_c (fun _ => .bl i) pe_bl
theorem ve_non {j} : VE X (.Constant .none j pos) (Vw.c .none) := ve_c (fun _ => .non) pe_non
theorem ve_str {i j} : VE X (.Constant (.str i) j pos) (Vw.c (.str i)) := ve_c (fun _ => .str i) pe_str
theorem ve_var (i : Nat) {x : Str} {pos : Pos} (hN : X.N[i]? = some x := by rfl) (hv : Vis X.env.scope x := by first | exact Or.inl rfl | exact Or.inr (Or.inl rfl) | exact Or.inr (Or.inr rfl)) (hd : (x == ("__debug__" : Str)) = false := by decide) (hcd : (x == ("__classdict__" : Str)) = false := by decide) : VE X (.Name x pos) (Vw.var i) := by
  refine PE.weak (pe_var hN hv hd hcd) fun σ H Q ⟨ρ, I, φ, gd, h⟩ => ?_
  refine h.some fun z e h => ?_
  have e2 : ρ[i]? = some z ∧ z ≠ .un := by
    unfold Vw.var at e
    split at e
    · cases e
    · rename_i u hu
      refine ⟨e, fun q => ?_⟩
      rw [q] at e
      exact hu e
  obtain ⟨v, e1, w⟩ := gd.sl i z e2.1 e2.2
  exact ⟨v, e1, h v _ _ _ (Grw.refl gd) w⟩
theorem ve_op2 {e : Expr} {r : R2} {g : O → O → Option O} (h2 : ∀ {ta tb : TE}, PE X a ta → PE X b tb → PE X e (tOp r ta tb)) (ok : Vw2 X r g) (ha : VE X a f1) (hb : VE X b f2) : VE X e (Vw.op2 g f1 f2) := by
  refine PE.weak (h2 ha hb) fun σ H Q ⟨ρ, I, φ, gd, h⟩ => ?_
  refine vbind gd h fun x v S I1 H1 g1 w h => ?_
  refine vbind g1.gd h fun y u S' I2 H2 g2 w' h => ?_
  exact h.some fun z e h => ok I2 H2 φ ρ σ Q x y z v u S S' g2.gd (w.grow g2) w' e h
theorem ve_op {op : Operator} {r : R2} {g : O → O → Option O} (ho : OpR X (binaryOp op) r) (ok : Vw2 X r g) (ha : VE X a f1) (hb : VE X b f2) : VE X (.BinOp a op b pos) (Vw.op2 g f1 f2) :=
  ve_op2 (fun ha hb => pe_op ho ha hb) ok ha hb
theorem ve_cmp {op : CmpOp} {r : R2} {g : O → O → Option O} (ho : OpR X (compareOp op) r) (ok : Vw2 X r g) (ha : VE X a f1) (hb : VE X b f2) (hm : behindInMarks op b = false := by rfl) : VE X (.Compare a [op] [b] pos) (Vw.op2 g f1 f2) :=
  ve_op2 (fun ha hb => pe_cmpR ho ha hb hm) ok ha hb
theorem ve_ix {r : R2} {g : O → O → Option O} (hr : IxR X r) (ok : Vw2 X r g) (ha : VE X a f1) (hb : VE X b f2) (hs : PlainIx b := by intro _ _; rfl) : VE X (.Subscript a b pos) (Vw.op2 g f1 f2) :=
  ve_op2 (fun ha hb => pe_ix hr ha hb hs) ok ha hb
theorem ve_un {op : UnaryOp} {r : V → Hp → VK → Prop} {g : O → Option O} (ho : UnR X (unaryOp op) r) (ok : Vw1 X r g) (ha : VE X a f) : VE X (.UnaryOp op a pos) (Vw.op1 g f) := by
  refine PE.weak (pe_un ho ha) fun σ H Q ⟨ρ, I, φ, gd, h⟩ => ?_
  refine vbind gd h fun x v S I1 H1 g1 w h => ?_
  exact h.some fun z e h => ok I1 H1 φ ρ σ Q x z v S g1.gd w e h
theorem va_nil : VA X [] Vw.nil := PA.weak pa_nil fun _ _ _ ⟨_, _, _, gd, h⟩ => h [] _ _ (Grw.refl gd) .nil
theorem va_cons {e : Expr} {es : List Expr} {g : Env → Option (List O)} (ha : VE X e f) (hr : VA X es g) (hs : starEach (e :: es) X.env = (false, eval e X.env) :: starEach es X.env := by rfl) : VA X (e :: es) (Vw.cons f g) := by
  refine PA.weak (pa_cons ha hr hs) fun σ H Q ⟨ρ, I, φ, gd, h⟩ => ⟨ρ, I, φ, gd, ?_⟩
  unfold Vw.cons at h
  cases e1 : f ρ with
  | none => rw [e1] at h; exact h
  | some x =>
    rw [e1] at h
    intro v S I1 H1 g1 w
    refine ⟨ρ, I1, φ, g1.gd, ?_⟩
    cases e2 : g ρ with
    | none => rw [e2] at h; exact h
    | some xs =>
      rw [e2] at h
      exact fun vs I2 H2 g2 ws => h (v :: vs) I2 H2 (g1.trans g2) (.cons (w.grow g2) ws)
theorem ve_tup {es : List Expr} {g : Env → Option (List O)} {x1} (h : VA X es g) : VE X (.Tuple es x1 pos) (Vw.tup g) := by
  refine PE.weak (pe_tup h) fun σ H Q ⟨ρ, I, φ, gd, h⟩ => ?_
  refine vbinds gd h fun os vs I1 H1 g1 w h => ?_
  refine h.some fun z e h => ?_
  rw [Option.bind_eq_some_iff] at e
  obtain ⟨ds, e1, e2⟩ := e
  split at e2
  · rename_i hz
    cases e2
    have q := w.allD e1
    exact ⟨by rw [q.len]; exact mil hz, fun p hp => h.tup g1.gd q hp⟩
  · cases e2
theorem ve_lst {es : List Expr} {g : Env → Option (List O)} (h : VA X es g) : VE X (.List es pos) (Vw.lst g) := by
  refine PE.weak (pe_lst h) fun σ H Q ⟨ρ, I, φ, gd, h⟩ => ?_
  refine vbinds gd h fun os vs I1 H1 g1 w h => ?_
  refine h.some fun z e h => ?_
  rw [Option.bind_eq_some_iff] at e
  obtain ⟨ds, e1, e2⟩ := e
  split at e2
  · rename_i hz
    cases e2
    have q := w.allD e1
    exact ⟨by rw [q.len]; exact mil hz, fun p hp => h.lst g1.gd q hp⟩
  · cases e2
/-- a bool in hand -/
theorem vbool {σ : St} {I H : Hp} {φ : Ph} {ρ : Env} {Q Q' : VK} {k : Bool → Option O} (gd : Gd X.K X.mg I H φ ρ σ) (h : VP X.K X.mg φ ρ σ I H Q ((f ρ).bind fun o => (Vw.boo o).bind k))
    (hk : ∀ r I1 H1, Grw X.K X.mg φ ρ σ I H I1 H1 → VP X.K X.mg φ ρ σ I1 H1 Q (k r) → Q' (.bl r) H1) : rdV X.K X.mg f σ H Q' := by
  refine vbind gd h fun o v S I1 H1 g w h => ?_
  unfold Vw.boo at h
  split at h
  · rename_i r
    cases w.bool
    exact hk r I1 H1 g h
  · exact h.elim
theorem ve_one {op} (h : VE X a f) : VE X (.BoolOp op [a] pos) f := pe_one h
theorem ve_and {rest : List Expr} (ha : VE X a f1) (hb : VE X (.BoolOp .And (b :: rest) pos) f2) : VE X (.BoolOp .And (a :: b :: rest) pos) (Vw.and f1 f2) := by
  refine PE.weak (pe_and ha hb) fun σ H Q ⟨ρ, I, φ, gd, h⟩ => ?_
  refine vbool gd h fun r I1 H1 g h => ⟨r, rfl, ?_⟩
  cases r with
  | true => rw [if_pos rfl] at h ⊢; exact ⟨ρ, I1, φ, g.gd, h⟩
  | false => rw [if_neg Bool.false_ne_true] at h ⊢; exact h.d g.gd (.bl _)
theorem ve_or {rest : List Expr} (ha : VE X a f1) (hb : VE X (.BoolOp .Or (b :: rest) pos) f2) : VE X (.BoolOp .Or (a :: b :: rest) pos) (Vw.or f1 f2) := by
  refine PE.weak (pe_or ha hb) fun σ H Q ⟨ρ, I, φ, gd, h⟩ => ?_
  refine vbool gd h fun r I1 H1 g h => ⟨r, rfl, ?_⟩
  cases r with
  | true => rw [if_pos rfl] at h ⊢; exact h.d g.gd (.bl _)
  | false => rw [if_neg Bool.false_ne_true] at h ⊢; exact ⟨ρ, I1, φ, g.gd, h⟩
theorem ve_not (ha : VE X a f) : VE X (.UnaryOp .Not a pos) (Vw.not f) := by
  refine PE.weak (pe_not ha) fun σ H Q ⟨ρ, I, φ, gd, h⟩ => ?_
  exact vbool gd h fun r I1 H1 g h => ⟨r, rfl, h.d g.gd (.bl _)⟩
/-- a test that is a view -/
def rdVT (K : PySem.W.Frag) (mg : Str → Option Value) (f : Env → Option O) : TT := fun σ H Q => rdV K mg f σ H fun x H1 => ∃ k, x = .bl k ∧ Q k H1
abbrev VT (X : Cx) (e : Expr) (f : Env → Option O) : Prop := PT X e (rdVT X.K X.mg f)
theorem vt_val (h : VE X a f) (he : ∀ whole, isTrue a X.env whole = (do let v ← whole; standAt a.pos; holding [v] (truthy v)) := by intro _; rfl) : VT X a f := pt_val h he
theorem vt_cmp {op : CmpOp} {r : R2} {g : O → O → Option O} (ho : OpR X (compareOp op) r) (ok : Vw2 X r g) (ha : VE X a f1) (hb : VE X b f2) (hm : behindInMarks op b = false := by rfl) : VT X (.Compare a [op] [b] pos) (Vw.op2 g f1 f2) := by
  refine PT.weak (pt_cmpR ho ha hb hm) fun σ H Q ⟨ρ, I, φ, gd, h⟩ => ?_
  refine vbind gd h fun x v S I1 H1 g1 w h => ?_
  refine vbind g1.gd h fun y u S' I2 H2 g2 w' h => ?_
  exact h.some fun z e h => ok I2 H2 φ ρ σ _ x y z v u S S' g2.gd (w.grow g2) w' e h
theorem ve_if {e : Expr} (hc : VT X e f1) (ha : VE X a f2) (hb : VE X b f3) : VE X (.IfExp e a b pos) (Vw.ifE f1 f2 f3) := by
  refine PE.weak (pe_ifExp hc ha hb) fun σ H Q ⟨ρ, I, φ, gd, h⟩ => ?_
  refine vbool (Q' := fun x H1 => ∃ k, x = .bl k ∧ (fun (c : Bool) H1 => if c = true then rdV X.K X.mg f2 σ H1 Q else rdV X.K X.mg f3 σ H1 Q) k H1) gd h fun r I1 H1 g h => ⟨r, rfl, ?_⟩
  cases r with
  | true => rw [if_pos rfl] at h ⊢; exact ⟨ρ, I1, φ, g.gd, h⟩
  | false => rw [if_neg Bool.false_ne_true] at h ⊢; exact ⟨ρ, I1, φ, g.gd, h⟩
theorem ve_chain {op op' : CmpOp} {r r' : R2} (ho : OpR X (compareOp op) r) (ok : Vw2 X r g1) (ho' : OpR X (compareOp op') r') (ok' : Vw2 X r' g2) (ha : VE X a f1) (hb : VE X b f2) (hc : VE X c f3)
    (hm : lastMarks [op, op'] [b, c] = false := by with_unfolding_all rfl) : VE X (.Compare a [op, op'] [b, c] pos) (Vw.chain g1 g2 f1 f2 f3) := by
  refine PE.weak (pe_chain ho ho' ha hb hc hm) fun σ H Q ⟨ρ, I, φ, gd, h⟩ => ?_
  refine vbind gd h fun x v S I1 H1 g1' w h => ?_
  refine vbind g1'.gd h fun y u S' I2 H2 g2' w' h => ?_
  cases e : g1 x y with
  | none => rw [e] at h; exact h.elim
  | some o =>
    rw [e] at h
    unfold Vw.boo at h
    rw [Option.bind_some] at h
    split at h
    · rename_i k
      refine ok I2 H2 φ ρ σ _ x y _ v u S S' g2'.gd (w.grow g2') w' e fun v' S3 I3 H3 g3 w3 => ?_
      cases w3.bool
      refine ⟨k, rfl, ?_⟩
      rw [Option.bind_some] at h
      cases k with
      | true =>
        rw [if_pos rfl] at h ⊢
        refine vbind g3.gd (h.grow g3) fun z' u' S4 I4 H4 g4 w4 h => ?_
        exact h.some fun z e h => ok' I4 H4 φ ρ σ Q y z' z u u' S' S4 g4.gd ((w'.grow g3).grow g4) w4 e h
      | false => rw [if_neg Bool.false_ne_true] at h ⊢; exact (h.grow g3).d g3.gd (.bl _)
    · exact h.elim
theorem vt_chain {op op' : CmpOp} {r r' : R2} (ho : OpR X (compareOp op) r) (ok : Vw2 X r g1) (ho' : OpR X (compareOp op') r') (ok' : Vw2 X r' g2) (ha : VE X a f1) (hb : VE X b f2) (hc : VE X c f3)
    (hm : lastMarks [op, op'] [b, c] = false := by with_unfolding_all rfl) : VT X (.Compare a [op, op'] [b, c] pos) (Vw.chain g1 g2 f1 f2 f3) := by
  refine PT.weak (pt_chain ho ho' ha hb hc hm) fun σ H Q0 ⟨ρ, I, φ, gd, h⟩ => ?_
  refine vbind gd h fun x v S I1 H1 g1' w h => ?_
  refine vbind g1'.gd h fun y u S' I2 H2 g2' w' h => ?_
  cases e : g1 x y with
  | none => rw [e] at h; exact h.elim
  | some o =>
    rw [e] at h
    unfold Vw.boo at h
    rw [Option.bind_some] at h
    split at h
    · rename_i k
      refine ok I2 H2 φ ρ σ _ x y _ v u S S' g2'.gd (w.grow g2') w' e fun v' S3 I3 H3 g3 w3 => ?_
      cases w3.bool
      refine ⟨k, rfl, ?_⟩
      rw [Option.bind_some] at h
      cases k with
      | true =>
        rw [if_pos rfl] at h ⊢
        refine vbind g3.gd (h.grow g3) fun z' u' S4 I4 H4 g4 w4 h => ?_
        exact h.some fun z e h => ok' I4 H4 φ ρ σ _ y z' z u u' S' S4 g4.gd ((w'.grow g3).grow g4) w4 e h
      | false => rw [if_neg Bool.false_ne_true] at h ⊢; exact (h.grow g3).d g3.gd (.bl _)
    · exact h.elim
/-- a built-in function or type of views -/
theorem ve_callB {x : Str} {p : Pos} {e : Expr} {es : List Expr} {id : String} {r : List V → Hp → VK → Prop} {g : List O → Option O} {fs : Env → Option (List O)} (hc : CallR X (.builtin id) r) (ok : VwN X r g) (ha : VA X (e :: es) fs) (hm : X.mg x = none) (hg : Gl X x := by rfl) (hv : bootBuiltins x = some (.builtin id) := by rfl) (hn : x ≠ "__name__" := by decide) (hdb : (x == ("__debug__" : Str)) = false := by decide)
    (he : starEach (e :: es) X.env = (false, eval e X.env) :: starEach es X.env := by rfl) (hpl : (backTo pos (starEach es X.env)).any (·.1) = false := by rfl) : VE X (.Call (.Name x p) (e :: es) [] pos) (Vw.opN g fs) := by
  refine PE.weak (pe_callB hc hg hm hv ha hn hdb he hpl) fun σ H Q ⟨ρ, I, φ, gd, h⟩ => ?_
  refine vbinds gd h fun os vs I1 H1 g1 w h => ?_
  exact h.some fun z e h => ok I1 H1 φ ρ σ Q os z vs g1.gd w e h
theorem ve_callTy {x : Str} {p : Pos} {e : Expr} {es : List Expr} {T : String} {r : List V → Hp → VK → Prop} {g : List O → Option O} {fs : Env → Option (List O)} (hc : CallR X (.type T) r) (ok : VwN X r g) (ha : VA X (e :: es) fs) (hm : X.mg x = none) (hg : Gl X x := by rfl) (hv : bootBuiltins x = some (.type T) := by rfl) (hn : x ≠ "__name__" := by decide) (hdb : (x == ("__debug__" : Str)) = false := by decide)
    (he : starEach (e :: es) X.env = (false, eval e X.env) :: starEach es X.env := by rfl) (hpl : (backTo pos (starEach es X.env)).any (·.1) = false := by rfl) : VE X (.Call (.Name x p) (e :: es) [] pos) (Vw.opN g fs) := by
  refine PE.weak (pe_callTy hc hg hm hv ha hn hdb he hpl) fun σ H Q ⟨ρ, I, φ, gd, h⟩ => ?_
  refine vbinds gd h fun os vs I1 H1 g1 w h => ?_
  exact h.some fun z e h => ok I1 H1 φ ρ σ Q os z vs g1.gd w e h
theorem Grw.stp {K : PySem.W.Frag} {mg : Str → Option Value} {φ : Ph} {ρ : Env} {σ : St} {I H I1 H1 : Hp} (gd : Gd K mg I H φ ρ σ) (g : Grw K mg φ ρ σ I H I1 H1) : Stp I H (al φ) I1 H1 (al φ) :=
  ((g.st.frame (G := al φ) fun x ⟨i, q⟩ => gd.th i x q).from fun x q => q.elim False.elim id).sub fun x q => .inr q
theorem Own.d_any {K : PySem.W.Frag} {mg : Str → Option Value} {I H : Hp} {x : D} {v : V} {S T : Pd} (w : Own K mg I H (.d x) v S) : Own K mg I H (.d x) v T := by
  cases w with
  | d q => exact .d q
/-- as an expression that may have effects -/
theorem ee_view (h : VE X a f) : EE X W a (E.view f) := by
  refine PE.weak h fun σ H Q ⟨ρ, I, φ, gd, h⟩ => ⟨ρ, I, φ, gd, ?_⟩
  unfold E.view at h
  cases e : f ρ with
  | none => rw [e] at h; exact h.elim
  | some o =>
    rw [e] at h
    split at h
    · rename_i x e2; cases e2
      intro v S I1 H1 g w
      exact h v H1 I1 φ noP ((g.stp gd).sub fun c q => q.elim id False.elim) g.gd Tm.none w.d_any
    · rename_i x e2; cases e2
      intro v S I1 H1 g w
      refine h v H1 I1 φ noP ((g.stp gd).sub fun c q => q.elim id False.elim) g.gd Tm.none ?_
      cases w with
      | scr q => exact .scr q
    · exact h.elim
theorem et_view (h : VT X a f) : ET X W a (T.view f) := by
  refine PT.weak h fun σ H Q ⟨ρ, I, φ, gd, h⟩ => ⟨ρ, I, φ, gd, ?_⟩
  unfold T.view at h
  cases e : f ρ with
  | none => rw [e] at h; exact h.elim
  | some o =>
    rw [e] at h
    split at h
    · rename_i x e2; cases e2
      intro v S I1 H1 g w
      exact ⟨_, w.bool, h H1 I1 φ (g.stp gd) g.gd⟩
    · exact h.elim
end
end EV

/-! The layer EV, part J: ==, in, is, index, len and more, as views. -/
namespace EV
open PySem PySem.Spec PyProof.Rows L2

/-! ### keys -/
def isK : D → Bool
  | .int _ => true
  | .str _ => true
  | _ => false
def lookK : List (D × D) → D → Option D
  | [], _ => none
  | p :: r, d => if PyData.eqv p.1 d then some p.2 else lookK r d
theorem isK_keyD (k : Key) : isK (keyD k) = true := by cases k <;> rfl
theorem isK_of {d : D} (h : isK d = true) : ∃ k : Key, d = keyD k := by
  cases d <;> first | (simp [isK] at h; done) | skip
  · exact ⟨.inl _, rfl⟩
  · exact ⟨.inr _, rfl⟩
theorem eqv_keyD (k k' : Key) : PyData.eqv (keyD k) (keyD k') = decide (k = k') := by
  cases k <;> cases k' <;> simp only [keyD, PyData.eqv] <;> first | (rw [Bool.eq_iff_iff, beq_iff_eq, decide_eq_true_iff]; simp) | (symm; rw [decide_eq_false_iff_not]; simp)
theorem isK_keyT (ks : List Key) : isK (keyT ks) = false := rfl
section
variable {K : PySem.W.Frag} {mg : Str → Option Value} {I H : Hp}
theorem Den.key {k : Key} {v : V} (h : Den K I (keyD k) v) : v = kV k := by
  cases k <;> (unfold keyD at h; cases h; rfl)
theorem DenK.get : ∀ {ds : List (D × D)} {kvs : List (Key × V)} (k : Key), DenK K I ds kvs → (∃ x v, lookK ds (keyD k) = some x ∧ valV kvs k = some v ∧ Den K I x v) ∨ (lookK ds (keyD k) = none ∧ valV kvs k = none)
  | _, _, k, .nil => .inr ⟨rfl, rfl⟩
  | _, _, k, .cons (k := k') a b => by
    unfold lookK
    by_cases e : k' = k
    · subst e
      rw [show PyData.eqv (keyD k') (keyD k') = true by rw [eqv_keyD]; simp, if_pos rfl, valV_pos rfl]
      exact .inl ⟨_, _, rfl, rfl, a⟩
    · rw [show PyData.eqv (keyD k') (keyD k) = false by rw [eqv_keyD]; simp [e], if_neg Bool.false_ne_true, valV_neg e]
      exact DenK.get k b
theorem DenK.len : ∀ {ds : List (D × D)} {kvs : List (Key × V)}, DenK K I ds kvs → kvs.length = ds.length
  | _, _, .nil => rfl
  | _, _, .cons _ b => by rw [List.length_cons, List.length_cons, DenK.len b]
theorem DenK.keys : ∀ {ds : List (D × D)} {kvs : List (Key × V)}, DenK K I ds kvs → ∀ p ∈ ds, isK p.1 = true
  | _, _, .nil, p, hp => by cases hp
  | _, _, .cons _ b, p, hp => by
    rcases List.mem_cons.mp hp with rfl | hp
    · exact isK_keyD _
    · exact DenK.keys b p hp
theorem DenT.len : ∀ {ds : List (D × D)} {kvs : List (List Key × V)}, DenT K I ds kvs → kvs.length = ds.length
  | _, _, .nil => rfl
  | _, _, .cons _ b => by rw [List.length_cons, List.length_cons, DenT.len b]
end
/-- a dict read -/
def dO : O → Option (List (D × D))
  | .d (.dict ds) => some ds
  | .dic ds => some ds
  | _ => none
def keysOk (ds : List (D × D)) : Bool := ds.all fun p => isK p.1
/-- an exception's data -/
def exB : List (D × D) → Bool
  | [(.none, _)] => true
  | _ => false
section
variable {K : PySem.W.Frag} {mg : Str → Option Value} {I H : Hp}
theorem Own.dK {o : O} {v : V} {S : Pd} {ds : List (D × D)} (w : Own K mg I H o v S) (le : Same I H) (e : dO o = some ds) (hk : keysOk ds = true) : ∃ a kvs, v = .ref a ∧ Rd H a (.dK kvs) ∧ DenK K I ds kvs := by
  unfold dO at e
  split at e
  · cases e
    cases w with
    | d q =>
      cases q with
      | dict r k => exact ⟨_, _, rfl, (RdLe.of le).rd _ _ r, k⟩
      | dictT r k n =>
        cases k with
        | nil => exact (n rfl).elim
        | cons a b => simp [keysOk, isK_keyT] at hk
      | exn _ => cases hk
  · cases e
    cases w with
    | dic h s k => exact ⟨_, _, rfl, .inl h, k⟩
  · cases e
theorem Own.dT {x : List (D × D)} {o : O} {v : V} {S : Pd} (w : Own K mg I H o v S) (le : Same I H) (e : o = .dicT x ∨ o = .d (.dict x)) (hk : keysOk x = false) (hx : o = .dicT x ∨ exB x = false) : ∃ a kvs, v = .ref a ∧ Rd H a (.dT kvs) ∧ DenT K I x kvs := by
  rcases e with rfl | rfl
  · cases w with
    | dicT h s k => exact ⟨_, _, rfl, .inl h, k⟩
  · cases w with
    | d q =>
      cases q with
      | dict r k =>
        have : keysOk x = true := List.all_eq_true.mpr k.keys
        rw [this] at hk; cases hk
      | dictT r k n => exact ⟨_, _, rfl, (RdLe.of le).rd _ _ r, k⟩
      | exn _ => rcases hx with z | z <;> cases z
end

/-! ### == -/
def flatD (d : D) : Bool := d.plain && decide (d.depth ≤ 64)
def eqD (a b : D) : Option Bool := match a, b with
  | .int i, .int j => some (i == j)
  | .str i, .str j => some (i == j)
  | .bool i, .bool j => some (i == j)
  | .dict ks, .dict ls => if (ks.all fun p => isK p.1 && flatD p.2) && (ls.all fun p => isK p.1 && flatD p.2) then
      some (ks.length == ls.length && ks.all fun p => match lookK ls p.1 with | some y => PyData.eqv p.2 y | none => false) else none
  | a, b => if a.plain && b.plain && decide (min a.depth b.depth ≤ 64) then some (PyData.eqv a b) else none
def o_eqB (x y : O) : Option Bool := (rdO x).bind fun a => (rdO y).bind fun b => eqD a b
def o_eq (x y : O) : Option O := (o_eqB x y).map fun b => .d (.bool b)
def o_ne (x y : O) : Option O := (o_eqB x y).map fun b => .d (.bool (!b))
def rEqP (K : PySem.W.Frag) (neg : Bool) : R2 := fun x y H Q => ∃ d e, Dp K H x d ∧ Dp K H y e ∧ d.plain = true ∧ e.plain = true ∧ min d.depth e.depth ≤ 64 ∧ Q (.bl (if neg then !PyData.eqv d e else PyData.eqv d e)) H
/-- values of a dict read as data -/
inductive DpK (K : PySem.W.Frag) (H : Hp) : List (D × D) → List (Key × V) → Prop
  | nil : DpK K H [] []
  | cons {k : Key} {x : D} {xs : List (D × D)} {v : V} {vs : List (Key × V)} : Dp K H v x → x.plain = true → x.depth ≤ 64 → DpK K H xs vs → DpK K H ((keyD k, x) :: xs) ((k, v) :: vs)
def eqKv (ks ls : List (D × D)) : Bool := ks.length == ls.length && ks.all fun p => match lookK ls p.1 with | some y => PyData.eqv p.2 y | none => false
def rEqK (K : PySem.W.Frag) (neg : Bool) : R2 := fun x y H Q => ∃ a b ks ls ds es, x = .ref a ∧ y = .ref b ∧ Rd H a (.dK ks) ∧ Rd H b (.dK ls) ∧ DpK K H ds ks ∧ DpK K H es ls ∧ Q (.bl (if neg then !eqKv ds es else eqKv ds es)) H
def rEqA (K : PySem.W.Frag) (neg : Bool) : R2 := fun x y H Q => rEqP K neg x y H Q ∨ rEqK K neg x y H Q
section
variable {X : Cx}
theorem op_eqP (hu : X.A.units + 100 < cLine) : OpR X (compareOp .Eq) (rEqP X.K false) := by
  intro pins s σ H x y v u Q I rx ry h
  obtain ⟨d, e, hd, he, sd, se, hm, q⟩ := h
  obtain ⟨as, r1⟩ := Dp.reads I d x v hd rx
  obtain ⟨bs, r2⟩ := Dp.reads I e y u he ry
  exact SeqAt.eq_plain r1 r2 sd se (by omega) ⟨.bl _, H, I, rfl, q⟩
theorem op_neP (hu : X.A.units + 100 < cLine) : OpR X (compareOp .NotEq) (rEqP X.K true) := by
  intro pins s σ H x y v u Q I rx ry h
  obtain ⟨d, e, hd, he, sd, se, hm, q⟩ := h
  obtain ⟨as, r1⟩ := Dp.reads I d x v hd rx
  obtain ⟨bs, r2⟩ := Dp.reads I e y u he ry
  exact SeqAt.ne_plain r1 r2 sd se (by omega) ⟨.bl _, H, I, rfl, q⟩
theorem DpK.get {K : PySem.W.Frag} {H : Hp} : ∀ {ds : List (D × D)} {kvs : List (Key × V)} (k : Key), DpK K H ds kvs → (∃ x v, lookK ds (keyD k) = some x ∧ valV kvs k = some v ∧ Dp K H v x ∧ x.plain = true ∧ x.depth ≤ 64) ∨ (lookK ds (keyD k) = none ∧ valV kvs k = none)
  | _, _, k, .nil => .inr ⟨rfl, rfl⟩
  | _, _, k, .cons (k := k') a p dp b => by
    unfold lookK
    by_cases e : k' = k
    · subst e
      rw [show PyData.eqv (keyD k') (keyD k') = true by rw [eqv_keyD]; simp, if_pos rfl, valV_pos rfl]
      exact .inl ⟨_, _, rfl, rfl, a, p, dp⟩
    · rw [show PyData.eqv (keyD k') (keyD k) = false by rw [eqv_keyD]; simp [e], if_neg Bool.false_ne_true, valV_neg e]
      exact DpK.get k b
theorem DpK.len {K : PySem.W.Frag} {H : Hp} : ∀ {ds : List (D × D)} {kvs : List (Key × V)}, DpK K H ds kvs → kvs.length = ds.length
  | _, _, .nil => rfl
  | _, _, .cons _ _ _ b => by rw [List.length_cons, List.length_cons, DpK.len b]
theorem hits_dp {pins : List (Addr × Obj)} {σ : St} {H : Hp} {s : Shared} {es : List (D × D)} {ls : List (Key × V)} {vb : List (Key × Value)} {A : Around} (hu : A.units + 64 < cLine) (I : Inv X pins σ H s) (kb : KV ls vb) (db : DpK X.K H es ls) :
    ∀ {ds : List (D × D)} {ks : List (Key × V)} {va : List (Key × Value)}, KV ks va → DpK X.K H ds ks → PySem.W.KeqHits A s vb va (ds.all fun p => match lookK es p.1 with | some y => PyData.eqv p.2 y | none => false)
  | _, _, _, .nil, dd => by cases dd; exact .nil
  | _, (k0, _) :: _, (k', u) :: va, .cons ⟨e1, e2⟩ t, dd => by
    have e1 : k0 = k' := e1
    subst e1
    cases dd with
    | @cons k x xs v vs a p dp b =>
    rw [List.all_cons]
    rcases DpK.get k0 db with ⟨y, w, h1, h2, h3, h4, h5⟩ | ⟨h1, h2⟩
    · simp only [h1]
      obtain ⟨w', hw, rw'⟩ := RelO.some_of (v := w) (o := valueAt vb k0) (by rw [← h2]; exact kb.val k0)
      obtain ⟨as, r1⟩ := Dp.reads I _ _ u a e2
      obtain ⟨bs, r2⟩ := Dp.reads I _ _ w' h3 rw'
      exact .hit hw (SeqAt.eqAt_plain _ _ A s _ _ as bs r1 r2 p h4 (by omega)) (hits_dp hu I kb db t b)
    · simp only [h1, Bool.false_and]
      exact .miss (RelO.none_of (by rw [← h2]; exact kb.val k0))
theorem op_eqK (hu : X.A.units + 100 < cLine) : OpR X (compareOp .Eq) (rEqK X.K false) := by
  intro pins s σ H x y v u Q I rx ry h
  obtain ⟨a, b, ks, ls, ds, es, rfl, rfl, ea, eb, da, db, q⟩ := h
  obtain rfl : v = Value.ref a := rx
  obtain rfl : u = Value.ref b := ry
  obtain ⟨_, ya, va, ra, oa⟩ := dk_rd I.hok ea
  obtain ⟨_, yb, vb, rb, ob⟩ := dk_rd I.hok eb
  refine PySem.W.keq_eq (knd := mixKind X.prog X.w) ya yb oa ob (by omega) (fun _ => hits_dp (by show X.A.units + 1 + 64 < cLine; omega) I rb db ra da) (fin_bl I q ?_)
  rw [← ra.length, ← rb.length, da.len, db.len]
  rfl
theorem op_neK (hu : X.A.units + 100 < cLine) : OpR X (compareOp .NotEq) (rEqK X.K true) := by
  intro pins s σ H x y v u Q I rx ry h
  obtain ⟨a, b, ks, ls, ds, es, rfl, rfl, ea, eb, da, db, q⟩ := h
  obtain rfl : v = Value.ref a := rx
  obtain rfl : u = Value.ref b := ry
  obtain ⟨_, ya, va, ra, oa⟩ := dk_rd I.hok ea
  obtain ⟨_, yb, vb, rb, ob⟩ := dk_rd I.hok eb
  refine PySem.W.keq_ne (knd := mixKind X.prog X.w) ya yb oa ob (by omega) (fun _ => hits_dp (by show X.A.units + 1 + 64 < cLine; omega) I rb db ra da) (fin_bl I q ?_)
  rw [← ra.length, ← rb.length, da.len, db.len]
  rfl
theorem op_eqA (hu : X.A.units + 100 < cLine) : OpR X (compareOp .Eq) (rEqA X.K false) := (op_eqP hu).or (op_eqK hu)
theorem op_neA (hu : X.A.units + 100 < cLine) : OpR X (compareOp .NotEq) (rEqA X.K true) := (op_neP hu).or (op_neK hu)
theorem DenK.dp {K : PySem.W.Frag} {I H : Hp} (le : Same I H) : ∀ {ds : List (D × D)} {kvs : List (Key × V)}, DenK K I ds kvs → (ds.all fun p => isK p.1 && flatD p.2) = true → DpK K H ds kvs
  | _, _, .nil, _ => .nil
  | _, _, .cons a b, h => by
    simp only [List.all_cons, Bool.and_eq_true, flatD, decide_eq_true_eq] at h
    exact .cons (a.dp le h.1.2.1) h.1.2.1 h.1.2.2 (DenK.dp le b (by simpa [flatD, Bool.and_eq_true] using h.2))
theorem rdO_dict {o : O} {ks : List (D × D)} (e : rdO o = some (.dict ks)) : dO o = some ks := by
  cases o with
  | d x => rw [rdO] at e; cases e; rfl
  | dic x => rw [rdO] at e; cases e; rfl
  | lst xs => rw [rdO, Option.map_eq_some_iff] at e; obtain ⟨_, _, z⟩ := e; cases z
  | tup xs => rw [rdO, Option.map_eq_some_iff] at e; obtain ⟨_, _, z⟩ := e; cases z
  | _ => rw [rdO] at e; cases e
theorem eqD_cases {a b : D} {r : Bool} (h : eqD a b = some r) : (a.plain = true ∧ b.plain = true ∧ min a.depth b.depth ≤ 64 ∧ PyData.eqv a b = r) ∨
    ∃ ks ls, a = .dict ks ∧ b = .dict ls ∧ (ks.all fun p => isK p.1 && flatD p.2) = true ∧ (ls.all fun p => isK p.1 && flatD p.2) = true ∧ eqKv ks ls = r := by
  unfold eqD at h
  split at h
  · cases h; exact .inl ⟨rfl, rfl, by simp [PyData.depth], by simp [PyData.eqv]⟩
  · cases h; exact .inl ⟨rfl, rfl, by simp [PyData.depth], by simp [PyData.eqv]⟩
  · cases h; exact .inl ⟨rfl, rfl, by simp [PyData.depth], by simp [PyData.eqv]⟩
  · split at h
    · rename_i hk
      cases h
      rw [Bool.and_eq_true] at hk
      exact .inr ⟨_, _, rfl, rfl, hk.1, hk.2, rfl⟩
    · cases h
  · split at h
    · rename_i hk
      cases h
      simp only [Bool.and_eq_true, decide_eq_true_eq] at hk
      exact .inl ⟨hk.1.1, hk.1.2, hk.2, rfl⟩
    · cases h
theorem keysOk_of {ks : List (D × D)} (h : (ks.all fun p => isK p.1 && flatD p.2) = true) : keysOk ks = true := by
  unfold keysOk
  rw [List.all_eq_true] at h ⊢
  intro p hp
  have := h p hp
  rw [Bool.and_eq_true] at this
  exact this.1
theorem eq_any {neg : Bool} {I H : Hp} {Q : VK} {x y : O} {a b : V} {S1 S2 : Pd} {r : Bool} (le : Same I H) (w1 : Own X.K X.mg I H x a S1) (w2 : Own X.K X.mg I H y b S2) (e : o_eqB x y = some r) (h : Q (.bl (if neg then !r else r)) H) : rEqA X.K neg a b H Q := by
  unfold o_eqB at e
  rw [Option.bind_eq_some_iff] at e
  obtain ⟨d, e1, e⟩ := e
  rw [Option.bind_eq_some_iff] at e
  obtain ⟨d', e2, e⟩ := e
  rcases eqD_cases e with ⟨p1, p2, hm, rfl⟩ | ⟨ks, ls, rfl, rfl, h1, h2, rfl⟩
  · exact .inl ⟨d, d', w1.dp le e1 p1, w2.dp le e2 p2, p1, p2, hm, h⟩
  · obtain ⟨A, kvs, rfl, r1, k1⟩ := w1.dK le (rdO_dict e1) (keysOk_of h1)
    obtain ⟨B, kvs', rfl, r2, k2⟩ := w2.dK le (rdO_dict e2) (keysOk_of h2)
    exact .inr ⟨A, B, kvs, kvs', ks, ls, rfl, rfl, r1, r2, k1.dp le h1, k2.dp le h2, h⟩
theorem vw_eq : Vw2 X (rEqA X.K false) o_eq := by
  intro I H φ ρ σ Q x y z a b S1 S2 gd w1 w2 e h
  unfold o_eq at e
  rw [Option.map_eq_some_iff] at e
  obtain ⟨r, e, rfl⟩ := e
  exact eq_any gd.le w1 w2 e (h.d gd (.bl r))
theorem vw_ne : Vw2 X (rEqA X.K true) o_ne := by
  intro I H φ ρ σ Q x y z a b S1 S2 gd w1 w2 e h
  unfold o_ne at e
  rw [Option.map_eq_some_iff] at e
  obtain ⟨r, e, rfl⟩ := e
  exact eq_any gd.le w1 w2 e (h.d gd (.bl _))
/-- a view's operation whose answers are data, for operands in hand -/
theorem Vw2.op {r : R2} {g : O → O → Option O} (ok : Vw2 X r g) (hd : ∀ x y z, g x y = some z → ∃ d, z = .d d) : Op2Ok X r g := by
  intro W σ I H φ ρ F G1 G2 Q x y z a b gd hf tm w1 w2 dis e h
  obtain ⟨d, rfl⟩ := hd x y z e
  refine ok I H φ ρ σ Q x y _ a b G1 G2 gd w1 w2 e fun v S I' H' g w => ?_
  exact h v H' I' φ noP (((g.stp gd).sub fun c q => q.elim id False.elim).from fun c q => hf c (.inl q)) g.gd Tm.none w.d_any
theorem ok_eq : Op2Ok X (rEqA X.K false) o_eq := vw_eq.op fun x y z e => by
  unfold o_eq at e
  rw [Option.map_eq_some_iff] at e
  obtain ⟨r, _, rfl⟩ := e
  exact ⟨_, rfl⟩
theorem ok_ne : Op2Ok X (rEqA X.K true) o_ne := vw_ne.op fun x y z e => by
  unfold o_ne at e
  rw [Option.map_eq_some_iff] at e
  obtain ⟨r, _, rfl⟩ := e
  exact ⟨_, rfl⟩

/-! ### ints as views -/
theorem vw_ii {C : Int → Int → Prop} {g : Int → Int → V} {c : Int → Int → Bool} {g' : Int → Int → D} (hc : ∀ i j, c i j = true → C i j) (hg : ∀ i j I, Den X.K I (g' i j) (g i j)) : Vw2 X (rI C g) (o_ii c g') := by
  intro I H φ ρ σ Q x y z a b S1 S2 gd w1 w2 e h
  unfold o_ii at e
  split at e
  · rename_i i j
    split at e
    · rename_i hcc
      cases e
      cases w1.int
      cases w2.int
      exact ⟨i, j, rfl, rfl, hc i j hcc, h.d gd (hg i j I)⟩
    · cases e
  · cases e
theorem vw_ii0 {g : Int → Int → V} {g' : Int → Int → D} (hg : ∀ i j I, Den X.K I (g' i j) (g i j)) : Vw2 X (rI0 g) (o_ii (fun _ _ => true) g') := by
  intro I H φ ρ σ Q x y z a b S1 S2 gd w1 w2 e h
  unfold o_ii at e
  split at e
  · rename_i i j
    rw [if_pos rfl] at e
    cases e
    cases w1.int
    cases w2.int
    exact ⟨i, j, rfl, rfl, h.d gd (hg i j I)⟩
  · cases e
theorem vw_sub : Vw2 X (rI0 fun i j => .int (i - j)) o_sub := vw_ii0 fun _ _ _ => .int _
theorem vw_fdiv : Vw2 X (rI CDiv fun i j => .int (i / j)) o_fdiv := vw_ii (fun i j h => by
  rw [Bool.and_eq_true, decide_eq_true_eq, decide_eq_true_eq] at h; exact h) fun _ _ _ => .int _
theorem vw_mod : Vw2 X (rI (fun _ j => 0 < j) fun i j => .int (i % j)) o_mod := vw_ii (fun i j h => of_decide_eq_true h) fun _ _ _ => .int _
theorem vw_pow : Vw2 X (rI CPow fun i j => .int (i ^ j.toNat)) o_pow := vw_ii (fun i j h => by
  simp only [Bool.and_eq_true, decide_eq_true_eq] at h
  exact ⟨h.1.1.1, by omega, by omega⟩) fun _ _ _ => .int _
theorem vw_lt : Vw2 X (rI0 fun i j => .bl (decide (i < j))) o_lt := vw_ii0 fun _ _ _ => .bl _
theorem vw_le : Vw2 X (rI0 fun i j => .bl (decide (i ≤ j))) o_le := vw_ii0 fun _ _ _ => .bl _
theorem vw_gt : Vw2 X (rI0 fun i j => .bl (decide (j < i))) o_gt := vw_ii0 fun _ _ _ => .bl _
theorem vw_ge : Vw2 X (rI0 fun i j => .bl (decide (j ≤ i))) o_ge := vw_ii0 fun _ _ _ => .bl _

/-! ### is, is not -/
def isC (x y : O) : Option Bool := match y with
  | .d .none => (match x with
    | .d d => some (match d with | .none => true | _ => false)
    | .lst _ => some false
    | .tup _ => some false
    | .dic _ => some false
    | .obj _ _ => some false
    | _ => none)
  | .d (.bool b) => (match x with
    | .d (.bool a) => some (a == b)
    | _ => none)
  | _ => none
def o_is (x y : O) : Option O := (isC x y).map fun b => .d (.bool b)
def o_isn (x y : O) : Option O := (isC x y).map fun b => .d (.bool (!b))
def rIsA (neg : Bool) : R2 := fun x y H Q => (y = .non ∧ Q (.bl (if neg then !decide (x = .non) else decide (x = .non))) H) ∨ ∃ a b : Bool, x = .bl a ∧ y = .bl b ∧ Q (.bl (if neg then !decide (a = b) else decide (a = b))) H
theorem op_isA : OpR X (compareOp .Is) (rIsA false) := OpR.or op_isN op_isBl
theorem op_isnA : OpR X (compareOp .IsNot) (rIsA true) := OpR.or op_notN op_notBl
theorem is_any {neg : Bool} {I H : Hp} {Q : VK} {x y : O} {a b : V} {S1 S2 : Pd} {r : Bool} (w1 : Own X.K X.mg I H x a S1) (w2 : Own X.K X.mg I H y b S2) (e : isC x y = some r) (h : Q (.bl (if neg then !r else r)) H) : rIsA neg a b H Q := by
  unfold isC at e
  split at e
  · cases w2.none'
    have e' : decide (a = .non) = r := by
      split at e
      · rename_i d
        split at e
        · cases e; cases w1.none'; rfl
        · rename_i hd
          cases e
          cases w1 with
          | d q => cases q <;> first | rfl | exact (hd rfl).elim
      · cases e; cases w1; rfl
      · cases e; cases w1; rfl
      · cases e; cases w1; rfl
      · cases e; cases w1; rfl
      · cases e
    exact .inl ⟨rfl, by rw [e']; exact h⟩
  · split at e
    · cases e
      cases w1.bool
      cases w2.bool
      exact .inr ⟨_, _, rfl, rfl, by simpa [Bool.beq_eq_decide_eq] using h⟩
    · cases e
  · cases e
theorem vw_is : Vw2 X (rIsA false) o_is := by
  intro I H φ ρ σ Q x y z a b S1 S2 gd w1 w2 e h
  unfold o_is at e
  rw [Option.map_eq_some_iff] at e
  obtain ⟨r, e, rfl⟩ := e
  exact is_any w1 w2 e (h.d gd (.bl r))
theorem vw_isn : Vw2 X (rIsA true) o_isn := by
  intro I H φ ρ σ Q x y z a b S1 S2 gd w1 w2 e h
  unfold o_isn at e
  rw [Option.map_eq_some_iff] at e
  obtain ⟨r, e, rfl⟩ := e
  exact is_any w1 w2 e (h.d gd (.bl _))
theorem ok_is : Op2Ok X (rIsA false) o_is := vw_is.op fun x y z e => by
  unfold o_is at e
  rw [Option.map_eq_some_iff] at e
  obtain ⟨r, _, rfl⟩ := e
  exact ⟨_, rfl⟩
theorem ok_isn : Op2Ok X (rIsA true) o_isn := vw_isn.op fun x y z e => by
  unfold o_isn at e
  rw [Option.map_eq_some_iff] at e
  obtain ⟨r, _, rfl⟩ := e
  exact ⟨_, rfl⟩
end
end EV

/-! The layer EV, part K: in, index, slices, len, isinstance and other built-ins, as views. -/
namespace EV
open PySem PySem.Spec PyProof.Rows L2

/-- the items of a list or tuple, read -/
def listO : O → Option (List O)
  | .lst xs => some xs
  | .d (.list xs) => some (xs.map .d)
  | .scr xs => some (xs.map fun i => .d (.int i))
  | _ => none
def tupO : O → Option (List O)
  | .tup xs => some xs
  | .d (.tuple xs) => some (xs.map .d)
  | .kst xs => some (xs.map .d)
  | _ => none
def seqO (o : O) : Option (List O) := match listO o with
  | some xs => some xs
  | none => tupO o
section
variable {K : PySem.W.Frag} {mg : Str → Option Value} {I H : Hp}
theorem Vws.den : ∀ {xs : List D} {vs : List V}, DenL K I xs vs → Vws K mg I H (xs.map .d) vs
  | _, _, .nil => .nil
  | _, _, .cons a b => .cons (S := noP) (.d a) (Vws.den b)
theorem Vws.ints : ∀ xs : List Int, Vws K mg I H (xs.map fun i => .d (.int i)) (xs.map V.int)
  | [] => .nil
  | x :: xs => .cons (S := noP) (.d (.int x)) (Vws.ints xs)
theorem Vws.own : ∀ {xs : List O} {vs : List V} {S : Pd}, Owns K mg I H xs vs S → Vws K mg I H xs vs
  | _, _, _, .nil => .nil
  | _, _, _, .cons a b _ _ _ => .cons a (Vws.own b)
theorem Vws.get : ∀ {os : List O} {vs : List V} {i : Nat} {o : O}, Vws K mg I H os vs → os[i]? = some o → ∃ v S, vs[i]? = some v ∧ Own K mg I H o v S
  | _, _, _, _, .nil, e => by simp at e
  | _, _, 0, _, .cons a _, e => by simp at e; subst e; exact ⟨_, _, rfl, a⟩
  | _, _, i + 1, o, .cons _ b, e => by
    obtain ⟨v, S, h1, h2⟩ := Vws.get (i := i) (o := o) b (by simpa using e)
    exact ⟨v, S, by simpa using h1, h2⟩
theorem Own.listO (le : Same I H) {o : O} {v : V} {S : Pd} {os : List O} (w : Own K mg I H o v S) (e : EV.listO o = some os) : ∃ a vs, v = .ref a ∧ SqL K H a vs ∧ Vws K mg I H os vs := by
  unfold EV.listO at e
  split at e
  · cases e
    cases w with
    | lst a b c d e => exact ⟨_, _, rfl, SqL.of a, Vws.own c⟩
  · cases e
    cases w with
    | d q =>
      cases q with
      | list s r => exact ⟨_, _, rfl, SqL.of (le _ _ s), Vws.den r⟩
  · cases e
    cases w with
    | scr q => exact ⟨_, _, rfl, (RdLe.of le).sqL q, Vws.ints _⟩
  · cases e
theorem Own.tupO (le : Same I H) {o : O} {v : V} {S : Pd} {os : List O} (w : Own K mg I H o v S) (e : EV.tupO o = some os) : ∃ a vs, v = .ref a ∧ SqT K H a vs ∧ Vws K mg I H os vs := by
  unfold EV.tupO at e
  split at e
  · cases e
    cases w with
    | tup a b => exact ⟨_, _, rfl, SqT.of (le _ _ a), Vws.own b⟩
  · cases e
    cases w with
    | d q =>
      cases q with
      | tuple s r => exact ⟨_, _, rfl, SqT.of (le _ _ s), Vws.den r⟩
  · cases e
    cases w with
    | kst q r => exact ⟨_, _, rfl, sqT_le le q, Vws.den r⟩
  · cases e
theorem Own.seqO (le : Same I H) {o : O} {v : V} {S : Pd} {os : List O} (w : Own K mg I H o v S) (e : EV.seqO o = some os) : ∃ a vs, v = .ref a ∧ (SqL K H a vs ∨ SqT K H a vs) ∧ Vws K mg I H os vs := by
  unfold EV.seqO at e
  split at e
  · rename_i xs ex
    cases e
    obtain ⟨a, vs, h1, h2, h3⟩ := w.listO le ex
    exact ⟨a, vs, h1, .inl h2, h3⟩
  · obtain ⟨a, vs, h1, h2, h3⟩ := w.tupO le e
    exact ⟨a, vs, h1, .inr h2, h3⟩

/-! ### keys by values -/
def keyT? : List D → Option (List Key)
  | [] => some []
  | .int i :: r => (keyT? r).map (.inl i :: ·)
  | .str x :: r => (keyT? r).map (.inr x :: ·)
  | _ :: _ => none
theorem keyT?_of : ∀ {ds : List D} {ks : List Key}, keyT? ds = some ks → ds = ks.map keyD
  | [], _, e => by rw [keyT?] at e; cases e; rfl
  | .int i :: r, _, e => by
    rw [keyT?, Option.map_eq_some_iff] at e
    obtain ⟨ks, e, rfl⟩ := e
    rw [List.map_cons, ← keyT?_of e]; rfl
  | .str i :: r, _, e => by
    rw [keyT?, Option.map_eq_some_iff] at e
    obtain ⟨ks, e, rfl⟩ := e
    rw [List.map_cons, ← keyT?_of e]; rfl
  | .none :: _, _, e => by simp [keyT?] at e
  | .bool _ :: _, _, e => by simp [keyT?] at e
  | .list _ :: _, _, e => by simp [keyT?] at e
  | .tuple _ :: _, _, e => by simp [keyT?] at e
  | .dict _ :: _, _, e => by simp [keyT?] at e
theorem DenL.keys : ∀ {ks : List Key} {vs : List V}, DenL K I (ks.map keyD) vs → vs = ks.map kV
  | [], _, h => by cases h; rfl
  | k :: ks, _, h => by
    rw [List.map_cons] at h
    cases h with
    | cons a b => rw [a.key, DenL.keys b]; rfl
theorem eqvAll_keys : ∀ ks ls : List Key, PyData.eqvAll (ks.map keyD) (ls.map keyD) = decide (ks = ls)
  | [], [] => by simp [PyData.eqvAll]
  | [], _ :: _ => by simp [PyData.eqvAll]
  | _ :: _, [] => by simp [PyData.eqvAll]
  | k :: ks, l :: ls => by
    rw [List.map_cons, List.map_cons, PyData.eqvAll, eqv_keyD, eqvAll_keys ks ls]
    by_cases h1 : k = l <;> by_cases h2 : ks = ls <;> simp [h1, h2]
theorem eqv_keyT (ks ls : List Key) : PyData.eqv (keyT ks) (keyT ls) = decide (ks = ls) := by
  unfold keyT
  rw [PyData.eqv, eqvAll_keys]
theorem DenT.get : ∀ {ds : List (D × D)} {kvs : List (List Key × V)} (k : List Key), DenT K I ds kvs → (∃ x v, lookK ds (keyT k) = some x ∧ valV kvs k = some v ∧ Den K I x v) ∨ (lookK ds (keyT k) = none ∧ valV kvs k = none)
  | _, _, k, .nil => .inr ⟨rfl, rfl⟩
  | _, _, k, .cons (k := k') a b => by
    unfold lookK
    by_cases e : k' = k
    · subst e
      rw [show PyData.eqv (keyT k') (keyT k') = true by rw [eqv_keyT]; simp, if_pos rfl, valV_pos rfl]
      exact .inl ⟨_, _, rfl, rfl, a⟩
    · rw [show PyData.eqv (keyT k') (keyT k) = false by rw [eqv_keyT]; simp [e], if_neg Bool.false_ne_true, valV_neg e]
      exact DenT.get k b
end
/-- a dict with tuple keys, read -/
def dTO : O → Option (List (D × D))
  | .d (.dict ds) => if keysOk ds || exB ds then none else some ds
  | .dicT ds => some ds
  | _ => none
def keyO : O → Option D
  | .kst _ => none
  | o => rdO o
/-- what the dict x holds at y -/
def getO (x y : O) : Option (Option D) := match keyO y with
  | some (.tuple ds) => (keyT? ds).bind fun _ => (dTO x).bind fun kvs => some (lookK kvs (.tuple ds))
  | some d => if isK d then (dO x).bind fun kvs => if keysOk kvs then some (lookK kvs d) else none else none
  | none => none
section
variable {K : PySem.W.Frag} {mg : Str → Option Value} {I H : Hp}
theorem rdO_tup_of {o : O} {v : V} {S : Pd} {ds : List D} {ks : List Key} (le : Same I H) (w : Own K mg I H o v S) (e : rdO o = some (.tuple ds)) (hk : keyT? ds = some ks) (hn : ∀ xs, o ≠ .kst xs) : ∃ b, v = .ref b ∧ H b = some (.tup (ks.map kV)) := by
  have := keyT?_of hk
  subst this
  cases o with
  | d x =>
    rw [rdO] at e; cases e
    cases w with
    | d q =>
      cases q with
      | tuple s r => exact ⟨_, rfl, by rw [← r.keys]; exact le _ _ s⟩
  | tup xs =>
    rw [rdO, Option.map_eq_some_iff] at e
    obtain ⟨ys, e1, e2⟩ := e
    cases e2
    cases w with
    | tup a b =>
      refine ⟨_, rfl, ?_⟩
      have : ∀ {xs : List O} {vs : List V} {ks : List Key} {S : Pd}, Owns K mg I H xs vs S → rdOs xs = some (ks.map keyD) → vs = ks.map kV := by
        intro xs
        induction xs with
        | nil => intro vs ks S h e; cases h; rw [rdOs] at e; cases ks <;> simp at e ⊢
        | cons x xs ih =>
          intro vs ks S h e
          cases h with
          | cons a b c d f =>
            rw [rdOs] at e
            split at e
            · rename_i y ys e1 e2
              cases ks with
              | nil => simp at e
              | cons k ks =>
                simp only [List.map_cons, Option.some.injEq, List.cons.injEq] at e
                obtain ⟨rfl, rfl⟩ := e
                rw [ih b e2, List.map_cons]
                congr 1
                have hd : x = .d (keyD k) := by
                  cases x <;> simp [rdO] at e1
                  · rw [e1]
                  · obtain ⟨_, _, z⟩ := e1; cases k <;> simp [keyD] at z
                  · obtain ⟨_, _, z⟩ := e1; cases k <;> simp [keyD] at z
                  · cases k <;> simp [keyD] at e1
                  · cases k <;> simp [keyD] at e1
                  · cases k <;> simp [keyD] at e1
                subst hd
                cases a with
                | d q => exact q.key
            · cases e
      rw [← this b e1]; exact le _ _ a
  | kst xs => exact (hn xs rfl).elim
  | lst xs => rw [rdO, Option.map_eq_some_iff] at e; obtain ⟨_, _, z⟩ := e; cases z
  | _ => rw [rdO] at e; cases e

theorem Own.dTO {o : O} {v : V} {S : Pd} {ds : List (D × D)} (w : Own K mg I H o v S) (le : Same I H) (e : EV.dTO o = some ds) : ∃ a kvs, v = .ref a ∧ Rd H a (.dT kvs) ∧ DenT K I ds kvs := by
  unfold EV.dTO at e
  split at e
  · split at e
    · cases e
    · rename_i hk
      cases e
      rw [Bool.or_eq_true, not_or] at hk
      exact w.dT le (.inr rfl) (by simpa using hk.1) (.inr (by simpa using hk.2))
  · cases e
    cases w with
    | dicT h s k => exact ⟨_, _, rfl, .inl h, k⟩
  · cases e
theorem keyO_atom {o : O} {v : V} {S : Pd} {k : Key} (w : Own K mg I H o v S) (e : keyO o = some (keyD k)) : v = kV k := by
  cases o with
  | d x =>
    have e : some x = some (keyD k) := e
    cases e
    cases w with
    | d q => exact q.key
  | lst xs =>
    have e : (rdOs xs).map PyData.list = some (keyD k) := e
    rw [Option.map_eq_some_iff] at e
    obtain ⟨_, _, z⟩ := e
    cases k <;> simp [keyD] at z
  | tup xs =>
    have e : (rdOs xs).map PyData.tuple = some (keyD k) := e
    rw [Option.map_eq_some_iff] at e
    obtain ⟨_, _, z⟩ := e
    cases k <;> simp [keyD] at z
  | dic xs =>
    have e : some (PyData.dict xs) = some (keyD k) := e
    cases k <;> simp [keyD] at e
  | scr xs =>
    have e : some (PyData.list (xs.map .int)) = some (keyD k) := e
    cases k <;> simp [keyD] at e
  | _ => cases e
theorem getO_spec {x y : O} {a b : V} {S1 S2 : Pd} {r : Option D} (le : Same I H) (w1 : Own K mg I H x a S1) (w2 : Own K mg I H y b S2) (e : getO x y = some r) :
    ∃ p o, a = .ref p ∧ DGet H p b o ∧ ((r = none ∧ o = none) ∨ ∃ z v, r = some z ∧ o = some v ∧ Den K I z v) := by
  unfold getO at e
  split at e
  · rename_i ds ek
    rw [Option.bind_eq_some_iff] at e
    obtain ⟨ks, e1, e⟩ := e
    rw [Option.bind_eq_some_iff] at e
    obtain ⟨kvs, e2, e⟩ := e
    cases e
    obtain ⟨q, rfl, hq⟩ := rdO_tup_of (ds := ds) le w2 (by
      unfold keyO at ek
      split at ek
      · cases ek
      · exact ek) e1 (fun xs z => by subst z; cases ek)
    obtain ⟨p, kv, rfl, r1, k1⟩ := w1.dTO le e2
    refine ⟨p, valV kv ks, rfl, .inr ⟨kv, ks, q, r1, rfl, hq, rfl⟩, ?_⟩
    have := keyT?_of e1
    subst this
    rcases DenT.get ks k1 with ⟨z, v, h1, h2, h3⟩ | ⟨h1, h2⟩
    · exact .inr ⟨z, v, h1, h2, h3⟩
    · exact .inl ⟨h1, h2⟩
  · rename_i d ek
    split at e
    · rename_i hk
      rw [Option.bind_eq_some_iff] at e
      obtain ⟨kvs, e2, e⟩ := e
      split at e
      · rename_i hko
        cases e
        obtain ⟨k, rfl⟩ := isK_of hk
        obtain ⟨p, kv, rfl, r1, k1⟩ := w1.dK le e2 hko
        have := keyO_atom w2 ek
        subst this
        refine ⟨p, valV kv k, rfl, .inl ⟨kv, k, r1, rfl, rfl⟩, ?_⟩
        rcases DenK.get k k1 with ⟨z, v, h1, h2, h3⟩ | ⟨h1, h2⟩
        · exact .inr ⟨z, v, h1, h2, h3⟩
        · exact .inl ⟨h1, h2⟩
      · cases e
    · cases e
  · cases e
end

/-! ### in -/
def inB (x y : O) : Option Bool := match seqO y with
  | some _ => (rdO x).bind fun d => match rdO y with
    | some (.list xs) => if d.plain && PyData.plainAll xs && decide (min (PyData.depthAll xs) d.depth ≤ 64) then some (xs.any fun z => PyData.eqv z d) else none
    | some (.tuple xs) => if d.plain && PyData.plainAll xs && decide (min (PyData.depthAll xs) d.depth ≤ 64) then some (xs.any fun z => PyData.eqv z d) else none
    | _ => none
  | none => (getO y x).map Option.isSome
def o_in (x y : O) : Option O := (inB x y).map fun b => .d (.bool b)
def o_nin (x y : O) : Option O := (inB x y).map fun b => .d (.bool (!b))
def rInP (K : PySem.W.Frag) (neg : Bool) : R2 := fun x y H Q => ∃ d xs, Dp K H x d ∧ (Dp K H y (.list xs) ∨ Dp K H y (.tuple xs)) ∧ d.plain = true ∧ PyData.plainAll xs = true ∧ min (PyData.depthAll xs) d.depth ≤ 64 ∧
  Q (.bl (if neg then !(xs.any fun z => PyData.eqv z d) else xs.any fun z => PyData.eqv z d)) H
def rInDc (neg : Bool) : R2 := fun x y H Q => ∃ p o, y = .ref p ∧ DGet H p x o ∧ Q (.bl (if neg then !o.isSome else o.isSome)) H
def rInA (K : PySem.W.Frag) (neg : Bool) : R2 := fun x y H Q => rInP K neg x y H Q ∨ rInDc neg x y H Q
section
variable {X : Cx}
theorem op_inP (hu : X.A.units + 100 < cLine) : OpR X (compareOp .In) (rInP X.K false) := by
  intro pins s σ H x y v u Q I rx ry h
  obtain ⟨d, xs, hd, he, sd, se, hm, q⟩ := h
  obtain ⟨as, r1⟩ := Dp.reads I d x v hd rx
  rcases he with he | he
  · obtain ⟨bs, r2⟩ := Dp.reads I _ y u he ry
    exact SeqAt.in_list_data r2 r1 se sd (by omega) ⟨.bl _, H, I, rfl, q⟩
  · obtain ⟨bs, r2⟩ := Dp.reads I _ y u he ry
    exact SeqAt.in_tuple_data r2 r1 se sd (by omega) ⟨.bl _, H, I, rfl, q⟩
theorem op_ninP (hu : X.A.units + 100 < cLine) : OpR X (compareOp .NotIn) (rInP X.K true) := by
  intro pins s σ H x y v u Q I rx ry h
  obtain ⟨d, xs, hd, he, sd, se, hm, q⟩ := h
  obtain ⟨as, r1⟩ := Dp.reads I d x v hd rx
  rcases he with he | he
  · obtain ⟨bs, r2⟩ := Dp.reads I _ y u he ry
    exact SeqAt.notIn_list_data r2 r1 se sd (by omega) ⟨.bl _, H, I, rfl, q⟩
  · obtain ⟨bs, r2⟩ := Dp.reads I _ y u he ry
    exact SeqAt.notIn_tuple_data r2 r1 se sd (by omega) ⟨.bl _, H, I, rfl, q⟩
theorem op_inDc (hu : X.A.units + 100 < cLine) : OpR X (compareOp .In) (rInDc false) := by
  intro pins s σ H x y v u Q I rx ry h
  obtain ⟨p, o, rfl, g, q⟩ := h
  obtain rfl : u = Value.ref p := ry
  exact d_in (by omega) I g rx fun s3 I3 => ⟨.bl o.isSome, H, I3, rfl, q⟩
theorem op_ninDc (hu : X.A.units + 100 < cLine) : OpR X (compareOp .NotIn) (rInDc true) := by
  intro pins s σ H x y v u Q I rx ry h
  obtain ⟨p, o, rfl, g, q⟩ := h
  obtain rfl : u = Value.ref p := ry
  exact d_notIn (by omega) I g rx fun s3 I3 => ⟨.bl (!o.isSome), H, I3, rfl, q⟩
theorem op_inA (hu : X.A.units + 100 < cLine) : OpR X (compareOp .In) (rInA X.K false) := (op_inP hu).or (op_inDc hu)
theorem op_ninA (hu : X.A.units + 100 < cLine) : OpR X (compareOp .NotIn) (rInA X.K true) := (op_ninP hu).or (op_ninDc hu)
theorem in_any {neg : Bool} {I H : Hp} {Q : VK} {x y : O} {a b : V} {S1 S2 : Pd} {r : Bool} (le : Same I H) (w1 : Own X.K X.mg I H x a S1) (w2 : Own X.K X.mg I H y b S2) (e : inB x y = some r) (h : Q (.bl (if neg then !r else r)) H) : rInA X.K neg a b H Q := by
  unfold inB at e
  split at e
  · rw [Option.bind_eq_some_iff] at e
    obtain ⟨d, e1, e⟩ := e
    split at e
    · rename_i xs ey
      split at e
      · rename_i hc
        cases e
        simp only [Bool.and_eq_true, decide_eq_true_eq] at hc
        exact .inl ⟨d, xs, w1.dp le e1 hc.1.1, .inl (w2.dp le ey (by simpa [PyData.plain] using hc.1.2)), hc.1.1, hc.1.2, hc.2, h⟩
      · cases e
    · rename_i xs ey
      split at e
      · rename_i hc
        cases e
        simp only [Bool.and_eq_true, decide_eq_true_eq] at hc
        exact .inl ⟨d, xs, w1.dp le e1 hc.1.1, .inr (w2.dp le ey (by simpa [PyData.plain] using hc.1.2)), hc.1.1, hc.1.2, hc.2, h⟩
      · cases e
    · cases e
  · rw [Option.map_eq_some_iff] at e
    obtain ⟨o, e1, rfl⟩ := e
    obtain ⟨p, o', rfl, g, hh⟩ := getO_spec le w2 w1 e1
    refine .inr ⟨p, o', rfl, g, ?_⟩
    rcases hh with ⟨rfl, rfl⟩ | ⟨z, v, rfl, rfl, _⟩ <;> exact h
theorem vw_in : Vw2 X (rInA X.K false) o_in := by
  intro I H φ ρ σ Q x y z a b S1 S2 gd w1 w2 e h
  unfold o_in at e
  rw [Option.map_eq_some_iff] at e
  obtain ⟨r, e, rfl⟩ := e
  exact in_any gd.le w1 w2 e (h.d gd (.bl r))
theorem vw_nin : Vw2 X (rInA X.K true) o_nin := by
  intro I H φ ρ σ Q x y z a b S1 S2 gd w1 w2 e h
  unfold o_nin at e
  rw [Option.map_eq_some_iff] at e
  obtain ⟨r, e, rfl⟩ := e
  exact in_any gd.le w1 w2 e (h.d gd (.bl _))
theorem ok_in : Op2Ok X (rInA X.K false) o_in := vw_in.op fun x y z e => by
  unfold o_in at e
  rw [Option.map_eq_some_iff] at e
  obtain ⟨r, _, rfl⟩ := e
  exact ⟨_, rfl⟩
theorem ok_nin : Op2Ok X (rInA X.K true) o_nin := vw_nin.op fun x y z e => by
  unfold o_nin at e
  rw [Option.map_eq_some_iff] at e
  obtain ⟨r, _, rfl⟩ := e
  exact ⟨_, rfl⟩
end

/-! ### x[i] -/
def o_ix (x y : O) : Option O := match seqO x with
  | some xs => (match y with
    | .d (.int i) => atI xs i
    | _ => none)
  | none => (match getO x y with
    | some (some z) => some (.d z)
    | _ => none)
/-- the item as data only -/
def o_ixd (x y : O) : Option O := match o_ix x y with
  | some (.d z) => some (.d z)
  | _ => none
def rIxD : R2 := fun x y H Q => ∃ a v, x = .ref a ∧ DGet H a y (some v) ∧ Q v H
def rIxA (K : PySem.W.Frag) : R2 := fun x y H Q => rIxL K x y H Q ∨ rIxT K x y H Q ∨ rIxD x y H Q
section
variable {X : Cx}
theorem ix_dict (hu : X.A.units + 100 < cLine) : IxR X rIxD := by
  intro value slice pins s σ H x y v u Q I rx ry h hs
  obtain ⟨a, z, rfl, g, q⟩ := h
  obtain rfl : v = Value.ref a := rx
  exact tail_any (dict_typeIs I g) PySem.F.slot_dict_getitem.lookup (d_getItem (by omega) I g ry fun w' s3 I3 rw' => ⟨z, H, I3, rw', q⟩) hs
theorem ix_any (hu : X.A.units + 100 < cLine) : IxR X (rIxA X.K) := ix_list.or (ix_tup.or (ix_dict hu))
theorem vw_ix : Vw2 X (rIxA X.K) o_ix := by
  intro I H φ ρ σ Q x y z a b S1 S2 gd w1 w2 e h
  unfold o_ix at e
  split at e
  · rename_i xs ex
    split at e
    · rename_i i
      cases w2.int
      obtain ⟨p, vs, rfl, hq, ws⟩ := w1.seqO gd.le ex
      have el : atI xs i = some z := e
      obtain ⟨j, h1, h2, h3, h4, h5⟩ := atI_get el
      obtain ⟨v, S, hv, wv⟩ := ws.get h2
      have ev : atI vs i = some v := by
        unfold atI at el ⊢
        rw [ws.len]
        cases e3 : ixN xs.length i with
        | none => rw [e3] at el; cases el
        | some j' =>
          have := (ixN_seq e3).1
          rw [h1] at this
          cases this
          exact hv
      have fin : Q v H := h v S I H (Grw.refl gd) wv
      rcases hq with hq | hq
      · exact .inl ⟨p, vs, i, v, rfl, rfl, hq, ev, fin⟩
      · exact .inr (.inl ⟨p, vs, i, v, rfl, rfl, hq, ev, fin⟩)
    · cases e
  · split at e
    · rename_i z' e1
      cases e
      obtain ⟨p, o, rfl, g, hh⟩ := getO_spec gd.le w1 w2 e1
      rcases hh with ⟨z, _⟩ | ⟨z, v, e2, rfl, d⟩
      · cases z
      · cases e2
        exact .inr (.inr ⟨p, v, rfl, g, h.d gd d⟩)
    · cases e
theorem vw_ixd : Vw2 X (rIxA X.K) o_ixd := by
  intro I H φ ρ σ Q x y z a b S1 S2 gd w1 w2 e h
  unfold o_ixd at e
  split at e
  · rename_i z' e1
    cases e
    exact vw_ix I H φ ρ σ Q x y _ a b S1 S2 gd w1 w2 e1 h
  · cases e
theorem ok_ix : Op2Ok X (rIxA X.K) o_ixd := vw_ixd.op fun x y z e => by
  unfold o_ixd at e
  split at e
  · cases e; exact ⟨_, rfl⟩
  · cases e

/-! ### len -/
def o_len : List O → Option O
  | [.d (.str x)] => if x.length ≤ 1000000 then some (.d (.int x.length)) else none
  | [x] => (match seqO x with
    | some xs => some (.d (.int xs.length))
    | none => (match dO x with
      | some ds => if keysOk ds then some (.d (.int ds.length)) else none
      | none => none))
  | _ => none
def rLenA (K : PySem.W.Frag) : List V → Hp → VK → Prop := fun xs H Q => (∃ x n, xs = [x] ∧ LenV K x H n ∧ Q (.int n) H) ∨ ∃ a kvs, xs = [V.ref a] ∧ Rd H a (.dK kvs) ∧ Q (.int kvs.length) H
theorem call_lenA : CallR X (.builtin "len") (rLenA X.K) := call_len.or (by
  intro pins s σ H xs us Q I r h
  obtain ⟨a, kvs, rfl, e, q⟩ := h
  obtain ⟨u, rfl, rx⟩ := vals1 r
  obtain rfl : u = Value.ref a := rx
  exact d_len I e fun t s' I' => ⟨.int kvs.length, H, I', ⟨t, rfl⟩, q⟩)
theorem vw_len : VwN X (rLenA X.K) o_len := by
  intro I H φ ρ σ Q xs z as gd ws e h
  unfold o_len at e
  split at e
  · rename_i x
    split at e
    · rename_i hz
      cases e
      cases ws with
      | cons w ws =>
        cases ws
        cases w.str
        exact .inl ⟨_, x.length, rfl, ⟨mil hz, rfl⟩, h.d gd (.int _)⟩
    · cases e
  · rename_i x _
    cases ws with
    | cons w ws =>
      cases ws
      split at e
      · rename_i xs ex
        cases e
        obtain ⟨p, vs, rfl, hq, ws⟩ := w.seqO gd.le ex
        refine .inl ⟨_, vs.length, rfl, ?_, by rw [ws.len]; exact h.d gd (.int _)⟩
        rcases hq with hq | hq
        · exact .inl ⟨vs, hq, rfl⟩
        · exact .inr ⟨vs, hq, rfl⟩
      · split at e
        · rename_i ds ed
          split at e
          · rename_i hk
            cases e
            obtain ⟨a, kvs, rfl, r, k⟩ := w.dK gd.le ed hk
            exact .inr ⟨a, kvs, rfl, r, by rw [k.len]; exact h.d gd (.int _)⟩
          · cases e
        · cases e
  · cases e
end
end EV

/-! The layer EV, part L: sorting. -/
namespace EV
open PySem PySem.Spec PyProof.Rows L2

/-! ### insertion sort -/
section
variable {α β : Type}
def ins (le : α → α → Bool) (a : α) : List α → List α
  | [] => [a]
  | b :: r => if le a b then a :: b :: r else b :: ins le a r
def isort (le : α → α → Bool) : List α → List α
  | [] => []
  | a :: r => ins le a (isort le r)
theorem ins_split {le : α → α → Bool} {a : α} : ∀ {l1 l2 : List α}, (∀ b ∈ l1, le a b = false) → (∀ b ∈ l2, le a b = true) → ins le a (l1 ++ l2) = l1 ++ a :: l2
  | [], [], _, _ => rfl
  | [], b :: r, _, h => by
    show (if le a b then a :: b :: r else b :: ins le a r) = _
    rw [h b (.head _)]; rfl
  | c :: l1, l2, h1, h2 => by
    show (if le a c then a :: c :: (l1 ++ l2) else c :: ins le a (l1 ++ l2)) = _
    rw [h1 c (.head _), if_neg Bool.false_ne_true, ins_split (fun b hb => h1 b (.tail _ hb)) h2]; rfl
theorem mergeSort_isort {le : α → α → Bool} (tr : ∀ a b c, le a b = true → le b c = true → le a c = true) (to : ∀ a b, (le a b || le b a) = true) : ∀ l : List α, l.mergeSort le = isort le l
  | [] => by simp [isort]
  | a :: l => by
    obtain ⟨l1, l2, h1, h2, h3⟩ := List.mergeSort_cons tr to a l
    show _ = ins le a (isort le l)
    rw [← mergeSort_isort tr to l, h2, h1]
    refine (ins_split (fun b hb => ?_) (fun b hb => ?_)).symm
    · have := h3 b hb; simpa using this
    · have hp := List.pairwise_mergeSort tr to (a :: l)
      rw [h1, List.pairwise_append] at hp
      exact (List.pairwise_cons.mp hp.2.1).1 b hb
theorem ins_map {r : α → α → Bool} {s : β → β → Bool} {f : α → β} (h : ∀ a b, r a b = s (f a) (f b)) (a : α) : ∀ l : List α, (ins r a l).map f = ins s (f a) (l.map f)
  | [] => rfl
  | b :: l => by
    show (if r a b then a :: b :: l else b :: ins r a l).map f = if s (f a) (f b) then _ else _
    rw [h]
    split
    · rfl
    · rw [List.map_cons, ins_map h a l]
theorem isort_map {r : α → α → Bool} {s : β → β → Bool} {f : α → β} (h : ∀ a b, r a b = s (f a) (f b)) : ∀ l : List α, (isort r l).map f = isort s (l.map f)
  | [] => rfl
  | a :: l => by
    show (ins r a (isort r l)).map f = ins s (f a) (isort s (l.map f))
    rw [ins_map h, isort_map h l]
theorem mem_ins {le : α → α → Bool} {a b : α} : ∀ {l : List α}, b ∈ ins le a l → b = a ∨ b ∈ l
  | [], h => by cases h with | head => exact .inl rfl | tail _ h => cases h
  | c :: l, h => by
    unfold ins at h
    split at h
    · exact (List.mem_cons.mp h)
    · rcases List.mem_cons.mp h with rfl | h
      · exact .inr (.head _)
      · rcases mem_ins h with rfl | h
        · exact .inl rfl
        · exact .inr (.tail _ h)
theorem mem_isort {le : α → α → Bool} {b : α} : ∀ {l : List α}, b ∈ isort le l → b ∈ l
  | a :: l, h => by
    rcases mem_ins h with rfl | h
    · exact .head _
    · exact .tail _ (mem_isort h)
end
/-- the order of data -/
def leD (a b : D) : Bool := PySem.W.dataLe (β := D) false id a b
def sortD (ds : List D) : List D := isort leD ds
/-- data that can be compared, two by two -/
def sortOk (ds : List D) : Bool := (ds.all fun d => ds.all fun e => PySem.W.alike d e) && ((ds.all fun d => match d with | .tuple (_ :: _) => true | _ => false) || ds.all fun d => match d with | .none => false | .tuple _ => false | _ => true) &&
  ds.all (fun d => decide (d.depth ≤ 64)) && decide (ds.length ≤ 1000000)
theorem sortOk_spec {ds : List D} (h : sortOk ds = true) : PySem.W.AllAlike ds ∧ PySem.W.Sortable ds ∧ (∀ d ∈ ds, d.depth ≤ 64) ∧ ds.length ≤ 1000000 := by
  unfold sortOk at h
  simp only [Bool.and_eq_true, Bool.or_eq_true, List.all_eq_true, decide_eq_true_eq] at h
  obtain ⟨⟨⟨h1, h2⟩, h3⟩, h4⟩ := h
  refine ⟨fun d hd e he => h1 d hd e he, ?_, h3, h4⟩
  rcases h2 with h2 | h2
  · refine .inl fun d hd => ?_
    have := h2 d hd
    split at this
    · exact ⟨_, _, rfl⟩
    · cases this
  · refine .inr fun d hd => ?_
    have := h2 d hd
    split at this
    · cases this
    · cases this
    · rename_i n1 n2
      exact ⟨n1, n2⟩
theorem leD_tr : ∀ a b c : D, leD a b = true → leD b c = true → leD a c = true := (PySem.W.sortLe_total _ false _).trans
theorem leD_to : ∀ a b : D, (leD a b || leD b a) = true := fun a b => by
  rw [Bool.or_eq_true]
  exact (PySem.W.sortLe_total _ false _).total a b
theorem data_isort {β : Type} (k : β → D) (l : List β) : l.mergeSort (PySem.W.dataLe false k) = isort (fun x y => leD (k x) (k y)) l :=
  mergeSort_isort (le := fun x y => leD (k x) (k y)) (fun a b c => leD_tr (k a) (k b) (k c)) (fun a b => leD_to (k a) (k b)) l

section
variable {K : PySem.W.Frag} {I H : Hp}
theorem DenL.zip : ∀ {ds : List D} {vs : List V}, DenL K I ds vs → ∃ bs : List (V × D), bs.map (·.2) = ds ∧ bs.map (·.1) = vs ∧ ∀ p ∈ bs, Den K I p.2 p.1
  | _, _, .nil => ⟨[], rfl, rfl, fun _ h => by cases h⟩
  | _, _, .cons (x := x) (v := v) a b => by
    obtain ⟨bs, h1, h2, h3⟩ := DenL.zip b
    refine ⟨(v, x) :: bs, by simp [h1], by simp [h2], fun p hp => ?_⟩
    rcases List.mem_cons.mp hp with rfl | hp
    · exact a
    · exact h3 p hp
theorem DenL.of_all : ∀ {bs : List (V × D)}, (∀ p ∈ bs, Den K I p.2 p.1) → DenL K I (bs.map (·.2)) (bs.map (·.1))
  | [], _ => .nil
  | p :: bs, h => .cons (h p (.head _)) (DenL.of_all fun q hq => h q (.tail _ hq))
mutual
theorem alike_plain : ∀ d : D, PySem.W.alike d d = true → d.plain = true
  | .none, _ => rfl
  | .bool _, _ => rfl
  | .int _, _ => rfl
  | .str _, _ => rfl
  | .list xs, h => by
    simp only [PyData.plain]
    exact alikeAll_plain xs (by simpa [PySem.W.alike] using h)
  | .tuple xs, h => by
    simp only [PyData.plain]
    exact alikeAll_plain xs (by simpa [PySem.W.alike] using h)
  | .dict _, h => by simp [PySem.W.alike] at h
theorem alikeAll_plain : ∀ xs : List D, PySem.W.alikeAll xs xs = true → PyData.plainAll xs = true
  | [], _ => rfl
  | x :: xs, h => by
    simp only [PySem.W.alikeAll, Bool.and_eq_true] at h
    simp only [PyData.plainAll, alike_plain x h.1, alikeAll_plain xs h.2, Bool.and_self]
end
end
def rSortD (K : PySem.W.Frag) : List V → Hp → VK → Prop := fun vs H Q => ∃ (a : Addr) (bs : List (V × D)), vs = [V.ref a] ∧ SqL K H a (bs.map (·.1)) ∧ (∀ p ∈ bs, Dp K H p.1 p.2) ∧ sortOk (bs.map (·.2)) = true ∧
  ∀ p, H p = none → Q (.ref p) (upd H p (.lst ((isort (fun x y => leD x.2 y.2) bs).map (·.1))))
section
variable {X : Cx}
theorem each_of {pins : List (Addr × Obj)} {σ : St} {H : Hp} {s : Shared} : ∀ {bs : List (V × D)} {us : List Value}, Vals (bs.map (·.1)) us → PySem.W.EachIs (fun u (b : V × D) => RelV b.1 u) us bs
  | [], _, h => by rw [List.map_nil] at h; cases h; exact .nil
  | b :: bs, _, h => by
    rw [List.map_cons] at h
    cases h with
    | cons r t => exact .cons r (each_of (pins := pins) (σ := σ) (H := H) (s := s) t)
theorem each_reads {pins : List (Addr × Obj)} {σ : St} {H : Hp} {s : Shared} (I : Inv X pins σ H s) : ∀ {bs : List (V × D)} {us : List Value}, Vals (bs.map (·.1)) us → (∀ p ∈ bs, Dp X.K H p.1 p.2) → PySem.W.EachIs (fun u (b : V × D) => ∃ as, Reads s.heap u b.2 as) us bs
  | [], _, h, _ => by rw [List.map_nil] at h; cases h; exact .nil
  | b :: bs, _, h, hp => by
    rw [List.map_cons] at h
    cases h with
    | cons r t => exact .cons (Dp.reads I _ _ _ (hp b (.head _)) r) (each_reads I t fun p q => hp p (.tail _ q))
theorem vals_each : ∀ {bs : List (V × D)} {us : List Value}, PySem.W.EachIs (fun u (b : V × D) => RelV b.1 u) us bs → Vals (bs.map (·.1)) us
  | [], _, .nil => .nil
  | b :: bs, _, .cons r t => .cons r (vals_each t)
theorem length_ins {α : Type} {le : α → α → Bool} (a : α) : ∀ l : List α, (ins le a l).length = l.length + 1
  | [] => rfl
  | b :: l => by
    unfold ins
    split
    · rfl
    · rw [List.length_cons, length_ins a l, List.length_cons]
theorem length_isort {α : Type} {le : α → α → Bool} : ∀ l : List α, (isort le l).length = l.length
  | [] => rfl
  | a :: l => by rw [isort, length_ins, length_isort l, List.length_cons]
theorem cr_sortD (hu : X.A.units + 100 < cLine) : CallR X (.builtin "sorted") (rSortD X.K) := by
  intro pins s σ H vs us Q I r h
  obtain ⟨a, bs, rfl, hs, hd, ok, q⟩ := h
  obtain ⟨its, rv, hl, hz⟩ := I.list hs
  rw [Vals.ref1 r]
  obtain ⟨o1, o2, o3, o4⟩ := sortOk_spec ok
  have hlen0 : its.length = bs.length := by rw [← rv.length, List.length_map]
  refine PySem.W.sorted_data (enc := fun b : V × D => b.2) (R := fun u b => RelV b.1 u) hl.isList (each_of (pins := pins) (σ := σ) (H := H) (s := s) rv) (each_reads I rv hd) o1 o2 (by rw [List.length_map] at o4; exact mil o4) (fun b hb => ?_) fun out ho eo => ?_
  · have := o3 b.2 (List.mem_map.mpr ⟨b, hb, rfl⟩)
    omega
  · rw [data_isort] at eo
    obtain ⟨ep, he'⟩ := PyProof.Rows.sortedAll_at s.heap its out.toArray
    have hlen : ((isort (fun x y : V × D => leD x.2 y.2) bs).map (·.1)).length ≤ sizeLine := by
      rw [List.length_map, length_isort]
      rw [List.length_map] at o4
      exact mil o4
    exact ⟨.ref _, upd H (s.heap.objs.size + 1) (.lst ((isort (fun x y : V × D => leD x.2 y.2) bs).map (·.1))), I.laid (t' := s.toks) (fun _ _ => PyProof.Rows.sortedAll_old) (Nat.le_succ _) ⟨hlen, out, ep, vals_each eo, he'⟩, rfl, q _ (I.hok.fresh (Nat.le_succ _))⟩
end
end EV

/-! The layer EV, part M: built-ins that read, and new lists and tuples from what is read. -/
namespace EV
open PySem PySem.Spec PyProof.Rows L2

/-! ### fresh results -/
/-- what comes out is new -/
def FP (K : PySem.W.Frag) (mg : Str → Option Value) (φ : Ph) (ρ : Env) (σ : St) (I H : Hp) (Q : VK) (z : O) : Prop :=
  ∀ v I' H' G, Stp I H noP I' H' G → Gd K mg I' H' φ ρ σ → Tm I' H' φ G → Own K mg I' H' z v G → Q v H'
def FrN (X : Cx) (r : List V → Hp → VK → Prop) (g : List O → Option O) : Prop := ∀ (I H : Hp) (φ : Ph) (ρ : Env) (σ : St) (Q : VK) (xs : List O) (z : O) (as : List V), Gd X.K X.mg I H φ ρ σ → Vws X.K X.mg I H xs as → g xs = some z → FP X.K X.mg φ ρ σ I H Q z → r as H Q
def Fr2 (X : Cx) (r : R2) (g : O → O → Option O) : Prop := ∀ (I H : Hp) (φ : Ph) (ρ : Env) (σ : St) (Q : VK) (x y z : O) (a b : V) (S1 S2 : Pd), Gd X.K X.mg I H φ ρ σ → Own X.K X.mg I H x a S1 → Own X.K X.mg I H y b S2 → g x y = some z → FP X.K X.mg φ ρ σ I H Q z → r a b H Q
def Fr1 (X : Cx) (r : V → Hp → VK → Prop) (g : O → Option O) : Prop := ∀ (I H : Hp) (φ : Ph) (ρ : Env) (σ : St) (Q : VK) (x z : O) (a : V) (S1 : Pd), Gd X.K X.mg I H φ ρ σ → Own X.K X.mg I H x a S1 → g x = some z → FP X.K X.mg φ ρ σ I H Q z → r a H Q
def E.fr (f : Env → Option O) : M O := fun ρ => match f ρ with
  | some z => .ok z ρ
  | none => .stuck
section
variable {X : Cx} {W : WX} {pos : Pos} {a b c e : Expr} {f f1 f2 f3 : Env → Option O}
/-- a view's end, for a fresh result -/
theorem FP.of {I H I1 H1 : Hp} {φ : Ph} {ρ : Env} {σ : St} {Q : VK} {z : O} (gd : Gd X.K X.mg I H φ ρ σ) (g : Grw X.K X.mg φ ρ σ I H I1 H1) (h : PostE X.K X.mg W σ I H (al φ) Q (.ok z ρ)) : FP X.K X.mg φ ρ σ I1 H1 Q z := by
  intro v I' H' G s gd' t w
  refine h v H' I' φ G ((g.stp gd).trans (((s.frame (G := al φ) fun x ⟨i, q⟩ => g.gd.th i x q).from fun x q => q.elim False.elim id).sub fun x q => q.symm)) gd' t w
theorem fr_bind {σ : St} {I H : Hp} {φ : Ph} {ρ : Env} {Q : VK} {P : O → Option O} {Q' : VK} (gd : Gd X.K X.mg I H φ ρ σ) (h : PostE X.K X.mg W σ I H (al φ) Q (match (f ρ).bind P with | some z => .ok z ρ | none => .stuck))
    (k : ∀ o v S I1 H1, Grw X.K X.mg φ ρ σ I H I1 H1 → Own X.K X.mg I1 H1 o v S → PostE X.K X.mg W σ I H (al φ) Q (match P o with | some z => .ok z ρ | none => .stuck) → Q' v H1) : rdV X.K X.mg f σ H Q' := by
  refine ⟨ρ, I, φ, gd, ?_⟩
  cases e : f ρ with
  | none => rw [e] at h; exact h.elim
  | some o => rw [e] at h; exact fun v S I1 H1 g w => k o v S I1 H1 g w h
theorem fr_binds {σ : St} {I H : Hp} {φ : Ph} {ρ : Env} {Q : VK} {P : List O → Option O} {Q' : List V → Hp → Prop} {f : Env → Option (List O)} (gd : Gd X.K X.mg I H φ ρ σ) (h : PostE X.K X.mg W σ I H (al φ) Q (match (f ρ).bind P with | some z => .ok z ρ | none => .stuck))
    (k : ∀ o v I1 H1, Grw X.K X.mg φ ρ σ I H I1 H1 → Vws X.K X.mg I1 H1 o v → PostE X.K X.mg W σ I H (al φ) Q (match P o with | some z => .ok z ρ | none => .stuck) → Q' v H1) : rdVs X.K X.mg f σ H Q' := by
  refine ⟨ρ, I, φ, gd, ?_⟩
  cases e : f ρ with
  | none => rw [e] at h; exact h.elim
  | some o => rw [e] at h; exact fun v I1 H1 g w => k o v I1 H1 g w h
theorem ee_fr2 {r : R2} {g : O → O → Option O} (h2 : ∀ {ta tb : TE}, PE X a ta → PE X b tb → PE X e (tOp r ta tb)) (ok : Fr2 X r g) (ha : VE X a f1) (hb : VE X b f2) : EE X W e (E.fr (Vw.op2 g f1 f2)) := by
  refine PE.weak (h2 ha hb) fun σ H Q ⟨ρ, I, φ, gd, h⟩ => ?_
  refine fr_bind gd h fun x v S I1 H1 g1 w h => ?_
  have h' : PostE X.K X.mg W σ I H (al φ) Q (match (f2 ρ).bind (g x) with | some z => .ok z ρ | none => .stuck) := h
  refine ⟨ρ, I1, φ, g1.gd, ?_⟩
  cases e2 : f2 ρ with
  | none => rw [e2] at h'; exact h'.elim
  | some y =>
    rw [e2, Option.bind_some] at h'
    intro u S' I2 H2 g2 w'
    cases e : g x y with
    | none => rw [e] at h'; exact h'.elim
    | some z => rw [e] at h'; exact ok I2 H2 φ ρ σ Q x y z v u S S' g2.gd (w.grow g2) w' e (FP.of gd (g1.trans g2) h')
theorem ee_frOp {op : Operator} {r : R2} {g : O → O → Option O} (ho : OpR X (binaryOp op) r) (ok : Fr2 X r g) (ha : VE X a f1) (hb : VE X b f2) : EE X W (.BinOp a op b pos) (E.fr (Vw.op2 g f1 f2)) :=
  ee_fr2 (fun ha hb => pe_op ho ha hb) ok ha hb
theorem ee_frB {x : Str} {p : Pos} {e : Expr} {es : List Expr} {id : String} {r : List V → Hp → VK → Prop} {g : List O → Option O} {fs : Env → Option (List O)} (hc : CallR X (.builtin id) r) (ok : FrN X r g) (ha : VA X (e :: es) fs) (hm : X.mg x = none) (hg : Gl X x := by rfl) (hv : bootBuiltins x = some (.builtin id) := by rfl) (hn : x ≠ "__name__" := by decide) (hdb : (x == ("__debug__" : Str)) = false := by decide)
    (he : starEach (e :: es) X.env = (false, eval e X.env) :: starEach es X.env := by rfl) (hpl : (backTo pos (starEach es X.env)).any (·.1) = false := by rfl) : EE X W (.Call (.Name x p) (e :: es) [] pos) (E.fr (Vw.opN g fs)) := by
  refine PE.weak (pe_callB hc hg hm hv ha hn hdb he hpl) fun σ H Q ⟨ρ, I, φ, gd, h⟩ => ?_
  refine fr_binds gd h fun os vs I1 H1 g1 w h => ?_
  cases e : g os with
  | none => rw [e] at h; exact h.elim
  | some z => rw [e] at h; exact ok I1 H1 φ ρ σ Q os z vs g1.gd w e (FP.of gd g1 h)
theorem ee_frTy {x : Str} {p : Pos} {e : Expr} {es : List Expr} {T : String} {r : List V → Hp → VK → Prop} {g : List O → Option O} {fs : Env → Option (List O)} (hc : CallR X (.type T) r) (ok : FrN X r g) (ha : VA X (e :: es) fs) (hm : X.mg x = none) (hg : Gl X x := by rfl) (hv : bootBuiltins x = some (.type T) := by rfl) (hn : x ≠ "__name__" := by decide) (hdb : (x == ("__debug__" : Str)) = false := by decide)
    (he : starEach (e :: es) X.env = (false, eval e X.env) :: starEach es X.env := by rfl) (hpl : (backTo pos (starEach es X.env)).any (·.1) = false := by rfl) : EE X W (.Call (.Name x p) (e :: es) [] pos) (E.fr (Vw.opN g fs)) := by
  refine PE.weak (pe_callTy hc hg hm hv ha hn hdb he hpl) fun σ H Q ⟨ρ, I, φ, gd, h⟩ => ?_
  refine fr_binds gd h fun os vs I1 H1 g1 w h => ?_
  cases e : g os with
  | none => rw [e] at h; exact h.elim
  | some z => rw [e] at h; exact ok I1 H1 φ ρ σ Q os z vs g1.gd w e (FP.of gd g1 h)
theorem FP.lst {I H : Hp} {φ : Ph} {ρ : Env} {σ : St} {Q : VK} {xs : List D} {vs : List V} {p : Addr} (gd : Gd X.K X.mg I H φ ρ σ) (h : FP X.K X.mg φ ρ σ I H Q (.lst (xs.map .d))) (q : DenL X.K I xs vs) (hp : H p = none) : Q (.ref p) (upd H p (.lst vs)) := by
  refine h (.ref p) I (upd H p (.lst vs)) (fun a => a = p) (Stp.new hp fun a e => .inr e) (gd.new hp) ⟨fun a e => by rw [e]; exact gd.free hp, fun a e => by rw [e, upd_same]; exact Option.some_ne_none _, fun i a e q => gd.nfree hp ⟨i, e ▸ q⟩⟩ ?_
  exact .lst (S' := noP) upd_same rfl (Owns.ofDen q) (fun b z => z.elim) id
theorem FP.d {I H : Hp} {φ : Ph} {ρ : Env} {σ : St} {Q : VK} {x : D} {v : V} (gd : Gd X.K X.mg I H φ ρ σ) (h : FP X.K X.mg φ ρ σ I H Q (.d x)) (q : Den X.K I x v) : Q v H := h v I H noP (Stp.refl fun _ z => z) gd Tm.none (.d q)
end

/-! ### new lists, in both ways -/
def LsN (X : Cx) (r : List V → Hp → VK → Prop) (g : List O → Option (List D)) : Prop := ∀ (I H : Hp) (Q : VK) (xs : List O) (as : List V) (ds : List D), Same I H → Vws X.K X.mg I H xs as → g xs = some ds → (∀ vs p, DenL X.K I ds vs → H p = none → Q (.ref p) (upd H p (.lst vs))) → r as H Q
def Ls2 (X : Cx) (r : R2) (g : O → O → Option (List D)) : Prop := ∀ (I H : Hp) (Q : VK) (x y : O) (a b : V) (S1 S2 : Pd) (ds : List D), Same I H → Own X.K X.mg I H x a S1 → Own X.K X.mg I H y b S2 → g x y = some ds → (∀ vs p, DenL X.K I ds vs → H p = none → Q (.ref p) (upd H p (.lst vs))) → r a b H Q
def dl (ds : List D) : O := .d (.list ds)
def ol (ds : List D) : O := .lst (ds.map .d)
section
variable {X : Cx}
theorem LsN.vw {r : List V → Hp → VK → Prop} {g : List O → Option (List D)} (h : LsN X r g) : VwN X r (fun xs => (g xs).map dl) := by
  intro I H φ ρ σ Q xs z as gd ws e q
  rw [Option.map_eq_some_iff] at e
  obtain ⟨ds, e, rfl⟩ := e
  exact h I H Q xs as ds gd.le ws e fun vs p hd hp => q.lst gd hd hp
theorem LsN.fr {r : List V → Hp → VK → Prop} {g : List O → Option (List D)} (h : LsN X r g) : FrN X r (fun xs => (g xs).map ol) := by
  intro I H φ ρ σ Q xs z as gd ws e q
  rw [Option.map_eq_some_iff] at e
  obtain ⟨ds, e, rfl⟩ := e
  exact h I H Q xs as ds gd.le ws e fun vs p hd hp => q.lst gd hd hp
theorem Ls2.vw {r : R2} {g : O → O → Option (List D)} (h : Ls2 X r g) : Vw2 X r (fun x y => (g x y).map dl) := by
  intro I H φ ρ σ Q x y z a b S1 S2 gd w1 w2 e q
  rw [Option.map_eq_some_iff] at e
  obtain ⟨ds, e, rfl⟩ := e
  exact h I H Q x y a b S1 S2 ds gd.le w1 w2 e fun vs p hd hp => q.lst gd hd hp
theorem Ls2.fr {r : R2} {g : O → O → Option (List D)} (h : Ls2 X r g) : Fr2 X r (fun x y => (g x y).map ol) := by
  intro I H φ ρ σ Q x y z a b S1 S2 gd w1 w2 e q
  rw [Option.map_eq_some_iff] at e
  obtain ⟨ds, e, rfl⟩ := e
  exact h I H Q x y a b S1 S2 ds gd.le w1 w2 e fun vs p hd hp => q.lst gd hd hp
end

/-! ### items as data -/
def listD (o : O) : Option (List D) := (listO o).bind allD
def tupD (o : O) : Option (List D) := (tupO o).bind allD
def seqD (o : O) : Option (List D) := (seqO o).bind allD
section
variable {K : PySem.W.Frag} {mg : Str → Option Value} {I H : Hp}
theorem Own.listD (le : Same I H) {o : O} {v : V} {S : Pd} {ds : List D} (w : Own K mg I H o v S) (e : EV.listD o = some ds) : ∃ a vs, v = .ref a ∧ SqL K H a vs ∧ DenL K I ds vs := by
  unfold EV.listD at e
  rw [Option.bind_eq_some_iff] at e
  obtain ⟨os, e1, e2⟩ := e
  obtain ⟨a, vs, h1, h2, h3⟩ := w.listO le e1
  exact ⟨a, vs, h1, h2, h3.allD e2⟩
theorem Own.tupD (le : Same I H) {o : O} {v : V} {S : Pd} {ds : List D} (w : Own K mg I H o v S) (e : EV.tupD o = some ds) : ∃ a vs, v = .ref a ∧ SqT K H a vs ∧ DenL K I ds vs := by
  unfold EV.tupD at e
  rw [Option.bind_eq_some_iff] at e
  obtain ⟨os, e1, e2⟩ := e
  obtain ⟨a, vs, h1, h2, h3⟩ := w.tupO le e1
  exact ⟨a, vs, h1, h2, h3.allD e2⟩
theorem Own.seqD (le : Same I H) {o : O} {v : V} {S : Pd} {ds : List D} (w : Own K mg I H o v S) (e : EV.seqD o = some ds) : ∃ a vs, v = .ref a ∧ (SqL K H a vs ∨ SqT K H a vs) ∧ DenL K I ds vs := by
  unfold EV.seqD at e
  rw [Option.bind_eq_some_iff] at e
  obtain ⟨os, e1, e2⟩ := e
  obtain ⟨a, vs, h1, h2, h3⟩ := w.seqO le e1
  exact ⟨a, vs, h1, h2, h3.allD e2⟩
end
/-- plain ints, bools -/
def intsD : List D → Option (List Int)
  | [] => some []
  | .int i :: r => (intsD r).map (i :: ·)
  | _ :: _ => none
def boolsD : List D → Option (List Bool)
  | [] => some []
  | .bool i :: r => (boolsD r).map (i :: ·)
  | _ :: _ => none
section
variable {K : PySem.W.Frag} {I : Hp}
theorem DenL.ints : ∀ {ds : List D} {vs : List V} {ns : List Int}, DenL K I ds vs → intsD ds = some ns → vs = ns.map V.int
  | [], _, _, h, e => by rw [intsD] at e; cases e; cases h; rfl
  | .int i :: ds, _, _, h, e => by
    rw [intsD, Option.map_eq_some_iff] at e
    obtain ⟨ns, e, rfl⟩ := e
    cases h with
    | cons a b => cases a; rw [DenL.ints b e]; rfl
  | .none :: _, _, _, _, e => by simp [intsD] at e
  | .bool _ :: _, _, _, _, e => by simp [intsD] at e
  | .str _ :: _, _, _, _, e => by simp [intsD] at e
  | .list _ :: _, _, _, _, e => by simp [intsD] at e
  | .tuple _ :: _, _, _, _, e => by simp [intsD] at e
  | .dict _ :: _, _, _, _, e => by simp [intsD] at e
theorem DenL.bools : ∀ {ds : List D} {vs : List V} {ns : List Bool}, DenL K I ds vs → boolsD ds = some ns → vs = ns.map V.bl
  | [], _, _, h, e => by rw [boolsD] at e; cases e; cases h; rfl
  | .bool i :: ds, _, _, h, e => by
    rw [boolsD, Option.map_eq_some_iff] at e
    obtain ⟨ns, e, rfl⟩ := e
    cases h with
    | cons a b => cases a; rw [DenL.bools b e]; rfl
  | .none :: _, _, _, _, e => by simp [boolsD] at e
  | .int _ :: _, _, _, _, e => by simp [boolsD] at e
  | .str _ :: _, _, _, _, e => by simp [boolsD] at e
  | .list _ :: _, _, _, _, e => by simp [boolsD] at e
  | .tuple _ :: _, _, _, _, e => by simp [boolsD] at e
  | .dict _ :: _, _, _, _, e => by simp [boolsD] at e
end

/-! ### calls of one or two arguments -/
def b_int : List O → Option O
  | [.d (.int i)] => some (.d (.int i))
  | [.d (.bool b)] => some (.d (.int (if b then 1 else 0)))
  | _ => none
def b_abs : List O → Option O
  | [.d (.int i)] => some (.d (.int (if i < 0 then -i else i)))
  | _ => none
def b_max : List O → Option O
  | [.d (.int i), .d (.int j)] => some (.d (.int (if j > i then j else i)))
  | [x] => ((listD x).bind intsD).bind fun ns => (match ns with
    | [] => none
    | n :: r => some (.d (.int (r.foldl (fun m y => if y > m then y else m) n))))
  | _ => none
def b_min : List O → Option O
  | [.d (.int i), .d (.int j)] => some (.d (.int (if j < i then j else i)))
  | [x] => ((listD x).bind intsD).bind fun ns => (match ns with
    | [] => none
    | n :: r => some (.d (.int (r.foldl (fun m y => if y < m then y else m) n))))
  | _ => none
def b_sum : List O → Option O
  | [x] => ((listD x).bind intsD).map fun ns => .d (.int ns.sum)
  | _ => none
def b_any : List O → Option O
  | [x] => ((listD x).bind boolsD).map fun bs => .d (.bool (bs.any id))
  | _ => none
def b_all : List O → Option O
  | [x] => ((listD x).bind boolsD).map fun bs => .d (.bool (bs.all id))
  | _ => none
def o_neg : O → Option O
  | .d (.int i) => some (.d (.int (-i)))
  | _ => none
theorem foldl_max : ∀ (r : List Int) (n : Int), (r.foldl (fun m y => if y > m then y else m) n) ∈ n :: r ∧ ∀ y ∈ n :: r, y ≤ r.foldl (fun m y => if y > m then y else m) n
  | [], n => ⟨.head _, fun y h => by cases h with | head => exact Int.le_refl _ | tail _ h => cases h⟩
  | x :: r, n => by
    rw [List.foldl_cons]
    by_cases h : x > n
    · rw [if_pos h]
      obtain ⟨h1, h2⟩ := foldl_max r x
      refine ⟨.tail _ h1, fun y hy => ?_⟩
      rcases List.mem_cons.mp hy with rfl | hy
      · exact Int.le_trans (Int.le_of_lt h) (h2 x (.head _))
      · exact h2 y hy
    · rw [if_neg h]
      obtain ⟨h1, h2⟩ := foldl_max r n
      refine ⟨?_, fun y hy => ?_⟩
      · rcases List.mem_cons.mp h1 with e | h1
        · rw [e]; exact .head _
        · exact .tail _ (.tail _ h1)
      · rcases List.mem_cons.mp hy with rfl | hy
        · exact h2 _ (.head _)
        · rcases List.mem_cons.mp hy with rfl | hy
          · exact Int.le_trans (Int.not_lt.mp h) (h2 n (.head _))
          · exact h2 y (.tail _ hy)
theorem foldl_min : ∀ (r : List Int) (n : Int), (r.foldl (fun m y => if y < m then y else m) n) ∈ n :: r ∧ ∀ y ∈ n :: r, r.foldl (fun m y => if y < m then y else m) n ≤ y
  | [], n => ⟨.head _, fun y h => by cases h with | head => exact Int.le_refl _ | tail _ h => cases h⟩
  | x :: r, n => by
    rw [List.foldl_cons]
    by_cases h : x < n
    · rw [if_pos h]
      obtain ⟨h1, h2⟩ := foldl_min r x
      refine ⟨.tail _ h1, fun y hy => ?_⟩
      rcases List.mem_cons.mp hy with rfl | hy
      · exact Int.le_trans (h2 x (.head _)) (Int.le_of_lt h)
      · exact h2 y hy
    · rw [if_neg h]
      obtain ⟨h1, h2⟩ := foldl_min r n
      refine ⟨?_, fun y hy => ?_⟩
      · rcases List.mem_cons.mp h1 with e | h1
        · rw [e]; exact .head _
        · exact .tail _ (.tail _ h1)
      · rcases List.mem_cons.mp hy with rfl | hy
        · exact h2 _ (.head _)
        · rcases List.mem_cons.mp hy with rfl | hy
          · exact Int.le_trans (h2 n (.head _)) (Int.not_lt.mp h)
          · exact h2 y (.tail _ hy)
section
variable {X : Cx}
theorem Vws.one {K : PySem.W.Frag} {mg : Str → Option Value} {I H : Hp} {x : O} {vs : List V} (h : Vws K mg I H [x] vs) : ∃ v S, vs = [v] ∧ Own K mg I H x v S := by
  cases h with
  | cons a b => cases b; exact ⟨_, _, rfl, a⟩
theorem Vws.two {K : PySem.W.Frag} {mg : Str → Option Value} {I H : Hp} {x y : O} {vs : List V} (h : Vws K mg I H [x, y] vs) : ∃ v u S T, vs = [v, u] ∧ Own K mg I H x v S ∧ Own K mg I H y u T := by
  cases h with
  | cons a b =>
    obtain ⟨u, T, rfl, c⟩ := b.one
    exact ⟨_, _, _, _, rfl, a, c⟩
theorem vw_neg : Vw1 X (rU fun i => .int (-i)) o_neg := by
  intro I H φ ρ σ Q x z a S gd w e h
  unfold o_neg at e
  split at e
  · cases e
    cases w.int
    exact ⟨_, rfl, h.d gd (.int _)⟩
  · cases e
theorem vw_int : VwN X (fun xs H Q => (∃ i, xs = [V.int i] ∧ Q (.int i) H) ∨ ∃ k, xs = [V.bl k] ∧ Q (.int (if k then 1 else 0)) H) b_int := by
  intro I H φ ρ σ Q xs z as gd ws e h
  unfold b_int at e
  split at e
  · cases e
    obtain ⟨v, S, rfl, w⟩ := ws.one
    cases w.int
    exact .inl ⟨_, rfl, h.d gd (.int _)⟩
  · cases e
    obtain ⟨v, S, rfl, w⟩ := ws.one
    cases w.bool
    exact .inr ⟨_, rfl, h.d gd (.int _)⟩
  · cases e
theorem vw_abs : VwN X (fun xs H Q => ∃ i, xs = [V.int i] ∧ Q (.int (if i < 0 then -i else i)) H) b_abs := by
  intro I H φ ρ σ Q xs z as gd ws e h
  unfold b_abs at e
  split at e
  · cases e
    obtain ⟨v, S, rfl, w⟩ := ws.one
    cases w.int
    exact ⟨_, rfl, h.d gd (.int _)⟩
  · cases e
def rMax2 (K : PySem.W.Frag) : List V → Hp → VK → Prop := fun xs H Q => (∃ i j, xs = [V.int i, V.int j] ∧ Q (.int (if j > i then j else i)) H) ∨ rMax K xs H Q
def rMin2 (K : PySem.W.Frag) : List V → Hp → VK → Prop := fun xs H Q => (∃ i j, xs = [V.int i, V.int j] ∧ Q (.int (if j < i then j else i)) H) ∨ rMin K xs H Q
theorem call_maxA (hc : X.calm = true) : CallR X (.builtin "max") (rMax2 X.K) := (call_max2 hc).or (cr_max hc)
theorem call_minA (hc : X.calm = true) : CallR X (.builtin "min") (rMin2 X.K) := (call_min2 hc).or (cr_min hc)
theorem vw_max : VwN X (rMax2 X.K) b_max := by
  intro I H φ ρ σ Q xs z as gd ws e h
  unfold b_max at e
  split at e
  · cases e
    obtain ⟨v, u, S, T, rfl, w, w'⟩ := ws.two
    cases w.int
    cases w'.int
    exact .inl ⟨_, _, rfl, h.d gd (.int _)⟩
  · obtain ⟨v, S, rfl, w⟩ := ws.one
    rw [Option.bind_eq_some_iff] at e
    obtain ⟨ns, e1, e2⟩ := e
    rw [Option.bind_eq_some_iff] at e1
    obtain ⟨ds, e1, e3⟩ := e1
    obtain ⟨a, vs, rfl, hs, dl⟩ := w.listD gd.le e1
    have := dl.ints e3
    subst this
    cases ns with
    | nil => cases e2
    | cons n r =>
      cases e2
      obtain ⟨m1, m2⟩ := foldl_max r n
      refine .inr ⟨a, n :: r, rfl, hs, by simp, fun m hm hle => ?_⟩
      have : m = r.foldl (fun m y => if y > m then y else m) n := Int.le_antisymm (m2 m hm) (hle _ m1)
      rw [this]
      exact h.d gd (.int _)
  · cases e
theorem vw_min : VwN X (rMin2 X.K) b_min := by
  intro I H φ ρ σ Q xs z as gd ws e h
  unfold b_min at e
  split at e
  · cases e
    obtain ⟨v, u, S, T, rfl, w, w'⟩ := ws.two
    cases w.int
    cases w'.int
    exact .inl ⟨_, _, rfl, h.d gd (.int _)⟩
  · obtain ⟨v, S, rfl, w⟩ := ws.one
    rw [Option.bind_eq_some_iff] at e
    obtain ⟨ns, e1, e2⟩ := e
    rw [Option.bind_eq_some_iff] at e1
    obtain ⟨ds, e1, e3⟩ := e1
    obtain ⟨a, vs, rfl, hs, dl⟩ := w.listD gd.le e1
    have := dl.ints e3
    subst this
    cases ns with
    | nil => cases e2
    | cons n r =>
      cases e2
      obtain ⟨m1, m2⟩ := foldl_min r n
      refine .inr ⟨a, n :: r, rfl, hs, by simp, fun m hm hle => ?_⟩
      have : m = r.foldl (fun m y => if y < m then y else m) n := Int.le_antisymm (hle _ m1) (m2 m hm)
      rw [this]
      exact h.d gd (.int _)
  · cases e
theorem vw_sum : VwN X (rSum X.K) b_sum := by
  intro I H φ ρ σ Q xs z as gd ws e h
  unfold b_sum at e
  split at e
  · obtain ⟨v, S, rfl, w⟩ := ws.one
    rw [Option.map_eq_some_iff] at e
    obtain ⟨ns, e1, rfl⟩ := e
    rw [Option.bind_eq_some_iff] at e1
    obtain ⟨ds, e1, e3⟩ := e1
    obtain ⟨a, vs, rfl, hs, dl⟩ := w.listD gd.le e1
    have := dl.ints e3
    subst this
    exact ⟨a, ns, rfl, hs, h.d gd (.int _)⟩
  · cases e
theorem vw_any : VwN X (rAny X.K) b_any := by
  intro I H φ ρ σ Q xs z as gd ws e h
  unfold b_any at e
  split at e
  · obtain ⟨v, S, rfl, w⟩ := ws.one
    rw [Option.map_eq_some_iff] at e
    obtain ⟨ns, e1, rfl⟩ := e
    rw [Option.bind_eq_some_iff] at e1
    obtain ⟨ds, e1, e3⟩ := e1
    obtain ⟨a, vs, rfl, hs, dl⟩ := w.listD gd.le e1
    have := dl.bools e3
    subst this
    exact ⟨a, ns, rfl, hs, h.d gd (.bl _)⟩
  · cases e
theorem vw_all : VwN X (rAll X.K) b_all := by
  intro I H φ ρ σ Q xs z as gd ws e h
  unfold b_all at e
  split at e
  · obtain ⟨v, S, rfl, w⟩ := ws.one
    rw [Option.map_eq_some_iff] at e
    obtain ⟨ns, e1, rfl⟩ := e
    rw [Option.bind_eq_some_iff] at e1
    obtain ⟨ds, e1, e3⟩ := e1
    obtain ⟨a, vs, rfl, hs, dl⟩ := w.listD gd.le e1
    have := dl.bools e3
    subst this
    exact ⟨a, ns, rfl, hs, h.d gd (.bl _)⟩
  · cases e

/-! ### list(x), sorted(x), x + y -/
def l_list : List O → Option (List D)
  | [x] => (match seqD x with
    | some ds => some ds
    | none => none)
  | _ => none
theorem ls_list : LsN X (fun xs H Q => ∃ p ys, xs = [V.ref p] ∧ (SqL X.K H p ys ∨ SqT X.K H p ys) ∧ ∀ l, H l = none → Q (.ref l) (upd H l (.lst ys))) l_list := by
  intro I H Q xs as ds le ws e h
  unfold l_list at e
  split at e
  · split at e
    · rename_i ds e1
      cases e
      obtain ⟨v, S, rfl, w⟩ := ws.one
      obtain ⟨a, vs, rfl, hs, q⟩ := w.seqD le e1
      exact ⟨a, vs, rfl, hs, fun l hl => h vs l q hl⟩
    · cases e
  · cases e
def l_sorted : List O → Option (List D)
  | [x] => (listD x).bind fun ds => if sortOk ds then some (sortD ds) else none
  | _ => none
theorem ls_sorted : LsN X (rSortD X.K) l_sorted := by
  intro I H Q xs as ds le ws e h
  unfold l_sorted at e
  split at e
  · rw [Option.bind_eq_some_iff] at e
    obtain ⟨ds0, e1, e⟩ := e
    split at e
    · rename_i hok
      cases e
      obtain ⟨v, S, rfl, w⟩ := ws.one
      obtain ⟨a, vs, rfl, hs, q⟩ := w.listD le e1
      obtain ⟨bs, rfl, rfl, hb⟩ := q.zip
      refine ⟨a, bs, rfl, hs, fun p hp => (hb p hp).dp le ?_, hok, fun p hp => h _ p ?_ hp⟩
      · obtain ⟨o1, _, _, _⟩ := sortOk_spec hok
        have hm : p.2 ∈ bs.map (·.2) := List.mem_map.mpr ⟨p, hp, rfl⟩
        exact alike_plain _ (o1 _ hm _ hm)
      · have e2 : sortD (bs.map (·.2)) = (isort (fun x y : V × D => leD x.2 y.2) bs).map (·.2) := (isort_map (r := fun x y : V × D => leD x.2 y.2) (s := leD) (f := fun p : V × D => p.2) (fun _ _ => rfl) bs).symm
        rw [e2]
        exact DenL.of_all fun p hp => hb p (mem_isort hp)
    · cases e
  · cases e
def l_add (x y : O) : Option (List D) := match G.litems x, G.litems y with
  | some xs, some ys => (allD xs).bind fun ds => (allD ys).bind fun es => if ds.length + es.length ≤ 1000000 then some (ds ++ es) else none
  | _, _ => none
theorem ls_cat : Ls2 X rCat l_add := by
  intro I H Q x y a b S1 S2 ds le w1 w2 e h
  unfold l_add at e
  split at e
  · rename_i xs ys e1 e2
    rw [Option.bind_eq_some_iff] at e
    obtain ⟨d1, e3, e⟩ := e
    rw [Option.bind_eq_some_iff] at e
    obtain ⟨d2, e4, e⟩ := e
    split at e
    · rename_i hz
      cases e
      obtain ⟨a1, vs, rfl, q1, o1⟩ := w1.litems le e1
      obtain ⟨a2, us, rfl, q2, o2⟩ := w2.litems le e2
      have l1 := (Vws.own o1).allD e3
      have l2 := (Vws.own o2).allD e4
      exact ⟨a1, a2, vs, us, rfl, rfl, q1, q2, by rw [l1.len, l2.len]; exact mil hz, fun p hp => h _ p (l1.append l2) hp⟩
    · cases e
  · cases e
/-- + as a view -/
def v_add (x y : O) : Option O := match x, y with
  | .d (.int i), .d (.int j) => some (.d (.int (i + j)))
  | x, y => match l_add x y with
    | some ds => some (dl ds)
    | none => (G.titems x).bind fun xs => (G.titems y).bind fun ys => (allD xs).bind fun ds => (allD ys).bind fun es => if ds.length + es.length ≤ 1000000 then some (.d (.tuple (ds ++ es))) else none
theorem vw_add : Vw2 X (rAdd2 X.K) v_add := by
  intro I H φ ρ σ Q x y z a b S1 S2 gd w1 w2 e h
  unfold v_add at e
  split at e
  · cases e
    cases w1.int
    cases w2.int
    exact .inl ⟨_, _, rfl, rfl, h.d gd (.int _)⟩
  · split at e
    · rename_i ds e1
      cases e
      exact .inr (.inl (ls_cat I H Q _ _ a b S1 S2 ds gd.le w1 w2 e1 fun vs p hd hp => h.lst gd hd hp))
    · simp only [Option.bind_eq_some_iff] at e
      obtain ⟨xs, e1, ys, e2, ds, e3, es, e4, e⟩ := e
      split at e
      · rename_i hz
        cases e
        obtain ⟨a1, vs, rfl, q1, o1⟩ := w1.titems e1
        obtain ⟨a2, us, rfl, q2, o2⟩ := w2.titems e2
        have l1 := (Vws.own o1).allD e3
        have l2 := (Vws.own o2).allD e4
        refine .inr (.inr ⟨a1, a2, vs, us, rfl, rfl, SqT.of (gd.le _ _ q1), SqT.of (gd.le _ _ q2), by rw [l1.len, l2.len]; exact mil hz, fun ev => ?_, fun ev ev2 => ?_, fun _ _ p hp => h.tup gd (l1.append l2) hp⟩)
        · subst ev
          cases l1
          exact h.d gd (.tuple q2 l2)
        · subst ev2
          cases l2
          rw [List.append_nil] at h
          exact h.d gd (.tuple q1 l1)
      · cases e
theorem fr_add : Fr2 X (rAdd2 X.K) (fun x y => (l_add x y).map ol) := by
  intro I H φ ρ σ Q x y z a b S1 S2 gd w1 w2 e h
  rw [Option.map_eq_some_iff] at e
  obtain ⟨ds, e, rfl⟩ := e
  exact .inr (.inl (ls_cat I H Q _ _ a b S1 S2 ds gd.le w1 w2 e fun vs p hd hp => h.lst gd hd hp))
/-! ### * -/
def v_mul (x y : O) : Option O := match x, y with
  | .d (.int i), .d (.int j) => if (-18446744073709551616 < i ∧ i < 18446744073709551616) ∨ (-18446744073709551616 < j ∧ j < 18446744073709551616) then some (.d (.int (i * j))) else none
  | _, _ => none
theorem vw_mul : Vw2 X (rMul2 X.K) v_mul := by
  intro I H φ ρ σ Q x y z a b S1 S2 gd w1 w2 e h
  unfold v_mul at e
  split at e
  · split at e
    · rename_i hc
      cases e
      cases w1.int
      cases w2.int
      exact .inl ⟨_, _, rfl, rfl, hc, h.d gd (.int _)⟩
    · cases e
  · cases e
def l_mul (x y : O) : Option (List D) := match y with
  | .d (.int k) => ((G.litems x).bind allD).bind fun ds => if 0 ≤ k ∧ k ≤ 1000 ∧ ds.length ≤ 1000 then some (List.replicate k.toNat ds).flatten else none
  | _ => none
theorem ls_mul : Ls2 X (rMul2 X.K) l_mul := by
  intro I H Q x y a b S1 S2 ds le w1 w2 e h
  unfold l_mul at e
  split at e
  · rename_i k
    cases w2.int
    simp only [Option.bind_eq_some_iff] at e
    obtain ⟨d0, ⟨xs, e1, e2⟩, e⟩ := e
    split at e
    · rename_i hk
      cases e
      obtain ⟨a1, vs, rfl, q1, o1⟩ := w1.litems le e1
      have l1 := (Vws.own o1).allD e2
      have hm : d0.length * k.toNat ≤ 1000 * 1000 := Nat.mul_le_mul hk.2.2 (by omega)
      exact .inr (.inl ⟨a1, k, vs, rfl, rfl, q1, by omega, by omega, by rw [l1.len, sizeLine_eq]; omega, fun p hp => h _ p (l1.rep k.toNat) hp⟩)
    · cases e
  · cases e
def v_mulA (x y : O) : Option O := match v_mul x y with
  | some z => some z
  | none => (l_mul x y).map dl
theorem vw_mulA : Vw2 X (rMul2 X.K) v_mulA := by
  intro I H φ ρ σ Q x y z a b S1 S2 gd w1 w2 e h
  unfold v_mulA at e
  split at e
  · rename_i e1; cases e; exact vw_mul I H φ ρ σ Q x y _ a b S1 S2 gd w1 w2 e1 h
  · exact ls_mul.vw I H φ ρ σ Q x y z a b S1 S2 gd w1 w2 e h
end
end EV

/-! The layer EV, part N: tests that are views, isinstance, slices, list, tuple, get, count, index. -/
namespace EV
open PySem PySem.Spec PyProof.Rows L2
section
variable {X : Cx} {W : WX} {pos : Pos} {a b c e : Expr} {f f1 f2 f3 : Env → Option O}
/-! ### tests -/
abbrev VWT (X : Cx) (e : Expr) (f : Env → Option O) : Prop := PW X e (rdVT X.K X.mg f)
/-- a bool in hand, of a test -/
theorem vboolT {σ : St} {I H : Hp} {φ : Ph} {ρ : Env} {Q : VK} {k : Bool → Option O} {Q' : Bool → Hp → Prop} (gd : Gd X.K X.mg I H φ ρ σ) (h : VP X.K X.mg φ ρ σ I H Q ((f ρ).bind fun o => (Vw.boo o).bind k))
    (hk : ∀ r I1 H1, Grw X.K X.mg φ ρ σ I H I1 H1 → VP X.K X.mg φ ρ σ I1 H1 Q (k r) → Q' r H1) : rdVT X.K X.mg f σ H Q' :=
  vbool (Q' := fun x H1 => ∃ k, x = .bl k ∧ Q' k H1) gd h fun r I1 H1 g h => ⟨r, rfl, hk r I1 H1 g h⟩
theorem vt_not (ha : VT X a f) : VT X (.UnaryOp .Not a pos) (Vw.not f) := by
  refine PT.weak (pt_not ha) fun σ H Q ⟨ρ, I, φ, gd, h⟩ => ?_
  refine vboolT gd h fun r I1 H1 g h => ?_
  obtain ⟨k, e, q⟩ := h.d g.gd (.bl (!r))
  cases e
  exact q
theorem vtw_and1 (h : VT X a f) : VWT X (.BoolOp .And [a] pos) f := pw_and1 h
theorem vtw_or1 (h : VT X a f) : VWT X (.BoolOp .Or [a] pos) f := pw_or1 h
theorem vtw_and {rest : List Expr} (ha : VT X a f1) (hb : VWT X (.BoolOp .And (b :: rest) pos) f2) : VWT X (.BoolOp .And (a :: b :: rest) pos) (Vw.and f1 f2) := by
  refine PW.weak (pw_and ha hb) fun σ H Q ⟨ρ, I, φ, gd, h⟩ => ?_
  refine vboolT gd h fun r I1 H1 g h => ?_
  cases r with
  | true => rw [if_pos rfl] at h ⊢; exact ⟨ρ, I1, φ, g.gd, h⟩
  | false =>
    rw [if_neg Bool.false_ne_true] at h ⊢
    obtain ⟨k, e, q⟩ := h.d g.gd (.bl false)
    cases e
    exact q
theorem vtw_or {rest : List Expr} (ha : VT X a f1) (hb : VWT X (.BoolOp .Or (b :: rest) pos) f2) : VWT X (.BoolOp .Or (a :: b :: rest) pos) (Vw.or f1 f2) := by
  refine PW.weak (pw_or ha hb) fun σ H Q ⟨ρ, I, φ, gd, h⟩ => ?_
  refine vboolT gd h fun r I1 H1 g h => ?_
  cases r with
  | true =>
    rw [if_pos rfl] at h ⊢
    obtain ⟨k, e, q⟩ := h.d g.gd (.bl true)
    cases e
    exact q
  | false => rw [if_neg Bool.false_ne_true] at h ⊢; exact ⟨ρ, I1, φ, g.gd, h⟩
theorem vt_of (h : VWT X a f) : VT X a f := PW.pt h

/-! ### isinstance -/
/-- the built-in type of a value -/
def tyD : D → String
  | .none => "NoneType"
  | .bool _ => "bool"
  | .int _ => "int"
  | .str _ => "str"
  | .list _ => "list"
  | .tuple _ => "tuple"
  | .dict _ => "dict"
def tyO : O → Option String
  | .d x => some (tyD x)
  | .lst _ => some "list"
  | .tup _ => some "tuple"
  | .dic _ => some "dict"
  | .dicT _ => some "dict"
  | .scr _ => some "list"
  | .kst _ => some "tuple"
  | _ => none
theorem sqL_ty {K : PySem.W.Frag} {H : Hp} {a : Addr} {vs : List V} (h : SqL K H a vs) : TyX K H (.ref a) (.type "list") := by
  rcases h with (h | ⟨o, h⟩) | ⟨o, its, n, h1, h2, _⟩
  · exact .base (.lst h)
  · exact .base (.frz h)
  · exact .kList h1 h2
theorem sqT_ty {K : PySem.W.Frag} {H : Hp} {a : Addr} {vs : List V} (h : SqT K H a vs) : TyX K H (.ref a) (.type "tuple") := by
  rcases h with (h | ⟨o, h⟩) | ⟨o, its, n, h1, h2, _⟩
  · exact .base (.tup h)
  · exact .fTuple h
  · exact .kTuple h1 h2
end
/-- does a type stand below another -/
def subTy (a b : String) : Option Bool := kitB a b
section
variable {K : PySem.W.Frag} {mg : Str → Option Value} {I H : Hp}
theorem dT_ty {H : Hp} {a : Addr} {kvs : List (List Key × V)} (h : H a = some (.dT kvs)) : TyX K H (.ref a) (.type "dict") := .base (.dT h)
theorem Own.ty (le : Same I H) {o : O} {v : V} {S : Pd} {t : String} (w : Own K mg I H o v S) (e : tyO o = some t) (hn : ∀ ds, o ≠ .d (.dict ds) ∨ keysOk ds = true) : TyX K H v (.type t) := by
  cases o with
  | d x =>
    cases e
    cases w with
    | d q =>
      cases q with
      | non => exact .base .non
      | bl b => exact .base (.bl b)
      | int i => exact .base (.int i)
      | str x => exact .base (.str x)
      | list s r => exact .base (.lst (le _ _ s))
      | tuple s r => exact .base (.tup (le _ _ s))
      | dict r k =>
        rcases (RdLe.of le).rd _ _ r with r | ⟨o, r⟩
        · exact .base (.dK r)
        · exact .fDict r
      | dictT r k n =>
        rename_i ds
        rcases hn ds with h | h
        · exact (h rfl).elim
        · cases k with
          | nil => exact (n rfl).elim
          | cons a b => simp [keysOk, isK_keyT] at h
      | exn _ =>
        rcases hn _ with h | h
        · exact (h rfl).elim
        · cases h
  | lst xs =>
    cases e
    cases w with
    | lst a b c d e => exact .base (.lst a)
  | tup xs =>
    cases e
    cases w with
    | tup a b => exact .base (.tup (le _ _ a))
  | dic kvs =>
    cases e
    cases w with
    | dic a b c => exact .base (.dK a)
  | dicT kvs =>
    cases e
    cases w with
    | dicT a b c => exact .base (.dT a)
  | scr xs =>
    cases e
    cases w with
    | scr q => exact sqL_ty ((RdLe.of le).sqL q)
  | kst xs =>
    cases e
    cases w with
    | kst q r => exact sqT_ty (sqT_le le q)
  | _ => cases e
end
def dictKeysOk : O → Bool
  | .d (.dict ds) => keysOk ds
  | _ => true
def isi (T : String) (x : O) : Option O := if dictKeysOk x then (tyO x).bind fun t => (kitB t T).map fun b => .d (.bool b) else none
def kitAnyB (t : String) : List String → Option Bool
  | [] => some false
  | T :: r => match kitB t T with
    | some true => some true
    | some false => kitAnyB t r
    | none => none
def isiT (Ts : List String) (x : O) : Option O := if dictKeysOk x then (tyO x).bind fun t => (kitAnyB t Ts).map fun b => .d (.bool b) else none
theorem kitAnyB_ok {K : PySem.W.Frag} {t : String} : ∀ {Ts : List String} {b : Bool}, kitAnyB t Ts = some b → PySem.W.kitAny K (.type t) (Ts.map Value.type) = some b
  | [], b, h => by cases h; rfl
  | T :: r, b, h => by
    unfold kitAnyB at h
    split at h
    · rename_i e; cases h
      exact kitAny_cons (kit_ty e) (fun z => by cases z) (fun _ => rfl)
    · rename_i e
      exact kitAny_cons (kit_ty e) (fun _ => kitAnyB_ok h) (fun z => by cases z)
    · cases h
section
variable {X : Cx} {W : WX} {pos p p2 p3 : Pos} {a b c e : Expr} {f f1 f2 f3 : Env → Option O}
theorem dko {o : O} (h : dictKeysOk o = true) (ds : List (D × D)) : o ≠ .d (.dict ds) ∨ keysOk ds = true := by
  by_cases e : o = .d (.dict ds)
  · subst e; exact .inr h
  · exact .inl e
/-- isinstance(x, T) -/
theorem ve_isi {t : Str} {T : String} (ha : VE X a f) (hm : X.mg "isinstance" = none) (hmt : X.mg t = none) (hv : bootBuiltins t = some (.type T) := by rfl) (hg : Gl X "isinstance" := by rfl) (hgt : Gl X t := by rfl) (hn : t ≠ "__name__" := by decide) (hd : (t == ("__debug__" : Str)) = false := by decide)
    (hs : starEach [a, .Name t p2] X.env = (false, eval a X.env) :: starEach [.Name t p2] X.env := by rfl) (hs2 : starEach [.Name t p2] X.env = (false, eval (.Name t p2) X.env) :: starEach [] X.env := by rfl) (hpl : (backTo pos (starEach [.Name t p2] X.env)).any (·.1) = false := by rfl) :
    VE X (.Call (.Name "isinstance" p) [a, .Name t p2] [] pos) (Vw.op1 (isi T) f) := by
  refine PE.weak (pe_callB call_isi hg hm (id := "isinstance") (by rfl) (pa_cons ha (pa_cons (pe_bltn (v := .ty T) hgt hmt hv rfl hn hd) pa_nil hs2) hs) (by decide) (by decide) hs hpl) fun σ H Q ⟨ρ, I, φ, gd, h⟩ => ?_
  refine vbind gd h fun x v S I1 H1 g1 w h => ?_
  refine h.some fun z e h => ?_
  unfold isi at e
  split at e
  · rename_i hk
    rw [Option.bind_eq_some_iff] at e
    obtain ⟨ty, e1, e⟩ := e
    rw [Option.map_eq_some_iff] at e
    obtain ⟨b, e2, rfl⟩ := e
    exact ⟨v, .ty T, .type ty, .type T, b, rfl, .ty T, w.ty g1.gd.le e1 (dko hk), kit_ty e2, h.d g1.gd (.bl b)⟩
  · cases e
/-- names of types -/
inductive TyNames (X : Cx) : List Expr → List String → Prop
  | nil : TyNames X [] []
  | cons {t : Str} {T : String} {p : Pos} {es : List Expr} {Ts : List String} (hm : X.mg t = none) (r : TyNames X es Ts) (hv : bootBuiltins t = some (.type T) := by rfl) (hg : Gl X t := by rfl) (hn : t ≠ "__name__" := by decide) (hd : (t == ("__debug__" : Str)) = false := by decide)
    (hs : starEach (.Name t p :: es) X.env = (false, eval (.Name t p) X.env) :: starEach es X.env := by rfl) : TyNames X (.Name t p :: es) (T :: Ts)
def rdK (vs : List V) : TA := fun _ H Q => Q vs H
theorem TyNames.pa : ∀ {es : List Expr} {Ts : List String}, TyNames X es Ts → PA X es (rdK (Ts.map V.ty))
  | _, _, .nil => PA.weak pa_nil fun _ _ _ h => h
  | _, _, .cons hm r hv hg hn hd hs => PA.weak (pa_cons (pe_bltn (v := .ty _) hg hm hv rfl hn hd) r.pa hs) fun _ _ _ h => h
theorem clsV_tys : ∀ Ts : List String, Paired ClsV (Ts.map V.ty) (Ts.map Value.type)
  | [] => .nil
  | T :: Ts => .cons (.ty T) (clsV_tys Ts)
/-- isinstance(x, (T, ..)) -/
theorem ve_isiT {es : List Expr} {Ts : List String} {k : Nat} (ha : VE X a f) (hm : X.mg "isinstance" = none) (ht : TyNames X es Ts) (hl : Ts.length ≤ 1000 := by decide) (hg : Gl X "isinstance" := by rfl)
    (hs : starEach [a, .Tuple es k p2] X.env = (false, eval a X.env) :: starEach [.Tuple es k p2] X.env := by rfl) (hs2 : starEach [.Tuple es k p2] X.env = (false, eval (.Tuple es k p2) X.env) :: starEach [] X.env := by rfl) (hpl : (backTo pos (starEach [.Tuple es k p2] X.env)).any (·.1) = false := by rfl) :
    VE X (.Call (.Name "isinstance" p) [a, .Tuple es k p2] [] pos) (Vw.op1 (isiT Ts) f) := by
  refine PE.weak (pe_callB call_isiT hg hm (id := "isinstance") (by rfl) (pa_cons ha (pa_cons (pe_tup ht.pa) pa_nil hs2) hs) (by decide) (by decide) hs hpl) fun σ H Q ⟨ρ, I, φ, gd, h⟩ => ?_
  refine vbind gd h fun x v S I1 H1 g1 w h => ?_
  refine h.some fun z e h => ?_
  unfold isiT at e
  split at e
  · rename_i hk
    rw [Option.bind_eq_some_iff] at e
    obtain ⟨ty, e1, e⟩ := e
    rw [Option.map_eq_some_iff] at e
    obtain ⟨b, e2, rfl⟩ := e
    refine ⟨by rw [List.length_map]; exact mil (by omega), fun q hq => ?_⟩
    have g2 := Grw.new (o := .tup (Ts.map V.ty)) g1.gd hq
    exact ⟨v, q, Ts.map V.ty, .type ty, Ts.map Value.type, b, rfl, upd_same, clsV_tys Ts, (w.grow g2).ty g2.gd.le e1 (dko hk), kitAnyB_ok e2, (h.grow g2).d g2.gd (.bl b)⟩
  · cases e

/-! ### slices -/
/-- a bound of a slice -/
def rdVO (K : PySem.W.Frag) (mg : Str → Option Value) (f : Env → Option (Option Int)) : TO := fun σ H Q => ∃ ρ I φ, Gd K mg I H φ ρ σ ∧ match f ρ with
  | some i => ∀ I' H', Grw K mg φ ρ σ I H I' H' → Q i H'
  | none => False
abbrev VO (X : Cx) (o : Option Expr) (f : Env → Option (Option Int)) : Prop := PO X o (rdVO X.K X.mg f)
theorem PO.weak {X : Cx} {e : Option Expr} {t t' : TO} (h : PO X e t) (hw : ∀ σ H Q, t' σ H Q → t σ H Q) : PO X e t' := ⟨fun pins s σ H Q I q => h.run pins s σ H Q I (hw σ H Q q)⟩
def Vw.noPart : Env → Option (Option Int) := fun _ => some none
def Vw.part (f : Env → Option O) : Env → Option (Option Int) := fun ρ => match f ρ with
  | some (.d (.int i)) => some (some i)
  | _ => none
theorem vo_none : VO X none Vw.noPart := PO.weak po_none fun _ _ _ ⟨_, _, _, gd, h⟩ => h _ _ (Grw.refl gd)
theorem vo_some (h : VE X a f) : VO X (some a) (Vw.part f) := by
  refine PO.weak (po_some h) fun σ H Q ⟨ρ, I, φ, gd, h⟩ => ⟨ρ, I, φ, gd, ?_⟩
  unfold Vw.part at h
  cases e : f ρ with
  | none => rw [e] at h; exact h.elim
  | some o =>
    rw [e] at h
    split at h
    · rename_i i hi
      split at hi
      · rename_i j e2
        cases hi
        cases e2
        intro v S I1 H1 g w
        cases w.int
        exact ⟨_, rfl, h I1 H1 g⟩
      · cases hi
    · exact h.elim
def cutD {α : Type} (xs : List α) (lo hi : Option Int) : List α := (xs.drop (HT.sIx xs.length 0 lo)).take (HT.sIx xs.length xs.length hi - HT.sIx xs.length 0 lo)
theorem DenL.take {K : PySem.W.Frag} {I : Hp} : ∀ {ds : List D} {vs : List V} (n : Nat), DenL K I ds vs → DenL K I (ds.take n) (vs.take n)
  | _, _, 0, _ => .nil
  | _, _, _ + 1, .nil => .nil
  | _, _, n + 1, .cons a b => .cons a (DenL.take n b)
theorem DenL.drop {K : PySem.W.Frag} {I : Hp} : ∀ {ds : List D} {vs : List V} (n : Nat), DenL K I ds vs → DenL K I (ds.drop n) (vs.drop n)
  | _, _, 0, h => h
  | _, _, _ + 1, .nil => .nil
  | _, _, n + 1, .cons a b => DenL.drop n b
theorem DenL.cut {K : PySem.W.Frag} {I : Hp} {ds : List D} {vs : List V} (lo hi : Option Int) (h : DenL K I ds vs) : DenL K I (cutD ds lo hi) (cutV vs lo hi) := by
  unfold cutD cutV
  rw [h.len]
  exact (h.drop _).take _
theorem DenL.rev {K : PySem.W.Frag} {I : Hp} : ∀ {ds : List D} {vs : List V}, DenL K I ds vs → DenL K I ds.reverse vs.reverse
  | _, _, .nil => .nil
  | _, _, .cons a b => by rw [List.reverse_cons, List.reverse_cons]; exact (DenL.rev b).append (.cons a .nil)
def Vw.sl (f : Env → Option O) (l h : Env → Option (Option Int)) (g : O → Option Int → Option Int → Option O) : Env → Option O := fun ρ => (f ρ).bind fun x => (l ρ).bind fun lo => (h ρ).bind fun hi => g x lo hi
def s_list (x : O) (lo hi : Option Int) : Option (List D) := (listD x).map fun ds => cutD ds lo hi
def s_view (x : O) (lo hi : Option Int) : Option O := match s_list x lo hi with
  | some ds => some (dl ds)
  | none => ((G.titems x).bind allD).map fun ds => .d (.tuple (cutD ds lo hi))
def s_new (x : O) (lo hi : Option Int) : Option O := (s_list x lo hi).map ol
def rSlB2 (K : PySem.W.Frag) : V → Option Int → Option Int → Hp → VK → Prop := fun x lo hi H Q => rSlL K x lo hi H Q ∨ rSlA K x lo hi H Q
theorem sl_both : SlR X (rSlB2 X.K) := sl_list.or sl_tupA
/-- the bounds in hand -/
theorem sl_bind {σ : St} {I H : Hp} {φ : Ph} {ρ : Env} {Q : VK} {l h' : Env → Option (Option Int)} {lo hi : Option Expr} {p2 : Pos} {z : O} {g : O → Option Int → Option Int → Option O} {P : V → Option Int → Option Int → Hp → Prop}
    (gd : Gd X.K X.mg I H φ ρ σ) (e : Vw.sl f l h' g ρ = some z) (k : ∀ x lo hi v S I1 H1, Grw X.K X.mg φ ρ σ I H I1 H1 → Own X.K X.mg I1 H1 x v S → g x lo hi = some z → P v lo hi H1) :
    rdV X.K X.mg f σ H fun x H1 => rdVO X.K X.mg l σ H1 fun l H2 => rdVO X.K X.mg h' σ H2 fun u H3 => P x l u H3 := by
  unfold Vw.sl at e
  simp only [Option.bind_eq_some_iff] at e
  obtain ⟨x, e1, lo, e2, hi, e3, e4⟩ := e
  refine ⟨ρ, I, φ, gd, ?_⟩
  rw [e1]
  intro v S I1 H1 g1 w
  refine ⟨ρ, I1, φ, g1.gd, ?_⟩
  rw [e2]
  intro I2 H2 g2
  refine ⟨ρ, I2, φ, g2.gd, ?_⟩
  rw [e3]
  intro I3 H3 g3
  exact k x lo hi v S I3 H3 ((g1.trans g2).trans g3) ((w.grow g2).grow g3) e4
theorem ve_sl {l h' : Env → Option (Option Int)} {lo hi : Option Expr} (ha : VE X a f) (hl : VO X lo l) (hh : VO X hi h') : VE X (.Subscript a (.Slice lo hi none p2) pos) (Vw.sl f l h' s_view) := by
  refine PE.weak (pe_slice sl_both ha hl hh) fun σ H Q ⟨ρ, I, φ, gd, h⟩ => ?_
  refine h.some fun z e h => ?_
  refine sl_bind (lo := lo) (hi := hi) (p2 := p2) (Q := Q) gd e fun x lo hi v S I1 H1 g1 w e4 => ?_
  have h := h.grow g1
  unfold s_view s_list at e4
  split at e4
  · rename_i ds e5
    cases e4
    rw [Option.map_eq_some_iff] at e5
    obtain ⟨es, e6, rfl⟩ := e5
    obtain ⟨q, vs, rfl, hq, dl⟩ := w.listD g1.gd.le e6
    exact .inl ⟨q, vs, rfl, hq, fun p hp => h.lst g1.gd (dl.cut lo hi) hp⟩
  · rw [Option.map_eq_some_iff] at e4
    obtain ⟨es, e6, rfl⟩ := e4
    rw [Option.bind_eq_some_iff] at e6
    obtain ⟨os, e7, e8⟩ := e6
    obtain ⟨q, vs, rfl, hq, o⟩ := w.titems e7
    have dl := o.allD e8
    refine .inr ⟨q, vs, rfl, SqT.of (g1.gd.le _ _ hq), fun hc => ?_, fun _ p hp => h.tup g1.gd (dl.cut lo hi) hp⟩
    rw [dl.len] at hc
    have ec : cutD es lo hi = es := by unfold cutD; rw [hc.1, hc.2]; simp
    rw [ec] at h
    exact h.d g1.gd (.tuple hq dl)
theorem ee_slF {l h' : Env → Option (Option Int)} {lo hi : Option Expr} (ha : VE X a f) (hl : VO X lo l) (hh : VO X hi h') : EE X W (.Subscript a (.Slice lo hi none p2) pos) (E.fr (Vw.sl f l h' s_new)) := by
  refine PE.weak (pe_slice sl_list ha hl hh) fun σ H Q ⟨ρ, I, φ, gd, h⟩ => ?_
  unfold E.fr at h
  cases e : Vw.sl f l h' s_new ρ with
  | none => rw [e] at h; exact h.elim
  | some z =>
    rw [e] at h
    refine sl_bind (lo := lo) (hi := hi) (p2 := p2) (Q := Q) gd e fun x lo hi v S I1 H1 g1 w e4 => ?_
    unfold s_new s_list at e4
    rw [Option.map_eq_some_iff] at e4
    obtain ⟨ds, e5, rfl⟩ := e4
    rw [Option.map_eq_some_iff] at e5
    obtain ⟨es, e6, rfl⟩ := e5
    obtain ⟨q, vs, rfl, hq, dl⟩ := w.listD g1.gd.le e6
    exact ⟨q, vs, rfl, hq, fun p hp => (FP.of gd g1 h).lst g1.gd (dl.cut lo hi) hp⟩
def v_rev (x : O) : Option O := (listD x).map fun ds => dl ds.reverse
def n_rev (x : O) : Option O := (listD x).map fun ds => ol ds.reverse
theorem ve_rev {k : Nat} {p1 p2 p3 : Pos} (ha : VE X a f) : VE X (.Subscript a (.Slice none none (some (.UnaryOp .USub (.Constant (.int 1) k p1) p2)) p3) pos) (Vw.op1 v_rev f) := by
  refine PE.weak (pe_revL ha) fun σ H Q ⟨ρ, I, φ, gd, h⟩ => ?_
  refine vbind gd h fun x v S I1 H1 g1 w h => ?_
  refine h.some fun z e h => ?_
  unfold v_rev at e
  rw [Option.map_eq_some_iff] at e
  obtain ⟨ds, e, rfl⟩ := e
  obtain ⟨q, vs, rfl, hq, dl⟩ := w.listD g1.gd.le e
  exact ⟨q, vs, rfl, hq, fun p hp => h.lst g1.gd dl.rev hp⟩
theorem ee_revF {k : Nat} {p1 p2 p3 : Pos} (ha : VE X a f) : EE X W (.Subscript a (.Slice none none (some (.UnaryOp .USub (.Constant (.int 1) k p1) p2)) p3) pos) (E.fr (Vw.op1 n_rev f)) := by
  refine PE.weak (pe_revL ha) fun σ H Q ⟨ρ, I, φ, gd, h⟩ => ?_
  refine fr_bind gd h fun x v S I1 H1 g1 w h => ?_
  cases e : n_rev x with
  | none => rw [e] at h; exact h.elim
  | some z =>
    rw [e] at h
    unfold n_rev at e
    rw [Option.map_eq_some_iff] at e
    obtain ⟨ds, e, rfl⟩ := e
    obtain ⟨q, vs, rfl, hq, dl⟩ := w.listD g1.gd.le e
    exact ⟨q, vs, rfl, hq, fun p hp => (FP.of gd g1 h).lst g1.gd dl.rev hp⟩
end
end EV

/-! The layer EV, part O: places (a slot, a field of a slot's object), stores and methods that change them. -/
namespace EV
open PySem PySem.Spec PyProof.Rows L2
/-! ### fields -/
def lookF : List (Str × O) → Str → Option O
  | [], _ => none
  | (g, o) :: r, f => if g = f then some o else lookF r f
def setF (o : O) : List (Str × O) → Str → List (Str × O)
  | [], _ => []
  | (g, x) :: r, f => if g = f then (g, o) :: r else (g, x) :: setF o r f
def putFO (f : Str) (o : O) : List (Str × O) → List (Str × O)
  | [] => [(f, o)]
  | (g, x) :: r => if g = f then (g, o) :: r else (g, x) :: putFO f o r
section
variable {K : PySem.W.Frag} {mg : Str → Option Value} {I H : Hp}
theorem OwnF.mono {S T : Pd} (h : ∀ b, S b → T b) : ∀ {x : List (Str × O)} {v : List (Str × V)}, OwnF K mg I H x v S → OwnF K mg I H x v T
  | _, _, .nil => .nil
  | _, _, .cons a b c d e => .cons a b (fun b q => h _ (c b q)) (fun b q => h _ (d b q)) e
theorem OwnF.len : ∀ {fs : List (Str × O)} {vs : List (Str × V)} {S : Pd}, OwnF K mg I H fs vs S → vs.length = fs.length
  | _, _, _, .nil => rfl
  | _, _, _, .cons _ b _ _ _ => by rw [List.length_cons, List.length_cons, OwnF.len b]
/-- the field f, with what it owns; whatever takes its place -/
theorem OwnF.get : ∀ {fs : List (Str × O)} {vs : List (Str × V)} {S : Pd} {f : Str} {o : O}, OwnF K mg I H fs vs S → lookF fs f = some o →
    ∃ v T, vs.lookup f = some v ∧ Own K mg I H o v T ∧ (∀ a, T a → S a) ∧ ∀ (H' : Hp) (o' : O), (∀ a x, S a → ¬ T a → H a = some x → H' a = some x) → Own K mg I H' o' v T → OwnF K mg I H' (setF o' fs f) vs S
  | _, _, _, f, o, .nil, e => by simp [lookF] at e
  | _, _, S, f, o, .cons (f := g) (S1 := S1) (S2 := S2) a b c d x, e => by
    unfold lookF at e
    by_cases z : g = f
    · subst z
      rw [if_pos rfl] at e
      cases e
      refine ⟨_, S1, by simp [List.lookup], a, c, fun H' o' h w => ?_⟩
      unfold setF
      rw [if_pos rfl]
      exact .cons w (b.step (RdLe.of (Same.refl _)) fun a u s hh => h a u (d a s) (fun q => x a q s) hh) c d x
    · rw [if_neg z] at e
      obtain ⟨v, T, h1, h2, h3, h4⟩ := OwnF.get b e
      refine ⟨v, T, ?_, h2, fun a q => d a (h3 a q), fun H' o' h w => ?_⟩
      · rw [List.lookup]
        have : (f == g) = false := by simpa using fun q => z q.symm
        rw [this]; exact h1
      · unfold setF
        rw [if_neg z]
        exact .cons (a.step (RdLe.of (Same.refl _)) fun p u s hh => h p u (c p s) (fun q => x p s (h3 p q)) hh) (h4 H' o' (fun p u s nt hh => h p u (d p s) nt hh) w) c d x
/-- a field is stored, with what the new value owns -/
theorem OwnF.put {f : Str} {o : O} {v : V} {T : Pd} (w : Own K mg I H o v T) : ∀ {fs : List (Str × O)} {vs : List (Str × V)} {S : Pd}, OwnF K mg I H fs vs S → (∀ a, S a → ¬ T a) → OwnF K mg I H (putFO f o fs) (putF f v vs) (orP S T)
  | _, _, _, .nil, _ => OwnF.cons (S1 := T) (S2 := noP) w .nil (fun _ => .inr) (fun _ q => q.elim) (fun _ _ q => q)
  | _, _, S, .cons (f := g) (S1 := S1) (S2 := S2) a b c d x, dis => by
    unfold putFO putF
    by_cases z : g = f
    · rw [if_pos z, if_pos z]
      exact .cons w b (fun _ => .inr) (fun p q => .inl (d p q)) (fun p q r => dis p (d p r) q)
    · rw [if_neg z, if_neg z]
      refine .cons a (OwnF.put w b fun p q => dis p (d p q)) (fun p q => .inl (c p q)) (fun p q => q.elim (fun r => .inl (d p r)) .inr) (fun p q r => ?_)
      rcases r with r | r
      · exact x p q r
      · exact dis p (c p q) r

/-- the item n, with what it owns; whatever takes its place -/
theorem Owns.at : ∀ {xs : List O} {vs : List V} {S : Pd} {n : Nat} {o : O}, Owns K mg I H xs vs S → xs[n]? = some o →
    ∃ v T, vs[n]? = some v ∧ Own K mg I H o v T ∧ (∀ a, T a → S a) ∧ ∀ (H' : Hp) (o' : O), (∀ a x, S a → ¬ T a → H a = some x → H' a = some x) → Own K mg I H' o' v T → Owns K mg I H' (xs.set n o') vs S
  | _, _, _, _, _, .nil, e => by simp at e
  | _, _, S, 0, o, .cons (S1 := S1) (S2 := S2) a b c d x, e => by
    simp at e; subst e
    exact ⟨_, S1, rfl, a, c, fun H' o' h w => .cons w (b.step (RdLe.of (Same.refl _)) fun a u s hh => h a u (d a s) (fun q => x a q s) hh) c d x⟩
  | _, _, S, n + 1, o, .cons (S1 := S1) (S2 := S2) a b c d x, e => by
    obtain ⟨v, T, h1, h2, h3, h4⟩ := Owns.at (n := n) (o := o) b (by simpa using e)
    exact ⟨v, T, by simpa using h1, h2, fun a q => d a (h3 a q), fun H' o' h w => .cons (a.step (RdLe.of (Same.refl _)) fun p u s hh => h p u (c p s) (fun q => x p s (h3 p q)) hh) (h4 H' o' (fun p u s nt hh => h p u (d p s) nt hh) w) c d x⟩

/-! ### places -/
inductive Pl where
  | slot (i : Nat)
  | fld (i : Nat) (c f : Str)
  | item (i n : Nat)
def Pl.get : Pl → Env → Option O
  | .slot i, ρ => (match ρ[i]? with
    | some .un => none
    | o => o)
  | .fld i c f, ρ => (match ρ[i]? with
    | some (.obj c' fs) => if c' = c then (match lookF fs f with
      | some .un => none
      | o => o) else none
    | _ => none)
  | .item i n, ρ => (match ρ[i]? with
    | some (.tup xs) => (match xs[n]? with
      | some .un => none
      | o => o)
    | _ => none)
def Pl.set (o : O) : Pl → Env → Env
  | .slot i, ρ => ρ.set i o
  | .fld i _ f, ρ => (match ρ[i]? with
    | some (.obj c fs) => ρ.set i (.obj c (setF o fs f))
    | _ => ρ)
  | .item i n, ρ => (match ρ[i]? with
    | some (.tup xs) => ρ.set i (.tup (xs.set n o))
    | _ => ρ)
/-- the value v stands at the place, owns S; what may take its place -/
structure At (K : PySem.W.Frag) (mg : Str → Option Value) (I H : Hp) (φ : Ph) (ρ : Env) (σ : St) (pl : Pl) (o : O) (v : V) (S : Pd) : Prop where
  own : Own K mg I H o v S
  sub : ∃ i, ∀ a, S a → φ i a
  put : ∀ (H' : Hp) (o' : O), Same I H' → (∀ a x, ¬ S a → H a = some x → H' a = some x) → (∀ a, S a → H' a ≠ none) → Own K mg I H' o' v S → Gd K mg I H' φ (pl.set o' ρ) σ
/-- where the object of a place stands -/
def Pl.val (mg : Str → Option Value) : Pl → St → Hp → V → Prop
  | .slot i, σ, _, v => σ[i]? = some (some v)
  | .fld i c f, σ, H, v => ∃ a C dx fs, σ[i]? = some (some (.ref a)) ∧ H a = some (.ins C dx fs) ∧ mg c = some (.ref C) ∧ fs.lookup f = some v
  | .item i n, σ, H, v => ∃ a vs, σ[i]? = some (some (.ref a)) ∧ H a = some (.tup vs) ∧ vs[n]? = some v
section
variable {φ : Ph} {ρ : Env} {σ : St}
theorem Gd.at (gd : Gd K mg I H φ ρ σ) {pl : Pl} {o : O} (e : pl.get ρ = some o) : ∃ v S, pl.val mg σ H v ∧ At K mg I H φ ρ σ pl o v S := by
  have rest : ∀ {i : Nat} {o' : O} {v : V} {H' : Hp}, σ[i]? = some (some v) → Same I H' → (∀ a x, ¬ φ i a → H a = some x → H' a = some x) → (∀ a, φ i a → H' a ≠ none) → Own K mg I H' o' v (φ i) → Gd K mg I H' φ (ρ.set i o') σ := by
    intro i o' v H' ev le kp th w
    refine ⟨le, gd.dj, fun j a q => ?_, gd.sep, fun j y ey ny => ?_⟩
    · by_cases z : φ i a
      · exact th a z
      · cases e0 : H a with
        | none => exact (gd.th j a q e0).elim
        | some x => rw [kp a x z e0]; exact Option.some_ne_none _
    · by_cases z : j = i
      · subst z
        have hl : j < ρ.length := by
          have := (List.getElem?_eq_some_iff.mp ey).1
          simpa using this
        rw [List.getElem?_set_self hl] at ey
        cases ey
        exact ⟨v, ev, w⟩
      · rw [List.getElem?_set_ne (Ne.symm z)] at ey
        obtain ⟨u, e1, w1⟩ := gd.sl j y ey ny
        exact ⟨u, e1, w1.step (RdLe.of (Same.refl _)) fun a x s hh => kp a x (fun q => z (gd.sep j i a s q)) hh⟩
  cases pl with
  | slot i =>
    have e2 : ρ[i]? = some o ∧ o ≠ .un := by
      have e : (match ρ[i]? with | some .un => none | o => o) = some o := e
      split at e
      · cases e
      · rename_i hu
        refine ⟨e, fun q => ?_⟩
        rw [q] at e
        exact hu e
    obtain ⟨v, ev, w⟩ := gd.sl i o e2.1 e2.2
    exact ⟨v, φ i, ev, w, ⟨i, fun _ z => z⟩, fun H' o' le kp th w' => rest ev le kp th w'⟩
  | fld i c f =>
    have e' : ∃ fs, ρ[i]? = some (.obj c fs) ∧ lookF fs f = some o ∧ o ≠ .un := by
      have e5 : (match ρ[i]? with | some (.obj c' fs) => if c' = c then (match lookF fs f with | some .un => none | o => o) else none | _ => none) = some o := e
      clear e
      split at e5
      · rename_i c' fs e1
        split at e5
        case isFalse => cases e5
        rename_i hc
        subst hc
        split at e5
        · cases e5
        · rename_i hu
          refine ⟨fs, e1, e5, fun q => ?_⟩
          rw [q] at e5
          exact hu e5
      · cases e5
    obtain ⟨fs, e1, e2, nu⟩ := e'
    obtain ⟨v, ev, w⟩ := gd.sl i _ e1 (by intro z; cases z)
    cases w with
    | @obj a C dx _ fvs _ _ S' h1 h2 h3 h4 h5 h6 =>
      obtain ⟨u, T, k1, k2, k3, k4⟩ := h4.get e2
      refine ⟨u, T, ⟨a, C, dx, fvs, ev, h1, h2, k1⟩, k2, ⟨i, fun b q => h5 b (k3 b q)⟩, fun H' o' le kp th w' => ?_⟩
      have es : (Pl.fld i c f).set o' ρ = ρ.set i (.obj c (setF o' fs f)) := by
        show (match ρ[i]? with | some (.obj c fs) => ρ.set i (.obj c (setF o' fs f)) | _ => ρ) = _
        rw [e1]
      rw [es]
      have aT : ¬ T a := fun q => h6 (k3 a q)
      refine rest ev le (fun b x nb hb => kp b x (fun q => nb (h5 b (k3 b q))) hb) (fun b q => ?_) (.obj (kp a _ aT h1) h2 h3 (k4 H' o' (fun b x s nt hb => kp b x nt hb) w') h5 h6)
      by_cases z : T b
      · exact th b z
      · cases e0 : H b with
        | none => exact (gd.th i b q e0).elim
        | some x => rw [kp b x z e0]; exact Option.some_ne_none _
  | item i n =>
    have e' : ∃ xs, ρ[i]? = some (.tup xs) ∧ xs[n]? = some o ∧ o ≠ .un := by
      have e5 : (match ρ[i]? with | some (.tup xs) => (match xs[n]? with | some .un => none | o => o) | _ => none) = some o := e
      clear e
      split at e5
      · rename_i xs e1
        split at e5
        · cases e5
        · rename_i hu
          refine ⟨xs, e1, e5, fun q => ?_⟩
          rw [q] at e5
          exact hu e5
      · cases e5
    obtain ⟨xs, e1, e2, nu⟩ := e'
    obtain ⟨v, ev, w⟩ := gd.sl i _ e1 (by intro z; cases z)
    cases w with
    | @tup a vs _ _ h1 h2 =>
      obtain ⟨u, T, k1, k2, k3, k4⟩ := h2.at e2
      refine ⟨u, T, ⟨a, vs, ev, gd.le _ _ h1, k1⟩, k2, ⟨i, k3⟩, fun H' o' le kp th w' => ?_⟩
      have es : (Pl.item i n).set o' ρ = ρ.set i (.tup (xs.set n o')) := by
        show (match ρ[i]? with | some (.tup xs) => ρ.set i (.tup (xs.set n o')) | _ => ρ) = _
        rw [e1]
      rw [es]
      refine rest ev le (fun b x nb hb => kp b x (fun q => nb (k3 b q)) hb) (fun b q => ?_) (.tup h1 (k4 H' o' (fun b x s nt hb => kp b x nt hb) w'))
      by_cases z : T b
      · exact th b z
      · cases e0 : H b with
        | none => exact (gd.th i b q e0).elim
        | some x => rw [kp b x z e0]; exact Option.some_ne_none _
end
/-! ### methods that change a place -/
def MtS (X : Cx) (r : V → List V → Hp → VK → Prop) (g : O → List D → Option (D × O)) : Prop := ∀ (I H : Hp) (S : Pd) (Q : VK) (o o' : O) (ds : List D) (res : D) (v : V) (vs : List V),
  Same I H → (∀ a, S a → I a = none) → (∀ a, S a → H a ≠ none) → Own X.K X.mg I H o v S → DenL X.K I ds vs → g o ds = some (res, o') →
  (∀ v' H', Same I H' → (∀ a x, ¬ S a → H a = some x → H' a = some x) → (∀ a, S a → H' a ≠ none) → Own X.K X.mg I H' o' v S → Den X.K I res v' → Q v' H') → r v vs H Q
/-- which built-in type a place's object has -/
def tyP (T : String) : O → Bool
  | .lst _ => T = "list"
  | .dic _ => T = "dict"
  | .dicT _ => T = "dict"
  | _ => false
theorem tyP_ok {T : String} {o : O} {v : V} {S : Pd} (w : Own K mg I H o v S) (h : tyP T o = true) : tyV K T v H := by
  cases o with
  | lst xs =>
    have : T = "list" := of_decide_eq_true h
    cases w with
    | lst a b c d e => exact .inl ⟨this, _, SqL.of a⟩
  | dic xs =>
    have : T = "dict" := of_decide_eq_true h
    cases w with
    | dic a b c => exact .inr (.inr (.inl ⟨this, .inl ⟨_, a⟩⟩))
  | dicT xs =>
    have : T = "dict" := of_decide_eq_true h
    cases w with
    | dicT a b c => exact .inr (.inr (.inl ⟨this, .inr ⟨_, a⟩⟩))
  | _ => cases h
/-- a place's value, read by an expression -/
def rdPl (K : PySem.W.Frag) (mg : Str → Option Value) (pl : Pl) : TE := fun σ H Q => ∃ v, pl.val mg σ H v ∧ Q v H
abbrev PlE (X : Cx) (e : Expr) (pl : Pl) : Prop := PE X e (rdPl X.K X.mg pl)
/-- o.m(args): args may do what they like; o a slot -/
def E.mut (i : Nat) (T : String) (g : O → List D → Option (D × O)) (fs : M (List O)) : M O := fun ρ0 => match (Pl.slot i).get ρ0 with
  | some o0 => if tyP T o0 then (fs.bind fun os ρ => match frzL os, (Pl.slot i).get ρ with
    | some ds, some o => (match g o ds with
      | some (res, o') => .ok (.d res) ((Pl.slot i).set o' ρ)
      | none => .stuck)
    | _, _ => .stuck) ρ0 else .stuck
  | none => .stuck
/-- .. args views; o any place -/
def E.mutV (pl : Pl) (T : String) (g : O → List D → Option (D × O)) (fs : Env → Option (List O)) : M O := fun ρ => match pl.get ρ, (fs ρ).bind allD with
  | some o, some ds => if tyP T o then (match g o ds with
    | some (res, o') => .ok (.d res) (pl.set o' ρ)
    | none => .stuck) else .stuck
  | _, _ => .stuck
section
variable {X : Cx} {W : WX} {pos : Pos} {o e : Expr} {es : List Expr}
theorem pl_slot (i : Nat) {x : Str} {pos : Pos} (hN : X.N[i]? = some x := by rfl) (hv : Vis X.env.scope x := by first | exact Or.inl rfl | exact Or.inr (Or.inl rfl) | exact Or.inr (Or.inr rfl)) (hd : (x == ("__debug__" : Str)) = false := by decide) (hcd : (x == ("__classdict__" : Str)) = false := by decide) : PlE X (.Name x pos) (.slot i) :=
  PE.weak (pe_var hN hv hd hcd) fun _ _ _ h => h
theorem pl_fld (i : Nat) (c : Str) {x f : Str} {pos pos' : Pos} (hcl : ∀ C, X.mg c = some (.ref C) → Cls X.K C ∧ NoAttr X.K C f) (hN : X.N[i]? = some x := by rfl) (hv : Vis X.env.scope x := by first | exact Or.inl rfl | exact Or.inr (Or.inl rfl) | exact Or.inr (Or.inr rfl)) (hd : (x == ("__debug__" : Str)) = false := by decide) (hcd : (x == ("__classdict__" : Str)) = false := by decide)
    (hb : attributeBase (.Name x pos) f X.env (eval (.Name x pos) X.env) = eval (.Name x pos) X.env := by rfl) : PlE X (.Attribute (.Name x pos) f pos') (.fld i c f) := by
  refine PE.weak (pe_fld (pe_var hN hv hd hcd) hb) fun σ H Q ⟨v, ⟨a, C, dx, fs, e1, e2, e3, e4⟩, q⟩ => ?_
  obtain ⟨h1, h2⟩ := hcl C e3
  exact ⟨.ref a, e1, a, C, dx, fs, v, rfl, e2, h1, h2, e4, q⟩
theorem pl_item (i n : Nat) {x : Str} {k : Nat} {pos pos' pos2 : Pos} (hN : X.N[i]? = some x := by rfl) (hv : Vis X.env.scope x := by first | exact Or.inl rfl | exact Or.inr (Or.inl rfl) | exact Or.inr (Or.inr rfl)) (hd : (x == ("__debug__" : Str)) = false := by decide) (hcd : (x == ("__classdict__" : Str)) = false := by decide)
    (hs : PlainIx (.Constant (.int (n : Int)) k pos2) := by intro _ _; rfl) : PlE X (.Subscript (.Name x pos) (.Constant (.int (n : Int)) k pos2) pos') (.item i n) := by
  refine PE.weak (pe_ix ix_tup (pe_var hN hv hd hcd) pe_int hs) fun σ H Q ⟨v, ⟨a, vs, e1, e2, e3⟩, q⟩ => ?_
  refine ⟨.ref a, e1, a, vs, (n : Int), v, rfl, rfl, SqT.of e2, ?_, q⟩
  have hl := (List.getElem?_eq_some_iff.mp e3).1
  unfold atI ixN
  rw [if_pos (Int.natCast_nonneg n), if_pos (by exact_mod_cast hl)]
  simpa using e3
/-- the world behind a change -/
theorem mut_fin {σ : St} {I H : Hp} {φ : Ph} {ρ : Env} {F : Pd} {Q : VK} {pl : Pl} {o o' : O} {v : V} {S : Pd} {res : D} (gd : Gd X.K X.mg I H φ ρ σ) (at_ : At X.K X.mg I H φ ρ σ pl o v S) (hf : ∀ a, al φ a → F a)
    (h : PostE X.K X.mg W σ I H F Q (.ok (.d res) (pl.set o' ρ))) {v' : V} {H' : Hp} (le : Same I H') (kp : ∀ a x, ¬ S a → H a = some x → H' a = some x) (th : ∀ a, S a → H' a ≠ none) (w : Own X.K X.mg I H' o' v S) (d : Den X.K I res v') : Q v' H' := by
  obtain ⟨i, hi⟩ := at_.sub
  refine h v' H' I φ noP ⟨Same.refl _, fun a x e nf => kp a x (fun q => nf (hf a ⟨i, hi a q⟩)) e, fun a q => .inl (q.elim (hf a) False.elim), fun a x e => .inl e⟩ (at_.put H' o' le kp th w) Tm.none (.d d)
theorem ee_mut (i : Nat) {x : Str} {np : Pos} {T id : String} {r : V → List V → Hp → VK → Prop} {g : O → List D → Option (D × O)} {name : Str} {apos cpos : Pos} {fs : M (List O)} (pa : PlainAttrs T) (slot : Slot T name id) (hty : typeOf (.builtin id) = pure (.type "method_descriptor")) (hm : MtR X id r) (ok : MtS X r g)
    (ho : PlE X (.Name x np) (.slot i)) (ha : EA X W (e :: es) fs)
    (hbase : attributeBase (.Name x np) name X.env (eval (.Name x np) X.env) = eval (.Name x np) X.env := by rfl)
    (hfew : ((backTo cpos (starEach (e :: es) X.env)).all (fun x => !x.1) && (backToKw cpos (keywordEach [] X.env)).all (fun x => x.1.isSome)
      && decide ((e :: es).length + ([] : List Keyword).length + (if ([] : List Keyword).isEmpty then 0 else 1) < 30)) = true := by rfl)
    (hline : (apos.endLine == cpos.line) = true := by rfl) (hs : starEach (e :: es) X.env = (false, eval e X.env) :: starEach es X.env := by rfl) (hplain : (backTo cpos (starEach es X.env)).any (·.1) = false := by rfl) :
    EE X W (.Call (.Attribute (.Name x np) name apos) (e :: es) [] cpos) (E.mut i T g fs) := by
  refine PE.weak (pe_bm pa slot hty hm ho ha hbase hfew hline hs hplain) fun σ H Q ⟨ρ, I, φ, gd, h⟩ => ?_
  unfold E.mut at h
  split at h
  case h_2 => exact h.elim
  rename_i o0 e0
  split at h
  case isFalse => exact h.elim
  rename_i ht
  obtain ⟨v, S0, hv, at0⟩ := gd.at e0
  refine ⟨v, hv, tyP_ok at0.own ht, ?_⟩
  refine bindA (P := PostE X.K X.mg W σ I H (al φ) Q) gd h (fun _ _ z => z) (fun z => z) fun os ρ1 _ h vs H1 I1 φ1 G1 s1 gd1 t1 w1 => ?_
  have h' := h.shift s1
  split at h'
  · rename_i ds o1 e1 e2
    split at h'
    · rename_i res o' e3
      obtain ⟨gd2, st2⟩ := gd1.freeze t1
      have dl : DenL X.K (addI I1 H1 G1) ds vs := Owns.frz (RdLe.of (addI_same t1.dj)) (fun a u q e => by rw [addI_in q]; exact e) w1 e1
      obtain ⟨v2, S, hv2, at_⟩ := gd2.at e2
      have : v2 = v := by
        have h1 : σ[i]? = some (some v) := hv
        have h2 : σ[i]? = some (some v2) := hv2
        rw [h1] at h2
        cases h2
        rfl
      subst this
      obtain ⟨j, hj⟩ := at_.sub
      have h2 := h'.shift st2
      refine ok _ H1 S Q o1 o' ds res v2 vs gd2.le (fun a q => gd2.dj j a (hj a q)) (fun a q => gd2.th j a (hj a q)) at_.own dl e3 fun v' H' le kp th w d => mut_fin gd2 at_ (fun _ z => z) h2 le kp th w d
    · exact h'.elim
  · exact h'.elim
theorem ee_mut0 (pl : Pl) {T id : String} {r : V → List V → Hp → VK → Prop} {g : O → List D → Option (D × O)} {name : Str} {apos cpos : Pos} (pa : PlainAttrs T) (slot : Slot T name id) (hty : typeOf (.builtin id) = pure (.type "method_descriptor")) (hm : MtR X id r) (ok : MtS X r g)
    (ho : PlE X o pl) (hbase : attributeBase o name X.env (eval o X.env) = eval o X.env := by rfl) (hline : (apos.endLine == cpos.line) = true := by rfl) :
    EE X W (.Call (.Attribute o name apos) [] [] cpos) (E.mutV pl T g Vw.nil) := by
  refine PE.weak (pe_bm0 pa slot hty hm ho hbase hline) fun σ H Q ⟨ρ, I, φ, gd, h⟩ => ?_
  unfold E.mutV at h
  split at h
  · rename_i o1 ds e1 e2
    cases e2
    split at h
    · rename_i ht
      split at h
      · rename_i res o' e3
        obtain ⟨v, S, hv, at_⟩ := gd.at e1
        obtain ⟨j, hj⟩ := at_.sub
        refine ⟨v, hv, tyP_ok at_.own ht, ?_⟩
        exact ok I H S Q o1 o' [] res v [] gd.le (fun a q => gd.dj j a (hj a q)) (fun a q => gd.th j a (hj a q)) at_.own .nil e3 fun v' H' le kp th w d => mut_fin gd at_ (fun _ z => z) h le kp th w d
      · exact h.elim
    · exact h.elim
  · exact h.elim
theorem ee_mutV (pl : Pl) {T id : String} {r : V → List V → Hp → VK → Prop} {g : O → List D → Option (D × O)} {name : Str} {apos cpos : Pos} {fs : Env → Option (List O)} (pa : PlainAttrs T) (slot : Slot T name id) (hty : typeOf (.builtin id) = pure (.type "method_descriptor")) (hm : MtR X id r) (ok : MtS X r g)
    (ho : PlE X o pl) (ha : VA X (e :: es) fs)
    (hbase : attributeBase o name X.env (eval o X.env) = eval o X.env := by rfl)
    (hfew : ((backTo cpos (starEach (e :: es) X.env)).all (fun x => !x.1) && (backToKw cpos (keywordEach [] X.env)).all (fun x => x.1.isSome)
      && decide ((e :: es).length + ([] : List Keyword).length + (if ([] : List Keyword).isEmpty then 0 else 1) < 30)) = true := by rfl)
    (hline : (apos.endLine == cpos.line) = true := by rfl) (hs : starEach (e :: es) X.env = (false, eval e X.env) :: starEach es X.env := by rfl) (hplain : (backTo cpos (starEach es X.env)).any (·.1) = false := by rfl) :
    EE X W (.Call (.Attribute o name apos) (e :: es) [] cpos) (E.mutV pl T g fs) := by
  refine PE.weak (pe_bm pa slot hty hm ho ha hbase hfew hline hs hplain) fun σ H Q ⟨ρ, I, φ, gd, h⟩ => ?_
  unfold E.mutV at h
  split at h
  · rename_i o1 ds e1 e2
    rw [Option.bind_eq_some_iff] at e2
    obtain ⟨os, e2, e4⟩ := e2
    split at h
    · rename_i ht
      split at h
      · rename_i res o' e3
        obtain ⟨v, S, hv, at_⟩ := gd.at e1
        refine ⟨v, hv, tyP_ok at_.own ht, ρ, I, φ, gd, ?_⟩
        rw [e2]
        intro vs I1 H1 g1 ws
        obtain ⟨v2, S2, hv2, at2⟩ := g1.gd.at e1
        have : v2 = v := by
          cases pl with
          | slot i =>
            have h1 : σ[i]? = some (some v) := hv
            have h2 : σ[i]? = some (some v2) := hv2
            rw [h1] at h2
            cases h2
            rfl
          | fld i c f =>
            obtain ⟨a, C, dx, fs, k1, k2, k3, k4⟩ := hv
            obtain ⟨a', C', dx', fs', k1', k2', k3', k4'⟩ := hv2
            rw [k1] at k1'
            cases k1'
            rw [g1.st.kp a _ k2 (fun z => z)] at k2'
            cases k2'
            rw [k4] at k4'
            cases k4'
            rfl
          | item i n =>
            obtain ⟨a, ws', k1, k2, k3⟩ := hv
            obtain ⟨a', ws2, k1', k2', k3'⟩ := hv2
            rw [k1] at k1'
            cases k1'
            rw [g1.st.kp a _ k2 (fun z => z)] at k2'
            cases k2'
            rw [k3] at k3'
            cases k3'
            rfl
        subst this
        obtain ⟨j, hj⟩ := at2.sub
        have h2 := h.shift (g1.stp gd)
        exact ok I1 H1 S2 Q o1 o' ds res v2 vs g1.gd.le (fun a q => g1.gd.dj j a (hj a q)) (fun a q => g1.gd.th j a (hj a q)) at2.own (ws.allD e4) e3 fun v' H' le kp th w d => mut_fin g1.gd at2 (fun _ z => z) h2 le kp th w d
      · exact h.elim
    · exact h.elim
  · exact h.elim
end
end
end EV

/-! The layer EV, part P: append, extend, pop, clear, reverse; x[i] = v, d[k] = v. -/
namespace EV
open PySem PySem.Spec PyProof.Rows L2
section
variable {K : PySem.W.Frag} {mg : Str → Option Value} {I H : Hp}
/-- a list of data, owned -/
theorem Own.lstD {xs : List O} {v : V} {S : Pd} {ds : List D} (w : Own K mg I H (.lst xs) v S) (e : allD xs = some ds) : ∃ a vs, v = .ref a ∧ S a ∧ H a = some (.lst vs) ∧ DenL K I ds vs := by
  cases w with
  | lst a b c d q => exact ⟨_, _, rfl, b, a, (Vws.own c).allD e⟩
theorem Own.ofD {a : Addr} {ds : List D} {vs : List V} {S : Pd} (h : H a = some (.lst vs)) (s : S a) (d : DenL K I ds vs) : Own K mg I H (.lst (ds.map .d)) (.ref a) S :=
  .lst (S' := noP) h s (Owns.ofDen d) (fun _ z => z.elim) id
end
/-- one object of the place is rewritten -/
theorem upd_facts {I H : Hp} {S : Pd} {a : Addr} {x : HO} (le : Same I H) (dj : ∀ a, S a → I a = none) (th : ∀ a, S a → H a ≠ none) (sa : S a) : Same I (upd H a x) ∧ (∀ b y, ¬ S b → H b = some y → upd H a x b = some y) ∧ (∀ b, S b → upd H a x b ≠ none) := by
  refine ⟨fun b y e => ?_, fun b y ns e => ?_, fun b s => ?_⟩
  · rw [upd_ne (fun z => by rw [z, dj a sa] at e; cases e)]
    exact le b y e
  · rw [upd_ne (fun z => ns (by rw [z]; exact sa))]
    exact e
  · by_cases z : b = a
    · rw [z, upd_same]; exact Option.some_ne_none _
    · rw [upd_ne z]; exact th b s
def m_append : O → List D → Option (D × O)
  | .lst xs, [x] => (allD xs).bind fun ds => if ds.length < 1000000 then some (.none, .lst ((ds ++ [x]).map .d)) else none
  | _, _ => none
def m_extend : O → List D → Option (D × O)
  | .lst xs, [.list ys] => (allD xs).bind fun ds => if ds.length + ys.length ≤ 1000000 then some (.none, .lst ((ds ++ ys).map .d)) else none
  | _, _ => none
def m_pop : O → List D → Option (D × O)
  | .lst xs, [] => (allD xs).bind fun ds => (ds[ds.length - 1]?).map fun y => (y, .lst (ds.dropLast.map .d))
  | _, _ => none
def m_popAt : O → List D → Option (D × O)
  | .lst xs, [.int i] => (allD xs).bind fun ds => (ixN ds.length i).bind fun k => if ds.length ≤ 1000000 then (ds[k]?).map fun y => (y, .lst ((ds.eraseIdx k).map .d)) else none
  | _, _ => none
def m_clear : O → List D → Option (D × O)
  | .lst xs, [] => some (.none, .lst [])
  | _, _ => none
def m_reverse : O → List D → Option (D × O)
  | .lst xs, [] => (allD xs).map fun ds => (.none, .lst (ds.reverse.map .d))
  | _, _ => none
section
variable {X : Cx}
theorem lt_mil {n : Nat} (h : n < 1000000) : n < sizeLine := by rw [sizeLine_eq]; omega
theorem ms_append : MtS X rAppend m_append := by
  intro I H S Q o o' ds res v vs le dj th w dl e k
  unfold m_append at e
  split at e
  · rename_i xs x
    rw [Option.bind_eq_some_iff] at e
    obtain ⟨es, e1, e⟩ := e
    split at e
    · rename_i hz
      cases e
      obtain ⟨a, us, rfl, sa, ha, du⟩ := w.lstD e1
      cases dl with
      | @cons _ _ y _ d r =>
        cases r
        obtain ⟨h1, h2, h3⟩ := upd_facts (x := .lst (us ++ [y])) le dj th sa
        exact ⟨a, us, _, rfl, rfl, ha, by rw [du.len]; exact lt_mil hz, k _ _ h1 h2 h3 (Own.ofD upd_same sa (du.append (.cons d .nil))) .non⟩
    · cases e
  · cases e
theorem ms_extend : MtS X rExtend m_extend := by
  intro I H S Q o o' ds res v vs le dj th w dl e k
  unfold m_extend at e
  split at e
  · rename_i xs ys
    rw [Option.bind_eq_some_iff] at e
    obtain ⟨es, e1, e⟩ := e
    split at e
    · rename_i hz
      cases e
      obtain ⟨a, us, rfl, sa, ha, du⟩ := w.lstD e1
      cases dl with
      | cons d r =>
        cases r
        cases d with
        | @list b zs _ s dz =>
          obtain ⟨h1, h2, h3⟩ := upd_facts (x := .lst (us ++ zs)) le dj th sa
          exact ⟨a, b, us, zs, rfl, rfl, ha, le _ _ s, by rw [du.len, dz.len]; exact mil hz, k _ _ h1 h2 h3 (Own.ofD upd_same sa (du.append dz)) .non⟩
    · cases e
  · cases e
theorem DenL.dropLast {K : PySem.W.Frag} {I : Hp} {ds : List D} {vs : List V} (h : DenL K I ds vs) : DenL K I ds.dropLast vs.dropLast := by
  rw [List.dropLast_eq_take, List.dropLast_eq_take, h.len]
  exact h.take _
theorem DenL.getX {K : PySem.W.Frag} {I : Hp} : ∀ {ds : List D} {vs : List V} {i : Nat} {x : D}, DenL K I ds vs → ds[i]? = some x → ∃ v, vs[i]? = some v ∧ Den K I x v
  | _, _, _, _, .nil, e => by simp at e
  | _, _, 0, _, .cons a _, e => by simp at e; subst e; exact ⟨_, rfl, a⟩
  | _, _, i + 1, o, .cons _ b, e => by
    obtain ⟨v, h1, h2⟩ := DenL.getX (i := i) (x := o) b (by simpa using e)
    exact ⟨v, by simpa using h1, h2⟩
theorem DenL.eraseIdx {K : PySem.W.Frag} {I : Hp} : ∀ {ds : List D} {vs : List V} (i : Nat), DenL K I ds vs → DenL K I (ds.eraseIdx i) (vs.eraseIdx i)
  | _, _, _, .nil => .nil
  | _, _, 0, .cons a b => b
  | _, _, i + 1, .cons a b => .cons a (DenL.eraseIdx i b)
theorem DenL.set {K : PySem.W.Frag} {I : Hp} {x : D} {v : V} (d : Den K I x v) : ∀ {ds : List D} {vs : List V} (i : Nat), DenL K I ds vs → DenL K I (ds.set i x) (vs.set i v)
  | _, _, _, .nil => .nil
  | _, _, 0, .cons a b => .cons d b
  | _, _, i + 1, .cons a b => .cons a (DenL.set d i b)
theorem ms_pop : MtS X rPop m_pop := by
  intro I H S Q o o' ds res v vs le dj th w dl e k
  unfold m_pop at e
  split at e
  · rename_i xs
    rw [Option.bind_eq_some_iff] at e
    obtain ⟨es, e1, e⟩ := e
    rw [Option.map_eq_some_iff] at e
    obtain ⟨y, e2, e3⟩ := e
    cases e3
    obtain ⟨a, us, rfl, sa, ha, du⟩ := w.lstD e1
    cases dl
    obtain ⟨u, e4, d⟩ := du.getX e2
    obtain ⟨h1, h2, h3⟩ := upd_facts (x := .lst us.dropLast) le dj th sa
    exact ⟨a, us, u, rfl, rfl, ha, by rw [du.len]; exact e4, k _ _ h1 h2 h3 (Own.ofD upd_same sa du.dropLast) d⟩
  · cases e
theorem ms_popAt : MtS X rPopAt m_popAt := by
  intro I H S Q o o' ds res v vs le dj th w dl e k
  unfold m_popAt at e
  split at e
  · rename_i xs i
    rw [Option.bind_eq_some_iff] at e
    obtain ⟨es, e1, e⟩ := e
    rw [Option.bind_eq_some_iff] at e
    obtain ⟨j, e5, e⟩ := e
    split at e
    · rename_i hz
      rw [Option.map_eq_some_iff] at e
      obtain ⟨y, e2, e3⟩ := e
      cases e3
      obtain ⟨a, us, rfl, sa, ha, du⟩ := w.lstD e1
      cases dl with
      | cons d0 r =>
        cases r
        cases d0
        obtain ⟨u, e4, d⟩ := du.getX e2
        obtain ⟨i1, i2, i3, i4⟩ := ixN_seq e5
        obtain ⟨h1, h2, h3⟩ := upd_facts (x := .lst (us.eraseIdx j)) le dj th sa
        exact ⟨a, us, i, j, u, rfl, rfl, ha, by omega, by omega, by rw [du.len]; exact i1, e4, k _ _ h1 h2 h3 (Own.ofD upd_same sa (du.eraseIdx j)) d⟩
    · cases e
  · cases e
theorem ms_clear : MtS X rClear m_clear := by
  intro I H S Q o o' ds res v vs le dj th w dl e k
  unfold m_clear at e
  split at e
  · cases e
    cases dl
    cases w with
    | lst a b c d q =>
      obtain ⟨h1, h2, h3⟩ := upd_facts (x := .lst []) le dj th b
      exact ⟨_, _, rfl, rfl, a, k _ _ h1 h2 h3 (Own.ofD (ds := []) upd_same b .nil) .non⟩
  · cases e
theorem ms_reverse : MtS X rReverse m_reverse := by
  intro I H S Q o o' ds res v vs le dj th w dl e k
  unfold m_reverse at e
  split at e
  · rw [Option.map_eq_some_iff] at e
    obtain ⟨es, e1, e2⟩ := e
    cases e2
    cases dl
    obtain ⟨a, us, rfl, sa, ha, du⟩ := w.lstD e1
    obtain ⟨h1, h2, h3⟩ := upd_facts (x := .lst us.reverse) le dj th sa
    exact ⟨a, us, rfl, rfl, ha, k _ _ h1 h2 h3 (Own.ofD upd_same sa du.rev) .non⟩
  · cases e
end

/-! ### stores -/
/-- x[i] = v -/
def StS (X : Cx) (r : TSet) (g : O → D → D → Option O) : Prop := ∀ (I H : Hp) (S : Pd) (Q : Hp → Prop) (o o' : O) (i x : D) (v vi vx : V),
  Same I H → (∀ a, S a → I a = none) → (∀ a, S a → H a ≠ none) → Own X.K X.mg I H o v S → Den X.K I i vi → Den X.K I x vx → g o i x = some o' →
  (∀ H', Same I H' → (∀ a x, ¬ S a → H a = some x → H' a = some x) → (∀ a, S a → H' a ≠ none) → Own X.K X.mg I H' o' v S → Q H') → r v vi vx H Q
/-- a dict's pairs behind d[k] = x, behind del d[k] -/
def putKD (ds : List (D × D)) (k x : D) : List (D × D) := if (ds.any fun p => PyData.eqv p.1 k) = true then ds.map (fun p => if PyData.eqv p.1 k = true then (p.1, x) else p) else ds ++ [(k, x)]
def dropKD (ds : List (D × D)) (k : D) : List (D × D) := ds.filter fun p => !PyData.eqv p.1 k
section
variable {K : PySem.W.Frag} {I : Hp}
theorem DenK.any {ds : List (D × D)} {kvs : List (Key × V)} (h : DenK K I ds kvs) (k : Key) : (ds.any fun p => PyData.eqv p.1 (keyD k)) = kvs.any fun kv => decide (kv.1 = k) := match h with
  | .nil => rfl
  | .cons (k := k') a b => by rw [List.any_cons, List.any_cons, DenK.any b k, eqv_keyD]
theorem DenK.mapPut {x : D} {v : V} (d : Den K I x v) (k : Key) : ∀ {ds : List (D × D)} {kvs : List (Key × V)}, DenK K I ds kvs →
    DenK K I (ds.map fun p => if PyData.eqv p.1 (keyD k) = true then (p.1, x) else p) (kvs.map fun kv => if kv.1 = k then (kv.1, v) else kv)
  | _, _, .nil => .nil
  | _, _, .cons (k := k') a b => by
    rw [List.map_cons, List.map_cons, eqv_keyD]
    by_cases e : k' = k
    · rw [if_pos (decide_eq_true e), if_pos e]
      exact .cons d (DenK.mapPut d k b)
    · rw [if_neg (by simpa using e), if_neg e]
      exact .cons a (DenK.mapPut d k b)
theorem DenK.snoc {x : D} {v : V} (d : Den K I x v) (k : Key) : ∀ {ds : List (D × D)} {kvs : List (Key × V)}, DenK K I ds kvs → DenK K I (ds ++ [(keyD k, x)]) (kvs ++ [(k, v)])
  | _, _, .nil => .cons d .nil
  | _, _, .cons a b => .cons a (DenK.snoc d k b)
theorem DenK.put {x : D} {v : V} {ds : List (D × D)} {kvs : List (Key × V)} (h : DenK K I ds kvs) (d : Den K I x v) (k : Key) : DenK K I (putKD ds (keyD k) x) (putK kvs k v) := by
  unfold putKD putK
  rw [h.any k]
  split
  · exact h.mapPut d k
  · exact h.snoc d k
theorem DenK.drop (k : Key) : ∀ {ds : List (D × D)} {kvs : List (Key × V)}, DenK K I ds kvs → DenK K I (dropKD ds (keyD k)) (dropK kvs k)
  | _, _, .nil => .nil
  | _, _, .cons (k := k') a b => by
    unfold dropKD dropK
    rw [List.filter_cons, List.filter_cons, eqv_keyD]
    by_cases e : k' = k
    · rw [if_neg (by simp [e]), if_neg (by simp [e])]
      exact DenK.drop k b
    · rw [if_pos (by simp [e]), if_pos (by simp [e])]
      exact .cons a (DenK.drop k b)
theorem DenT.any {ds : List (D × D)} {kvs : List (List Key × V)} (h : DenT K I ds kvs) (k : List Key) : (ds.any fun p => PyData.eqv p.1 (keyT k)) = kvs.any fun kv => decide (kv.1 = k) := match h with
  | .nil => rfl
  | .cons (k := k') a b => by rw [List.any_cons, List.any_cons, DenT.any b k, eqv_keyT]
theorem DenT.mapPut {x : D} {v : V} (d : Den K I x v) (k : List Key) : ∀ {ds : List (D × D)} {kvs : List (List Key × V)}, DenT K I ds kvs →
    DenT K I (ds.map fun p => if PyData.eqv p.1 (keyT k) = true then (p.1, x) else p) (kvs.map fun kv => if kv.1 = k then (kv.1, v) else kv)
  | _, _, .nil => .nil
  | _, _, .cons (k := k') a b => by
    rw [List.map_cons, List.map_cons, eqv_keyT]
    by_cases e : k' = k
    · rw [if_pos (decide_eq_true e), if_pos e]
      exact .cons d (DenT.mapPut d k b)
    · rw [if_neg (by simpa using e), if_neg e]
      exact .cons a (DenT.mapPut d k b)
theorem DenT.snoc {x : D} {v : V} (d : Den K I x v) (k : List Key) : ∀ {ds : List (D × D)} {kvs : List (List Key × V)}, DenT K I ds kvs → DenT K I (ds ++ [(keyT k, x)]) (kvs ++ [(k, v)])
  | _, _, .nil => .cons d .nil
  | _, _, .cons a b => .cons a (DenT.snoc d k b)
theorem DenT.put {x : D} {v : V} {ds : List (D × D)} {kvs : List (List Key × V)} (h : DenT K I ds kvs) (d : Den K I x v) (k : List Key) : DenT K I (putKD ds (keyT k) x) (putK kvs k v) := by
  unfold putKD putK
  rw [h.any k]
  split
  · exact h.mapPut d k
  · exact h.snoc d k
end
def st_any (o : O) (i x : D) : Option O := match o with
  | .lst xs => (match i with
    | .int i => (ixN xs.length i).map fun k => .lst (xs.set k (.d x))
    | _ => none)
  | .dic ds => if isK i && decide (ds.length < 1000000) then some (.dic (putKD ds i x)) else none
  | .dicT ds => (match i with
    | .tuple ks => if (keyT? ks).isSome && decide (ds.length < 1000000) then some (.dicT (putKD ds i x)) else none
    | _ => none)
  | _ => none
def rSetD : TSet := fun o i v H Q => ∃ a H', o = .ref a ∧ DPut H a i v H' ∧ Q H'
def rSetA : TSet := fun o i v H Q => rSetL o i v H Q ∨ rSetD o i v H Q
section
variable {X : Cx}
theorem set_dictA (hu : X.A.units + 100 < cLine) : PSet X rSetD := by
  intro pins s σ H o i v ov iv u Q I ro ri rv h
  obtain ⟨a, H', rfl, g, q⟩ := h
  obtain rfl : ov = Value.ref a := ro
  exact d_setItem (by omega) I g ri rv fun s4 I4 => ⟨H', I4, q⟩
theorem PSet.or {X : Cx} {r r' : TSet} (h : PSet X r) (h' : PSet X r') : PSet X (fun o i v H Q => r o i v H Q ∨ r' o i v H Q) := by
  intro pins s σ H o i v ov iv u Q I ro ri rv q
  rcases q with q | q
  · exact h pins s σ H o i v ov iv u Q I ro ri rv q
  · exact h' pins s σ H o i v ov iv u Q I ro ri rv q
theorem set_any (hu : X.A.units + 100 < cLine) : PSet X rSetA := PSet.or set_list (set_dictA hu)
theorem Owns.setD {K : PySem.W.Frag} {mg : Str → Option Value} {I H : Hp} {x : D} {vx : V} (dx : Den K I x vx) : ∀ {xs : List O} {vs : List V} {S : Pd} (k : Nat), Owns K mg I H xs vs S → Owns K mg I H (xs.set k (.d x)) (vs.set k vx) S
  | _, _, _, _, .nil => .nil
  | _, _, _, 0, .cons a b c d e => .cons (S1 := noP) (.d dx) b (fun _ q => q.elim) d (fun _ q => q.elim)
  | _, _, _, k + 1, .cons a b c d e => .cons a (Owns.setD dx k b) c d e
theorem ss_any : StS X rSetA st_any := by
  intro I H S Q o o' i x v vi vx le dj th w di dx e k
  unfold st_any at e
  split at e
  · rename_i xs
    split at e
    · rename_i i
      rw [Option.map_eq_some_iff] at e
      obtain ⟨j, e1, e3⟩ := e
      cases e3
      cases di
      cases w with
      | @lst a us _ _ S' ha sa os sub nin =>
        obtain ⟨h1, h2, h3⟩ := upd_facts (x := .lst (us.set j vx)) le dj th sa
        exact .inl ⟨a, us, i, j, rfl, rfl, ha, by rw [os.len]; exact e1, k _ h1 h2 h3 (.lst upd_same sa ((os.setD dx j).step (RdLe.of (Same.refl _)) fun b u q e => by rw [upd_ne (fun z => nin (by rw [← z]; exact q))]; exact e) sub nin)⟩
    · cases e
  · rename_i ds
    split at e
    · rename_i hk
      cases e
      rw [Bool.and_eq_true, decide_eq_true_eq] at hk
      obtain ⟨ky, rfl⟩ := isK_of hk.1
      have := di.key
      subst this
      cases w with
      | @dic a kvs _ _ ha sa dk =>
        obtain ⟨h1, h2, h3⟩ := upd_facts (x := .dK (putK kvs ky vx)) le dj th sa
        exact .inr ⟨a, _, rfl, .inl ⟨kvs, ky, ha, rfl, by rw [dk.len]; exact lt_mil hk.2, rfl⟩, k _ h1 h2 h3 (.dic upd_same sa (dk.put dx ky))⟩
    · cases e
  · rename_i ds
    split at e
    · rename_i ks
      split at e
      · rename_i hk
        cases e
        rw [Bool.and_eq_true, decide_eq_true_eq] at hk
        obtain ⟨kl, ek⟩ := Option.isSome_iff_exists.mp hk.1
        have := keyT?_of ek
        subst this
        cases di with
        | @tuple b bs _ sb db =>
          have := db.keys
          subst this
          cases w with
          | @dicT a kvs _ _ ha sa dk =>
            obtain ⟨h1, h2, h3⟩ := upd_facts (x := .dT (putK kvs kl vx)) le dj th sa
            exact .inr ⟨a, _, rfl, .inr ⟨kvs, kl, b, ha, rfl, le _ _ sb, by rw [dk.len]; exact lt_mil hk.2, rfl⟩, k _ h1 h2 h3 (.dicT upd_same sa (dk.put dx kl))⟩
      · cases e
    · cases e
  · cases e
/-- x[e] = v: e may do what it likes; x a slot -/
def G.sub (i : Nat) (g : O → D → D → Option O) (fi : M O) : O → M Unit := fun o ρ0 => match frz o, (Pl.slot i).get ρ0 with
  | some x, some _ => (fi.bind fun oi ρ => match frz oi, (Pl.slot i).get ρ with
    | some i', some o => (match g o i' x with
      | some o' => .ok () ((Pl.slot i).set o' ρ)
      | none => .stuck)
    | _, _ => .stuck) ρ0
  | _, _ => .stuck
def dat : O → Option D
  | .d x => some x
  | _ => none
theorem dat_ok {o : O} {x : D} (h : dat o = some x) : o = .d x := by
  cases o <;> simp [dat] at h
  rw [h]
/-- .. e a view; x any place -/
def G.subV (pl : Pl) (g : O → D → D → Option O) (fi : Env → Option O) : O → M Unit := fun o ρ => match frz o, (fi ρ).bind dat, pl.get ρ with
  | some x, some i, some o1 => (match g o1 i x with
    | some o' => .ok () (pl.set o' ρ)
    | none => .stuck)
  | _, _, _ => .stuck
theorem setG_fin {io : List Nat} {σ : St} {I H : Hp} {φ : Ph} {ρ : Env} {F : Pd} {Q : St → Hp → Prop} {pl : Pl} {o o' : O} {v : V} {S : Pd} (gd : Gd X.K X.mg I H φ ρ σ) (at_ : At X.K X.mg I H φ ρ σ pl o v S) (hf : ∀ a, al φ a → F a)
    (h : PostG X.K X.mg io σ I H F Q (.ok () (pl.set o' ρ))) {H' : Hp} (le : Same I H') (kp : ∀ a x, ¬ S a → H a = some x → H' a = some x) (th : ∀ a, S a → H' a ≠ none) (w : Own X.K X.mg I H' o' v S) : Q σ H' := by
  obtain ⟨i, hi⟩ := at_.sub
  exact h σ H' I φ (Keeps.refl _) ⟨Same.refl _, fun a x e nf => kp a x (fun q => nf (hf a ⟨i, hi a q⟩)) e, fun a q => .inl (hf a q), fun a x e => .inl e⟩ (at_.put H' o' le kp th w)
variable {io : List Nat} {o e : Expr} {pos np : Pos}
theorem eg_subV (pl : Pl) {r : TSet} {g : O → D → D → Option O} {fi : Env → Option O} (hs : PSet X r) (ok : StS X r g) (ho : PlE X o pl) (hi : VE X e fi)
    (ha : ∀ v, assign (.Subscript o e pos) X.env v = (do
      let ov ← holding [v] (eval o X.env)
      let iv ← holding [v, ov] (eval e X.env)
      standAt pos
      holding [v, ov, iv] (setItem ov iv v)
      release [v, ov, iv] []) := by intro _; rfl) : EG X io (.Subscript o e pos) (G.subV pl g fi) := by
  refine ⟨fun pins s σ H v u Q I0 r0 h => (pg_sub ho hi hs ha).run pins s σ H v u Q I0 r0 ?_⟩
  obtain ⟨ρ, I, φ, oo, G0, gd, tm, w, h⟩ := h
  unfold G.subV at h
  split at h
  · rename_i x i o1 e1 e2 e3
    split at h
    · rename_i o' e4
      obtain ⟨gd2, st2⟩ := gd.freeze tm
      have dx : Den X.K (addI I H G0) x v := w.den e1 tm.dj
      rw [Option.bind_eq_some_iff] at e2
      obtain ⟨oi, e2, e5⟩ := e2
      obtain ⟨v1, S1, hv1, at1⟩ := gd2.at e3
      refine ⟨v1, hv1, ρ, _, φ, gd2, ?_⟩
      rw [e2]
      intro vi Si I2 H2 g2 wi
      obtain ⟨v2, S2, hv2, at2⟩ := g2.gd.at e3
      have : v2 = v1 := by
        cases pl with
        | slot i =>
          have h1 : σ[i]? = some (some v1) := hv1
          have h2 : σ[i]? = some (some v2) := hv2
          rw [h1] at h2
          cases h2
          rfl
        | fld i c f =>
          obtain ⟨a, C, dx, fs, k1, k2, k3, k4⟩ := hv1
          obtain ⟨a', C', dx', fs', k1', k2', k3', k4'⟩ := hv2
          rw [k1] at k1'
          cases k1'
          rw [g2.st.kp a _ k2 (fun z => z)] at k2'
          cases k2'
          rw [k4] at k4'
          cases k4'
          rfl
        | item i n =>
          obtain ⟨a, ws', k1, k2, k3⟩ := hv1
          obtain ⟨a', ws2, k1', k2', k3'⟩ := hv2
          rw [k1] at k1'
          cases k1'
          rw [g2.st.kp a _ k2 (fun z => z)] at k2'
          cases k2'
          rw [k3] at k3'
          cases k3'
          rfl
      subst this
      have := dat_ok e5
      subst this
      have di : Den X.K I2 i vi := by
        cases wi with
        | d q => exact q
      obtain ⟨j, hj⟩ := at2.sub
      have h1 := h.shift (Keeps.refl _) (st2.trans (g2.stp gd2))
      exact ok I2 H2 S2 (fun H3 => Q σ H3) o1 o' i x v2 vi v g2.gd.le (fun a q => g2.gd.dj j a (hj a q)) (fun a q => g2.gd.th j a (hj a q)) at2.own di (dx.mono (RdLe.of g2.st.li)) e4 fun H' le kp th w' => setG_fin g2.gd at2 (fun _ z => z) h1 le kp th w'
    · exact h.elim
  · exact h.elim
theorem eg_sub (i : Nat) {x : Str} {r : TSet} {g : O → D → D → Option O} {fi : M O} (hs : PSet X r) (ok : StS X r g) (ho : PlE X (.Name x np) (.slot i)) (hi : EE X W0 e fi)
    (ha : ∀ v, assign (.Subscript (.Name x np) e pos) X.env v = (do
      let ov ← holding [v] (eval (.Name x np) X.env)
      let iv ← holding [v, ov] (eval e X.env)
      standAt pos
      holding [v, ov, iv] (setItem ov iv v)
      release [v, ov, iv] []) := by intro _; rfl) : EG X io (.Subscript (.Name x np) e pos) (G.sub i g fi) := by
  refine ⟨fun pins s σ H v u Q I0 r0 h => (pg_sub ho hi hs ha).run pins s σ H v u Q I0 r0 ?_⟩
  obtain ⟨ρ, I, φ, oo, G0, gd, tm, w, h⟩ := h
  unfold G.sub at h
  split at h
  · rename_i x o0 e1 e3
    obtain ⟨gd2, st2⟩ := gd.freeze tm
    have dx : Den X.K (addI I H G0) x v := w.den e1 tm.dj
    obtain ⟨v1, S1, hv1, at1⟩ := gd2.at e3
    refine ⟨v1, hv1, ?_⟩
    have h := h.shift (Keeps.refl _) st2
    refine bindE (P := PostG X.K X.mg io σ (addI I H G0) H (al φ) Q) gd2 h (fun _ _ z => z.elim) (fun z => z) fun oi ρ1 _ h vi H1 I1 φ1 G1 s1 gd3 t1 w1 => ?_
    have h := h.shift (Keeps.refl _) s1
    split at h
    · rename_i i' o1 e4 e5
      split at h
      · rename_i o' e6
        obtain ⟨gd4, st4⟩ := gd3.freeze t1
        have di : Den X.K (addI I1 H1 G1) i' vi := w1.den e4 t1.dj
        obtain ⟨v2, S2, hv2, at2⟩ := gd4.at e5
        have : v2 = v1 := by
          have h1 : σ[i]? = some (some v1) := hv1
          have h2 : σ[i]? = some (some v2) := hv2
          rw [h1] at h2
          cases h2
          rfl
        subst this
        obtain ⟨j, hj⟩ := at2.sub
        have h := h.shift (Keeps.refl _) st4
        exact ok _ H1 S2 (fun H3 => Q σ H3) o1 o' i' x v2 vi v gd4.le (fun a q => gd4.dj j a (hj a q)) (fun a q => gd4.th j a (hj a q)) at2.own di (dx.mono (RdLe.of (fun a u e => st4.li a u (s1.li a u e)))) e6 fun H' le kp th w' => setG_fin gd4 at2 (fun _ z => z) h le kp th w'
      · exact h.elim
    · exact h.elim
  · exact h.elim
end
end EV

/-! The layer EV, part Q: calls that leave the slots as they are. -/
namespace EV
open PySem PySem.Spec PyProof.Rows L2
/-- S without tuples -/
def noTup (H : Hp) (S : Pd) : Pd := fun a => S a ∧ ∀ vs, H a ≠ some (.tup vs)
section
variable {K : PySem.W.Frag} {mg : Str → Option Value} {I H : Hp}
mutual
theorem Own.tight : ∀ {o : O} {v : V} {S : Pd}, Own K mg I H o v S → Own K mg I H o v (noTup H S)
  | _, _, _, .un => .un
  | _, _, _, .scr q => .scr q
  | _, _, _, .d q => .d q
  | _, _, _, .kst q r => .kst q r
  | _, _, S, .lst a b c d e => .lst a ⟨b, fun vs z => by rw [a] at z; cases z⟩ (Owns.tight c) (fun x q => ⟨d x q.1, q.2⟩) (fun q => e q.1)
  | _, _, _, .tup a b => .tup a (Owns.tight b)
  | _, _, _, .dic a b c => .dic a ⟨b, fun vs z => by rw [a] at z; cases z⟩ c
  | _, _, _, .dicT a b c => .dicT a ⟨b, fun vs z => by rw [a] at z; cases z⟩ c
  | _, _, _, .obj a b c d e f => .obj a b ⟨c, fun vs z => by rw [a] at z; cases z⟩ (OwnF.tight d) (fun x q => ⟨e x q.1, q.2⟩) (fun q => f q.1)
theorem Owns.tight : ∀ {o : List O} {v : List V} {S : Pd}, Owns K mg I H o v S → Owns K mg I H o v (noTup H S)
  | _, _, _, .nil => .nil
  | _, _, _, .cons a b c d e => .cons (Own.tight a) (Owns.tight b) (fun x q => ⟨c x q.1, q.2⟩) (fun x q => ⟨d x q.1, q.2⟩) (fun x q r => e x q.1 r.1)
theorem OwnF.tight : ∀ {o : List (Str × O)} {v : List (Str × V)} {S : Pd}, OwnF K mg I H o v S → OwnF K mg I H o v (noTup H S)
  | _, _, _, .nil => .nil
  | _, _, _, .cons a b c d e => .cons (Own.tight a) (OwnF.tight b) (fun x q => ⟨c x q.1, q.2⟩) (fun x q => ⟨d x q.1, q.2⟩) (fun x q r => e x q.1 r.1)
end
end
/-! ### what holds no address but of tuples -/
mutual
def cleanD : D → Bool
  | .none | .bool _ | .int _ | .str _ => true
  | .tuple xs => cleanDs xs
  | .list _ => false
  | .dict _ => false
def cleanDs : List D → Bool
  | [] => true
  | x :: xs => cleanD x && cleanDs xs
end
mutual
def cleanO : O → Bool
  | .d x => cleanD x
  | .lst xs => cleanOs xs
  | .tup xs => cleanOs xs
  | .dic kvs => kvs.all fun p => cleanD p.2
  | _ => false
def cleanOs : List O → Bool
  | [] => true
  | x :: xs => cleanO x && cleanOs xs
end
section
variable {K : PySem.W.Frag} {mg : Str → Option Value} {I J H : Hp} (h : ∀ a vs, I a = some (.tup vs) → J a = some (.tup vs))
include h
mutual
theorem Den.clean : ∀ {x : D} {v : V}, Den K I x v → cleanD x = true → Den K J x v
  | _, _, .non, _ => .non
  | _, _, .bl b, _ => .bl b
  | _, _, .int i, _ => .int i
  | _, _, .str x, _ => .str x
  | _, _, .tuple s r, e => .tuple (h _ _ s) (DenL.clean r (by simpa [cleanD] using e))
  | _, _, .list _ _, e => by simp [cleanD] at e
  | _, _, .dict _ _, e => by simp [cleanD] at e
  | _, _, .dictT _ _ _, e => by simp [cleanD] at e
  | _, _, .exn _, e => by simp [cleanD] at e
theorem DenL.clean : ∀ {x : List D} {v : List V}, DenL K I x v → cleanDs x = true → DenL K J x v
  | _, _, .nil, _ => .nil
  | _, _, .cons a b, e => by
    simp only [cleanDs, Bool.and_eq_true] at e
    exact .cons (Den.clean a e.1) (DenL.clean b e.2)
end
theorem DenK.clean : ∀ {x : List (D × D)} {v : List (Key × V)}, DenK K I x v → (x.all fun p => cleanD p.2) = true → DenK K J x v
  | _, _, .nil, _ => .nil
  | _, _, .cons a b, e => by
    simp only [List.all_cons, Bool.and_eq_true] at e
    exact .cons (a.clean h e.1) (DenK.clean b e.2)
mutual
theorem Own.clean : ∀ {o : O} {v : V} {S : Pd}, Own K mg I H o v S → cleanO o = true → Own K mg J H o v S
  | _, _, _, .un, e => by simp [cleanO] at e
  | _, _, _, .scr q, e => by simp [cleanO] at e
  | _, _, _, .d q, e => .d (q.clean h (by simpa [cleanO] using e))
  | _, _, _, .kst q r, e => by simp [cleanO] at e
  | _, _, S, .lst a b c d x, e => .lst a b (Owns.clean c (by simpa [cleanO] using e)) d x
  | _, _, _, .tup a b, e => .tup (h _ _ a) (Owns.clean b (by simpa [cleanO] using e))
  | _, _, _, .dic a b c, e => .dic a b (c.clean h (by simpa [cleanO] using e))
  | _, _, _, .dicT a b c, e => by simp [cleanO] at e
  | _, _, _, .obj a b c d x f, e => by simp [cleanO] at e
theorem Owns.clean : ∀ {o : List O} {v : List V} {S : Pd}, Owns K mg I H o v S → cleanOs o = true → Owns K mg J H o v S
  | _, _, _, .nil, _ => .nil
  | _, _, _, .cons a b c d x, e => by
    simp only [cleanOs, Bool.and_eq_true] at e
    exact .cons (Own.clean a e.1) (Owns.clean b e.2) c d x
end
end
/-! ### arguments that are views of what the slots own -/
inductive VsT (K : PySem.W.Frag) (mg : Str → Option Value) (I H : Hp) (T : Pd) : List O → List V → Prop
  | nil : VsT K mg I H T [] []
  | cons {x : O} {xs : List O} {v : V} {vs : List V} {S : Pd} : Own K mg I H x v S → (∀ a, S a → T a) → VsT K mg I H T xs vs → VsT K mg I H T (x :: xs) (v :: vs)
section
variable {K : PySem.W.Frag} {mg : Str → Option Value} {I H I1 H1 : Hp} {φ : Ph} {ρ : Env} {σ : St}
theorem VsT.grow {T : Pd} (g : Grw K mg φ ρ σ I H I1 H1) : ∀ {os : List O} {vs : List V}, VsT K mg I H T os vs → VsT K mg I1 H1 T os vs
  | _, _, .nil => .nil
  | _, _, .cons a b c => .cons (a.grow g) b (VsT.grow g c)
theorem VsT.vws {T : Pd} : ∀ {os : List O} {vs : List V}, VsT K mg I H T os vs → Vws K mg I H os vs
  | _, _, .nil => .nil
  | _, _, .cons a b c => .cons a (VsT.vws c)
def VPb (K : PySem.W.Frag) (mg : Str → Option Value) (φ : Ph) (ρ : Env) (σ : St) (I H : Hp) (Q : List V → Hp → Prop) : Option (List O) → Prop
  | some os => ∀ vs I' H', Grw K mg φ ρ σ I H I' H' → VsT K mg I' H' (al φ) os vs → Q vs H'
  | none => False
theorem VPb.grow {Q : List V → Hp → Prop} (g : Grw K mg φ ρ σ I H I1 H1) {r : Option (List O)} (h : VPb K mg φ ρ σ I H Q r) : VPb K mg φ ρ σ I1 H1 Q r := by
  cases r with
  | none => exact h
  | some o => exact fun v I' H' g' w => h v I' H' (g.trans g') w
def rdVb (K : PySem.W.Frag) (mg : Str → Option Value) (f : Env → Option (List O)) : TA := fun σ H Q => ∃ ρ I φ, Gd K mg I H φ ρ σ ∧ VPb K mg φ ρ σ I H Q (f ρ)
end
abbrev VB (X : Cx) (es : List Expr) (f : Env → Option (List O)) : Prop := PA X es (rdVb X.K X.mg f)
def Vw.dat (f : Env → Option O) : Env → Option O := fun ρ => (f ρ).bind fun o => (EV.dat o).map .d
def Vw.pl (p : Pl) : Env → Option O := fun ρ => p.get ρ
section
variable {X : Cx} {W : WX} {pos : Pos} {a b c e : Expr} {es : List Expr} {f : Env → Option O} {g : Env → Option (List O)}
theorem vb_nil : VB X [] Vw.nil := PA.weak pa_nil fun _ _ _ ⟨_, _, _, gd, h⟩ => h [] _ _ (Grw.refl gd) .nil
/-- an argument that is data -/
theorem vb_d (ha : VE X e f) (hr : VB X es g) (hs : starEach (e :: es) X.env = (false, eval e X.env) :: starEach es X.env := by rfl) : VB X (e :: es) (Vw.cons (Vw.dat f) g) := by
  refine PA.weak (pa_cons ha hr hs) fun σ H Q ⟨ρ, I, φ, gd, h⟩ => ⟨ρ, I, φ, gd, ?_⟩
  unfold Vw.cons Vw.dat at h
  cases e1 : f ρ with
  | none => rw [e1] at h; exact h
  | some x =>
    rw [e1, Option.bind_some] at h
    intro v S I1 H1 g1 w
    cases e3 : EV.dat x with
    | none => rw [e3] at h; exact h.elim
    | some d =>
      rw [e3] at h
      have := dat_ok e3
      subst this
      refine ⟨ρ, I1, φ, g1.gd, ?_⟩
      cases e2 : g ρ with
      | none => rw [e2] at h; exact h
      | some xs =>
        rw [e2] at h
        exact fun vs I2 H2 g2 ws => h (v :: vs) I2 H2 (g1.trans g2) (.cons (S := noP) (w.grow g2).d_any (fun _ z => z.elim) ws)
/-- a place -/
theorem vb_pl {pl : Pl} (ha : PlE X e pl) (hr : VB X es g) (hs : starEach (e :: es) X.env = (false, eval e X.env) :: starEach es X.env := by rfl) : VB X (e :: es) (Vw.cons (Vw.pl pl) g) := by
  refine PA.weak (pa_cons ha hr hs) fun σ H Q ⟨ρ, I, φ, gd, h⟩ => ?_
  unfold Vw.cons Vw.pl at h
  cases e1 : pl.get ρ with
  | none => rw [e1] at h; exact h.elim
  | some x =>
    rw [e1, Option.bind_some] at h
    obtain ⟨v, S, hv, at_⟩ := gd.at e1
    refine ⟨v, hv, ρ, I, φ, gd, ?_⟩
    cases e2 : g ρ with
    | none => rw [e2] at h; exact h
    | some xs =>
      rw [e2] at h
      obtain ⟨i, hi⟩ := at_.sub
      exact fun vs I2 H2 g2 ws => h (v :: vs) I2 H2 g2 (.cons (at_.own.grow g2) (fun a q => ⟨i, hi a q⟩) ws)
theorem VsT.frz {T : Pd} {I H J : Hp} {K : PySem.W.Frag} {mg : Str → Option Value} (hi : RdLe I J) (hh : ∀ a o, T a → H a = some o → J a = some o) : ∀ {os xs : List O} {vs : List V}, VsT K mg I H T os vs → frzArgs os = some xs → Owns K mg J H xs vs noP
  | _, _, _, .nil, e => by rw [frzArgs] at e; cases e; exact .nil
  | _, _, _, .cons a b c, e => by
    rw [frzArgs] at e
    split at e
    · rename_i x xs e1 e2
      cases e
      refine .cons (S1 := noP) (S2 := noP) ?_ (VsT.frz hi hh c e2) (fun _ q => q) (fun _ q => q) (fun _ q => q.elim)
      rcases frzA_cases e1 with ⟨ys, rfl, rfl⟩ | ⟨y, e3, rfl⟩
      · cases a with
        | scr q => exact .scr (hi.sqL q)
      · exact .d (Own.frz hi (fun p o s q => hh p o (b p s) q) a e3)
    · cases e
theorem frzArgs_allD : ∀ {os xs : List O} {ds : List D}, allD os = some ds → frzArgs os = some xs → xs = os
  | [], _, _, _, e => by rw [frzArgs] at e; cases e; rfl
  | o :: os, _, _, h, e => by
    have e' : ∃ x, o = .d x := by cases o <;> simp [EV.allD] at h ⊢
    obtain ⟨x, rfl⟩ := e'
    rw [EV.allD, Option.map_eq_some_iff] at h
    obtain ⟨ys, e2, rfl⟩ := h
    rw [frzArgs] at e
    split at e
    · rename_i y xs e1 e3
      cases e
      have : frzA (O.d x) = some (O.d x) := rfl
      rw [this] at e1
      cases e1
      rw [frzArgs_allD e2 e3]
    · cases e
/-- a call's world: the arguments frozen ahead, as they were behind -/
theorem callP_core {I H : Hp} {φ : Ph} {ρ : Env} {σ : St} {os xs : List O} {vs : List V} {K : PySem.W.Frag} {mg : Str → Option Value} (gd : Gd K mg I H φ ρ σ) (ws : VsT K mg I H (al φ) os vs) (e : frzArgs os = some xs) :
    ∃ I0, Holds I0 H noP ∧ Owns K mg I0 H xs vs noP ∧ ∀ (v : V) (r : O) (I' H' : Hp) (G' : Pd), ((allD os).isSome || cleanO r) = true → Stp I0 H noP I' H' G' → Holds I' H' G' → Own K mg I' H' r v G' →
      ∃ I2, Stp I H noP I2 H' G' ∧ Gd K mg I2 H' φ ρ σ ∧ Tm I2 H' φ G' ∧ Own K mg I2 H' r v G' := by
  have tk : ∀ i a, φ i a → ∃ o, H a = some o := fun i a q => Option.ne_none_iff_exists'.mp (gd.th i a q)
  have tmOf : ∀ {I2 H' : Hp} {I0 I' : Hp} {G' : Pd}, Stp I0 H noP I' H' G' → (∀ a, G' a → I2 a = none) → (∀ a, G' a → H' a ≠ none) → Tm I2 H' φ G' := fun {I2 H' I0 I' G'} s h1 h2 => ⟨h1, h2, fun i a g q => by
    obtain ⟨o, ho⟩ := tk i a q
    rcases s.fr a g with z | z
    · exact z
    · rw [ho] at z; cases z⟩
  cases ea : allD os with
  | some ds =>
    refine ⟨I, ⟨gd.le, fun _ q => q.elim, fun _ q => q.elim⟩, ?_, fun v r I' H' G' _ s hd w => ?_⟩
    · have := frzArgs_allD ea e
      subst this
      have dl := ws.vws.allD ea
      have : xs = ds.map .d := by
        clear e ws dl
        induction xs generalizing ds with
        | nil => rw [EV.allD] at ea; cases ea; rfl
        | cons x xs ih =>
          have e' : ∃ y, x = .d y := by cases x <;> simp [EV.allD] at ea ⊢
          obtain ⟨y, rfl⟩ := e'
          rw [EV.allD, Option.map_eq_some_iff] at ea
          obtain ⟨ys, e2, rfl⟩ := ea
          rw [List.map_cons, ← ih _ e2]
      rw [this]
      exact Owns.ofDen dl
    · exact ⟨I', s, (gd.past s (fun _ _ z => z) hd.le).1, tmOf s hd.dj hd.th, w⟩
  | none =>
    -- the footprints without tuples are frozen
    have gt : Gd K mg I H (fun i => noTup H (φ i)) ρ σ := ⟨gd.le, fun i a q => gd.dj i a q.1, fun i a q => gd.th i a q.1, fun i j a q r => gd.sep i j a q.1 r.1, fun i o e n => by
      obtain ⟨v, e1, w⟩ := gd.sl i o e n
      exact ⟨v, e1, w.tight⟩⟩
    have T : Pd := al fun i => noTup H (φ i)
    have wt : VsT K mg I H (al fun i => noTup H (φ i)) os vs := by
      clear e ea
      induction ws with
      | nil => exact .nil
      | cons a b c ih => exact .cons a.tight (fun x q => by
          obtain ⟨i, q1⟩ := b x q.1
          exact ⟨i, q1, q.2⟩) ih
    have djT : ∀ a, al (fun i => noTup H (φ i)) a → I a = none := fun a ⟨i, q⟩ => gd.dj i a q.1
    refine ⟨addI I H (al fun i => noTup H (φ i)), ⟨addI_le gd.le, fun _ q => q.elim, fun _ q => q.elim⟩, wt.frz (RdLe.of (addI_same djT)) (fun a o q h => by rw [addI_in q]; exact h) e, fun v r I' H' G' hc s hd w => ?_⟩
    have hc : cleanO r = true := by simpa using hc
    -- back
    have off : ∀ a, al φ a → ∀ vs, I' a ≠ some (.tup vs) := by
      rintro a ⟨i, q⟩ vs z
      by_cases t : ∀ vs, H a ≠ some (.tup vs)
      · obtain ⟨o, ho⟩ := tk i a q
        have h1 : addI I H (al fun i => noTup H (φ i)) a = some o := by rw [addI_in ⟨i, q, t⟩]; exact ho
        have h2 := s.li a o h1
        rw [z] at h2
        cases h2
        exact t vs ho
      · have nt : ¬ al (fun i => noTup H (φ i)) a := fun ⟨j, q2⟩ => t q2.2
        rcases s.fi a _ z with y | y | y
        · rw [addI_out nt, gd.dj i a q] at y; cases y
        · exact y
        · obtain ⟨o, ho⟩ := tk i a q
          rw [ho] at y; cases y
    open Classical in
    let I2 : Hp := fun a => if al φ a then none else I' a
    have i2in : ∀ a, al φ a → I2 a = none := fun a q => if_pos q
    have i2out : ∀ a, ¬ al φ a → I2 a = I' a := fun a q => if_neg q
    have keep : ∀ a o, I a = some o → I2 a = some o := fun a o ho => by
      have na : ¬ al φ a := fun ⟨i, q⟩ => by rw [gd.dj i a q] at ho; cases ho
      rw [i2out a na]
      refine s.li a o ?_
      rw [addI_out fun z => by rw [djT a z] at ho; cases ho]
      exact ho
    have le2 : Same I2 H' := fun a o ho => by
      by_cases q : al φ a
      · rw [i2in a q] at ho; cases ho
      · rw [i2out a q] at ho; exact hd.le a o ho
    have kp : ∀ a o, H a = some o → H' a = some o := fun a o ho => s.kp a o ho id
    refine ⟨I2, ⟨keep, fun a o ho _ => kp a o ho, fun a q => ?_, fun a o ho => ?_⟩, ⟨le2, fun i a q => i2in a ⟨i, q⟩, fun i a q => ?_, gd.sep, fun i o e n => ?_⟩, tmOf s (fun a g => ?_) hd.th, w.clean (fun a vs z => ?_) hc⟩
    · exact s.fr a q
    · by_cases q : al φ a
      · rw [i2in a q] at ho; cases ho
      · rw [i2out a q] at ho
        rcases s.fi a o ho with y | y | y
        · rw [addI_out (fun z => q (let ⟨i, z⟩ := z; ⟨i, z.1⟩))] at y
          exact .inl y
        · exact y.elim
        · exact .inr (.inr y)
    · obtain ⟨o, ho⟩ := tk i a q
      rw [kp a o ho]; exact Option.some_ne_none _
    · obtain ⟨u, e1, w1⟩ := gd.sl i o e n
      exact ⟨u, e1, w1.step (RdLe.of keep) fun a x _ z => kp a x z⟩
    · by_cases q : al φ a
      · exact i2in a q
      · rw [i2out a q]; exact hd.dj a g
    · have na : ¬ al φ a := fun q => off a q vs z
      rw [i2out a na]; exact z

/-- a call whose arguments are views: nothing in the slots changes -/
def Vw.callP (n : Nat) (m : List O → FRes) (fs : Env → Option (List O)) : Env → Option O := fun ρ => (fs ρ).bind fun os => (frzArgs os).bind fun xs => if xs.length = n then (match m xs with
  | .ok r [] => if ((allD os).isSome || cleanO r) = true then (frz r).map .d else none
  | _ => none) else none
def E.callP (n : Nat) (m : List O → FRes) (fs : Env → Option (List O)) : M O := fun ρ => match (fs ρ).bind fun os => (frzArgs os).map fun xs => (os, xs) with
  | some (os, xs) => if xs.length = n then (match m xs with
    | .ok r [] => if ((allD os).isSome || cleanO r) = true then .ok r ρ else .stuck
    | .exc c [] => .exc c ρ
    | _ => .stuck) else .stuck
  | none => .stuck
theorem takesW0 : Takes X W0 := fun u s' ⟨_, _, _, _, _, _, _, _, _, _, _, _, _, _, _, _, w⟩ => w.elim
variable {k : Nat} {fa : Addr} {fd : FuncData} {ps : List Str} {m : List O → FRes} {x : Str} {p : Pos} {fs : Env → Option (List O)}
theorem ve_callP (F : FE X.prog X.w X.K X.mg X.base k fa fd ps [] m) (hr : Room k X.A) (hgd : X.A.guards = some []) (hg : Gl X x) (hm : X.mg x = some (.ref fa)) (hk : PySem.W.keepIn X.K (.ref fa) = true) (hb : Binds X.K fd ps []) (tk : Takes X W)
    (ha : VB X (e :: es) fs) (hdb : (x == ("__debug__" : Str)) = false := by decide) (he : starEach (e :: es) X.env = (false, eval e X.env) :: starEach es X.env := by rfl) (hpl : (backTo pos (starEach es X.env)).any (·.1) = false := by rfl) :
    VE X (.Call (.Name x p) (e :: es) [] pos) (Vw.callP ps.length m fs) := by
  refine PE.weak (pe_callG F hr hgd hg hm hk hb (fun σ => passAt tk σ) ha hdb he hpl) fun σ H Q ⟨ρ, I, φ, gd, h⟩ => ⟨ρ, I, φ, gd, ?_⟩
  unfold Vw.callP at h
  cases e1 : fs ρ with
  | none => rw [e1] at h; exact h.elim
  | some os =>
    rw [e1, Option.bind_some] at h
    intro vs I1 H1 g1 ws
    have h := h.grow g1
    cases e2 : frzArgs os with
    | none => rw [e2] at h; exact h.elim
    | some xs =>
      rw [e2, Option.bind_some] at h
      obtain ⟨I0, hd0, ow, back⟩ := callP_core g1.gd ws e2
      split at h
      case isFalse => exact h.elim
      rename_i hl
      refine ⟨xs, I0, noP, hl, hd0, ow, ?_⟩
      split at h
      · rename_i r em
        rw [em]
        split at h
        · rename_i hc
          cases e5 : EV.frz r with
          | none => rw [e5] at h; exact h.elim
          | some d =>
            rw [e5] at h
            intro v H' I' G' s hd w
            cases w with
            | cons a b c _ dis =>
              obtain ⟨I2, s2, g2, t2, w2⟩ := back v r I' H' G' hc s hd (a.mono c)
              obtain ⟨g3, _⟩ := g2.freeze t2
              refine h v noP (addI I2 H' G') H' ⟨⟨fun a x e => addI_same t2.dj a x (s2.li a x e), s2.kp, fun _ q => q.elim, fun a x e => ?_⟩, g3⟩ (.d (w2.den e5 t2.dj))
              by_cases g : G' a
              · exact .inr (s2.fr a g)
              · rw [addI_out g] at e; exact s2.fi a x e
        · exact h.elim
      · exact h.elim
theorem ee_callP (F : FE X.prog X.w X.K X.mg X.base k fa fd ps [] m) (hr : Room k X.A) (hgd : X.A.guards = some []) (hg : Gl X x) (hm : X.mg x = some (.ref fa)) (hk : PySem.W.keepIn X.K (.ref fa) = true) (hb : Binds X.K fd ps []) (tk : Takes X W)
    (ha : VB X (e :: es) fs) (hdb : (x == ("__debug__" : Str)) = false := by decide) (he : starEach (e :: es) X.env = (false, eval e X.env) :: starEach es X.env := by rfl) (hpl : (backTo pos (starEach es X.env)).any (·.1) = false := by rfl) :
    EE X W (.Call (.Name x p) (e :: es) [] pos) (E.callP ps.length m fs) := by
  refine PE.weak (pe_callG F hr hgd hg hm hk hb (fun σ => passAt tk σ) ha hdb he hpl) fun σ H Q ⟨ρ, I, φ, gd, h⟩ => ⟨ρ, I, φ, gd, ?_⟩
  unfold E.callP at h
  cases e1 : fs ρ with
  | none => rw [e1] at h; exact h.elim
  | some os =>
    rw [e1, Option.bind_some] at h
    intro vs I1 H1 g1 ws
    have h := h.shift (g1.stp gd)
    cases e2 : frzArgs os with
    | none => rw [e2] at h; exact h.elim
    | some xs =>
      rw [e2, Option.map_some] at h
      simp only at h
      obtain ⟨I0, hd0, ow, back⟩ := callP_core g1.gd ws e2
      split at h
      case isFalse => exact h.elim
      rename_i hl
      refine ⟨xs, I0, noP, hl, hd0, ow, ?_⟩
      have stp : ∀ {I2 H' : Hp} {G' : Pd}, Stp I1 H1 noP I2 H' G' → Stp I1 H1 (al φ) I2 H' (orP (al φ) G') := fun s => ((s.frame (G := al φ) fun a ⟨i, q⟩ => g1.gd.th i a q).from fun a q => q.elim False.elim id).sub fun a q => q.symm
      cases em : m xs with
      | stuck => rw [em] at h; exact h.elim
      | ok r outs =>
        rw [em] at h
        cases outs with
        | cons _ _ => exact h.elim
        | nil =>
          have h : PostE X.K X.mg W σ I1 H1 (al φ) Q (if ((allD os).isSome || cleanO r) = true then .ok r ρ else .stuck) := h
          split at h
          case isFalse => exact h.elim
          rename_i hc
          intro v H' I' G' s hd w
          cases w with
          | cons a b c d dis =>
            obtain ⟨I2, s2, g2, t2, w2⟩ := back v r I' H' G' hc s hd (a.mono c)
            exact h v H' I2 φ G' (stp s2) g2 t2 w2
      | exc c outs =>
        rw [em] at h
        cases outs with
        | cons _ _ => exact h.elim
        | nil =>
          intro C H' I' G' eC s hd w
          obtain ⟨I2, s2, g2, t2, w2⟩ := back .non (.d .none) I' H' G' (by simp [cleanO, cleanD]) s hd (.d .non)
          exact h C H' I2 φ eC ((stp s2).sub fun a q => .inl q) g2
end
end EV

/-! The layer EV, part R: what the top has written, a def with all that a call asks, the law's end. -/
namespace EV
open PySem PySem.Spec PyProof.Rows L2

/-- an atom of a module's tuple -/
def dvOf : D → He.Dv
  | .int i => .int i
  | .str x => .str x
  | .bool b => .bl b
  | _ => .non
def atomic : D → Bool
  | .int _ | .str _ | .bool _ | .none => true
  | _ => false
theorem den_dv {K : PySem.W.Frag} {I : Hp} {d : D} (h : atomic d = true) : Den K I d ((dvOf d).v K) := by
  cases d <;> first | (cases h; done) | constructor
theorem denL_dv {K : PySem.W.Frag} {I : Hp} : ∀ {ds : List D}, ds.all atomic = true → DenL K I ds ((ds.map dvOf).map (He.Dv.v K))
  | [], _ => .nil
  | d :: ds, h => by
    rw [List.all_cons, Bool.and_eq_true] at h
    exact .cons (den_dv h.1) (denL_dv h.2)
/-- what isinstance asks of an exception's class -/
def excB (K : PySem.W.Frag) (c : Str) : Bool := He.eqO (PySem.W.findIn K (.ref (He.ga K c)) "__getattribute__") (some (some (.builtin "BaseException.__getattribute__"))) &&
  (He.eqO (PySem.W.findIn K (.ref (He.ga K c)) "__getattr__") (some none) && (decide (PySem.W.subIn K (.ref (He.ga K c)) (.type "BaseException") = some true) && (PySem.W.hasDictIn K (He.ga K c) &&
  (He.eqO (PySem.W.findIn K (.ref (He.ga K c)) "__class__") (some (some (.builtin "object.__class__"))) && (He.eqO (PySem.W.specialIn K (.builtin "object.__class__") "__get__") (some (some (.builtin "getset_descriptor.__get__"))) &&
  (decide (PySem.W.takesIn K (.builtin "object.__class__") = some true) && decide (PySem.W.mroIn K (He.ga K c) (.type "object") = some true)))))))
theorem excB_ok {K : PySem.W.Frag} {c : Str} (h : excB K c = true) : ExcC K (He.ga K c) := by
  obtain ⟨h1, h⟩ := He.ba h
  obtain ⟨h2, h⟩ := He.ba h
  obtain ⟨h3, h⟩ := He.ba h
  obtain ⟨h4, h⟩ := He.ba h
  obtain ⟨h5, h⟩ := He.ba h
  obtain ⟨h6, h⟩ := He.ba h
  obtain ⟨h7, h8⟩ := He.ba h
  exact ⟨He.eqO_ok h1, He.eqO_ok h2, of_decide_eq_true h3, h4, He.eqO_ok h5, He.eqO_ok h6, of_decide_eq_true h7, of_decide_eq_true h8⟩
/-- the module's exception classes, each with those that stand above it (and itself) -/
def excsB (K : PySem.W.Frag) (xs : List (Str × List Str)) : Bool := xs.all fun p => excB K p.1 && (decide (PySem.W.kitOne K (.ref (He.ga K p.1)) (.type "ValueError") = some true) &&
  xs.all fun q => decide (PySem.W.kitOne K (.ref (He.ga K p.1)) (.ref (He.ga K q.1)) = some (p.2.contains q.1)))
/-- a module's tables: tuples, exception classes -/
structure Tb where
  tabs : List (Str × List D) := []
  excs : List (Str × List Str) := []
def tbB (K : PySem.W.Frag) (ts : Tb) : Bool := (ts.tabs.all fun t => He.tupB K t.1 (t.2.map dvOf)) && excsB K ts.excs
/-- the Hook: facts, defs, tuples -/
def obsT (fa : List He.Fa) (fn : List He.DefD) (ts : Tb) (K : PySem.W.Frag) : He.AlD × Bool := (He.obsD fa fn K, tbB K ts)
def obsTG (n : Nat) (fa : List He.Fa) (fn : List He.DefD) (ts : Tb) (g : Addr → Option Obj) : He.AlD × Bool := obsT fa fn ts (He.frG g (He.asD g n))
def hookT (n : Nat) (fa : List He.Fa) (fn : List He.DefD) (ts : Tb) : PySem.W.Hook where
  α := He.AlD × Bool
  obs := fun s => obsTG n fa fn ts s.heap.get?
  val := fun _ => (He.valD fn, true)
  says := fun _ h => ∃ K : PySem.W.Frag, K.In h ∧ He.SaysD fa fn K ∧ tbB K ts = true
  of := fun _ _ e => ⟨_, He.frG_in, congrArg Prod.fst e, congrArg Prod.snd e⟩
  keeps := fun _ _ _ ⟨K, hK, c⟩ k => ⟨K, PySem.W.Frag.In.keeps hK k, c⟩
theorem obsTG_eq {n : Nat} {fa : List He.Fa} {fn : List He.DefD} {ts : Tb} {g : Addr → Option Obj} {s : Shared} (h : ∀ a, g a = s.heap.get? a) : obsTG n fa fn ts g = (hookT n fa fn ts).obs s := by
  have e : g = s.heap.get? := funext h
  rw [e] <;> rfl
/-- what the top has written -/
structure Ya (fa : List He.Fa) (fn : List He.DefD) (ts : Tb) (K : PySem.W.Frag) (mg : Str → Option Value) : Prop where
  says : He.SaysD fa fn K
  tabs : tbB K ts = true
  ns : ∃ h : Heap, K.In h ∧ h.Ns mainGlobals mg
section
variable {fa : List He.Fa} {fn : List He.DefD} {ts : Tb} {K : PySem.W.Frag} {mg : Str → Option Value}
theorem Ya.glo (Y : Ya fa fn ts K mg) (i : Nat) {x : Str} (h : fa[i]? = some (.glo x) := by rfl) : mg x = some (.ref (He.ga K x)) := by
  obtain ⟨hp, h1, h2⟩ := Y.ns
  exact He.glo_ok h1 h2 (Y.says.fact i h)
theorem Ya.free (Y : Ya fa fn ts K mg) (i : Nat) {x : Str} (h : fa[i]? = some (.free x) := by rfl) : mg x = none := by
  obtain ⟨hp, h1, h2⟩ := Y.ns
  exact He.free_ok h1 h2 (Y.says.fact i h)
theorem Ya.int (Y : Ya fa fn ts K mg) (i : Nat) {x : Str} {n : Int} (h : fa[i]? = some (.int x n) := by rfl) : ∃ t, mg x = some (.int n t) := by
  obtain ⟨hp, h1, h2⟩ := Y.ns
  exact He.int_ok h1 h2 (Y.says.fact i h)
end
/-- a def of the module, with all that a call asks -/
def Fn (P : Program) (w : World) (K : PySem.W.Frag) (mg : Str → Option Value) (base : Heap) (x : Str) (k : Nat) (ps : List Str) (io : List Nat) (m : List O → FRes) : Prop :=
  ∃ (f : Addr) (fd : FuncData), mg x = some (.ref f) ∧ FE P w K mg base k f fd ps io m ∧ PySem.W.keepIn K (.ref f) = true ∧ Binds K fd ps [] ∧ (∃ oc od osl, K.lookup f = some ⟨oc, od, .func fd, osl⟩) ∧
    ∀ (s : Shared) (us : List Value), us.length = ps.length → BindsTo s fd ⟨us, []⟩ (ps.zip us)
theorem Fn.of {nm : Str} {P : Program} {w : World} {fa : List He.Fa} {fn : List He.DefD} {ts : Tb} {K : PySem.W.Frag} {mg : Str → Option Value} {base : Heap} {x : Str} {st : Stmt} {k : Nat} {N ps : List Str} {io : List Nat} {body : M Fl} (Y : Ya fa fn ts K mg) (i j : Nat)
    (hi : fn[i]? = some ⟨(x, none), nm, nm, defArgs st, defBody st, defScope st, [], []⟩) (hj : fa[j]? = some (.glo x)) (S : FnScope N ps (defScope st)) (hio : io.Nodup) (hps : ∀ i ∈ io, i < ps.length)
    (hb : ∀ (kV doc pm : Value) (an : Option Addr) (cdv ct : Value) (us : List Value), us.length = ps.length → bindArgs (PySem.W.fnOf nm nm (defArgs st) (defBody st) (defScope st) .none kV doc pm an cdv ct) ⟨us, []⟩ = pure (ps.zip us))
    (hbody : ∀ (f : Addr) (cdv : Value) (A : Around) (outer : List PySem.Env) (s : Shared) (H : Hp) (E : XK), Room k (cxOf (L2.CX P w) P w K mg base N nm (defScope st) f cdv A outer s H E).A → (cxOf (L2.CX P w) P w K mg base N nm (defScope st) f cdv A outer s H E).A.guards = some [] →
      Takes (cxOf (L2.CX P w) P w K mg base N nm (defScope st) f cdv A outer s H E) (fun cls d _ H => E cls d H) → EB (cxOf (L2.CX P w) P w K mg base N nm (defScope st) f cdv A outer s H E) (fun cls d _ H => E cls d H) io (defBody st) body) :
    Fn P w K mg base x (k + 1) ps io (runF io N.length body) := by
  obtain ⟨fd, F⟩ := Y.says.def_ i hi
  have F0 := F
  obtain ⟨⟨oc, od, dV, kV, doc, pm, an, cdv, ct, osl, rfl, lk, hcd, hD, hK⟩, kp⟩ := F
  rcases hD with ⟨_, rfl⟩ | ⟨e, _⟩
  · have F1 : Fun K nm nm st (He.fAd K (x, none)) _ := fun_mk lk hcd kp
    exact ⟨_, _, Y.glo j hj, fe_of F1 S hio hps (hbody _), kp, F1.binds hb, ⟨_, _, _, lk⟩, fun s us hl => .of_eq (hb kV doc pm an cdv ct us hl)⟩
  · exact absurd rfl e
section
variable {X : Cx} {W : WX} {pos p : Pos} {e : Expr} {es : List Expr} {x : Str} {k k0 : Nat} {ps : List Str} {m : List O → FRes}
theorem ve_fn {fs : Env → Option (List O)} (F : Fn X.prog X.w X.K X.mg X.base x k ps [] m) (hr : Room k0 X.A) (hgd : X.A.guards = some []) (ha : VB X (e :: es) fs) (hk : k ≤ k0 := by first | decide | omega) (hg : Gl X x := by rfl) (hdb : (x == ("__debug__" : Str)) = false := by decide)
    (he : starEach (e :: es) X.env = (false, eval e X.env) :: starEach es X.env := by rfl) (hpl : (backTo pos (starEach es X.env)).any (·.1) = false := by rfl) : VE X (.Call (.Name x p) (e :: es) [] pos) (Vw.callP ps.length m fs) := by
  obtain ⟨f, fd, hm, F, kp, hb, _⟩ := F
  exact ve_callP F (hr.mono hk) hgd hg hm kp hb takesW0 ha hdb he hpl
theorem ee_fnP {fs : Env → Option (List O)} (F : Fn X.prog X.w X.K X.mg X.base x k ps [] m) (hr : Room k0 X.A) (hgd : X.A.guards = some []) (tk : Takes X W) (ha : VB X (e :: es) fs) (hk : k ≤ k0 := by first | decide | omega) (hg : Gl X x := by rfl) (hdb : (x == ("__debug__" : Str)) = false := by decide)
    (he : starEach (e :: es) X.env = (false, eval e X.env) :: starEach es X.env := by rfl) (hpl : (backTo pos (starEach es X.env)).any (·.1) = false := by rfl) : EE X W (.Call (.Name x p) (e :: es) [] pos) (E.callP ps.length m fs) := by
  obtain ⟨f, fd, hm, F, kp, hb, _⟩ := F
  exact ee_callP F (hr.mono hk) hgd hg hm kp hb tk ha hdb he hpl
theorem ee_fn {fa : M (List O)} (F : Fn X.prog X.w X.K X.mg X.base x k ps [] m) (hr : Room k0 X.A) (hgd : X.A.guards = some []) (tk : Takes X W) (ha : EA X W (e :: es) fa) (hk : k ≤ k0 := by first | decide | omega) (hg : Gl X x := by rfl) (hdb : (x == ("__debug__" : Str)) = false := by decide)
    (he : starEach (e :: es) X.env = (false, eval e X.env) :: starEach es X.env := by rfl) (hpl : (backTo pos (starEach es X.env)).any (·.1) = false := by rfl) : EE X W (.Call (.Name x p) (e :: es) [] pos) (E.call ps.length m fa) := by
  obtain ⟨f, fd, hm, F, kp, hb, _⟩ := F
  exact ee_call F (hr.mono hk) hgd hg hm kp hb tk ha hdb he hpl
theorem ee_fnIO {fa : M (List O)} (i : Nat) {y : Str} {py : Pos} (F : Fn X.prog X.w X.K X.mg X.base x k ps [0] m) (hr : Room k0 X.A) (hgd : X.A.guards = some []) (tk : Takes X W) (hy : PlE X (.Name y py) (.slot i)) (ha : EA X W es fa) (hk : k ≤ k0 := by first | decide | omega) (hg : Gl X x := by rfl) (hdb : (x == ("__debug__" : Str)) = false := by decide)
    (he : starEach (.Name y py :: es) X.env = (false, eval (.Name y py) X.env) :: starEach es X.env := by rfl) (hpl : (backTo pos (starEach es X.env)).any (·.1) = false := by rfl) : EE X W (.Call (.Name x p) (.Name y py :: es) [] pos) (E.callIO ps.length m i fa) := by
  obtain ⟨f, fd, hm, F, kp, hb, _⟩ := F
  exact ee_callIO i F (hr.mono hk) hgd hg hm kp hb tk hy ha hdb he hpl
/-- a module's int -/
theorem ve_gint {n : Int} (hm : ∃ t, X.mg x = some (.int n t)) (hg : Gl X x := by rfl) (hd : (x == ("__debug__" : Str)) = false := by decide) : VE X (.Name x pos) (Vw.c (.int n)) := by
  obtain ⟨t, hm⟩ := hm
  exact ve_c (fun _ => .int n) (pe_glob hg hm ⟨t, rfl⟩ hd)
end

/-- a module's tuple of atoms -/
theorem ve_gtup {fa : List He.Fa} {fn : List He.DefD} {ts : Tb} {x : Str} {pos : Pos} {ds : List D} {X : Cx} (Y : Ya fa fn ts X.K X.mg) (i j : Nat) (hi : fa[i]? = some (.glo x) := by rfl) (hj : ts.tabs[j]? = some (x, ds) := by rfl) (ha : ds.all atomic = true := by rfl) (hg : Gl X x := by rfl) (hd : (x == ("__debug__" : Str)) = false := by decide) : VE X (.Name x pos) (fun _ => some (.kst ds)) := by
  refine PE.weak (pe_glob (v := .ref (He.ga X.K x)) hg (Y.glo i hi) rfl hd) fun σ H Q ⟨ρ, I, φ, gd, h⟩ => ?_
  have ht := List.all_eq_true.mp (He.ba Y.tabs).1 _ (List.mem_of_getElem? hj)
  exact h _ noP I H (Grw.refl gd) (.kst (He.tupB_ok ht I) (denL_dv ha))
theorem Fn.stuck {nm : Str} {P : Program} {w : World} {fa : List He.Fa} {fn : List He.DefD} {ts : Tb} {K : PySem.W.Frag} {mg : Str → Option Value} {base : Heap} {x : Str} {st : Stmt} {k : Nat} {ps : List Str} {io : List Nat} (Y : Ya fa fn ts K mg) (i j : Nat)
    (hi : fn[i]? = some ⟨(x, none), nm, nm, defArgs st, defBody st, defScope st, [], []⟩) (hj : fa[j]? = some (.glo x))
    (hb : ∀ (kV doc pm : Value) (an : Option Addr) (cdv ct : Value) (us : List Value), us.length = ps.length → bindArgs (PySem.W.fnOf nm nm (defArgs st) (defBody st) (defScope st) .none kV doc pm an cdv ct) ⟨us, []⟩ = pure (ps.zip us)) : Fn P w K mg base x k ps io (fun _ => .stuck) := by
  obtain ⟨fd, F⟩ := Y.says.def_ i hi
  obtain ⟨⟨oc, od, dV, kV, doc, pm, an, cdv, ct, osl, rfl, lk, hcd, hD, hK⟩, kp⟩ := F
  rcases hD with ⟨_, rfl⟩ | ⟨e, _⟩
  · have F1 : Fun K nm nm st (He.fAd K (x, none)) _ := fun_mk lk hcd kp
    refine ⟨_, _, Y.glo j hj, ⟨fun vs H Q E h => ?_, fun A outer s H args us vs Q E _ _ _ _ _ h => ?_⟩, kp, F1.binds hb, ⟨_, _, _, lk⟩, fun s us hl => .of_eq (hb kV doc pm an cdv ct us hl)⟩
    · obtain ⟨os, I, G, _, _, _, h⟩ := h
      exact h.elim
    · obtain ⟨os, I, G, _, _, _, h⟩ := h
      exact h.elim
  · exact absurd rfl e

/-! ### the end -/
theorem law_callG {P : Program} {w : World} {K : PySem.W.Frag} {mg mb : Str → Option Value} {k : Nat} {fa a : Addr} {fd : FuncData} {x : Str} {sp : Sp} {s₁ : Shared} {vs : List Value} {ns : List Int}
    (KX : K.In s₁.heap) (hns : s₁.heap.Ns mainGlobals mg) (hb : s₁.heap.Ns builtinsNs mb) (hbb : ∀ x : Str, x ≠ "__name__" → mb x = bootBuiltins x) (hlim : s₁.heap.NoLimit) (hg : s₁.gens = #[])
    (ha : s₁.heap.get? a = some { cls := .type "list", data := .seq vs.toArray }) (hi : IntsAre vs ns) (hl : ns.length ≤ sizeLine) (hr : Room k callerA)
    (F : ∀ base : Heap, K.In base → base.Ns mainGlobals mg → FnG P w K mg base k fa fd [x] sp) (hbind : ∀ (s : Shared) (u : Value), BindsTo s fd ⟨[u], []⟩ [(x, u)])
    (hsp : ∀ H : Hp, Only H → SqL K H a (ns.map V.int) → sp [.ref a] H (fun v _ => v = .bl true) fun _ _ _ => False)
    (hCX : ∀ H e s', L2.CX P w [] H s₁ (fun _ _ _ => False) e s' → False) :
    codeAny (model P w) callerA (.call (.ref fa) ⟨[.ref a], []⟩) (fun r s' => r = .ok (.ret (.bool true)) ∧ OldK s₁.heap s'.heap ∧ s'.os = s₁.os ∧ AllBare s'.gens) s₁ := by
  have rv := vals_ints hi
  have lenV := hi.length
  have core : ∀ H : Hp, Only H → SqL K H a (ns.map V.int) → HOk P w H s₁.heap → (∀ b, H b ≠ none → b = a) → (H a ≠ none → K.lookup a = none) →
      codeAny (model P w) callerA (.call (.ref fa) ⟨[.ref a], []⟩) (fun r s' => r = .ok (.ret (.bool true)) ∧ OldK s₁.heap s'.heap ∧ s'.os = s₁.os ∧ AllBare s'.gens) s₁ := by
    intro H hO hS hok hA hK
    have base_of : ∀ {b : Addr} {o : Obj}, s₁.heap.get? b = some o → H b = none → (hidT s₁.heap H).get? b = some o := fun e n => hidT_get e n
    have noA : ∀ {b : Addr} {o : Obj} {es : Array DictEntry} {ep : Nat}, s₁.heap.get? b = some o → o.data = .dict es ep → H b = none := fun {b o es ep} e d => by
      cases q : H b with
      | none => rfl
      | some u =>
        have e' : b = a := hA b (by rw [q]; simp)
        subst e'
        rw [ha] at e; cases e
        have d' : Data.seq vs.toArray _ = Data.dict es ep := d
        cases d'
    have nsK : ∀ {b : Addr} {m : Str → Option Value}, s₁.heap.Ns b m → (hidT s₁.heap H).Ns b m := fun {b m} ⟨o, es, ep, e, d, r⟩ => ⟨o, es, ep, base_of e (noA e d), d, r⟩
    have hKb : K.In (hidT s₁.heap H) := fun b o e => base_of (KX b o e) (by
      cases q : H b with
      | none => rfl
      | some u =>
        have e' : b = a := hA b (by rw [q]; simp)
        subst e'
        rw [hK (by rw [q]; simp)] at e; cases e)
    have hM : Mod K mg (hidT s₁.heap H) := ⟨hKb, nsK hns, ⟨mb, nsK hb, hbb⟩, let ⟨mc, h1, h2⟩ := hlim; ⟨mc, nsK h1, h2⟩⟩
    have e0 : Env0 P w K mg (hidT s₁.heap H) callerA [] s₁ H := ⟨rfl, hM, fun b o e => of_hidT e, Nat.le_of_eq (hidT_size _ _), trivial, fun b hb => absurd (show b ∈ ([] : List Addr) from hb) (by simp), hok, .of_eq hg⟩
    refine codeAny_mono ((F _ hKb (nsK hns)).run callerA [] s₁ H ⟨[.ref a], []⟩ [.ref a] [.ref a] _ _ hr rfl e0 (hbind s₁ (.ref a)) (.cons rfl .nil) (hsp H hO hS)) fun r s' h => ?_
    cases r with
    | error e => exact (hCX H e s' h).elim
    | ok fl =>
      cases fl with
      | next => exact False.elim h
      | brk => exact False.elim h
      | cont => exact False.elim h
      | ret u =>
        obtain ⟨v, H', os, bare, un, hok', r', q⟩ := h
        have q' : v = .bl true := q
        subst q'
        obtain rfl : u = Value.bool true := r'
        refine ⟨rfl, OldK.of_keep fun b o e => ?_, os, bare⟩
        cases q : H b with
        | none => exact un.keep b o e q (by intro z; exact absurd (show b ∈ ([] : List Addr) from z) (by simp)) (by simp)
        | some u =>
          rcases hO b with z | ⟨ob, xs, z⟩
          · rw [q] at z; cases z
          · have z2 := un.frzs b ob _ z
            obtain ⟨e1, _⟩ := hok b _ z
            obtain ⟨e2, _⟩ := hok' b _ z2
            rw [e] at e1; cases e1
            exact e2
  cases hk : K.lookup a with
  | some o =>
    have e := KX a o hk
    rw [ha] at e
    cases e
    refine core (fun _ => none) (fun _ => .inl rfl) (.inr ⟨_, vs.toArray, _, hk, rfl, rfl, rfl, by rw [List.size_toArray, lenV]; exact hl, by simpa using rv⟩) (fun b u z => by have z' : (none : Option HO) = some u := z; cases z') (fun b z => absurd rfl z) fun z => absurd rfl z
  | none =>
    refine core (fun b => if b = a then some (.frz { cls := .type "list", data := .seq vs.toArray } (.lst (ns.map V.int))) else none) (fun b => ?_) (.inl (.inr ⟨{ cls := .type "list", data := .seq vs.toArray }, if_pos rfl⟩)) (fun b u z => ?_) (fun b z => ?_) fun _ => hk
    · by_cases hb : b = a
      · exact .inr ⟨_, _, if_pos hb⟩
      · exact .inl (if_neg hb)
    · by_cases hb : b = a
      · have z' := (if_pos hb).symm.trans z
        cases z'
        subst hb
        exact ⟨ha, by rw [List.length_map]; exact hl, vs, _, rv, ha⟩
      · have z' := (if_neg hb).symm.trans z
        cases z'
    · by_cases hb : b = a
      · exact hb
      · exact absurd (if_neg hb) z
/-- the law's def is worth m, m answers True for every script -/
theorem walk_G {l : PySem.W.OpenLaw} {n k : Nat} {q : Program} {loose : List Str} {XP : (Str → Option Value) → Heap → Prop} {d : DefRec} {nn : Nat} {fa : List He.Fa} {fn : List He.DefD} {ts : Tb} {m : List O → FRes} {x : Str}
    (hn : l.most = some n) (hn2 : n ≤ sizeLine) (hdf : d.params.defaults = []) (hr : Room k callerA)
    (F : ∀ (w : World) (K : PySem.W.Frag) (mg : Str → Option Value) (base : Heap), Ya fa fn ts K mg → K.In base → base.Ns mainGlobals mg → Fn l.prog w K mg base d.name k [x] [] m)
    (hm : ∀ ns : List Int, ns.length ≤ n → m [.scr ns] = .ok (.d (.bool true)) []) :
    PySem.W.WalkO q loose XP (hookT nn fa fn ts).says l.row.toRowW d [] (fun f vs => PySem.call f vs) := by
  refine Att.attach_call hn hdf fun w s₀ s₁ mg mb fad o pm cd doc a vs ns G Y ho hd hcd hmg hobj hints hlen hg => ?_
  obtain ⟨K, KX, c⟩ := Y
  have Yy : Ya fa fn ts K mg := ⟨c.1, c.2, _, KX, G.T.g⟩
  -- the def's own object, once
  obtain ⟨f, fd, e1, _, kp, _, ⟨oc, od, osl, lk⟩, hb⟩ := F w K mg s₁.heap Yy KX G.T.g
  have : f = fad := by rw [hmg] at e1; cases e1; rfl
  subst this
  have hF : ∀ base : Heap, K.In base → base.Ns mainGlobals mg → FE l.prog w K mg base k f fd [x] [] m := fun base h1 h2 => by
    obtain ⟨f', fd', e2, F', _, _, ⟨oc', od', osl', lk'⟩, _⟩ := F w K mg base Yy h1 h2
    rw [e1] at e2
    cases e2
    rw [lk] at lk'
    cases lk'
    exact F'
  refine law_callG KX G.T.g G.T.b G.T.builtins G.T.nolimit hg hobj hints (Nat.le_trans hlen hn2) hr hF (fun s u => hb s [u] rfl) (fun H hO hS => ?_) fun H e s' h => by
    obtain ⟨_, _, _, _, _, _, _, _, _, _, _, _, h⟩ := h
    exact h.elim
  refine ⟨[.scr ns], H, noP, rfl, ⟨Same.refl _, fun _ q => q.elim, fun _ q => q.elim⟩, .cons (S1 := noP) (S2 := noP) (.scr hS) .nil (fun _ q => q) (fun _ q => q) (fun _ q => q.elim), ?_⟩
  rw [hm ns hlen]
  intro v H' I' G' s hd w
  cases w with
  | cons a b c d dis => exact a.bool
end EV

/-! The layer EV, part S: parallel stores, calls of built-ins on values in hand, raise. -/
namespace EV
open PySem PySem.Spec PyProof.Rows L2
theorem hu100 {k : Nat} {A : Around} (r : Room k A) : A.units + 100 < cLine := by have := r.un; omega
namespace S
def par2 (i j : Nat) (f : M (List O)) : M Fl := f.bind fun os => fun ρ => match os with
  | [x, y] => .ok .nx ((ρ.set i x).set j y)
  | _ => .stuck
def par3 (i j l : Nat) (f : M (List O)) : M Fl := f.bind fun os => fun ρ => match os with
  | [x, y, z] => .ok .nx (((ρ.set i x).set j y).set l z)
  | _ => .stuck
end S
section
variable {X : Cx} {W : WX} {io : List Nat} {pos : Pos} {a b c e : Expr} {es : List Expr}
/-- a value in hand is stored in a slot -/
theorem Gd.store {σ : St} {I H : Hp} {φ : Ph} {ρ : Env} {K : PySem.W.Frag} {mg : Str → Option Value} {i : Nat} {o : O} {v : V} {G : Pd} (gd : Gd K mg I H φ ρ σ) (tm : Tm I H φ G) (w : Own K mg I H o v G) (hσ : i < σ.length) :
    Gd K mg I H (setP φ i G) (ρ.set i o) (σ.set i (some v)) :=
  gd.upd tm.dj tm.th (fun j a g _ => tm.sp j a g) (fun j hj => List.getElem?_set_ne (Ne.symm hj)) fun _ _ => ⟨v, List.getElem?_set_self hσ, w⟩
theorem Tm.store {I H : Hp} {φ : Ph} {i : Nat} {G G2 : Pd} (tm : Tm I H φ G2) (dis : ∀ a, G2 a → ¬ G a) : Tm I H (setP φ i G) G2 := ⟨tm.dj, tm.th, fun j a g q => by
  by_cases z : j = i
  · subst z; rw [setP_same] at q; exact dis a g q
  · rw [setP_ne z] at q; exact tm.sp j a g q⟩
theorem Tm.sub {I H : Hp} {φ : Ph} {G G2 : Pd} (tm : Tm I H φ G) (h : ∀ a, G2 a → G a) : Tm I H φ G2 := ⟨fun a g => tm.dj a (h a g), fun a g => tm.th a (h a g), fun i a g => tm.sp i a (h a g)⟩
theorem es_par2 (i j : Nat) {x y : Str} {fa : M (List O)} {px py pt : Pos} {kt k2 pt2} (hN : X.N.Nodup) (ha : EA X W [a, b] fa) (hc : X.calm = true := by rfl) (hi : X.N[i]? = some x := by rfl) (hj : X.N[j]? = some y := by rfl) (hij : i ≠ j := by decide)
    (hx : X.env.scope.names.lookup x = some .local := by rfl) (hy : X.env.scope.names.lookup y = some .local := by rfl) (hio : i ∉ io := by decide) (hjo : j ∉ io := by decide)
    (hw : swappedStores [.Tuple [.Name x px, .Name y py] kt pt] (.Tuple [a, b] k2 pt2) X.env = pure (some [x, y]) := by rfl)
    (hs : swapsWithSole [.Tuple [.Name x px, .Name y py] kt pt] (.Tuple [a, b] k2 pt2) pos.line X.env = pure false := by rfl) :
    ES X W io (.Assign [.Tuple [.Name x px, .Name y py] kt pt] (.Tuple [a, b] k2 pt2) pos) (S.par2 i j fa) := by
  refine ⟨fun pins s σ H D I0 h => (ps_par hc hN hi hj hij hx hy ha hw hs).run pins s σ H D I0 ?_⟩
  have hlen : σ.length = X.N.length := I0.len
  have hil := (List.getElem?_eq_some_iff.mp hi).1
  have hjl := (List.getElem?_eq_some_iff.mp hj).1
  obtain ⟨ρ, I, φ, gd, h⟩ := h
  refine bindA (P := PostS X.K X.mg W io σ I H (al φ) D) gd h (fun _ _ z => z.exc) (fun z => z) fun os ρ1 _ h vs H1 I1 φ1 G1 s1 gd1 t1 w1 => ?_
  split at h
  · rename_i x y
    cases w1 with
    | @cons _ _ v vs' _ S1 S2 a1 b1 c1 d1 dis =>
      cases b1 with
      | @cons _ _ u vs'' _ S3 S4 a2 b2 c2 d2 dis2 =>
        cases b2
        refine ⟨v, u, rfl, ?_⟩
        have g1 := gd1.store (i := i) (t1.sub c1) a1 (by rw [hlen]; exact hil)
        have t2 : Tm I1 H1 (setP φ1 i S1) S3 := ((t1.sub d1).sub c2).store fun q g s => dis q s (c2 q g)
        have g2 := g1.store (i := j) t2 a2 (by rw [List.length_set, hlen]; exact hjl)
        refine h _ H1 I1 _ ((keeps_set hio).trans (keeps_set hjo)) (s1.sub fun q z => ?_) g2
        rcases al_setP z with z | z
        · exact .inr (d1 q (c2 q z))
        · rcases al_setP z with z | z
          · exact .inr (c1 q z)
          · exact .inl z
  · exact h.elim
theorem es_par3 (i j l : Nat) {x y z : Str} {fa : M (List O)} {px py pz pt : Pos} {kt k2 pt2} (hN : X.N.Nodup) (ha : EA X W [a, b, c] fa) (hc : X.calm = true := by rfl) (hi : X.N[i]? = some x := by rfl) (hj : X.N[j]? = some y := by rfl) (hl : X.N[l]? = some z := by rfl) (hij : i ≠ j := by decide) (hil' : i ≠ l := by decide) (hjl' : j ≠ l := by decide)
    (hx : X.env.scope.names.lookup x = some .local := by rfl) (hy : X.env.scope.names.lookup y = some .local := by rfl) (hz : X.env.scope.names.lookup z = some .local := by rfl) (hio : i ∉ io := by decide) (hjo : j ∉ io := by decide) (hlo : l ∉ io := by decide)
    (hw : swappedStores [.Tuple [.Name x px, .Name y py, .Name z pz] kt pt] (.Tuple [a, b, c] k2 pt2) X.env = pure (some [x, y, z]) := by rfl)
    (hs : swapsWithSole [.Tuple [.Name x px, .Name y py, .Name z pz] kt pt] (.Tuple [a, b, c] k2 pt2) pos.line X.env = pure false := by rfl) :
    ES X W io (.Assign [.Tuple [.Name x px, .Name y py, .Name z pz] kt pt] (.Tuple [a, b, c] k2 pt2) pos) (S.par3 i j l fa) := by
  refine ⟨fun pins s σ H D I0 h => (ps_par3 hc hN hi hj hl hij hil' hjl' hx hy hz ha hw hs).run pins s σ H D I0 ?_⟩
  have hlen : σ.length = X.N.length := I0.len
  have hil := (List.getElem?_eq_some_iff.mp hi).1
  have hjl := (List.getElem?_eq_some_iff.mp hj).1
  have hll := (List.getElem?_eq_some_iff.mp hl).1
  obtain ⟨ρ, I, φ, gd, h⟩ := h
  refine bindA (P := PostS X.K X.mg W io σ I H (al φ) D) gd h (fun _ _ z => z.exc) (fun z => z) fun os ρ1 _ h vs H1 I1 φ1 G1 s1 gd1 t1 w1 => ?_
  split at h
  · rename_i x y z
    cases w1 with
    | @cons _ _ v vs' _ S1 S2 a1 b1 c1 d1 dis =>
      cases b1 with
      | @cons _ _ u vs'' _ S3 S4 a2 b2 c2 d2 dis2 =>
        cases b2 with
        | @cons _ _ q vs3 _ S5 S6 a3 b3 c3 d3 dis3 =>
          cases b3
          refine ⟨v, u, q, rfl, ?_⟩
          have g1 := gd1.store (i := i) (t1.sub c1) a1 (by rw [hlen]; exact hil)
          have t2 : Tm I1 H1 (setP φ1 i S1) S3 := ((t1.sub d1).sub c2).store fun q g s => dis q s (c2 q g)
          have g2 := g1.store (i := j) t2 a2 (by rw [List.length_set, hlen]; exact hjl)
          have t3 : Tm I1 H1 (setP (setP φ1 i S1) j S3) S5 := ((((t1.sub d1).sub d2).sub c3).store fun q g s => dis q s (d2 q (c3 q g))).store fun q g s => dis2 q s (c3 q g)
          have g3 := g2.store (i := l) t3 a3 (by rw [List.length_set, List.length_set, hlen]; exact hll)
          refine h _ H1 I1 _ (((keeps_set hio).trans (keeps_set hjo)).trans (keeps_set hlo)) (s1.sub fun q z => ?_) g3
          rcases al_setP z with z | z
          · exact .inr (d1 q (d2 q (c3 q z)))
          · rcases al_setP z with z | z
            · exact .inr (d1 q (c2 q z))
            · rcases al_setP z with z | z
              · exact .inr (c1 q z)
              · exact .inl z
  · exact h.elim

/-! ### built-ins on values in hand -/
theorem opN_read {r : List V → Hp → VK → Prop} {g : List O → Option O} {fa : M (List O)} (ok : VwN X r g) (hd : ∀ xs z, g xs = some z → ∃ d, z = .d d) {σ : St} {H : Hp} {Q : VK} (h : rdE X.K X.mg W (E.opN g fa) σ H Q) : tCB r (rdA X.K X.mg W fa) σ H Q := by
  obtain ⟨ρ, I, φ, gd, h⟩ := h
  refine bindA (P := PostE X.K X.mg W σ I H (al φ) Q) gd h (fun _ _ z => z) (fun z => z) fun os ρ1 _ h vs H1 I1 φ1 G1 s1 gd1 t1 w1 => ?_
  have h' := h.shift s1
  cases e : g os with
  | none => simp only [e, M.opt, M.fail] at h'; exact h'.elim
  | some z =>
    simp only [e, M.opt, M.ret] at h'
    obtain ⟨d, rfl⟩ := hd os z e
    refine ok I1 H1 φ1 ρ1 σ Q os _ vs gd1 (Vws.own w1) e fun v S I' H' g w => ?_
    exact h' v H' I' φ1 noP (((g.stp gd1).sub fun c q => q.elim id False.elim).from fun c q => .inl q) g.gd Tm.none w.d_any
theorem frN_read {r : List V → Hp → VK → Prop} {g : List O → Option O} {fa : M (List O)} (ok : FrN X r g) {σ : St} {H : Hp} {Q : VK} (h : rdE X.K X.mg W (E.opN g fa) σ H Q) : tCB r (rdA X.K X.mg W fa) σ H Q := by
  obtain ⟨ρ, I, φ, gd, h⟩ := h
  refine bindA (P := PostE X.K X.mg W σ I H (al φ) Q) gd h (fun _ _ z => z) (fun z => z) fun os ρ1 _ h vs H1 I1 φ1 G1 s1 gd1 t1 w1 => ?_
  have h' := h.shift s1
  cases e : g os with
  | none => simp only [e, M.opt, M.fail] at h'; exact h'.elim
  | some z =>
    simp only [e, M.opt, M.ret] at h'
    refine ok I1 H1 φ1 ρ1 σ Q os z vs gd1 (Vws.own w1) e fun v I' H' G s gd' t w => ?_
    exact h' v H' I' φ1 G ((((s.frame (G := al φ1) fun x ⟨i, q⟩ => gd1.th i x q).from fun x q => q.elim False.elim id).sub fun x q => q.symm).from fun x q => .inl q) gd' t w
variable {x : Str} {p : Pos} {id T : String} {r : List V → Hp → VK → Prop} {g : List O → Option O} {fa : M (List O)}
theorem ee_callBE (hc : CallR X (.builtin id) r) (ok : VwN X r g) (hd : ∀ xs z, g xs = some z → ∃ d, z = .d d) (ha : EA X W (e :: es) fa) (hm : X.mg x = none) (hg : Gl X x := by rfl) (hv : bootBuiltins x = some (.builtin id) := by rfl) (hn : x ≠ "__name__" := by decide) (hdb : (x == ("__debug__" : Str)) = false := by decide)
    (he : starEach (e :: es) X.env = (false, eval e X.env) :: starEach es X.env := by rfl) (hpl : (backTo pos (starEach es X.env)).any (·.1) = false := by rfl) : EE X W (.Call (.Name x p) (e :: es) [] pos) (E.opN g fa) :=
  PE.weak (pe_callB hc hg hm hv ha hn hdb he hpl) fun _ _ _ h => opN_read ok hd h
theorem ee_callTyE (hc : CallR X (.type T) r) (ok : VwN X r g) (hd : ∀ xs z, g xs = some z → ∃ d, z = .d d) (ha : EA X W (e :: es) fa) (hm : X.mg x = none) (hg : Gl X x := by rfl) (hv : bootBuiltins x = some (.type T) := by rfl) (hn : x ≠ "__name__" := by decide) (hdb : (x == ("__debug__" : Str)) = false := by decide)
    (he : starEach (e :: es) X.env = (false, eval e X.env) :: starEach es X.env := by rfl) (hpl : (backTo pos (starEach es X.env)).any (·.1) = false := by rfl) : EE X W (.Call (.Name x p) (e :: es) [] pos) (E.opN g fa) :=
  PE.weak (pe_callTy hc hg hm hv ha hn hdb he hpl) fun _ _ _ h => opN_read ok hd h
theorem ee_frBE (hc : CallR X (.builtin id) r) (ok : FrN X r g) (ha : EA X W (e :: es) fa) (hm : X.mg x = none) (hg : Gl X x := by rfl) (hv : bootBuiltins x = some (.builtin id) := by rfl) (hn : x ≠ "__name__" := by decide) (hdb : (x == ("__debug__" : Str)) = false := by decide)
    (he : starEach (e :: es) X.env = (false, eval e X.env) :: starEach es X.env := by rfl) (hpl : (backTo pos (starEach es X.env)).any (·.1) = false := by rfl) : EE X W (.Call (.Name x p) (e :: es) [] pos) (E.opN g fa) :=
  PE.weak (pe_callB hc hg hm hv ha hn hdb he hpl) fun _ _ _ h => frN_read ok h
theorem ee_frTyE (hc : CallR X (.type T) r) (ok : FrN X r g) (ha : EA X W (e :: es) fa) (hm : X.mg x = none) (hg : Gl X x := by rfl) (hv : bootBuiltins x = some (.type T) := by rfl) (hn : x ≠ "__name__" := by decide) (hdb : (x == ("__debug__" : Str)) = false := by decide)
    (he : starEach (e :: es) X.env = (false, eval e X.env) :: starEach es X.env := by rfl) (hpl : (backTo pos (starEach es X.env)).any (·.1) = false := by rfl) : EE X W (.Call (.Name x p) (e :: es) [] pos) (E.opN g fa) :=
  PE.weak (pe_callTy hc hg hm hv ha hn hdb he hpl) fun _ _ _ h => frN_read ok h
/-- answers that are data -/
theorem isd_len (xs : List O) (z : O) (e : o_len xs = some z) : ∃ d, z = .d d := by
  unfold o_len at e
  repeat' split at e
  all_goals first | (cases e; done) | (cases e; exact ⟨_, rfl⟩)
theorem isd_int (xs : List O) (z : O) (e : b_int xs = some z) : ∃ d, z = .d d := by
  unfold b_int at e
  repeat' split at e
  all_goals first | (cases e; done) | (cases e; exact ⟨_, rfl⟩)
theorem isd_abs (xs : List O) (z : O) (e : b_abs xs = some z) : ∃ d, z = .d d := by
  unfold b_abs at e
  repeat' split at e
  all_goals first | (cases e; done) | (cases e; exact ⟨_, rfl⟩)
theorem isd_max (xs : List O) (z : O) (e : b_max xs = some z) : ∃ d, z = .d d := by
  unfold b_max at e
  split at e
  · cases e; exact ⟨_, rfl⟩
  · rw [Option.bind_eq_some_iff] at e
    obtain ⟨ns, _, e⟩ := e
    split at e
    · cases e
    · cases e; exact ⟨_, rfl⟩
  · cases e
theorem isd_min (xs : List O) (z : O) (e : b_min xs = some z) : ∃ d, z = .d d := by
  unfold b_min at e
  split at e
  · cases e; exact ⟨_, rfl⟩
  · rw [Option.bind_eq_some_iff] at e
    obtain ⟨ns, _, e⟩ := e
    split at e
    · cases e
    · cases e; exact ⟨_, rfl⟩
  · cases e
theorem isd_sum (xs : List O) (z : O) (e : b_sum xs = some z) : ∃ d, z = .d d := by
  unfold b_sum at e
  split at e
  · rw [Option.map_eq_some_iff] at e; obtain ⟨_, _, rfl⟩ := e; exact ⟨_, rfl⟩
  · cases e
theorem isd_any (xs : List O) (z : O) (e : b_any xs = some z) : ∃ d, z = .d d := by
  unfold b_any at e
  split at e
  · rw [Option.map_eq_some_iff] at e; obtain ⟨_, _, rfl⟩ := e; exact ⟨_, rfl⟩
  · cases e
theorem isd_all (xs : List O) (z : O) (e : b_all xs = some z) : ∃ d, z = .d d := by
  unfold b_all at e
  split at e
  · rw [Option.map_eq_some_iff] at e; obtain ⟨_, _, rfl⟩ := e; exact ⟨_, rfl⟩
  · cases e
/-! ### tuple(x) -/
def b_tuple : List O → Option O
  | [x] => (match G.titems x with
    | some xs => (allD xs).map fun ds => .d (.tuple ds)
    | none => (listD x).map fun ds => .d (.tuple ds))
  | _ => none
theorem isd_tuple (xs : List O) (z : O) (e : b_tuple xs = some z) : ∃ d, z = .d d := by
  unfold b_tuple at e
  split at e
  · split at e <;> (rw [Option.map_eq_some_iff] at e; obtain ⟨_, _, rfl⟩ := e; exact ⟨_, rfl⟩)
  · cases e
theorem vw_tuple : VwN X (fun xs H Q => ∃ p ys, xs = [V.ref p] ∧ ((SqL X.K H p ys ∧ ∀ l, H l = none → Q (.ref l) (upd H l (.tup ys))) ∨ (SqT X.K H p ys ∧ Q (.ref p) H))) b_tuple := by
  intro I H φ ρ σ Q xs z as gd ws e h
  unfold b_tuple at e
  split at e
  · obtain ⟨v, S, rfl, w⟩ := ws.one
    split at e
    · rename_i xs e1
      rw [Option.map_eq_some_iff] at e
      obtain ⟨ds, e2, rfl⟩ := e
      obtain ⟨a, vs, rfl, q, o⟩ := w.titems e1
      exact ⟨a, vs, rfl, .inr ⟨SqT.of (gd.le _ _ q), h.d gd (.tuple q (o.allD e2))⟩⟩
    · rw [Option.map_eq_some_iff] at e
      obtain ⟨ds, e2, rfl⟩ := e
      obtain ⟨a, vs, rfl, q, o⟩ := w.listD gd.le e2
      exact ⟨a, vs, rfl, .inl ⟨q, fun l hl => h.tup gd o hl⟩⟩
  · cases e
end
/-! ### the built-ins' names -/
theorem bt_int : bootBuiltins "int" = some (.type "int") := by rfl
theorem bt_bool : bootBuiltins "bool" = some (.type "bool") := by rfl
theorem bt_str : bootBuiltins "str" = some (.type "str") := by rfl
theorem bt_list : bootBuiltins "list" = some (.type "list") := by rfl
theorem bt_tuple : bootBuiltins "tuple" = some (.type "tuple") := by rfl
theorem bt_dict : bootBuiltins "dict" = some (.type "dict") := by rfl
theorem bt_set : bootBuiltins "set" = some (.type "set") := by rfl
theorem bt_len : bootBuiltins "len" = some (.builtin "len") := by rfl
theorem bt_abs : bootBuiltins "abs" = some (.builtin "abs") := by rfl
theorem bt_max : bootBuiltins "max" = some (.builtin "max") := by rfl
theorem bt_min : bootBuiltins "min" = some (.builtin "min") := by rfl
theorem bt_sum : bootBuiltins "sum" = some (.builtin "sum") := by rfl
theorem bt_any : bootBuiltins "any" = some (.builtin "any") := by rfl
theorem bt_all : bootBuiltins "all" = some (.builtin "all") := by rfl
theorem bt_sorted : bootBuiltins "sorted" = some (.builtin "sorted") := by rfl
theorem bt_repr : bootBuiltins "repr" = some (.builtin "repr") := by rfl
theorem bt_isinstance : bootBuiltins "isinstance" = some (.builtin "isinstance") := by rfl
/-! ### raise, by the facts -/
theorem es_raiseY {fa : List He.Fa} {fn : List He.DefD} {ts : Tb} {X : Cx} {W : WX} {io : List Nat} {x m : Str} {j : Nat} {p p2 pos rpos : Pos} (Y : Ya fa fn ts X.K X.mg) (i i2 : Nat) (tk : Takes X W) (h1 : fa[i]? = some (.exc x) := by rfl) (h2 : fa[i2]? = some (.glo x) := by rfl) (hc : X.calm = true := by rfl) (hg : Gl X x := by rfl)
    (hdb : (x == ("__debug__" : Str)) = false := by decide) : ES X W io (.Raise (some (.Call (.Name x p) [.Constant (.str m) j p2] [] pos)) none rpos) (S.raise x) := by
  obtain ⟨q, kC, s1, s2⟩ := He.exc_ok (Y.says.fact i h1)
  exact es_raise (bm := []) hc tk PySem.F.excBase_ValueError q (Y.glo i2 h2) kC (raises_own s1 s2) hg hdb
end EV

/-! The layer EV, part T: dict displays, get, count, index, list(range). -/
namespace EV
open PySem PySem.Spec PyProof.Rows L2
/-! ### {k: v, ..} -/
def Vw.pairs : List ((Env → Option O) × (Env → Option O)) → Env → Option (List (D × D))
  | [], _ => some []
  | (fk, fv) :: r, ρ => (fk ρ).bind fun k => (EV.dat k).bind fun dk => (fv ρ).bind fun v => (EV.dat v).bind fun dv => if isK dk then (Vw.pairs r ρ).map ((dk, dv) :: ·) else none
def mergeKD (ds more : List (D × D)) : List (D × D) := more.foldl (fun acc p => putKD acc p.1 p.2) ds
inductive VPairs (X : Cx) (pos : Pos) : List (Option Expr) → List Expr → List ((Env → Option O) × (Env → Option O)) → Prop
  | nil : VPairs X pos [] [] []
  | cons {k v : Expr} {ks : List (Option Expr)} {vs : List Expr} {fk fv : Env → Option O} {fs : List ((Env → Option O) × (Env → Option O))} : VE X k fk → VE X v fv → VPairs X pos ks vs fs → VPairs X pos (some k :: ks) (v :: vs) ((fk, fv) :: fs)
def rdPs (K : PySem.W.Frag) (mg : Str → Option Value) (fs : List ((Env → Option O) × (Env → Option O))) : List (TE × TE) := fs.map fun p => (rdV K mg p.1, rdV K mg p.2)
section
variable {X : Cx} {W : WX} {pos : Pos} {keys : List (Option Expr)} {values : List Expr} {fs : List ((Env → Option O) × (Env → Option O))}
theorem VPairs.pps : ∀ {ks : List (Option Expr)} {vs : List Expr} {fs : List ((Env → Option O) × (Env → Option O))}, VPairs X pos ks vs fs → PPs X pos ks vs (rdPs X.K X.mg fs)
  | _, _, _, .nil => pps_nil
  | _, _, _, .cons a b c => pps_cons a b c.pps
theorem VPairs.len : ∀ {ks : List (Option Expr)} {vs : List Expr} {fs : List ((Env → Option O) × (Env → Option O))}, VPairs X pos ks vs fs → ks.length = vs.length ∧ ks.all (·.isSome) = true ∧ ks.length = fs.length
  | _, _, _, .nil => ⟨rfl, rfl, rfl⟩
  | _, _, _, .cons a b c => by
    obtain ⟨h1, h2, h3⟩ := c.len
    exact ⟨by simp [h1], by simp [h2], by simp [h3]⟩
theorem DenK.merge {K : PySem.W.Frag} {I : Hp} : ∀ {more : List (D × D)} {mk : List (Key × V)} {ds : List (D × D)} {kvs : List (Key × V)}, DenK K I more mk → DenK K I ds kvs → DenK K I (mergeKD ds more) (mergeK kvs mk)
  | _, _, _, _, .nil, h => h
  | _, _, _, _, .cons (k := k) a b, h => by
    have := DenK.merge b (h.put a k)
    exact this
theorem DenK.grow {K : PySem.W.Frag} {I J : Hp} (h : RdLe I J) {ds : List (D × D)} {kvs : List (Key × V)} (d : DenK K I ds kvs) : DenK K J ds kvs := d.mono h
/-- the pairs, read -/
theorem pairs_read {σ : St} {ρ : Env} {φ : Ph} : ∀ {fs : List ((Env → Option O) × (Env → Option O))} {ds : List (D × D)} {I H : Hp} {Q : List (V × V) → Hp → Prop}, Gd X.K X.mg I H φ ρ σ → Vw.pairs fs ρ = some ds →
    (∀ kvs I1 H1, Grw X.K X.mg φ ρ σ I H I1 H1 → DenK X.K I1 ds kvs → Q (kvs.map fun kv => (kV kv.1, kv.2)) H1) → tPairs (rdPs X.K X.mg fs) σ H Q
  | [], _, I, H, Q, gd, e, k => by
    rw [Vw.pairs] at e; cases e
    exact k [] I H (Grw.refl gd) .nil
  | (fk, fv) :: r, _, I, H, Q, gd, e, k => by
    rw [Vw.pairs] at e
    simp only [Option.bind_eq_some_iff] at e
    obtain ⟨ok, e1, dk, e2, ov, e3, dv, e4, e⟩ := e
    split at e
    case isFalse => cases e
    rename_i hk
    rw [Option.map_eq_some_iff] at e
    obtain ⟨ds, e5, rfl⟩ := e
    have := dat_ok e2
    subst this
    have := dat_ok e4
    subst this
    obtain ⟨ky, rfl⟩ := isK_of hk
    refine ⟨ρ, I, φ, gd, ?_⟩
    show VP X.K X.mg φ ρ σ I H _ (fk ρ)
    rw [e1]
    intro v S I1 H1 g1 w
    refine ⟨ρ, I1, φ, g1.gd, ?_⟩
    show VP X.K X.mg φ ρ σ I1 H1 _ (fv ρ)
    rw [e3]
    intro u T I2 H2 g2 w2
    refine pairs_read g2.gd e5 fun kvs I3 H3 g3 dk3 => ?_
    have hv : v = kV ky := by
      cases w with
      | d q => exact q.key
    subst hv
    have du : Den X.K I3 dv u := by
      cases w2 with
      | d q => exact q.mono (RdLe.of g3.st.li)
    exact k ((ky, u) :: kvs) I3 H3 ((g1.trans g2).trans g3) (.cons du dk3)
theorem pairs_len {ρ : Env} : ∀ {fs : List ((Env → Option O) × (Env → Option O))} {ds : List (D × D)}, Vw.pairs fs ρ = some ds → ds.length = fs.length
  | [], _, e => by rw [Vw.pairs] at e; cases e; rfl
  | (fk, fv) :: r, _, e => by
    rw [Vw.pairs] at e
    simp only [Option.bind_eq_some_iff] at e
    obtain ⟨_, _, _, _, _, _, _, _, e⟩ := e
    split at e
    · rw [Option.map_eq_some_iff] at e
      obtain ⟨ds, e5, rfl⟩ := e
      rw [List.length_cons, List.length_cons, pairs_len e5]
    · cases e
def Vw.disp (fs : List ((Env → Option O) × (Env → Option O))) : Env → Option O := fun ρ => (Vw.pairs fs ρ).map fun ds => .dic (mergeKD [] ds)
theorem ee_disp (h : VPairs X pos keys values fs) (h0 : keys ≠ [] := by intro z; cases z) (h15 : keys.length ≤ 15 := by decide) : EE X W (.Dict keys values pos) (E.fr (Vw.disp fs)) := by
  obtain ⟨l1, l2, l3⟩ := h.len
  refine PE.weak (pe_disp h.pps l2 l1 h0 h15) fun σ H Q ⟨ρ, I, φ, gd, h⟩ => ?_
  unfold E.fr Vw.disp at h
  cases e : Vw.pairs fs ρ with
  | none => rw [e] at h; exact h.elim
  | some ds =>
    rw [e] at h
    intro p hp
    have gd1 : Gd X.K X.mg I (upd H p (.dK [])) φ ρ σ := gd.new hp
    have hl : ds.length = fs.length := pairs_len e
    refine pairs_read gd1 e fun kvs I1 H1 g1 dk => ?_
    have hp1 : H1 p = some (.dK []) := g1.st.kp p _ upd_same (fun z => z)
    refine ⟨hp1, kvs, rfl, by rw [dk.len, hl, ← l3]; exact h15, ?_⟩
    have i1p : I1 p = none := by
      cases e1 : I1 p with
      | none => rfl
      | some x =>
        rcases g1.st.fi p x e1 with z | z | z
        · rw [gd.free hp] at z; cases z
        · exact z.elim
        · rw [upd_same] at z; cases z
    have np : ¬ al φ p := gd.nfree hp
    have s3 : Stp I1 H1 (fun a => a = p) I1 (upd H1 p (.dK (mergeK [] kvs))) (fun a => a = p) := ⟨Same.refl _, fun a x ea na => by rw [upd_ne na]; exact ea, fun a q => .inl q, fun a x ea => .inl ea⟩
    have s2 : Stp I (upd H p (.dK [])) (orP (al φ) fun a => a = p) I1 H1 (orP (al φ) fun a => a = p) := ((g1.st.frame (G := orP (al φ) fun a => a = p) fun a q => by
      rcases q with ⟨i, q⟩ | rfl
      · exact gd1.th i a q
      · rw [upd_same]; exact Option.some_ne_none _).from fun a q => q.elim False.elim id).sub fun a q => .inr q
    have s1 : Stp I H (al φ) I (upd H p (.dK [])) (orP (al φ) fun a => a = p) := Stp.new hp fun a q => q
    have s3' : Stp I1 H1 (orP (al φ) fun a => a = p) I1 (upd H1 p (.dK (mergeK [] kvs))) (orP (al φ) fun a => a = p) := ((s3.frame (G := al φ) fun a ⟨i, q⟩ => g1.gd.th i a q).from fun a q => q.symm).sub fun a q => q.symm
    have le : Same I1 (upd H1 p (.dK (mergeK [] kvs))) := fun a x ea => by
      rw [upd_ne (fun z => by rw [z, i1p] at ea; cases ea)]
      exact g1.gd.le a x ea
    have gd2 : Gd X.K X.mg I1 (upd H1 p (.dK (mergeK [] kvs))) φ ρ σ := ⟨le, g1.gd.dj, fun i a q => by
      rw [upd_ne (fun z => np ⟨i, by rw [← z]; exact q⟩)]; exact g1.gd.th i a q, g1.gd.sep, fun i o eo no => by
      obtain ⟨v, e1, w⟩ := g1.gd.sl i o eo no
      exact ⟨v, e1, w.step (RdLe.of (Same.refl _)) fun a x q ea => by rw [upd_ne (fun z => np ⟨i, by rw [← z]; exact q⟩)]; exact ea⟩⟩
    refine h (.ref p) _ I1 φ (fun a => a = p) ((s1.trans s2).trans s3') gd2 ⟨fun a e => by rw [e]; exact i1p, fun a e => by rw [e, upd_same]; exact Option.some_ne_none _, fun i a e q => np ⟨i, e ▸ q⟩⟩ ?_
    exact .dic upd_same rfl (dk.merge .nil)
/-- {} -/
theorem ee_dict0 : EE X W (.Dict [] [] pos) (fun ρ => .ok (.dic []) ρ) := by
  refine PE.weak pe_dnewK fun σ H Q ⟨ρ, I, φ, gd, h⟩ => fun p hp => ?_
  refine h (.ref p) _ I φ (fun a => a = p) (Stp.new hp fun a q => q) (gd.new hp) ⟨fun a e => by rw [e]; exact gd.free hp, fun a e => by rw [e, upd_same]; exact Option.some_ne_none _, fun i a e q => gd.nfree hp ⟨i, e ▸ q⟩⟩ ?_
  exact .dic upd_same rfl .nil
theorem ee_dict0T : EE X W (.Dict [] [] pos) (fun ρ => .ok (.dicT []) ρ) := by
  refine PE.weak pe_dnewT fun σ H Q ⟨ρ, I, φ, gd, h⟩ => fun p hp => ?_
  refine h (.ref p) _ I φ (fun a => a = p) (Stp.new hp fun a q => q) (gd.new hp) ⟨fun a e => by rw [e]; exact gd.free hp, fun a e => by rw [e, upd_same]; exact Option.some_ne_none _, fun i a e q => gd.nfree hp ⟨i, e ▸ q⟩⟩ ?_
  exact .dicT upd_same rfl .nil
end

/-! ### d.get(k, x) -/
def g_get (x y z : O) : Option O := match getO x y with
  | some (some d) => some (.d d)
  | some none => some z
  | none => none
theorem isD_of {K : PySem.W.Frag} {mg : Str → Option Value} {I H : Hp} {x y : O} {v : V} {S : Pd} {r : Option D} (le : Same I H) (w : Own K mg I H x v S) (e : getO x y = some r) : ∃ a, v = .ref a ∧ IsD H a := by
  unfold getO at e
  split at e
  · rw [Option.bind_eq_some_iff] at e
    obtain ⟨ks, e1, e⟩ := e
    rw [Option.bind_eq_some_iff] at e
    obtain ⟨kvs, e2, e⟩ := e
    obtain ⟨p, kv, rfl, r1, _⟩ := w.dTO le e2
    exact ⟨p, rfl, .inr ⟨kv, r1⟩⟩
  · split at e
    · rw [Option.bind_eq_some_iff] at e
      obtain ⟨kvs, e2, e⟩ := e
      split at e
      · rename_i hko
        obtain ⟨p, kv, rfl, r1, _⟩ := w.dK le e2 hko
        exact ⟨p, rfl, .inl ⟨kv, r1⟩⟩
      · cases e
    · cases e
  · cases e
def Vw.op3 (g : O → O → O → Option O) (f1 f2 f3 : Env → Option O) : Env → Option O := fun ρ => (f1 ρ).bind fun x => (f2 ρ).bind fun y => (f3 ρ).bind fun z => g x y z
section
variable {X : Cx} {apos cpos : Pos} {o e f : Expr} {f1 f2 f3 : Env → Option O}
theorem ve_get2 (hu : X.A.units + 100 < cLine) (ho : VE X o f1) (he : VE X e f2) (hf : VE X f f3) (m : M2 X o "get" apos e f cpos := by exact ⟨rfl, rfl, rfl, rfl⟩) : VE X (.Call (.Attribute o "get" apos) [e, f] [] cpos) (Vw.op3 g_get f1 f2 f3) := by
  refine PE.weak (pe_dget2 (by omega) ho he hf m) fun σ H Q ⟨ρ, I, φ, gd, h⟩ => ?_
  refine h.some fun r er h => ?_
  unfold Vw.op3 at er
  simp only [Option.bind_eq_some_iff] at er
  obtain ⟨x, e1, y, e2, z, e3, er⟩ := er
  have hg : ∃ r, getO x y = some r := by
    unfold g_get at er
    cases eg : getO x y with
    | none => rw [eg] at er; cases er
    | some r => exact ⟨r, rfl⟩
  obtain ⟨r0, hg⟩ := hg
  refine ⟨ρ, I, φ, gd, ?_⟩
  rw [e1]
  intro v S I1 H1 g1 w
  obtain ⟨a, rfl, hd⟩ := isD_of g1.gd.le w hg
  refine ⟨a, rfl, hd, ρ, I1, φ, g1.gd, ?_⟩
  rw [e2]
  intro u T I2 H2 g2 w2
  refine ⟨ρ, I2, φ, g2.gd, ?_⟩
  rw [e3]
  intro t T3 I3 H3 g3 w3
  obtain ⟨p, oo, ep, g, hh⟩ := getO_spec g3.gd.le ((w.grow g2).grow g3) (w2.grow g3) hg
  cases ep
  refine ⟨oo, g, ?_⟩
  have h := ((h.grow g1).grow g2).grow g3
  unfold g_get at er
  rw [hg] at er
  rcases hh with ⟨rfl, rfl⟩ | ⟨d, v, rfl, rfl, q⟩
  · cases er
    exact h t T3 I3 H3 (Grw.refl g3.gd) w3
  · cases er
    exact h.d g3.gd q
end

/-! ### xs.count(x) -/
def rCountD (K : PySem.W.Frag) : V → List V → Hp → VK → Prop := fun x xs H Q => ∃ (a : Addr) (y : V) (d : PyData) (ds : List PyData), x = V.ref a ∧ xs = [y] ∧ Dp K H (V.ref a) (.list ds) ∧ Dp K H y d ∧ PyData.plainAll ds = true ∧ d.plain = true ∧ min (PyData.depthAll ds) d.depth ≤ 64 ∧ Q (.int ((ds.countP fun z => PyData.eqv z d : Nat))) H
theorem countP_map' {α β : Type} (p : β → Bool) (g : α → β) : ∀ l : List α, (l.map g).countP p = l.countP fun x => p (g x)
  | [] => rfl
  | x :: l => by rw [List.map_cons, List.countP_cons, List.countP_cons, countP_map' p g l]
section
variable {X : Cx}
theorem mt_countD (hu : X.A.units + 100 < cLine) : MtR X "list.count" (rCountD X.K) := by
  intro pins s σ H x xs v us Q I rx rxs h
  obtain ⟨a, y, d, ds, rfl, rfl, hl, hy, sl, sd, hm, q⟩ := h
  cases rx
  obtain ⟨uy, rfl, ry⟩ := rxs.one
  obtain ⟨bs, r1⟩ := Dp.reads I d y uy hy ry
  cases hl with
  | lst hs ha =>
    obtain ⟨its, rv, ⟨⟨cls, dd, data, sls⟩, n, ho, hc, hdn, hdt⟩, hlen⟩ := I.list hs
    simp only at hc hdt
    subst hc hdt
    obtain ⟨as, h4⟩ := Dp.readsAll I ds _ its ha rv
    have hmap : its.map (SeqAt.readOf s.heap) = ds := SeqAt.readsAll_map_plain ds its as sl h4
    refine call_meets PySem.F.slot_list_count ⟨_, ho, rfl⟩ PySem.F.entry_list_count (PySem.F.args_list_count_2 _ _)
      (SeqAt.list_countAt a its.toArray n dd sls uy (fun u => PyData.eqv (SeqAt.readOf s.heap u) d)) ⟨ho, SeqAt.items_plain (vs := its.toArray) (by simpa using h4) r1 sl sd (by omega), ?_⟩
    have ec : its.toArray.toList.countP (fun u => PyData.eqv (SeqAt.readOf s.heap u) d) = ds.countP fun z => PyData.eqv z d := by
      rw [← hmap, countP_map']
    refine ⟨.int ((ds.countP fun z => PyData.eqv z d : Nat)), H, I.tok _, ⟨s.toks, ?_⟩, q⟩
    rw [ec]

def g_count (x y : O) : Option O := match listO x, rdO x, rdO y with
  | some _, some (.list ds), some d => if d.plain && PyData.plainAll ds && decide (min (PyData.depthAll ds) d.depth ≤ 64) then some (.d (.int ((ds.countP fun z => PyData.eqv z d : Nat)))) else none
  | _, _, _ => none
def g_index (x y : O) : Option O := match listO x, rdO x, rdO y with
  | some _, some (.list ds), some d => if SeqAt.shaped d && SeqAt.shaped (.list ds) then (ds.findIdx? fun z => PyData.eqv z d).map fun j => .d (.int (j : Nat)) else none
  | _, _, _ => none
/-- a list's method of one argument that reads -/
theorem ve_m1 {name : Str} {id : String} {apos cpos : Pos} {o e : Expr} {f1 f2 : Env → Option O} {r : V → List V → Hp → VK → Prop} {g : O → O → Option O} (slot : Slot "list" name id) (hty : typeOf (.builtin id) = pure (.type "method_descriptor")) (hm : MtR X id r)
    (hl : ∀ x y z, g x y = some z → ∃ xs, listO x = some xs)
    (ok : ∀ (I H : Hp) (φ : Ph) (ρ : Env) (σ : St) (Q : VK) (x y z : O) (a b : V) (S1 S2 : Pd), Gd X.K X.mg I H φ ρ σ → Own X.K X.mg I H x a S1 → Own X.K X.mg I H y b S2 → g x y = some z → VP X.K X.mg φ ρ σ I H Q (some z) → r a [b] H Q)
    (ho : VE X o f1) (he : VE X e f2)
    (hbase : attributeBase o name X.env (eval o X.env) = eval o X.env := by rfl)
    (hfew : ((backTo cpos (starEach [e] X.env)).all (fun x => !x.1) && (backToKw cpos (keywordEach [] X.env)).all (fun x => x.1.isSome)
      && decide ([e].length + ([] : List Keyword).length + (if ([] : List Keyword).isEmpty then 0 else 1) < 30)) = true := by rfl)
    (hline : (apos.endLine == cpos.line) = true := by rfl) (hs : starEach [e] X.env = (false, eval e X.env) :: starEach [] X.env := by rfl) (hplain : (backTo cpos (starEach [] X.env)).any (·.1) = false := by rfl) :
    VE X (.Call (.Attribute o name apos) [e] [] cpos) (Vw.op2 g f1 f2) := by
  refine PE.weak (pe_bm PySem.F.plainAttrs_list slot hty hm ho (va_cons he va_nil hs) hbase hfew hline hs hplain) fun σ H Q ⟨ρ, I, φ, gd, h⟩ => ?_
  refine h.some fun z er h => ?_
  unfold Vw.op2 at er
  simp only [Option.bind_eq_some_iff] at er
  obtain ⟨x, e1, y, e2, er⟩ := er
  obtain ⟨xs, el⟩ := hl x y z er
  refine ⟨ρ, I, φ, gd, ?_⟩
  rw [e1]
  intro v S I1 H1 g1 w
  obtain ⟨a, vs, rfl, hq, _⟩ := w.listO g1.gd.le el
  refine ⟨.inl ⟨rfl, vs, hq⟩, ρ, I1, φ, g1.gd, ?_⟩
  have ev : Vw.cons f2 Vw.nil ρ = some [y] := by
    unfold Vw.cons Vw.nil
    rw [e2]
    rfl
  rw [ev]
  intro us I2 H2 g2 w2
  obtain ⟨u, T, rfl, w3⟩ := w2.one
  exact ok I2 H2 φ ρ σ Q x y z (.ref a) u S T g2.gd (w.grow g2) w3 er ((h.grow g1).grow g2)
theorem ve_count {apos cpos : Pos} {o e : Expr} {f1 f2 : Env → Option O} (hu : X.A.units + 100 < cLine) (ho : VE X o f1) (he : VE X e f2)
    (hbase : attributeBase o "count" X.env (eval o X.env) = eval o X.env := by rfl)
    (hfew : ((backTo cpos (starEach [e] X.env)).all (fun x => !x.1) && (backToKw cpos (keywordEach [] X.env)).all (fun x => x.1.isSome)
      && decide ([e].length + ([] : List Keyword).length + (if ([] : List Keyword).isEmpty then 0 else 1) < 30)) = true := by rfl)
    (hline : (apos.endLine == cpos.line) = true := by rfl) (hs : starEach [e] X.env = (false, eval e X.env) :: starEach [] X.env := by rfl) (hplain : (backTo cpos (starEach [] X.env)).any (·.1) = false := by rfl) :
    VE X (.Call (.Attribute o "count" apos) [e] [] cpos) (Vw.op2 g_count f1 f2) := by
  refine ve_m1 PySem.F.slot_list_count PySem.F.type_list_count (mt_countD hu) (fun x y z e => ?_) (fun I H φ ρ σ Q x y z a b S1 S2 gd w1 w2 e h => ?_) ho he hbase hfew hline hs hplain
  · unfold g_count at e
    split at e
    · rename_i e1 e2 e3; exact ⟨_, e1⟩
    · cases e
  · unfold g_count at e
    split at e
    · rename_i xs ds d e1 e2 e3
      split at e
      · rename_i hc
        cases e
        simp only [Bool.and_eq_true, decide_eq_true_eq] at hc
        obtain ⟨p, vs, rfl, hq, _⟩ := w1.listO gd.le e1
        exact ⟨p, b, d, ds, rfl, rfl, w1.dp gd.le e2 (by simpa [PyData.plain] using hc.1.2), w2.dp gd.le e3 hc.1.1, hc.1.2, hc.1.1, hc.2, h.d gd (.int _)⟩
      · cases e
    · cases e
theorem ve_index {apos cpos : Pos} {o e : Expr} {f1 f2 : Env → Option O} (hu : X.A.units + 100 < cLine) (ho : VE X o f1) (he : VE X e f2)
    (hbase : attributeBase o "index" X.env (eval o X.env) = eval o X.env := by rfl)
    (hfew : ((backTo cpos (starEach [e] X.env)).all (fun x => !x.1) && (backToKw cpos (keywordEach [] X.env)).all (fun x => x.1.isSome)
      && decide ([e].length + ([] : List Keyword).length + (if ([] : List Keyword).isEmpty then 0 else 1) < 30)) = true := by rfl)
    (hline : (apos.endLine == cpos.line) = true := by rfl) (hs : starEach [e] X.env = (false, eval e X.env) :: starEach [] X.env := by rfl) (hplain : (backTo cpos (starEach [] X.env)).any (·.1) = false := by rfl) :
    VE X (.Call (.Attribute o "index" apos) [e] [] cpos) (Vw.op2 g_index f1 f2) := by
  refine ve_m1 PySem.F.slot_list_index PySem.F.type_list_index (mt_indexD (by omega)) (fun x y z e => ?_) (fun I H φ ρ σ Q x y z a b S1 S2 gd w1 w2 e h => ?_) ho he hbase hfew hline hs hplain
  · unfold g_index at e
    split at e
    · rename_i e1 e2 e3; exact ⟨_, e1⟩
    · cases e
  · unfold g_index at e
    split at e
    · rename_i xs ds d e1 e2 e3
      split at e
      · rename_i hc
        rw [Option.map_eq_some_iff] at e
        obtain ⟨j, e4, rfl⟩ := e
        rw [Bool.and_eq_true] at hc
        obtain ⟨p, vs, rfl, hq, _⟩ := w1.listO gd.le e1
        rw [List.findIdx?_eq_some_iff_getElem] at e4
        obtain ⟨hj, hz, hno⟩ := e4
        have pl : PyData.plain (.list ds) = true := PyData.plain_of_canLay0 _ (SeqAt.canLay_of_shaped hc.2)
        have pd : d.plain = true := PyData.plain_of_canLay0 _ (SeqAt.canLay_of_shaped hc.1)
        exact ⟨p, b, d, ds, j, ds[j], rfl, rfl, w1.dp gd.le e2 pl, w2.dp gd.le e3 pd, hc.2, hc.1, List.getElem?_eq_getElem hj, hz, fun m z' hm hz' => by
          obtain ⟨hm', rfl⟩ := List.getElem?_eq_some_iff.mp hz'
          simpa using hno m hm, h.d gd (.int _)⟩
      · cases e
    · cases e
end
/-! ### list(range(..)) -/

def rgD (a b : Int) : Option (List D) := if -1000000000000 ≤ a ∧ a ≤ 1000000000000 ∧ -1000000000000 ≤ b ∧ b ≤ 1000000000000 ∧ (b - a).toNat ≤ 1000000 then some ((List.range (b - a).toNat).map fun i => .int (a + (i : Nat))) else none
theorem denL_ints {K : PySem.W.Frag} {I : Hp} (g : Nat → Int) : ∀ l : List Nat, DenL K I (l.map fun i => .int (g i)) (l.map fun i => V.int (g i))
  | [] => .nil
  | _ :: l => .cons (.int _) (denL_ints g l)
theorem rgD_ok {K : PySem.W.Frag} {I : Hp} {a b : Int} {ds : List D} (h : rgD a b = some ds) : RgOk a b ∧ DenL K I ds (rgV a b) := by
  unfold rgD at h
  split at h
  · rename_i hc
    cases h
    exact ⟨⟨by omega, by omega, by omega, by omega, by omega⟩, denL_ints (fun i => a + (i : Nat)) _⟩
  · cases h
def l_range1 (x : O) : Option (List D) := match x with
  | .d (.int n) => rgD 0 n
  | _ => none
def l_range2 (x y : O) : Option (List D) := match x, y with
  | .d (.int a), .d (.int b) => rgD a b
  | _, _ => none
section
variable {X : Cx} {W : WX} {a b : Expr} {f1 f2 : Env → Option O} {p q pos rpos : Pos}
theorem ve_listR1 (ha : VE X a f1) (hml : X.mg "list" = none) (hmr : X.mg "range" = none) (hc : X.calm = true := by rfl) (hgl : Gl X "list" := by rfl) (hgr : Gl X "range" := by rfl) (na : starEach [a] X.env = (false, eval a X.env) :: starEach [] X.env := by rfl)
    (nb : starEach [.Call (.Name "range" q) [a] [] rpos] X.env = (false, eval (.Call (.Name "range" q) [a] [] rpos) X.env) :: starEach [] X.env := by rfl) : VE X (.Call (.Name "list" p) [.Call (.Name "range" q) [a] [] rpos] [] pos) (Vw.op1 (fun x => (l_range1 x).map dl) f1) := by
  refine PE.weak (pe_listRg hc hgl hml (prg_1 hgr hmr ha na) nb) fun σ H Q ⟨ρ, I, φ, gd, h⟩ => ?_
  refine vbind gd h fun x v S I1 H1 g1 w h => ?_
  refine h.some fun z e h5 => ?_
  rw [Option.map_eq_some_iff] at e
  obtain ⟨ds, e, rfl⟩ := e
  unfold l_range1 at e
  split at e
  · cases w.int
    obtain ⟨h1, h2⟩ := rgD_ok (K := X.K) (I := I1) e
    exact ⟨_, rfl, h1, fun q hq => h5.lst g1.gd h2 hq⟩
  · cases e
theorem ee_listR1 (ha : VE X a f1) (hml : X.mg "list" = none) (hmr : X.mg "range" = none) (hc : X.calm = true := by rfl) (hgl : Gl X "list" := by rfl) (hgr : Gl X "range" := by rfl) (na : starEach [a] X.env = (false, eval a X.env) :: starEach [] X.env := by rfl)
    (nb : starEach [.Call (.Name "range" q) [a] [] rpos] X.env = (false, eval (.Call (.Name "range" q) [a] [] rpos) X.env) :: starEach [] X.env := by rfl) : EE X W (.Call (.Name "list" p) [.Call (.Name "range" q) [a] [] rpos] [] pos) (E.fr (Vw.op1 (fun x => (l_range1 x).map ol) f1)) := by
  refine PE.weak (pe_listRg hc hgl hml (prg_1 hgr hmr ha na) nb) fun σ H Q ⟨ρ, I, φ, gd, h⟩ => ?_
  refine fr_bind gd h fun x v S I1 H1 g1 w h => ?_
  cases e : l_range1 x with
  | none => rw [e] at h; exact h.elim
  | some ds =>
    rw [e] at h
    unfold l_range1 at e
    split at e
    · cases w.int
      obtain ⟨h1, h2⟩ := rgD_ok (K := X.K) (I := I1) e
      exact ⟨_, rfl, h1, fun q hq => (FP.of gd g1 h).lst g1.gd h2 hq⟩
    · cases e
theorem ve_listR2 (ha : VE X a f1) (hb : VE X b f2) (hml : X.mg "list" = none) (hmr : X.mg "range" = none) (hc : X.calm = true := by rfl) (hgl : Gl X "list" := by rfl) (hgr : Gl X "range" := by rfl) (na : starEach [a, b] X.env = (false, eval a X.env) :: starEach [b] X.env := by rfl)
    (nb' : starEach [b] X.env = (false, eval b X.env) :: starEach [] X.env := by rfl) (hp : (backTo rpos (starEach [b] X.env)).any (·.1) = false := by rfl)
    (nb : starEach [.Call (.Name "range" q) [a, b] [] rpos] X.env = (false, eval (.Call (.Name "range" q) [a, b] [] rpos) X.env) :: starEach [] X.env := by rfl) : VE X (.Call (.Name "list" p) [.Call (.Name "range" q) [a, b] [] rpos] [] pos) (Vw.op2 (fun x y => (l_range2 x y).map dl) f1 f2) := by
  refine PE.weak (pe_listRg hc hgl hml (prg_2 hgr hmr ha hb na nb' hp) nb) fun σ H Q ⟨ρ, I, φ, gd, h⟩ => ?_
  refine vbind gd h fun x v S I1 H1 g1 w h => ?_
  refine vbind g1.gd h fun y u T I2 H2 g2 w2 h => ?_
  refine h.some fun z e h5 => ?_
  rw [Option.map_eq_some_iff] at e
  obtain ⟨ds, e, rfl⟩ := e
  unfold l_range2 at e
  split at e
  · cases w.int
    cases w2.int
    obtain ⟨h1, h2⟩ := rgD_ok (K := X.K) (I := I2) e
    exact ⟨_, _, rfl, rfl, h1, fun q hq => h5.lst g2.gd h2 hq⟩
  · cases e
end

/-! ### repr -/
def isSeqD : D → Bool
  | .list _ => true
  | .tuple _ => true
  | _ => false
mutual
theorem noDict_plain : ∀ d : D, d.plain = true → d.hasDict = false
  | .none, _ => rfl
  | .bool _, _ => rfl
  | .int _, _ => rfl
  | .str _, _ => rfl
  | .list xs, h => by
    simp only [PyData.hasDict]
    exact noDict_plains xs (by simpa [PyData.plain] using h)
  | .tuple xs, h => by
    simp only [PyData.hasDict]
    exact noDict_plains xs (by simpa [PyData.plain] using h)
  | .dict _, h => by simp [PyData.plain] at h
theorem noDict_plains : ∀ xs : List D, PyData.plainAll xs = true → PyData.hasDictAll xs = false
  | [], _ => rfl
  | x :: xs, h => by
    simp only [PyData.plainAll, Bool.and_eq_true] at h
    simp only [PyData.hasDictAll, noDict_plain x h.1, noDict_plains xs h.2, Bool.or_self]
end
def g_repr : List O → Option O
  | [x] => (match rdO x with
    | some d => if d.plain && d.showable && decide (d.depth ≤ 64) && decide (d.shown.length ≤ 1000000) && isSeqD d then some (.d (.str d.shown)) else none
    | none => none)
  | _ => none
def rRepr (K : PySem.W.Frag) : List V → Hp → VK → Prop := fun xs H Q => ∃ (a : Addr) (d : PyData), xs = [V.ref a] ∧ Dp K H (V.ref a) d ∧ d.plain = true ∧ d.showable = true ∧ d.depth ≤ 64 ∧ d.shown.length ≤ sizeLine ∧ Q (.str d.shown) H
section
variable {X : Cx}
theorem cr_repr (hu : X.A.units + 100 < cLine) (hg : X.A.guards = some []) : CallR X (.builtin "repr") (rRepr X.K) := by
  intro pins s σ H xs us Q I r h
  obtain ⟨a, d, rfl, hd, hp, hs, hdp, hl, q⟩ := h
  rw [Vals.ref1 r]
  obtain ⟨as, rr⟩ := Dp.reads I d _ (.ref a) hd rfl
  exact PySem.repr_of_reads' rr hs (fun z => by rw [noDict_plain d hp] at z; cases z) hg (by omega) (fun _ _ z => z) (fun h' u tk hk => ⟨.str d.shown, H, I.kept hk, ⟨u, rfl⟩, q⟩) hl
theorem vw_repr : VwN X (rRepr X.K) g_repr := by
  intro I H φ ρ σ Q xs z as gd ws e h
  unfold g_repr at e
  split at e
  · rename_i x
    obtain ⟨v, S, rfl, w⟩ := ws.one
    split at e
    · rename_i d e1
      split at e
      · rename_i hc
        cases e
        simp only [Bool.and_eq_true, decide_eq_true_eq] at hc
        have dp := w.dp gd.le e1 hc.1.1.1.1
        have hr : ∃ a, v = .ref a := by
          cases dp with
          | lst _ _ => exact ⟨_, rfl⟩
          | tup _ _ => exact ⟨_, rfl⟩
          | _ => exact absurd hc.2 (by simp [isSeqD])
        obtain ⟨a, rfl⟩ := hr
        exact ⟨a, d, rfl, dp, hc.1.1.1.1, hc.1.1.1.2, hc.1.1.2, mil hc.1.2, h.d gd (.str _)⟩
      · cases e
    · cases e
  · cases e
theorem isd_repr (xs : List O) (z : O) (e : g_repr xs = some z) : ∃ d, z = .d d := by
  unfold g_repr at e
  repeat' split at e
  all_goals first | (cases e; done) | (cases e; exact ⟨_, rfl⟩)
end
end EV

/-! The layer EV, part U: x += e of ints; items of a tuple in a slot. -/
namespace EV
open PySem PySem.Spec PyProof.Rows L2
def S.augI (i : Nat) (g : Int → Int → Int) (f : M O) : M Fl := fun ρ0 => match ρ0[i]? with
  | some (.d (.int a)) => (f.bind fun o => fun ρ => match o with
    | .d (.int b) => .ok .nx (ρ.set i (.d (.int (g a b))))
    | _ => .stuck) ρ0
  | _ => .stuck
section
variable {X : Cx} {W : WX} {io : List Nat} {pos pos' : Pos} {e : Expr} {x : Str}
theorem es_aug (i : Nat) {op : Operator} {g : Int → Int → Int} {f : M O} (ho : PIp X op (ipI g)) (hN : X.N.Nodup) (he : EE X W e f) (hi : X.N[i]? = some x := by rfl) (hx : Loc X.env.scope x := by first | exact Or.inl rfl | exact Or.inr rfl) (hio : i ∉ io := by first | decide | exact not_notIn (by decide))
    (hf : X.fn x = true ∨ X.env.scope.names.lookup x = some .local := by first | exact .inl rfl | exact .inr rfl | assumption) : ES X W io (.AugAssign (.Name x pos') op e pos) (S.augI i g f) := by
  refine ⟨fun pins s σ H D I0 h => (ps_aug hN hi hx he ho hf).run pins s σ H D I0 ?_⟩
  have hσ : i < σ.length := by rw [I0.len]; exact (List.getElem?_eq_some_iff.mp hi).1
  obtain ⟨ρ, I, φ, gd, h⟩ := h
  unfold S.augI at h
  split at h
  · rename_i a ea
    obtain ⟨v, ev, w⟩ := gd.sl i _ ea (by intro z; cases z)
    cases w.int
    refine ⟨_, ev, ?_⟩
    refine bindE (P := PostS X.K X.mg W io σ I H (al φ) D) gd h (fun _ _ z => z.exc) (fun z => z) fun o ρ1 _ h u H1 I1 φ1 G1 s1 gd1 t1 w1 => ?_
    split at h
    · rename_i b
      cases w1.int
      refine ⟨a, _, rfl, rfl, ?_⟩
      exact h _ H1 I1 _ (keeps_set hio) (s1.sub fun q z => by
        rcases al_setP z with z | z
        · exact z.elim
        · exact .inl z) (gd1.store (G := noP) Tm.none (.d (.int _)) hσ)
    · exact h.elim
  · exact h.elim
end
end EV

/-! The layer EV, part V: exception objects as values. -/
namespace EV
open PySem PySem.Spec PyProof.Rows L2
/-- isinstance(e, c), e an exception object that nobody has raised -/
def rIsEx (K : PySem.W.Frag) : List V → Hp → VK → Prop := fun xs H Q => ∃ (a D : Addr) (c : V) (cv : Value) (b : Bool), xs = [.ref a, c] ∧ H a = some (ExO (.ref D) a) ∧ ExcC K D ∧ (∀ u, RelV c u → u = cv) ∧ PySem.W.kitOne K (.ref D) cv = some b ∧ Q (.bl b) H
theorem call_isEx {X : Cx} : CallR X (.builtin "isinstance") (rIsEx X.K) := by
  intro pins s σ H xs us Q I r h
  obtain ⟨a, D, c, cv, b, rfl, ha, C, hcv, e, q⟩ := h
  cases r with
  | cons rx rr =>
    cases rr with
    | cons rt rr =>
      cases rr
      cases rx
      have ec := hcv _ rt
      subst ec
      obtain ⟨⟨oe, vs, hget, hz, hv, _⟩, _, _⟩ := (show ObjOk X.prog X.w H s.heap a (ExO (.ref D) a) from I.hok a _ ha)
      have J : PySem.W.InstAt s.heap a oe D none := by
        obtain ⟨oc, od, oda, osl⟩ := oe
        obtain ⟨h1, h2⟩ := hz
        dsimp only at h1 h2 hv
        subst h1 h2 hv
        exact ⟨hget, rfl, rfl, trivial⟩
      exact PySem.W.kia_one (PySem.W.handS_kitx_exc C.hg C.hk C.hs C.hd C.ha C.hn C.ht C.hm) I.kIn J e (fun z => nomatch z) fun tk => ⟨.bl b, H, I.kept (t' := tk) fun _ _ z => z, rfl, q⟩
/-- which exception -/
def exC : O → Option Str
  | .d (.dict [(.none, .str e)]) => some e
  | _ => none
theorem exC_ok {o : O} {e : Str} (h : exC o = some e) : o = .d (exnD e) := by
  unfold exC at h
  split at h
  · cases h; rfl
  · cases h
def lookX : List (Str × List Str) → Str → Option (List Str)
  | [], _ => none
  | (g, o) :: r, f => if g = f then some o else lookX r f
theorem lookX_mem : ∀ {xs : List (Str × List Str)} {e : Str} {bs : List Str}, lookX xs e = some bs → (e, bs) ∈ xs
  | (g, o) :: r, e, bs, h => by
    unfold lookX at h
    split at h
    · rename_i z; subst z; cases h; exact List.mem_cons_self
    · exact List.mem_cons_of_mem _ (lookX_mem h)
def isX (xs : List (Str × List Str)) (c : Str) (x : O) : Option O := (exC x).bind fun e => (lookX xs e).bind fun bs => some (.d (.bool (bs.contains c)))
def isXV (xs : List (Str × List Str)) (x : O) : Option O := (exC x).bind fun e => (lookX xs e).bind fun _ => some (.d (.bool true))
def Vw.exc (c : Str) (f : Env → Option O) : Env → Option O := fun ρ => (f ρ).bind fun _ => some (.d (exnD c))
section
variable {fa : List He.Fa} {fn : List He.DefD} {ts : Tb} {X : Cx} {W : WX} {pos p p2 : Pos} {a e : Expr} {f : Env → Option O}
theorem Own.exn {K : PySem.W.Frag} {mg : Str → Option Value} {I H : Hp} {c : Str} {v : V} {S : Pd} (w : Own K mg I H (.d (exnD c)) v S) : ∃ q, v = .ref q ∧ I q = some (ExO (.ref (He.ga K c)) q) := by
  cases w with
  | d q =>
    cases q with
    | dict r k =>
      have h := k.keys _ List.mem_cons_self
      cases h
    | dictT r k n => cases k
    | exn h => exact ⟨_, rfl, h⟩
/-- X(e): a new exception object -/
theorem ve_exc {c : Str} (Y : Ya fa fn ts X.K X.mg) (i j : Nat) (ha : VE X e f) (h1 : fa[i]? = some (.exc c) := by rfl) (h2 : fa[j]? = some (.glo c) := by rfl) (hg : Gl X c := by rfl)
    (hs : starEach [e] X.env = (false, eval e X.env) :: starEach [] X.env := by rfl) (hdb : (c == ("__debug__" : Str)) = false := by decide) : VE X (.Call (.Name c p) [e] [] pos) (Vw.exc c f) := by
  obtain ⟨q, kC, s1, s2⟩ := He.exc_ok (Y.says.fact i h1)
  refine PE.weak (pe_exc1 PySem.F.excBase_ValueError q (Y.glo j h2) kC hg ha hs hdb) fun σ H Q ⟨ρ, I, φ, gd, h⟩ => ?_
  refine vbind gd h fun x v S I1 H1 g1 w h => ?_
  intro q hq
  exact h _ noP _ _ (Grw.new g1.gd hq) (.d (.exn upd_same))
/-- isinstance(e, X) -/
theorem ve_isX {c : Str} {bs : List Str} (Y : Ya fa fn ts X.K X.mg) (i j : Nat) (hm : X.mg "isinstance" = none) (ha : VE X a f) (h2 : fa[i]? = some (.glo c) := by rfl) (hj : ts.excs[j]? = some (c, bs) := by rfl) (hg : Gl X "isinstance" := by rfl) (hgt : Gl X c := by rfl) (hd : (c == ("__debug__" : Str)) = false := by decide)
    (hs : starEach [a, .Name c p2] X.env = (false, eval a X.env) :: starEach [.Name c p2] X.env := by rfl) (hs2 : starEach [.Name c p2] X.env = (false, eval (.Name c p2) X.env) :: starEach [] X.env := by rfl) (hpl : (backTo pos (starEach [.Name c p2] X.env)).any (·.1) = false := by rfl) :
    VE X (.Call (.Name "isinstance" p) [a, .Name c p2] [] pos) (Vw.op1 (isX ts.excs c) f) := by
  refine PE.weak (pe_callB call_isEx hg hm (id := "isinstance") (by rfl) (pa_cons ha (pa_cons (pe_glob (v := .ref (He.ga X.K c)) hgt (Y.glo i h2) rfl hd) pa_nil hs2) hs) (by decide) (by decide) hs hpl) fun σ H Q ⟨ρ, I, φ, gd, h⟩ => ?_
  refine vbind gd h fun x v S I1 H1 g1 w h => ?_
  refine h.some fun z e hz => ?_
  unfold isX at e
  rw [Option.bind_eq_some_iff] at e
  obtain ⟨d, e1, e⟩ := e
  rw [Option.bind_eq_some_iff] at e
  obtain ⟨ds, e2, e⟩ := e
  cases e
  have := exC_ok e1
  subst this
  obtain ⟨q, rfl, hq⟩ := w.exn
  have hx := List.all_eq_true.mp (He.ba Y.tabs).2 _ (lookX_mem e2)
  obtain ⟨k1, k2⟩ := He.ba hx
  obtain ⟨_, k3⟩ := He.ba k2
  have k4 := of_decide_eq_true (List.all_eq_true.mp k3 _ (List.mem_of_getElem? hj))
  exact ⟨q, _, .ref (He.ga X.K c), .ref (He.ga X.K c), _, rfl, g1.gd.le _ _ hq, excB_ok k1, fun u r => r, k4, hz.d g1.gd (.bl _)⟩
/-- isinstance(e, ValueError) -/
theorem ve_isXV (Y : Ya fa fn ts X.K X.mg) (hm : X.mg "isinstance" = none) (hmt : X.mg "ValueError" = none) (ha : VE X a f) (hg : Gl X "isinstance" := by rfl) (hgt : Gl X "ValueError" := by rfl)
    (hs : starEach [a, .Name "ValueError" p2] X.env = (false, eval a X.env) :: starEach [.Name "ValueError" p2] X.env := by rfl) (hs2 : starEach [.Name "ValueError" p2] X.env = (false, eval (.Name "ValueError" p2) X.env) :: starEach [] X.env := by rfl) (hpl : (backTo pos (starEach [.Name "ValueError" p2] X.env)).any (·.1) = false := by rfl) :
    VE X (.Call (.Name "isinstance" p) [a, .Name "ValueError" p2] [] pos) (Vw.op1 (isXV ts.excs) f) := by
  refine PE.weak (pe_callB call_isEx hg hm (id := "isinstance") (by rfl) (pa_cons ha (pa_cons (pe_bltn (v := .ty "ValueError") hgt hmt (by rfl) rfl (by decide) (by decide)) pa_nil hs2) hs) (by decide) (by decide) hs hpl) fun σ H Q ⟨ρ, I, φ, gd, h⟩ => ?_
  refine vbind gd h fun x v S I1 H1 g1 w h => ?_
  refine h.some fun z e hz => ?_
  unfold isXV at e
  rw [Option.bind_eq_some_iff] at e
  obtain ⟨d, e1, e⟩ := e
  rw [Option.bind_eq_some_iff] at e
  obtain ⟨ds, e2, e⟩ := e
  cases e
  have := exC_ok e1
  subst this
  obtain ⟨q, rfl, hq⟩ := w.exn
  have hx := List.all_eq_true.mp (He.ba Y.tabs).2 _ (lookX_mem e2)
  obtain ⟨k1, k2⟩ := He.ba hx
  obtain ⟨k3, _⟩ := He.ba k2
  exact ⟨q, _, .ty "ValueError", .type "ValueError", _, rfl, g1.gd.le _ _ hq, excB_ok k1, fun u r => r, of_decide_eq_true k3, hz.d g1.gd (.bl _)⟩
end
/-! ### a text times an int -/
def repStr (x : Str) (n : Int) : Str := ⟨(List.replicate n.toNat x.cps).foldl (· ++ ·) #[]⟩
theorem foldl_size {α : Type} : ∀ (n : Nat) (xs acc : Array α), ((List.replicate n xs).foldl (· ++ ·) acc).size = acc.size + n * xs.size
  | 0, _, _ => by simp
  | n + 1, xs, acc => by
    rw [List.replicate_succ, List.foldl_cons, foldl_size n, Array.size_append, Nat.succ_mul]
    omega
def rMulS : R2 := fun x y H Q => ∃ (s : Str) (n : Int), x = .str s ∧ y = .int n ∧ 2 ≤ n ∧ n ≤ 1000 ∧ 1 ≤ s.length ∧ s.length ≤ 1000 ∧ Q (.str (repStr s n)) H
theorem op_mulS {X : Cx} : OpR X (binaryOp .Mult) rMulS := by
  intro pins s σ H x y v u Q I rx ry h
  obtain ⟨z, n, rfl, rfl, h1, h2, h3, h4, q⟩ := h
  obtain ⟨t, rfl⟩ := rx
  obtain ⟨t2, rfl⟩ := ry
  have hm : z.length * n.toNat ≤ 1000 * 1000 := Nat.mul_le_mul h4 (by omega)
  have hm2 : (z.length : Int) * n ≤ 1000000 := by
    have a1 : (z.length : Int) * n ≤ 1000 * n := Int.mul_le_mul_of_nonneg_right (by omega) (by omega)
    omega
  refine PySem.P.mul_str (by rw [decide_eq_false (by omega), decide_eq_false (by omega)]; rfl) (fun _ _ => ?_) (fun _ _ => ?_) ?_
  · have : (z.length : Int) ≤ (2 ^ 63 - 1) / n := Int.le_ediv_of_mul_le (by omega) (by omega)
    omega
  · show decide (_ > sizeLine) = false
    rw [decide_eq_false]
    rw [sizeLine_eq]
    omega
  · rw [if_neg (by omega)]
    have hc : (n == 1 || z.length == 0) = false := by
      rw [Bool.or_eq_false_iff, beq_eq_false_iff_ne, beq_eq_false_iff_ne]
      exact ⟨by omega, by omega⟩
    rw [if_neg (by rw [hc]; exact Bool.false_ne_true)]
    refine ⟨?_, .str (repStr z n), H, I.tok _, ⟨_, rfl⟩, q⟩
    show ((List.replicate n.toNat z.cps).foldl (· ++ ·) #[]).size ≤ sizeLine
    rw [foldl_size, sizeLine_eq]
    have e : z.length = z.cps.size := rfl
    rw [← e, Nat.mul_comm]
    simp
    omega
def v_mulS (x y : O) : Option O := match x, y with
  | .d (.str s), .d (.int n) => if 2 ≤ n ∧ n ≤ 1000 ∧ 1 ≤ s.length ∧ s.length ≤ 1000 then some (.d (.str (repStr s n))) else none
  | _, _ => none
theorem vw_mulS {X : Cx} : Vw2 X rMulS v_mulS := by
  intro I H φ ρ σ Q x y z a b S1 S2 gd w1 w2 e h
  unfold v_mulS at e
  split at e
  · split at e
    · rename_i hk
      cases e
      cases w1.str
      cases w2.int
      exact ⟨_, _, rfl, rfl, hk.1, hk.2.1, hk.2.2.1, hk.2.2.2, h.d gd (.str _)⟩
    · cases e
  · cases e
end EV

/-! The layer EV, part W: the laws' pen: what its three defs are worth. -/
namespace EV.Pen
open PySem PySem.Spec PyProof.Rows L2
def b_open : M Fl := (S.seq (S.asg (E.fr (Vw.opN (fun xs => (l_list xs).map ol) (Vw.cons (Vw.sl (Vw.var 0) Vw.noPart (Vw.part (Vw.c (.int 12))) s_view) Vw.nil))) (G.nm 1))
  (S.seq (S.for (Wk.enum (A.cons (E.fr (Vw.sl (Vw.var 0) (Vw.part (Vw.c (.int 12))) (Vw.part (Vw.c (.int 63))) s_new)) A.nil)) (G.tup 2 (G.cons (G.nm 2) (G.cons (G.nm 3) G.nil))) (S.asg (E.view (Vw.op2 v_add (Vw.op2 o_ix (Vw.var 1) (Vw.op2 o_mod (Vw.opN b_int (Vw.cons (Vw.var 2) Vw.nil)) (Vw.c (.int 12)))) (Vw.var 3))) (G.subV (.slot 1) st_any (Vw.op2 o_mod (Vw.opN b_int (Vw.cons (Vw.var 2) Vw.nil)) (Vw.c (.int 12))))))
  (S.ret (E.lst (A.cons (E.move 1) (A.cons (E.view (Vw.c (.int 0))) (A.cons (E.view (Vw.c (.int 0))) A.nil)))))))
def open_ : List O → FRes := runF [] 4 b_open
def b_spread : M Fl := (S.seq (S.ifS (T.view (Vw.op2 o_ge (Vw.var 0) (Vw.op2 o_pow (Vw.c (.int 10)) (Vw.c (.int 18))))) (S.ret (E.move 0)) S.nx)
  (S.seq (S.asg (E.lst (A.cons (E.view (Vw.c (.int 2147483629))) (A.cons (E.view (Vw.c (.int 2147483587))) (A.cons (E.view (Vw.c (.int 2147483579))) (A.cons (E.view (Vw.c (.int 2147483563))) (A.cons (E.view (Vw.c (.int 2147483549))) (A.cons (E.view (Vw.c (.int 2147483543))) (A.cons (E.view (Vw.c (.int 2147483497))) (A.cons (E.view (Vw.c (.int 2147483489))) A.nil))))))))) (G.nm 2))
  (S.seq (S.asg (E.fr (Vw.op2 (fun x y => (l_add x y).map ol) (Vw.var 2) (Vw.lst (Vw.cons (Vw.c (.int 2147483477)) (Vw.cons (Vw.c (.int 2147483423)) (Vw.cons (Vw.c (.int 2147483399)) (Vw.cons (Vw.c (.int 2147483353)) (Vw.cons (Vw.c (.int 2147483323)) Vw.nil)))))))) (G.nm 2))
  (S.seq (S.asg (E.view (Vw.op2 v_add (Vw.op2 v_add (Vw.op2 v_mulA (Vw.op2 o_mod (Vw.opN b_int (Vw.cons (Vw.var 0) Vw.nil)) (Vw.c (.int 1000000007))) (Vw.op2 v_add (Vw.op2 v_mulA (Vw.c (.int 2)) (Vw.var 1)) (Vw.c (.int 69069)))) (Vw.op2 v_mulA (Vw.var 1) (Vw.c (.int 40503)))) (Vw.c (.int 977)))) (G.nm 3))
  (S.seq (S.asg (E.view (Vw.op2 o_mod (Vw.opN b_int (Vw.cons (Vw.op2 o_pow (Vw.var 3) (Vw.c (.int 3))) Vw.nil)) (Vw.op2 o_ix (Vw.var 2) (Vw.op2 o_mod (Vw.opN b_int (Vw.cons (Vw.var 1) Vw.nil)) (Vw.c (.int 13)))))) (G.nm 3))
  (S.seq (S.asg (E.view (Vw.op2 o_mod (Vw.opN b_int (Vw.cons (Vw.op2 o_pow (Vw.op2 v_add (Vw.op2 v_add (Vw.op2 v_mulA (Vw.var 3) (Vw.op2 v_add (Vw.var 1) (Vw.c (.int 3)))) (Vw.op2 o_mod (Vw.opN b_int (Vw.cons (Vw.var 0) Vw.nil)) (Vw.c (.int 65537)))) (Vw.c (.int 5))) (Vw.c (.int 5))) Vw.nil)) (Vw.op2 o_ix (Vw.var 2) (Vw.op2 o_mod (Vw.opN b_int (Vw.cons (Vw.op2 v_add (Vw.var 1) (Vw.c (.int 5))) Vw.nil)) (Vw.c (.int 13)))))) (G.nm 4))
  (S.seq (S.asg (E.view (Vw.op2 o_mod (Vw.opN b_int (Vw.cons (Vw.op2 o_pow (Vw.op2 v_add (Vw.op2 v_add (Vw.var 4) (Vw.op2 o_mod (Vw.opN b_int (Vw.cons (Vw.var 3) Vw.nil)) (Vw.c (.int 1009)))) (Vw.var 1)) (Vw.c (.int 3))) Vw.nil)) (Vw.op2 o_ix (Vw.var 2) (Vw.op2 o_mod (Vw.opN b_int (Vw.cons (Vw.op2 v_add (Vw.var 1) (Vw.c (.int 7))) Vw.nil)) (Vw.c (.int 13)))))) (G.nm 5))
  (S.ret (E.view (Vw.op2 v_add (Vw.op2 v_mulA (Vw.op2 v_add (Vw.op2 v_mulA (Vw.var 3) (Vw.c (.int 2147483647))) (Vw.var 4)) (Vw.c (.int 2147483647))) (Vw.var 5)))))))))))
def spread : List O → FRes := runF [] 6 b_spread
def b_spread2 : M Fl := (S.seq (S.ifS (T.view (Vw.op2 o_ge (Vw.var 0) (Vw.op2 o_pow (Vw.c (.int 10)) (Vw.c (.int 18))))) (S.ret (E.move 0)) S.nx)
  (S.seq (S.asg (E.lst (A.cons (E.view (Vw.c (.int 2147483629))) (A.cons (E.view (Vw.c (.int 2147483587))) (A.cons (E.view (Vw.c (.int 2147483579))) (A.cons (E.view (Vw.c (.int 2147483563))) (A.cons (E.view (Vw.c (.int 2147483549))) (A.cons (E.view (Vw.c (.int 2147483543))) (A.cons (E.view (Vw.c (.int 2147483497))) (A.cons (E.view (Vw.c (.int 2147483489))) A.nil))))))))) (G.nm 2))
  (S.seq (S.asg (E.fr (Vw.op2 (fun x y => (l_add x y).map ol) (Vw.var 2) (Vw.lst (Vw.cons (Vw.c (.int 2147483477)) (Vw.cons (Vw.c (.int 2147483423)) (Vw.cons (Vw.c (.int 2147483399)) (Vw.cons (Vw.c (.int 2147483353)) (Vw.cons (Vw.c (.int 2147483323)) Vw.nil)))))))) (G.nm 2))
  (S.seq (S.asg (E.view (Vw.op2 v_mulA (Vw.op2 o_mod (Vw.opN b_int (Vw.cons (Vw.var 0) Vw.nil)) (Vw.c (.int 1000000007))) (Vw.op2 v_add (Vw.op2 v_mulA (Vw.c (.int 2)) (Vw.var 1)) (Vw.c (.int 69069))))) (G.nm 3))
  (S.seq (S.asg (E.view (Vw.op2 o_mod (Vw.opN b_int (Vw.cons (Vw.op2 o_pow (Vw.op2 v_add (Vw.op2 v_add (Vw.var 3) (Vw.op2 v_mulA (Vw.var 1) (Vw.c (.int 40503)))) (Vw.c (.int 977))) (Vw.c (.int 3))) Vw.nil)) (Vw.op2 o_ix (Vw.var 2) (Vw.op2 o_mod (Vw.opN b_int (Vw.cons (Vw.var 1) Vw.nil)) (Vw.c (.int 13)))))) (G.nm 3))
  (S.seq (S.asg (E.view (Vw.op2 o_mod (Vw.opN b_int (Vw.cons (Vw.op2 o_pow (Vw.op2 v_add (Vw.op2 v_add (Vw.op2 v_mulA (Vw.var 3) (Vw.op2 v_add (Vw.var 1) (Vw.c (.int 3)))) (Vw.op2 o_mod (Vw.opN b_int (Vw.cons (Vw.var 0) Vw.nil)) (Vw.c (.int 65537)))) (Vw.c (.int 5))) (Vw.c (.int 5))) Vw.nil)) (Vw.op2 o_ix (Vw.var 2) (Vw.op2 o_mod (Vw.opN b_int (Vw.cons (Vw.op2 v_add (Vw.var 1) (Vw.c (.int 5))) Vw.nil)) (Vw.c (.int 13)))))) (G.nm 4))
  (S.seq (S.asg (E.view (Vw.op2 o_mod (Vw.opN b_int (Vw.cons (Vw.op2 o_pow (Vw.op2 v_add (Vw.op2 v_add (Vw.var 4) (Vw.op2 o_mod (Vw.opN b_int (Vw.cons (Vw.var 3) Vw.nil)) (Vw.c (.int 1009)))) (Vw.var 1)) (Vw.c (.int 3))) Vw.nil)) (Vw.op2 o_ix (Vw.var 2) (Vw.op2 o_mod (Vw.opN b_int (Vw.cons (Vw.op2 v_add (Vw.var 1) (Vw.c (.int 7))) Vw.nil)) (Vw.c (.int 13)))))) (G.nm 5))
  (S.ret (E.view (Vw.op2 v_add (Vw.op2 v_mulA (Vw.op2 v_add (Vw.op2 v_mulA (Vw.var 3) (Vw.c (.int 2147483647))) (Vw.var 4)) (Vw.c (.int 2147483647))) (Vw.var 5)))))))))))
def spread2 : List O → FRes := runF [] 6 b_spread2
def b_take (sp : List O → FRes) : M Fl := (S.seq (S.ifS (T.view (Vw.op2 o_lt (Vw.op2 o_ix (Vw.var 0) (Vw.c (.int 2))) (Vw.var 1))) (S.seq (S.asg (E.view (Vw.op2 o_ix (Vw.var 0) (Vw.c (.int 1)))) (G.nm 2))
  (S.seq (S.asg (E.view (Vw.c (.int 0))) (G.nm 3))
  (S.seq (S.ifS (T.view (Vw.op2 o_lt (Vw.var 2) (Vw.opN o_len (Vw.cons (Vw.op2 o_ix (Vw.var 0) (Vw.c (.int 0))) Vw.nil)))) (S.asg (E.view (Vw.op2 o_ix (Vw.op2 o_ix (Vw.var 0) (Vw.c (.int 0))) (Vw.var 2))) (G.nm 3)) (S.ifS (T.view (Vw.op2 o_gt (Vw.opN o_len (Vw.cons (Vw.op2 o_ix (Vw.var 0) (Vw.c (.int 0))) Vw.nil)) (Vw.c (.int 0)))) (S.asg (E.view (Vw.op2 o_mod (Vw.opN b_int (Vw.cons (Vw.op2 o_ix (Vw.op2 o_ix (Vw.var 0) (Vw.c (.int 0))) (Vw.op2 o_mod (Vw.opN b_int (Vw.cons (Vw.op2 v_add (Vw.op2 v_mulA (Vw.var 2) (Vw.c (.int 5))) (Vw.c (.int 3))) Vw.nil)) (Vw.opN o_len (Vw.cons (Vw.op2 o_ix (Vw.var 0) (Vw.c (.int 0))) Vw.nil)))) Vw.nil)) (Vw.op2 v_add (Vw.op2 o_pow (Vw.c (.int 10)) (Vw.c (.int 17))) (Vw.var 2)))) (G.nm 3)) S.nx))
  (S.seq (S.asg (E.view (Vw.op2 v_add (Vw.var 2) (Vw.c (.int 1)))) (G.subV (.slot 0) st_any (Vw.c (.int 1))))
  (S.asg (E.callP 2 sp (Vw.cons (Vw.pl (.slot 3)) (Vw.cons (Vw.pl (.slot 2)) Vw.nil))) (G.subV (.slot 0) st_any (Vw.c (.int 2)))))))) S.nx)
  (S.seq (S.asg (E.view (Vw.op2 o_mod (Vw.opN b_int (Vw.cons (Vw.op2 o_ix (Vw.var 0) (Vw.c (.int 2))) Vw.nil)) (Vw.var 1))) (G.nm 4))
  (S.seq (S.asg (E.view (Vw.op2 o_fdiv (Vw.op2 o_ix (Vw.var 0) (Vw.c (.int 2))) (Vw.var 1))) (G.subV (.slot 0) st_any (Vw.c (.int 2))))
  (S.ret (E.move 4)))))
def take (sp : List O → FRes) : List O → FRes := runF [0] 5 (b_take sp)

def ois (xs : List Int) : List O := xs.map fun i => .d (.int i)
abbrev pen (xs : List Int) (p q : Int) : O := .lst [.lst (ois xs), .d (.int p), .d (.int q)]
theorem ois_len (xs : List Int) : (ois xs).length = xs.length := by simp [ois]
theorem atI_nat {xs : List Int} {p : Int} (h0 : 0 ≤ p) (h1 : p < xs.length) : ∃ c, atI (ois xs) p = some (.d (.int c)) := by
  have hl : p.toNat < xs.length := by omega
  refine ⟨xs[p.toNat], ?_⟩
  unfold atI ixN
  rw [if_pos h0, if_pos (by rw [ois_len]; exact h1)]
  simp [ois, hl]
theorem at0 (a b c : O) : atI [a, b, c] 0 = some a := rfl
theorem at1 (a b c : O) : atI [a, b, c] 1 = some b := rfl
theorem at2 (a b c : O) : atI [a, b, c] 2 = some c := rfl
def SpOk (sp : List O → FRes) : Prop := ∀ c k : Int, 0 ≤ k → k ≤ 100000 → ∃ z, sp [.d (.int c), .d (.int k)] = .ok (.d (.int z)) []
theorem fdiv_ok {i j : Int} (h1 : 0 < j) (h2 : j < 1073741824) : o_fdiv (.d (.int i)) (.d (.int j)) = some (.d (.int (i / j))) := by
  unfold o_fdiv o_ii
  simp [h1, h2]
theorem mod_ok {i j : Int} (h1 : 0 < j) : o_mod (.d (.int i)) (.d (.int j)) = some (.d (.int (i % j))) := by
  unfold o_mod o_ii
  simp [h1]
theorem pow_ok {i j : Int} (h1 : 0 ≤ j) (h2 : j ≤ 1000) (h3 : -18446744073709551616 < i) (h4 : i < 18446744073709551616) : o_pow (.d (.int i)) (.d (.int j)) = some (.d (.int (i ^ j.toNat))) := by
  unfold o_pow o_ii
  simp [h1, h2, h3, h4]
theorem lt_ok {i j : Int} : o_lt (.d (.int i)) (.d (.int j)) = some (.d (.bool (decide (i < j)))) := rfl
theorem gt_ok {i j : Int} : o_gt (.d (.int i)) (.d (.int j)) = some (.d (.bool (decide (j < i)))) := rfl
theorem ge_ok {i j : Int} : o_ge (.d (.int i)) (.d (.int j)) = some (.d (.bool (decide (j ≤ i)))) := rfl
theorem add_ok {i j : Int} : v_add (.d (.int i)) (.d (.int j)) = some (.d (.int (i + j))) := rfl
theorem mul_ok {i j : Int} (h : -18446744073709551616 < j) (h2 : j < 18446744073709551616) : v_mulA (.d (.int i)) (.d (.int j)) = some (.d (.int (i * j))) := by
  unfold v_mulA v_mul
  simp [h, h2]
theorem int_ok {i : Int} : b_int [.d (.int i)] = some (.d (.int i)) := rfl
theorem ix_lst {xs : List O} {i : Int} : o_ix (.lst xs) (.d (.int i)) = atI xs i := rfl
theorem len_lst {xs : List O} : o_len [.lst xs] = some (.d (.int xs.length)) := rfl
/-- the end of a take -/
def b_tail : M Fl := (S.seq (S.asg (E.view (Vw.op2 o_mod (Vw.opN b_int (Vw.cons (Vw.op2 o_ix (Vw.var 0) (Vw.c (.int 2))) Vw.nil)) (Vw.var 1))) (G.nm 4))
  (S.seq (S.asg (E.view (Vw.op2 o_fdiv (Vw.op2 o_ix (Vw.var 0) (Vw.c (.int 2))) (Vw.var 1))) (G.subV (.slot 0) st_any (Vw.c (.int 2))))
  (S.ret (E.move 4))))
theorem take_end {sp : List O → FRes} {xs : List Int} {p q many : Int} {a b c : O} (h1 : 0 < many) (h2 : many < 1073741824) :
    b_tail [pen xs p q, .d (.int many), a, b, c] = .ok (.ret (.d (.int (q % many)))) [pen xs p (q / many), .d (.int many), a, b, .un] := by
  have e1 : o_mod (.d (.int q)) (.d (.int many)) = _ := mod_ok h1
  have e2 : o_fdiv (.d (.int q)) (.d (.int many)) = _ := fdiv_ok h1 h2
  have f1 : (S.asg (E.view (Vw.op2 o_mod (Vw.opN b_int (Vw.cons (Vw.op2 o_ix (Vw.var 0) (Vw.c (.int 2))) Vw.nil)) (Vw.var 1))) (G.nm 4)) [pen xs p q, .d (.int many), a, b, c] = .ok .nx [pen xs p q, .d (.int many), a, b, .d (.int (q % many))] := by
    have : (Vw.op2 o_mod (Vw.opN b_int (Vw.cons (Vw.op2 o_ix (Vw.var 0) (Vw.c (.int 2))) Vw.nil)) (Vw.var 1)) [pen xs p q, .d (.int many), a, b, c] = o_mod (.d (.int q)) (.d (.int many)) := rfl
    unfold S.asg M.bind E.view
    rw [this, e1]
    rfl
  have f2 : (S.asg (E.view (Vw.op2 o_fdiv (Vw.op2 o_ix (Vw.var 0) (Vw.c (.int 2))) (Vw.var 1))) (G.subV (.slot 0) st_any (Vw.c (.int 2)))) [pen xs p q, .d (.int many), a, b, .d (.int (q % many))] = .ok .nx [pen xs p (q / many), .d (.int many), a, b, .d (.int (q % many))] := by
    have : (Vw.op2 o_fdiv (Vw.op2 o_ix (Vw.var 0) (Vw.c (.int 2))) (Vw.var 1)) [pen xs p q, .d (.int many), a, b, .d (.int (q % many))] = o_fdiv (.d (.int q)) (.d (.int many)) := rfl
    unfold S.asg M.bind E.view
    rw [this, e2]
    rfl
  unfold b_tail S.seq
  rw [f1]
  simp only
  rw [f2]
  rfl

theorem seq_ok {f g : M Fl} {ρ ρ' : EV.Env} (h : f ρ = .ok .nx ρ') : S.seq f g ρ = g ρ' := by unfold S.seq; rw [h]
theorem if_ok {t : M Bool} {f g : M Fl} {ρ ρ' : EV.Env} {b : Bool} (h : t ρ = .ok b ρ') : S.ifS t f g ρ = if b then f ρ' else g ρ' := by
  unfold S.ifS M.bind
  rw [h]
  cases b <;> rfl
theorem asg_v {f : EV.Env → Option O} {i : Nat} {ρ : EV.Env} {x : D} (h : f ρ = some (.d x)) : S.asg (E.view f) (G.nm i) ρ = .ok .nx (ρ.set i (.d x)) := by
  unfold S.asg M.bind E.view
  rw [h]
  rfl
theorem op2_ok {o : O → O → Option O} {f g : EV.Env → Option O} {ρ : EV.Env} {x y z : O} (h1 : f ρ = some x) (h2 : g ρ = some y) (h : o x y = some z) : Vw.op2 o f g ρ = some z := by
  unfold Vw.op2
  rw [h1, h2]
  exact h
theorem opN_ok {o : List O → Option O} {f : EV.Env → Option O} {ρ : EV.Env} {x z : O} (h1 : f ρ = some x) (h : o [x] = some z) : Vw.opN o (Vw.cons f Vw.nil) ρ = some z := by
  unfold Vw.opN Vw.cons
  rw [h1]
  exact h
def b_take1 : M Fl := (S.ifS (T.view (Vw.op2 o_lt (Vw.var 2) (Vw.opN o_len (Vw.cons (Vw.op2 o_ix (Vw.var 0) (Vw.c (.int 0))) Vw.nil)))) (S.asg (E.view (Vw.op2 o_ix (Vw.op2 o_ix (Vw.var 0) (Vw.c (.int 0))) (Vw.var 2))) (G.nm 3)) (S.ifS (T.view (Vw.op2 o_gt (Vw.opN o_len (Vw.cons (Vw.op2 o_ix (Vw.var 0) (Vw.c (.int 0))) Vw.nil)) (Vw.c (.int 0)))) (S.asg (E.view (Vw.op2 o_mod (Vw.opN b_int (Vw.cons (Vw.op2 o_ix (Vw.op2 o_ix (Vw.var 0) (Vw.c (.int 0))) (Vw.op2 o_mod (Vw.opN b_int (Vw.cons (Vw.op2 v_add (Vw.op2 v_mulA (Vw.var 2) (Vw.c (.int 5))) (Vw.c (.int 3))) Vw.nil)) (Vw.opN o_len (Vw.cons (Vw.op2 o_ix (Vw.var 0) (Vw.c (.int 0))) Vw.nil)))) Vw.nil)) (Vw.op2 v_add (Vw.op2 o_pow (Vw.c (.int 10)) (Vw.c (.int 17))) (Vw.var 2)))) (G.nm 3)) S.nx))
theorem take1_ok {xs : List Int} {p q many : Int} {e : O} (hp : 0 ≤ p) (hp2 : p ≤ 100000) : ∃ c : Int, b_take1 [pen xs p q, .d (.int many), .d (.int p), .d (.int 0), e] = .ok .nx [pen xs p q, .d (.int many), .d (.int p), .d (.int c), e] := by
  unfold b_take1
  have t1 : (T.view (Vw.op2 o_lt (Vw.var 2) (Vw.opN o_len (Vw.cons (Vw.op2 o_ix (Vw.var 0) (Vw.c (.int 0))) Vw.nil)))) [pen xs p q, .d (.int many), .d (.int p), .d (.int 0), e] = .ok (decide (p < ((ois xs).length : Nat))) [pen xs p q, .d (.int many), .d (.int p), .d (.int 0), e] := rfl
  rw [if_ok t1]
  by_cases h : p < ((ois xs).length : Nat)
  · rw [decide_eq_true h, if_pos rfl]
    obtain ⟨c, hc⟩ := atI_nat (xs := xs) hp (by rw [← ois_len]; exact h)
    refine ⟨c, asg_v ?_⟩
    have : (Vw.op2 o_ix (Vw.op2 o_ix (Vw.var 0) (Vw.c (.int 0))) (Vw.var 2)) [pen xs p q, .d (.int many), .d (.int p), .d (.int 0), e] = atI (ois xs) p := rfl
    rw [this, hc]
  · rw [decide_eq_false h, if_neg Bool.false_ne_true]
    have t2 : (T.view (Vw.op2 o_gt (Vw.opN o_len (Vw.cons (Vw.op2 o_ix (Vw.var 0) (Vw.c (.int 0))) Vw.nil)) (Vw.c (.int 0)))) [pen xs p q, .d (.int many), .d (.int p), .d (.int 0), e] = .ok (decide (0 < (((ois xs).length : Nat) : Int))) [pen xs p q, .d (.int many), .d (.int p), .d (.int 0), e] := rfl
    rw [if_ok t2]
    by_cases h0 : 0 < (((ois xs).length : Nat) : Int)
    · rw [decide_eq_true h0, if_pos rfl]
      have e1 : v_mulA (.d (.int p)) (.d (.int 5)) = some (.d (.int (p * 5))) := mul_ok (by decide) (by decide)
      have e2 : o_mod (.d (.int (p * 5 + 3))) (.d (.int (((ois xs).length : Nat) : Int))) = some (.d (.int ((p * 5 + 3) % (((ois xs).length : Nat) : Int)))) := mod_ok h0
      obtain ⟨c, hc⟩ := atI_nat (xs := xs) (p := (p * 5 + 3) % (((ois xs).length : Nat) : Int)) (Int.emod_nonneg _ (by omega)) (by rw [← ois_len]; exact Int.emod_lt_of_pos _ h0)
      have e3 : o_pow (.d (.int 10)) (.d (.int 17)) = some (.d (.int (10 ^ 17))) := rfl
      have e4 : o_mod (.d (.int c)) (.d (.int (10 ^ 17 + p))) = some (.d (.int (c % (10 ^ 17 + p)))) := mod_ok (by omega)
      refine ⟨c % (10 ^ 17 + p), asg_v ?_⟩
      exact op2_ok (opN_ok (op2_ok (op2_ok rfl rfl ix_lst) (op2_ok (opN_ok (op2_ok (op2_ok rfl rfl e1) rfl add_ok) int_ok) (opN_ok (op2_ok rfl rfl ix_lst) len_lst) e2) hc) int_ok) (op2_ok (op2_ok rfl rfl e3) rfl add_ok) e4
    · rw [decide_eq_false h0, if_neg Bool.false_ne_true]
      exact ⟨0, rfl⟩
theorem callP2 {sp : List O → FRes} {ρ : EV.Env} {i j : Nat} {c k z : Int} (h1 : (Pl.slot i).get ρ = some (.d (.int c))) (h2 : (Pl.slot j).get ρ = some (.d (.int k))) (h : sp [.d (.int c), .d (.int k)] = .ok (.d (.int z)) []) :
    E.callP 2 sp (Vw.cons (Vw.pl (.slot i)) (Vw.cons (Vw.pl (.slot j)) Vw.nil)) ρ = .ok (.d (.int z)) ρ := by
  have e : (Vw.cons (Vw.pl (.slot i)) (Vw.cons (Vw.pl (.slot j)) Vw.nil)) ρ = some [.d (.int c), .d (.int k)] := by
    unfold Vw.cons Vw.pl Vw.nil
    rw [h1, h2]
    rfl
  unfold E.callP
  rw [e]
  show (if _ then (match sp [.d (.int c), .d (.int k)] with
    | .ok r [] => _
    | .exc c [] => _
    | _ => _) else _) = _
  rw [h]
  rfl
theorem take_ok {sp : List O → FRes} (hs : SpOk sp) {xs : List Int} {p q many : Int} (h1 : 0 < many) (h2 : many < 1073741824) (hp : 0 ≤ p) (hp2 : p ≤ 100000) :
    ∃ r p' q' : Int, take sp [pen xs p q, .d (.int many)] = .ok (.d (.int r)) [pen xs p' q'] ∧ 0 ≤ r ∧ r < many ∧ 0 ≤ p' ∧ p' ≤ p + 1 := by
  have fin : ∀ {p' q' : Int} {a b c : O} {ρ : EV.Env}, ρ = [pen xs p' q', .d (.int many), a, b, c] → 0 ≤ p' → p' ≤ p + 1 → b_take sp [pen xs p q, .d (.int many), .un, .un, .un] = b_tail ρ → _ := fun {p' q' a b c ρ} e1 e2 e3 e4 => (show ∃ r p'' q'' : Int, take sp [pen xs p q, .d (.int many)] = .ok (.d (.int r)) [pen xs p'' q''] ∧ 0 ≤ r ∧ r < many ∧ 0 ≤ p'' ∧ p'' ≤ p + 1 from by
    subst e1
    refine ⟨q' % many, p', q' / many, ?_, Int.emod_nonneg _ (by omega), Int.emod_lt_of_pos _ h1, e2, e3⟩
    show (match b_take sp [pen xs p q, .d (.int many), .un, .un, .un] with
      | .ok (.ret r) ρ => FRes.ok r ([0].map fun i => ρ.getD i .un)
      | .ok .nx ρ => .ok (.d .none) ([0].map fun i => ρ.getD i .un)
      | .exc c ρ => .exc c ([0].map fun i => ρ.getD i .un)
      | _ => .stuck) = _
    rw [e4, take_end (a := a) (b := b) (c := c) h1 h2 (sp := sp)]
    rfl)
  have t1 : (T.view (Vw.op2 o_lt (Vw.op2 o_ix (Vw.var 0) (Vw.c (.int 2))) (Vw.var 1))) [pen xs p q, .d (.int many), .un, .un, .un] = .ok (decide (q < many)) [pen xs p q, .d (.int many), .un, .un, .un] := rfl
  by_cases h : q < many
  · obtain ⟨c, hc⟩ := take1_ok (xs := xs) (q := q) (many := many) (e := .un) hp hp2
    obtain ⟨z, hz⟩ := hs c p hp hp2
    refine fin (p' := p + 1) (q' := z) (a := .d (.int p)) (b := .d (.int c)) (c := .un) rfl (by omega) (by omega) ?_
    show S.seq _ b_tail _ = b_tail _
    refine seq_ok ?_
    rw [if_ok t1, decide_eq_true h, if_pos rfl]
    refine (seq_ok (ρ' := [pen xs p q, .d (.int many), .d (.int p), .un, .un]) rfl).trans ?_
    refine (seq_ok (ρ' := [pen xs p q, .d (.int many), .d (.int p), .d (.int 0), .un]) rfl).trans ?_
    refine (seq_ok (ρ' := [pen xs p q, .d (.int many), .d (.int p), .d (.int c), .un]) hc).trans ?_
    refine (seq_ok (ρ' := [pen xs (p + 1) q, .d (.int many), .d (.int p), .d (.int c), .un]) rfl).trans ?_
    unfold S.asg M.bind
    rw [callP2 (c := c) (k := p) (z := z) rfl rfl hz]
    rfl
  · refine fin (p' := p) (q' := q) (a := .un) (b := .un) (c := .un) rfl hp (by omega) ?_
    show S.seq _ b_tail _ = b_tail _
    refine seq_ok ?_
    rw [if_ok t1, decide_eq_false h, if_neg Bool.false_ne_true]
    rfl

def prs : List O := [.d (.int 2147483629), .d (.int 2147483587), .d (.int 2147483579), .d (.int 2147483563), .d (.int 2147483549), .d (.int 2147483543), .d (.int 2147483497), .d (.int 2147483489), .d (.int 2147483477), .d (.int 2147483423), .d (.int 2147483399), .d (.int 2147483353), .d (.int 2147483323)]
theorem at_prs {i : Int} (h0 : 0 ≤ i) (h1 : i < 13) : ∃ pr : Int, atI prs i = some (.d (.int pr)) ∧ 0 < pr ∧ pr < 2147483648 := by
  have : i = 0 ∨ i = 1 ∨ i = 2 ∨ i = 3 ∨ i = 4 ∨ i = 5 ∨ i = 6 ∨ i = 7 ∨ i = 8 ∨ i = 9 ∨ i = 10 ∨ i = 11 ∨ i = 12 := by omega
  rcases this with h | h | h | h | h | h | h | h | h | h | h | h | h <;> (subst h; exact ⟨_, rfl, by decide, by decide⟩)

theorem prs_ok {ρ : EV.Env} {f : EV.Env → Option O} {k : Int} (h2 : Vw.var 2 ρ = some (.lst prs)) (hf : f ρ = some (.d (.int k))) : ∃ pr : Int, (Vw.op2 o_ix (Vw.var 2) (Vw.op2 o_mod (Vw.opN b_int (Vw.cons f Vw.nil)) (Vw.c (.int 13)))) ρ = some (.d (.int pr)) ∧ 0 < pr ∧ pr < 2147483648 := by
  have e : o_mod (.d (.int k)) (.d (.int 13)) = some (.d (.int (k % 13))) := mod_ok (by decide)
  obtain ⟨pr, h, a, b⟩ := at_prs (i := k % 13) (Int.emod_nonneg _ (by decide)) (Int.emod_lt_of_pos _ (by decide))
  exact ⟨pr, op2_ok h2 (op2_ok (opN_ok hf int_ok) rfl e) h, a, b⟩
/-- int(e ** n) % primes[..] -/
theorem pw_ok {ρ : EV.Env} {f g : EV.Env → Option O} {i pr n : Int} (hn : 0 ≤ n) (hn2 : n ≤ 1000) (hi : 0 ≤ i) (hi2 : i < 18446744073709551616) (hf : f ρ = some (.d (.int i))) (hg : g ρ = some (.d (.int pr))) (h1 : 0 < pr) (h2 : pr < 2147483648) :
    ∃ u : Int, (Vw.op2 o_mod (Vw.opN b_int (Vw.cons (Vw.op2 o_pow f (Vw.c (.int n))) Vw.nil)) g) ρ = some (.d (.int u)) ∧ 0 ≤ u ∧ u < 2147483648 := by
  have e : o_pow (.d (.int i)) (.d (.int n)) = some (.d (.int (i ^ n.toNat))) := pow_ok hn hn2 (by omega) hi2
  have h3 : i ^ n.toNat % pr < pr := Int.emod_lt_of_pos _ h1
  exact ⟨i ^ n.toNat % pr, op2_ok (opN_ok (op2_ok hf rfl e) int_ok) hg (mod_ok h1), Int.emod_nonneg _ (by omega), by omega⟩
theorem modv {ρ : EV.Env} {f : EV.Env → Option O} {i m : Int} (hf : f ρ = some (.d (.int i))) (h : 0 < m) : (Vw.op2 o_mod (Vw.opN b_int (Vw.cons f Vw.nil)) (Vw.c (.int m))) ρ = some (.d (.int (i % m))) := op2_ok (opN_ok hf int_ok) rfl (mod_ok h)
theorem addv {ρ : EV.Env} {f g : EV.Env → Option O} {i j : Int} (hf : f ρ = some (.d (.int i))) (hg : g ρ = some (.d (.int j))) : Vw.op2 v_add f g ρ = some (.d (.int (i + j))) := op2_ok hf hg add_ok
theorem mulv {ρ : EV.Env} {f g : EV.Env → Option O} {i j : Int} (hf : f ρ = some (.d (.int i))) (hg : g ρ = some (.d (.int j))) (h : -18446744073709551616 < j) (h2 : j < 18446744073709551616) : Vw.op2 v_mulA f g ρ = some (.d (.int (i * j))) := op2_ok hf hg (mul_ok h h2)
theorem mul_bd {a b m n : Int} (h1 : 0 ≤ a) (h2 : a ≤ m) (h3 : 0 ≤ b) (h4 : b ≤ n) : 0 ≤ a * b ∧ a * b ≤ m * n := ⟨Int.mul_nonneg h1 h3, Int.mul_le_mul h2 h4 h3 (by omega)⟩
theorem spread_if {c k : Int} : (T.view (Vw.op2 o_ge (Vw.var 0) (Vw.op2 o_pow (Vw.c (.int 10)) (Vw.c (.int 18))))) [.d (.int c), .d (.int k), .un, .un, .un, .un] = .ok (decide (10 ^ 18 ≤ c)) [.d (.int c), .d (.int k), .un, .un, .un, .un] := by
  have e : o_pow (.d (.int 10)) (.d (.int 18)) = some (.d (.int (10 ^ 18))) := rfl
  have h : (Vw.op2 o_ge (Vw.var 0) (Vw.op2 o_pow (Vw.c (.int 10)) (Vw.c (.int 18)))) [.d (.int c), .d (.int k), .un, .un, .un, .un] = some (.d (.bool (decide (10 ^ 18 ≤ c)))) := op2_ok rfl (op2_ok rfl rfl e) ge_ok
  unfold T.view
  rw [h]
theorem spread_ok : SpOk spread := by
  intro c k hk hk2
  have run : ∀ {z : Int} {ρ : EV.Env}, b_spread [.d (.int c), .d (.int k), .un, .un, .un, .un] = .ok (.ret (.d (.int z))) ρ → ∃ z, spread [.d (.int c), .d (.int k)] = .ok (.d (.int z)) [] := fun {z ρ} h => ⟨z, by
    show (match b_spread [.d (.int c), .d (.int k), .un, .un, .un, .un] with
      | .ok (.ret r) ρ => FRes.ok r (([] : List Nat).map fun i => ρ.getD i .un)
      | .ok .nx ρ => .ok (.d .none) (([] : List Nat).map fun i => ρ.getD i .un)
      | .exc c ρ => .exc c (([] : List Nat).map fun i => ρ.getD i .un)
      | _ => .stuck) = _
    rw [h]
    rfl⟩
  by_cases hc : 10 ^ 18 ≤ c
  · refine run (z := c) (ρ := [.un, .d (.int k), .un, .un, .un, .un]) ?_
    unfold b_spread S.seq
    rw [if_ok spread_if, decide_eq_true hc, if_pos rfl]
    rfl
  · have c1 : 0 ≤ c % 1000000007 := Int.emod_nonneg _ (by decide)
    have c2 : c % 1000000007 < 1000000007 := Int.emod_lt_of_pos _ (by decide)
    have c3 : 0 ≤ c % 65537 := Int.emod_nonneg _ (by decide)
    have c4 : c % 65537 < 65537 := Int.emod_lt_of_pos _ (by decide)
    obtain ⟨b1, b2⟩ := mul_bd (a := c % 1000000007) (b := 2 * k + 69069) (m := 1000000007) (n := 300000) c1 (by omega) (by omega) (by omega)
    obtain ⟨p1, q1, q2, q3⟩ := prs_ok (ρ := [.d (.int c), .d (.int k), .lst prs, .d (.int (c % 1000000007 * (2 * k + 69069) + k * 40503 + 977)), .un, .un]) (f := Vw.var 1) (k := k) rfl rfl
    obtain ⟨u, u1, u2, u3⟩ := pw_ok (ρ := [.d (.int c), .d (.int k), .lst prs, .d (.int (c % 1000000007 * (2 * k + 69069) + k * 40503 + 977)), .un, .un]) (f := Vw.var 3) (n := 3) (by decide) (by decide) (by omega) (by omega) rfl q1 q2 q3
    obtain ⟨b3, b4⟩ := mul_bd (a := u) (b := k + 3) (m := 2147483648) (n := 200000) u2 (by omega) (by omega) (by omega)
    obtain ⟨p2, r1, r2, r3⟩ := prs_ok (ρ := [.d (.int c), .d (.int k), .lst prs, .d (.int u), .un, .un]) (f := Vw.op2 v_add (Vw.var 1) (Vw.c (.int 5))) (k := k + 5) rfl (addv rfl rfl)
    obtain ⟨v, v1, v2, v3⟩ := pw_ok (ρ := [.d (.int c), .d (.int k), .lst prs, .d (.int u), .un, .un]) (n := 5) (by decide) (by decide) (by omega) (by omega) (addv (addv (mulv (f := Vw.var 3) (i := u) rfl (addv (f := Vw.var 1) (g := Vw.c (.int 3)) (i := k) (j := 3) rfl rfl) (by omega) (by omega)) (modv (f := Vw.var 0) (i := c) (m := 65537) rfl (by decide))) (g := Vw.c (.int 5)) (j := 5) rfl) r1 r2 r3
    have c5 : 0 ≤ u % 1009 := Int.emod_nonneg _ (by decide)
    have c6 : u % 1009 < 1009 := Int.emod_lt_of_pos _ (by decide)
    obtain ⟨p3, s1, s2, s3⟩ := prs_ok (ρ := [.d (.int c), .d (.int k), .lst prs, .d (.int u), .d (.int v), .un]) (f := Vw.op2 v_add (Vw.var 1) (Vw.c (.int 7))) (k := k + 7) rfl (addv rfl rfl)
    obtain ⟨w, w1, w2, w3⟩ := pw_ok (ρ := [.d (.int c), .d (.int k), .lst prs, .d (.int u), .d (.int v), .un]) (n := 3) (by decide) (by decide) (by omega) (by omega) (addv (addv (f := Vw.var 4) (i := v) rfl (modv (f := Vw.var 3) (i := u) (m := 1009) rfl (by decide))) (g := Vw.var 1) (j := k) rfl) s1 s2 s3
    refine run (z := (u * 2147483647 + v) * 2147483647 + w) (ρ := [.d (.int c), .d (.int k), .lst prs, .d (.int u), .d (.int v), .d (.int w)]) ?_
    unfold b_spread
    refine (seq_ok (ρ' := [.d (.int c), .d (.int k), .un, .un, .un, .un]) (by rw [if_ok spread_if, decide_eq_false hc, if_neg Bool.false_ne_true]; rfl)).trans ?_
    refine (seq_ok rfl).trans ?_
    refine (seq_ok (ρ' := [.d (.int c), .d (.int k), .lst prs, .un, .un, .un]) rfl).trans ?_
    refine (seq_ok (asg_v (addv (addv (mulv (modv rfl (by decide)) (addv (mulv rfl rfl (by omega) (by omega)) rfl) (by omega) (by omega)) (mulv rfl rfl (by decide) (by decide))) rfl))).trans ?_
    refine (seq_ok (asg_v u1)).trans ?_
    refine (seq_ok (asg_v v1)).trans ?_
    refine (seq_ok (asg_v w1)).trans ?_
    have fin : (Vw.op2 v_add (Vw.op2 v_mulA (Vw.op2 v_add (Vw.op2 v_mulA (Vw.var 3) (Vw.c (.int 2147483647))) (Vw.var 4)) (Vw.c (.int 2147483647))) (Vw.var 5)) [.d (.int c), .d (.int k), .lst prs, .d (.int u), .d (.int v), .d (.int w)] = some (.d (.int ((u * 2147483647 + v) * 2147483647 + w))) :=
      addv (mulv (addv (mulv rfl rfl (by decide) (by decide)) rfl) rfl (by decide) (by decide)) rfl
    show S.ret (E.view _) [.d (.int c), .d (.int k), .lst prs, .d (.int u), .d (.int v), .d (.int w)] = _
    unfold S.ret M.bind E.view
    rw [fin]
    rfl
theorem spread2_ok : SpOk spread2 := by
  intro c k hk hk2
  have run : ∀ {z : Int} {ρ : EV.Env}, b_spread2 [.d (.int c), .d (.int k), .un, .un, .un, .un] = .ok (.ret (.d (.int z))) ρ → ∃ z, spread2 [.d (.int c), .d (.int k)] = .ok (.d (.int z)) [] := fun {z ρ} h => ⟨z, by
    show (match b_spread2 [.d (.int c), .d (.int k), .un, .un, .un, .un] with
      | .ok (.ret r) ρ => FRes.ok r (([] : List Nat).map fun i => ρ.getD i .un)
      | .ok .nx ρ => .ok (.d .none) (([] : List Nat).map fun i => ρ.getD i .un)
      | .exc c ρ => .exc c (([] : List Nat).map fun i => ρ.getD i .un)
      | _ => .stuck) = _
    rw [h]
    rfl⟩
  by_cases hc : 10 ^ 18 ≤ c
  · refine run (z := c) (ρ := [.un, .d (.int k), .un, .un, .un, .un]) ?_
    unfold b_spread2 S.seq
    rw [if_ok spread_if, decide_eq_true hc, if_pos rfl]
    rfl
  · have c1 : 0 ≤ c % 1000000007 := Int.emod_nonneg _ (by decide)
    have c2 : c % 1000000007 < 1000000007 := Int.emod_lt_of_pos _ (by decide)
    have c3 : 0 ≤ c % 65537 := Int.emod_nonneg _ (by decide)
    have c4 : c % 65537 < 65537 := Int.emod_lt_of_pos _ (by decide)
    obtain ⟨b1, b2⟩ := mul_bd (a := c % 1000000007) (b := 2 * k + 69069) (m := 1000000007) (n := 300000) c1 (by omega) (by omega) (by omega)
    obtain ⟨p1, q1, q2, q3⟩ := prs_ok (ρ := [.d (.int c), .d (.int k), .lst prs, .d (.int (c % 1000000007 * (2 * k + 69069))), .un, .un]) (f := Vw.var 1) (k := k) rfl rfl
    obtain ⟨u, u1, u2, u3⟩ := pw_ok (ρ := [.d (.int c), .d (.int k), .lst prs, .d (.int (c % 1000000007 * (2 * k + 69069))), .un, .un]) (n := 3) (i := c % 1000000007 * (2 * k + 69069) + k * 40503 + 977) (by decide) (by decide) (by omega) (by omega) (addv (addv (f := Vw.var 3) (i := c % 1000000007 * (2 * k + 69069)) rfl (mulv (f := Vw.var 1) (g := Vw.c (.int 40503)) (i := k) (j := 40503) rfl rfl (by decide) (by decide))) (g := Vw.c (.int 977)) (j := 977) rfl) q1 q2 q3
    obtain ⟨b3, b4⟩ := mul_bd (a := u) (b := k + 3) (m := 2147483648) (n := 200000) u2 (by omega) (by omega) (by omega)
    obtain ⟨p2, r1, r2, r3⟩ := prs_ok (ρ := [.d (.int c), .d (.int k), .lst prs, .d (.int u), .un, .un]) (f := Vw.op2 v_add (Vw.var 1) (Vw.c (.int 5))) (k := k + 5) rfl (addv rfl rfl)
    obtain ⟨v, v1, v2, v3⟩ := pw_ok (ρ := [.d (.int c), .d (.int k), .lst prs, .d (.int u), .un, .un]) (n := 5) (by decide) (by decide) (by omega) (by omega) (addv (addv (mulv (f := Vw.var 3) (i := u) rfl (addv (f := Vw.var 1) (g := Vw.c (.int 3)) (i := k) (j := 3) rfl rfl) (by omega) (by omega)) (modv (f := Vw.var 0) (i := c) (m := 65537) rfl (by decide))) (g := Vw.c (.int 5)) (j := 5) rfl) r1 r2 r3
    have c5 : 0 ≤ u % 1009 := Int.emod_nonneg _ (by decide)
    have c6 : u % 1009 < 1009 := Int.emod_lt_of_pos _ (by decide)
    obtain ⟨p3, s1, s2, s3⟩ := prs_ok (ρ := [.d (.int c), .d (.int k), .lst prs, .d (.int u), .d (.int v), .un]) (f := Vw.op2 v_add (Vw.var 1) (Vw.c (.int 7))) (k := k + 7) rfl (addv rfl rfl)
    obtain ⟨w, w1, w2, w3⟩ := pw_ok (ρ := [.d (.int c), .d (.int k), .lst prs, .d (.int u), .d (.int v), .un]) (n := 3) (by decide) (by decide) (by omega) (by omega) (addv (addv (f := Vw.var 4) (i := v) rfl (modv (f := Vw.var 3) (i := u) (m := 1009) rfl (by decide))) (g := Vw.var 1) (j := k) rfl) s1 s2 s3
    refine run (z := (u * 2147483647 + v) * 2147483647 + w) (ρ := [.d (.int c), .d (.int k), .lst prs, .d (.int u), .d (.int v), .d (.int w)]) ?_
    unfold b_spread2
    refine (seq_ok (ρ' := [.d (.int c), .d (.int k), .un, .un, .un, .un]) (by rw [if_ok spread_if, decide_eq_false hc, if_neg Bool.false_ne_true]; rfl)).trans ?_
    refine (seq_ok rfl).trans ?_
    refine (seq_ok (ρ' := [.d (.int c), .d (.int k), .lst prs, .un, .un, .un]) rfl).trans ?_
    refine (seq_ok (asg_v (mulv (modv rfl (by decide)) (addv (mulv rfl rfl (by omega) (by omega)) rfl) (by omega) (by omega)))).trans ?_
    refine (seq_ok (asg_v u1)).trans ?_
    refine (seq_ok (asg_v v1)).trans ?_
    refine (seq_ok (asg_v w1)).trans ?_
    have fin : (Vw.op2 v_add (Vw.op2 v_mulA (Vw.op2 v_add (Vw.op2 v_mulA (Vw.var 3) (Vw.c (.int 2147483647))) (Vw.var 4)) (Vw.c (.int 2147483647))) (Vw.var 5)) [.d (.int c), .d (.int k), .lst prs, .d (.int u), .d (.int v), .d (.int w)] = some (.d (.int ((u * 2147483647 + v) * 2147483647 + w))) :=
      addv (mulv (addv (mulv rfl rfl (by decide) (by decide)) rfl) rfl (by decide) (by decide)) rfl
    show S.ret (E.view _) [.d (.int c), .d (.int k), .lst prs, .d (.int u), .d (.int v), .d (.int w)] = _
    unfold S.ret M.bind E.view
    rw [fin]
    rfl

def b_add : M Fl := (S.asg (E.view (Vw.op2 v_add (Vw.op2 o_ix (Vw.var 1) (Vw.op2 o_mod (Vw.opN b_int (Vw.cons (Vw.var 2) Vw.nil)) (Vw.c (.int 12)))) (Vw.var 3))) (G.subV (.slot 1) st_any (Vw.op2 o_mod (Vw.opN b_int (Vw.cons (Vw.var 2) Vw.nil)) (Vw.c (.int 12)))))
theorem set_ois {xs : List Int} {j : Nat} {x : Int} : (ois xs).set j (.d (.int x)) = ois (xs.set j x) := by
  unfold ois
  rw [List.map_set]
theorem add_step {s : O} {kept : List Int} {k z : Int} (hk : kept.length = 12) : ∃ kept' : List Int, kept'.length = 12 ∧ b_add [s, .lst (ois kept), .d (.int k), .d (.int z)] = .ok .nx [s, .lst (ois kept'), .d (.int k), .d (.int z)] := by
  have h0 : 0 ≤ k % 12 := Int.emod_nonneg _ (by decide)
  have h1 : k % 12 < 12 := Int.emod_lt_of_pos _ (by decide)
  obtain ⟨c, hc⟩ := atI_nat (xs := kept) h0 (by rw [hk]; exact h1)
  have vi : (Vw.op2 o_mod (Vw.opN b_int (Vw.cons (Vw.var 2) Vw.nil)) (Vw.c (.int 12))) [s, .lst (ois kept), .d (.int k), .d (.int z)] = some (.d (.int (k % 12))) := modv rfl (by decide)
  have vv : (Vw.op2 v_add (Vw.op2 o_ix (Vw.var 1) (Vw.op2 o_mod (Vw.opN b_int (Vw.cons (Vw.var 2) Vw.nil)) (Vw.c (.int 12)))) (Vw.var 3)) [s, .lst (ois kept), .d (.int k), .d (.int z)] = some (.d (.int (c + z))) := addv (op2_ok rfl vi hc) rfl
  refine ⟨kept.set (k % 12).toNat (c + z), by rw [List.length_set, hk], ?_⟩
  unfold b_add S.asg M.bind E.view
  rw [vv]
  have hx : ixN (ois kept).length (k % 12) = some (k % 12).toNat := by
    unfold ixN
    rw [if_pos h0, if_pos (by rw [ois_len, hk]; exact h1)]
  have : G.subV (.slot 1) st_any (Vw.op2 o_mod (Vw.opN b_int (Vw.cons (Vw.var 2) Vw.nil)) (Vw.c (.int 12))) (.d (.int (c + z))) [s, .lst (ois kept), .d (.int k), .d (.int z)] = .ok () [s, .lst (ois (kept.set (k % 12).toNat (c + z))), .d (.int k), .d (.int z)] := by
    unfold G.subV
    rw [vi]
    show (match st_any (.lst (ois kept)) (.int (k % 12)) (.int (c + z)) with
      | some o' => R.ok () ((Pl.slot 1).set o' [s, .lst (ois kept), .d (.int k), .d (.int z)])
      | none => .stuck) = _
    have : st_any (.lst (ois kept)) (.int (k % 12)) (.int (c + z)) = some (.lst (ois (kept.set (k % 12).toNat (c + z)))) := by
      show (ixN (ois kept).length (k % 12)).map _ = _
      rw [hx, Option.map_some, set_ois]
    rw [this]
    rfl
  simp only [this]
theorem add_loop {s : O} : ∀ (l : List (Int × Int)) (kept : List Int) (a b : O), kept.length = 12 → ∃ (kept' : List Int) (a' b' : O),
    loopF (G.tup 2 (G.cons (G.nm 2) (G.cons (G.nm 3) G.nil))) b_add (l.map fun p => PyData.tuple [.int p.1, .int p.2]) [s, .lst (ois kept), a, b] = .ok .nx [s, .lst (ois kept'), a', b']
  | [], kept, a, b, _ => ⟨kept, a, b, rfl⟩
  | (k, z) :: l, kept, a, b, hk => by
    obtain ⟨kept1, h1, e1⟩ := add_step (s := s) (k := k) (z := z) hk
    obtain ⟨kept2, a2, b2, e2⟩ := add_loop l kept1 (.d (.int k)) (.d (.int z)) h1
    refine ⟨kept2, a2, b2, ?_⟩
    rw [List.map_cons]
    unfold loopF
    have eg : (G.tup 2 (G.cons (G.nm 2) (G.cons (G.nm 3) G.nil))) (.d (.tuple [.int k, .int z])) [s, .lst (ois kept), a, b] = .ok () [s, .lst (ois kept), .d (.int k), .d (.int z)] := rfl
    rw [eg]
    show (match b_add [s, .lst (ois kept), .d (.int k), .d (.int z)] with
      | .ok .nx ρ2 => _
      | .ok .cnt ρ2 => _
      | .ok .brk ρ2 => _
      | r => _) = _
    rw [e1]
    exact e2

theorem frzL_map : ∀ ds : List D, frzL (ds.map .d) = some ds
  | [] => rfl
  | d :: ds => by
    rw [List.map_cons, frzL, frzL_map ds]
    rfl
theorem frz_ol (ds : List D) : frz (ol ds) = some (.list ds) := by
  unfold ol
  rw [frz, frzL_map]
  rfl
theorem allD_ints (ns : List Int) : allD (ns.map fun i => O.d (.int i)) = some (ns.map PyData.int) := by
  have := allD_map (ns.map PyData.int)
  rw [List.map_map] at this
  exact this
theorem listD_scr (ns : List Int) : listD (.scr ns) = some (ns.map PyData.int) := by
  show (some (ns.map fun i => O.d (.int i))).bind allD = _
  rw [Option.bind_some, allD_ints]
theorem cut1 (ns : List Int) : cutD (ns.map PyData.int) none (some 12) = (ns.take 12).map PyData.int := by
  unfold cutD
  have : HT.sIx (ns.map PyData.int).length (ns.map PyData.int).length (some 12) = min 12 (ns.map PyData.int).length := HT.sIx_nat _ _ 12
  rw [this, HT.sIx_none, List.drop_zero, Nat.sub_zero, List.map_take, ← List.take_take, List.take_length]
theorem cut2 (ns : List Int) : ∃ zs : List Int, cutD (ns.map PyData.int) (some 12) (some 63) = zs.map PyData.int ∧ (ns.length < 12 → zs = []) := by
  unfold cutD
  have h1 : HT.sIx (ns.map PyData.int).length (ns.map PyData.int).length (some 63) = min 63 (ns.map PyData.int).length := HT.sIx_nat _ _ 63
  have h2 : HT.sIx (ns.map PyData.int).length 0 (some 12) = min 12 (ns.map PyData.int).length := HT.sIx_nat _ _ 12
  rw [h1, h2, List.length_map]
  refine ⟨(ns.drop (min 12 ns.length)).take (min 63 ns.length - min 12 ns.length), by rw [List.map_take, List.map_drop], fun h => ?_⟩
  have : min 12 ns.length = ns.length := by omega
  rw [this, List.drop_length, List.take_nil]
theorem enums_ints (zs : List Int) : ∃ l : List (Int × Int), Wk.enums (zs.map PyData.int) = l.map fun p => PyData.tuple [.int p.1, .int p.2] := by
  refine ⟨zs.zipIdx.map fun p => ((p.2 : Nat), p.1), ?_⟩
  unfold Wk.enums
  rw [List.zipIdx_map, List.map_map, List.map_map]
  rfl
theorem enums_nil : Wk.enums (([] : List Int).map PyData.int) = [] := rfl
theorem open_ok (ns : List Int) : ∃ xs : List Int, open_ [.scr ns] = .ok (pen xs 0 0) [] := by
  have s1 : (Vw.opN (fun xs => (l_list xs).map ol) (Vw.cons (Vw.sl (Vw.var 0) Vw.noPart (Vw.part (Vw.c (.int 12))) s_view) Vw.nil)) [.scr ns, .un, .un, .un] = some (.lst (ois (ns.take 12))) := by
    have e : (Vw.sl (Vw.var 0) Vw.noPart (Vw.part (Vw.c (.int 12))) s_view) [.scr ns, .un, .un, .un] = some (dl ((ns.take 12).map PyData.int)) := by
      show s_view (.scr ns) none (some 12) = _
      unfold s_view s_list
      rw [listD_scr, Option.map_some, cut1]
    refine opN_ok e ?_
    show ((match seqD (dl ((ns.take 12).map PyData.int)) with | some ds => some ds | none => none).map ol) = _
    have : seqD (dl ((ns.take 12).map PyData.int)) = some ((ns.take 12).map PyData.int) := by
      show (some (((ns.take 12).map PyData.int).map O.d)).bind allD = _
      rw [Option.bind_some, allD_map]
    rw [this]
    show some (O.lst _) = _
    rw [List.map_map]
    rfl
  obtain ⟨zs, hz, hzn⟩ := cut2 ns
  have s2 : ∀ k : List O, (Vw.sl (Vw.var 0) (Vw.part (Vw.c (.int 12))) (Vw.part (Vw.c (.int 63))) s_new) (.scr ns :: k) = some (ol (zs.map PyData.int)) := fun k => by
    show s_new (.scr ns) (some 12) (some 63) = _
    unfold s_new s_list
    rw [listD_scr, Option.map_some, Option.map_some, hz]
  have s3 : ∀ ρ : EV.Env, (Vw.sl (Vw.var 0) (Vw.part (Vw.c (.int 12))) (Vw.part (Vw.c (.int 63))) s_new) ρ = some (ol (zs.map PyData.int)) → (Wk.enum (A.cons (E.fr (Vw.sl (Vw.var 0) (Vw.part (Vw.c (.int 12))) (Vw.part (Vw.c (.int 63))) s_new)) A.nil)) ρ = .ok (Wk.enums (zs.map PyData.int)) ρ := fun ρ h => by
    have e1 : (A.cons (E.fr (Vw.sl (Vw.var 0) (Vw.part (Vw.c (.int 12))) (Vw.part (Vw.c (.int 63))) s_new)) A.nil) ρ = .ok [ol (zs.map PyData.int)] ρ := by
      unfold A.cons M.bind E.fr
      rw [h]
      rfl
    unfold Wk.enum M.bind
    rw [e1]
    show M.opt ((oseq (ol (zs.map PyData.int))).map Wk.enums) ρ = _
    have : oseq (ol (zs.map PyData.int)) = some (zs.map PyData.int) := by
      unfold oseq
      rw [frz_ol]
      rfl
    rw [this]
    rfl
  have loop : ∃ (kept' : List Int) (a' b' : O), loopF (G.tup 2 (G.cons (G.nm 2) (G.cons (G.nm 3) G.nil))) b_add (Wk.enums (zs.map PyData.int)) [.scr ns, .lst (ois (ns.take 12)), .un, .un] = .ok .nx [.scr ns, .lst (ois kept'), a', b'] := by
    by_cases h : ns.length < 12
    · rw [hzn h]
      exact ⟨_, .un, .un, rfl⟩
    · obtain ⟨l, hl⟩ := enums_ints zs
      rw [hl]
      exact add_loop l _ .un .un (by rw [List.length_take]; omega)
  obtain ⟨kept, a, b, hl⟩ := loop
  refine ⟨kept, ?_⟩
  have body : b_open [.scr ns, .un, .un, .un] = .ok (.ret (pen kept 0 0)) [.scr ns, .un, a, b] := by
    unfold b_open
    refine (seq_ok (ρ' := [.scr ns, .lst (ois (ns.take 12)), .un, .un]) ?_).trans ?_
    · unfold S.asg M.bind E.fr
      rw [s1]
      rfl
    refine (seq_ok (ρ' := [.scr ns, .lst (ois kept), a, b]) ?_).trans ?_
    · unfold S.for M.bind
      rw [s3 _ (s2 _)]
      exact hl
    rfl
  show (match b_open [.scr ns, .un, .un, .un] with
    | .ok (.ret r) ρ => FRes.ok r (([] : List Nat).map fun i => ρ.getD i .un)
    | .ok .nx ρ => .ok (.d .none) (([] : List Nat).map fun i => ρ.getD i .un)
    | .exc c ρ => .exc c (([] : List Nat).map fun i => ρ.getD i .un)
    | _ => .stuck) = _
  rw [body]
  rfl

theorem acons_ok {f : M O} {g : M (List O)} {ρ ρ1 ρ2 : EV.Env} {x : O} {xs : List O} (h1 : f ρ = .ok x ρ1) (h2 : g ρ1 = .ok xs ρ2) : A.cons f g ρ = .ok (x :: xs) ρ2 := by
  unfold A.cons M.bind
  rw [h1]
  simp only [h2]
  rfl
theorem view_ok {f : EV.Env → Option O} {ρ : EV.Env} {x : D} (h : f ρ = some (.d x)) : E.view f ρ = .ok (.d x) ρ := by
  unfold E.view
  rw [h]
theorem callIO_ok {m : List O → FRes} {n i : Nat} {fa : M (List O)} {ρ0 ρ : EV.Env} {os xs : List O} {o0 o o' r : O} (h0 : ρ0[i]? = some o0) (hn : o0 ≠ .un) (hf : fa ρ0 = .ok os ρ) (hx : frzArgs os = some xs) (hi : ρ[i]? = some o) (hl : xs.length + 1 = n) (hm : m (o :: xs) = .ok r [o']) : E.callIO n m i fa ρ0 = .ok r (ρ.set i o') := by
  unfold E.callIO
  split
  · rename_i h; rw [h0] at h; exact (hn (Option.some.inj h)).elim
  · rename_i h; rw [h0] at h; cases h
  · unfold M.bind
    rw [hf]
    simp only [hx, hi]
    rw [if_pos hl, hm]
def b_one (tk : List O → FRes) : M Fl := (S.ret (E.op2 o_ixd (E.var 1) (E.callIO 2 tk 0 (A.cons (E.view (Vw.opN o_len (Vw.cons (Vw.var 1) Vw.nil))) A.nil))))
def one (tk : List O → FRes) : List O → FRes := runF [0] 2 (b_one tk)
theorem one_ok {sp : List O → FRes} (hs : SpOk sp) {xs : List Int} {p q : Int} {ds : List D} (h1 : 0 < ds.length) (h2 : ds.length < 1073741824) (hp : 0 ≤ p) (hp2 : p ≤ 100000) :
    ∃ (r : Nat) (d : D) (p' q' : Int), ds[r]? = some d ∧ one (take sp) [pen xs p q, .d (.list ds)] = .ok (.d d) [pen xs p' q'] ∧ 0 ≤ p' ∧ p' ≤ p + 1 := by
  obtain ⟨r, p', q', e, r0, r1, a1, a2⟩ := take_ok hs (xs := xs) (p := p) (q := q) (many := ds.length) (by omega) (by omega) hp hp2
  have hl : r.toNat < ds.length := by omega
  refine ⟨r.toNat, ds[r.toNat], p', q', by simp [hl], ?_, a1, a2⟩
  have hlen : (Vw.opN o_len (Vw.cons (Vw.var 1) Vw.nil)) [pen xs p q, .d (.list ds)] = some (.d (.int ds.length)) := by
    refine opN_ok (x := .d (.list ds)) rfl ?_
    show some (O.d (.int ((ds.map O.d).length : Nat))) = _
    rw [List.length_map]
  have c : E.callIO 2 (take sp) 0 (A.cons (E.view (Vw.opN o_len (Vw.cons (Vw.var 1) Vw.nil))) A.nil) [pen xs p q, .d (.list ds)] = .ok (.d (.int r)) ([pen xs p q, .d (.list ds)].set 0 (pen xs p' q')) :=
    callIO_ok rfl (fun z => by cases z) (acons_ok (view_ok hlen) rfl) rfl rfl rfl e
  have ix : o_ixd (.d (.list ds)) (.d (.int r)) = some (.d ds[r.toNat]) := by
    have : o_ix (.d (.list ds)) (.d (.int r)) = some (.d ds[r.toNat]) := by
      show atI (ds.map O.d) r = _
      unfold atI ixN
      rw [if_pos r0, if_pos (by rw [List.length_map]; exact r1)]
      simp [hl]
    unfold o_ixd
    rw [this]
  have body : b_one (take sp) [pen xs p q, .d (.list ds)] = .ok (.ret (.d ds[r.toNat])) [pen xs p' q', .d (.list ds)] := by
    unfold b_one S.ret E.op2 M.bind
    have e1 : E.var 1 [pen xs p q, .d (.list ds)] = .ok (.d (.list ds)) [pen xs p q, .d (.list ds)] := rfl
    rw [e1]
    simp only [c]
    rw [ix]
    rfl
  show (match b_one (take sp) [pen xs p q, .d (.list ds)] with
    | .ok (.ret r) ρ => FRes.ok r ([0].map fun i => ρ.getD i .un)
    | .ok .nx ρ => .ok (.d .none) ([0].map fun i => ρ.getD i .un)
    | .exc c ρ => .exc c ([0].map fun i => ρ.getD i .un)
    | _ => .stuck) = _
  rw [body]
  rfl
theorem cleanOs_ois : ∀ xs : List Int, cleanOs (ois xs) = true
  | [] => rfl
  | x :: xs => by
    show (true && cleanOs (ois xs)) = true
    rw [cleanOs_ois xs]
    rfl
theorem call_open {f : List O → FRes} {ns xs : List Int} {ρ : EV.Env} (h : f [.scr ns] = .ok (pen xs 0 0) []) : E.callP 1 f (Vw.cons (Vw.pl (.slot 0)) Vw.nil) (.scr ns :: ρ) = .ok (pen xs 0 0) (.scr ns :: ρ) := by
  unfold E.callP
  have e : (Vw.cons (Vw.pl (.slot 0)) Vw.nil) (.scr ns :: ρ) = some [.scr ns] := rfl
  rw [e]
  show (if _ then (match f [.scr ns] with
    | .ok r [] => if ((allD [O.scr ns]).isSome || cleanO r) = true then R.ok r (.scr ns :: ρ) else .stuck
    | .exc c [] => _
    | _ => _) else _) = _
  rw [h, if_pos (show ([O.scr ns] : List O).length = 1 from rfl)]
  have : cleanO (pen xs 0 0) = true := by
    show (cleanOs (ois xs) && _) = true
    rw [cleanOs_ois]
    rfl
  simp only [this, Bool.or_true, if_true]
def isNx : R Fl → Bool
  | .ok .nx _ => true
  | _ => false
theorem isNx_ok {r : R Fl} (h : isNx r = true) : ∃ ρ, r = .ok .nx ρ := by
  unfold isNx at h
  split at h
  · exact ⟨_, rfl⟩
  · cases h

theorem for_ok {f : M (List D)} {g : O → M Unit} {fb : M Fl} {ds : List D} {ρ ρ1 ρ2 : EV.Env} (h1 : f ρ = .ok ds ρ1) (h2 : loopF g fb ds ρ1 = .ok .nx ρ2) : S.for f g fb ρ = .ok .nx ρ2 := by
  unfold S.for M.bind
  rw [h1]
  exact h2

theorem wseq_ok {f : M (List O)} {os : List O} {ds : List D} {ρ ρ1 : EV.Env} (h1 : f ρ = .ok os ρ1) (hl : os.length ≤ 1000000) (h2 : oseq (.lst os) = some ds) : Wk.seq (E.lst f) ρ = .ok ds ρ1 := by
  have e : E.lst f ρ = .ok (.lst os) ρ1 := by
    unfold E.lst M.bind
    rw [h1]
    simp only
    rw [if_pos hl]
    rfl
  unfold Wk.seq M.bind
  rw [e]
  simp only [h2]
  rfl
end EV.Pen

/-! The layer EV, part X: calls by names of arguments. -/
namespace EV
open PySem PySem.Spec PyProof.Rows L2
/-- the values in the parameters' order -/
def permL {α : Type} (pm : List Nat) (l : List α) : List α := pm.filterMap fun i => l[i]?
def Vw.perm (pm : List Nat) (fs : Env → Option (List O)) : Env → Option (List O) := fun ρ => (fs ρ).bind fun os => if os.length = pm.length then some (permL pm os) else none
section
variable {K : PySem.W.Frag} {mg : Str → Option Value} {I H : Hp}
theorem VsT.at {T : Pd} : ∀ {os : List O} {vs : List V} (i : Nat), VsT K mg I H T os vs → (os[i]? = none ∧ vs[i]? = none) ∨ ∃ o v S, os[i]? = some o ∧ vs[i]? = some v ∧ Own K mg I H o v S ∧ ∀ a, S a → T a
  | _, _, _, .nil => .inl ⟨rfl, rfl⟩
  | _, _, 0, .cons a b _ => .inr ⟨_, _, _, rfl, rfl, a, b⟩
  | _, _, i + 1, .cons _ _ c => by
    rcases VsT.at i c with ⟨h1, h2⟩ | ⟨o, v, S, h1, h2, h3⟩
    · exact .inl ⟨by simpa using h1, by simpa using h2⟩
    · exact .inr ⟨o, v, S, by simpa using h1, by simpa using h2, h3⟩
theorem VsT.perm {T : Pd} {os : List O} {vs : List V} (w : VsT K mg I H T os vs) : ∀ pm : List Nat, VsT K mg I H T (permL pm os) (permL pm vs)
  | [] => .nil
  | i :: pm => by
    have ih := VsT.perm w pm
    unfold permL at ih ⊢
    rw [List.filterMap_cons, List.filterMap_cons]
    rcases w.at i with ⟨h1, h2⟩ | ⟨o, v, S, h1, h2, h3, h4⟩
    · rw [h1, h2]; exact ih
    · rw [h1, h2]; exact .cons h3 h4 ih
theorem vals_perm {vs : List V} {us : List Value} (r : Vals vs us) : ∀ pm : List Nat, Vals (permL pm vs) (permL pm us)
  | [] => .nil
  | i :: pm => by
    have ih := vals_perm r pm
    unfold permL at ih ⊢
    rw [List.filterMap_cons, List.filterMap_cons]
    cases e : vs[i]? with
    | none =>
      have : us[i]? = none := by
        rw [List.getElem?_eq_none_iff] at e ⊢
        rw [← r.length]; exact e
      rw [this]; exact ih
    | some v =>
      obtain ⟨u, hu, ru⟩ := r.get e
      rw [hu]; exact .cons ru ih
end
/-- keywords' values as views -/
abbrev VKw (X : Cx) (kws : List Keyword) (f : Env → Option (List O)) : Prop := PK X kws (rdVb X.K X.mg f)
section
variable {X : Cx} {W : WX} {pos kpos p : Pos} {e : Expr} {kws : List Keyword} {f : Env → Option O} {g : Env → Option (List O)} {nm : Option Str}
theorem PK.weak {t t' : TA} (h : PK X kws t) (hw : ∀ σ H Q, t' σ H Q → t σ H Q) : PK X kws t' := ⟨fun pos pins s σ H Q I q => h.run pos pins s σ H Q I (hw σ H Q q)⟩
theorem vk_nil : VKw X [] Vw.nil := PK.weak pk_nil fun _ _ _ ⟨_, _, _, gd, h⟩ => h [] _ _ (Grw.refl gd) .nil
theorem vk_d (ha : VE X e f) (hr : VKw X kws g) : VKw X (⟨nm, e, kpos⟩ :: kws) (Vw.cons (Vw.dat f) g) := by
  refine PK.weak (pk_cons ha hr) fun σ H Q ⟨ρ, I, φ, gd, h⟩ => ⟨ρ, I, φ, gd, ?_⟩
  unfold Vw.cons Vw.dat at h
  cases e1 : f ρ with
  | none => rw [e1] at h; exact h
  | some x =>
    rw [e1, Option.bind_some] at h
    intro v S I1 H1 g1 w
    cases e3 : EV.dat x with
    | none => rw [e3] at h; exact h.elim
    | some d =>
      rw [e3] at h
      have := dat_ok e3
      subst this
      refine ⟨ρ, I1, φ, g1.gd, ?_⟩
      cases e2 : g ρ with
      | none => rw [e2] at h; exact h
      | some xs =>
        rw [e2] at h
        exact fun vs I2 H2 g2 ws => h (v :: vs) I2 H2 (g1.trans g2) (.cons (S := noP) (w.grow g2).d_any (fun _ z => z.elim) ws)
theorem vk_pl {pl : Pl} (ha : PlE X e pl) (hr : VKw X kws g) : VKw X (⟨nm, e, kpos⟩ :: kws) (Vw.cons (Vw.pl pl) g) := by
  refine PK.weak (pk_cons ha hr) fun σ H Q ⟨ρ, I, φ, gd, h⟩ => ?_
  unfold Vw.cons Vw.pl at h
  cases e1 : pl.get ρ with
  | none => rw [e1] at h; exact h.elim
  | some x =>
    rw [e1, Option.bind_some] at h
    obtain ⟨v, S, hv, at_⟩ := gd.at e1
    refine ⟨v, hv, ρ, I, φ, gd, ?_⟩
    cases e2 : g ρ with
    | none => rw [e2] at h; exact h
    | some xs =>
      rw [e2] at h
      obtain ⟨i, hi⟩ := at_.sub
      exact fun vs I2 H2 g2 ws => h (v :: vs) I2 H2 g2 (.cons (at_.own.grow g2) (fun a q => ⟨i, hi a q⟩) ws)
/-- a call, however its arguments come -/
theorem ve_callGen {ex : Expr} {n : Nat} {m : List O → FRes} {fs : Env → Option (List O)} {pm : List Nat} (hp : PE X ex (fun σ H Q => rdVb X.K X.mg fs σ H fun vs H1 => vs.length = pm.length ∧ spF X.K X.mg n [] m (permL pm vs) H1 Q (WE W0 σ))) : VE X ex (Vw.callP n m (Vw.perm pm fs)) := by
  refine PE.weak hp fun σ H Q ⟨ρ, I, φ, gd, h⟩ => ⟨ρ, I, φ, gd, ?_⟩
  unfold Vw.callP Vw.perm at h
  cases e1 : fs ρ with
  | none => rw [e1] at h; exact h.elim
  | some os0 =>
    rw [e1, Option.bind_some] at h
    by_cases hl0 : os0.length = pm.length
    case neg => rw [if_neg hl0] at h; exact h.elim
    rw [if_pos hl0, Option.bind_some] at h
    intro vs0 I1 H1 g1 ws0
    refine ⟨by rw [ws0.vws.len]; exact hl0, ?_⟩
    have ws := ws0.perm pm
    generalize permL pm os0 = os at h ws
    generalize permL pm vs0 = vs at ws
    have h := h.grow g1
    cases e2 : frzArgs os with
    | none => rw [e2] at h; exact h.elim
    | some xs =>
      rw [e2, Option.bind_some] at h
      obtain ⟨I0, hd0, ow, back⟩ := callP_core g1.gd ws e2
      split at h
      case isFalse => exact h.elim
      rename_i hl
      refine ⟨xs, I0, noP, hl, hd0, ow, ?_⟩
      split at h
      · rename_i r em
        rw [em]
        split at h
        · rename_i hc
          cases e5 : EV.frz r with
          | none => rw [e5] at h; exact h.elim
          | some d =>
            rw [e5] at h
            intro v H' I' G' s hd w
            cases w with
            | cons a b c _ dis =>
              obtain ⟨I2, s2, g2, t2, w2⟩ := back v r I' H' G' hc s hd (a.mono c)
              obtain ⟨g3, _⟩ := g2.freeze t2
              refine h v noP (addI I2 H' G') H' ⟨⟨fun a x e => addI_same t2.dj a x (s2.li a x e), s2.kp, fun _ q => q.elim, fun a x e => ?_⟩, g3⟩ (.d (w2.den e5 t2.dj))
              by_cases g : G' a
              · exact .inr (s2.fr a g)
              · rw [addI_out g] at e; exact s2.fi a x e
        · exact h.elim
      · exact h.elim
theorem ee_callGen {ex : Expr} {n : Nat} {m : List O → FRes} {fs : Env → Option (List O)} {pm : List Nat} (hp : PE X ex (fun σ H Q => rdVb X.K X.mg fs σ H fun vs H1 => vs.length = pm.length ∧ spF X.K X.mg n [] m (permL pm vs) H1 Q (WE W σ))) : EE X W ex (E.callP n m (Vw.perm pm fs)) := by
  refine PE.weak hp fun σ H Q ⟨ρ, I, φ, gd, h⟩ => ⟨ρ, I, φ, gd, ?_⟩
  unfold E.callP Vw.perm at h
  cases e1 : fs ρ with
  | none => rw [e1] at h; exact h.elim
  | some os0 =>
    rw [e1, Option.bind_some] at h
    by_cases hl0 : os0.length = pm.length
    case neg => rw [if_neg hl0] at h; exact h.elim
    rw [if_pos hl0, Option.bind_some] at h
    intro vs0 I1 H1 g1 ws0
    refine ⟨by rw [ws0.vws.len]; exact hl0, ?_⟩
    have ws := ws0.perm pm
    generalize permL pm os0 = os at h ws
    generalize permL pm vs0 = vs at ws
    have h := h.shift (g1.stp gd)
    cases e2 : frzArgs os with
    | none => rw [e2] at h; exact h.elim
    | some xs =>
      rw [e2, Option.map_some] at h
      simp only at h
      obtain ⟨I0, hd0, ow, back⟩ := callP_core g1.gd ws e2
      split at h
      case isFalse => exact h.elim
      rename_i hl
      refine ⟨xs, I0, noP, hl, hd0, ow, ?_⟩
      have stp : ∀ {I2 H' : Hp} {G' : Pd}, Stp I1 H1 noP I2 H' G' → Stp I1 H1 (al φ) I2 H' (orP (al φ) G') := fun s => ((s.frame (G := al φ) fun a ⟨i, q⟩ => g1.gd.th i a q).from fun a q => q.elim False.elim id).sub fun a q => q.symm
      cases em : m xs with
      | stuck => rw [em] at h; exact h.elim
      | ok r outs =>
        rw [em] at h
        cases outs with
        | cons _ _ => exact h.elim
        | nil =>
          have h : PostE X.K X.mg W σ I1 H1 (al φ) Q (if ((allD os).isSome || cleanO r) = true then .ok r ρ else .stuck) := h
          split at h
          case isFalse => exact h.elim
          rename_i hc
          intro v H' I' G' s hd w
          cases w with
          | cons a b c d dis =>
            obtain ⟨I2, s2, g2, t2, w2⟩ := back v r I' H' G' hc s hd (a.mono c)
            exact h v H' I2 φ G' (stp s2) g2 t2 w2
      | exc c outs =>
        rw [em] at h
        cases outs with
        | cons _ _ => exact h.elim
        | nil =>
          intro C H' I' G' eC s hd w
          obtain ⟨I2, s2, g2, t2, w2⟩ := back .non (.d .none) I' H' G' (by simp [cleanO, cleanD]) s hd (.d .non)
          exact h C H' I2 φ eC ((stp s2).sub fun a q => .inl q) g2
/-- f(k = e, ..) -/
theorem pe_callGK {k : Nat} {f : Addr} {fd : FuncData} {ps ks : List Str} {pm : List Nat} {sp : Sp} {E : St → XK} {x : Str} {t : TA} (F : FnG X.prog X.w X.K X.mg X.base k f fd ps sp) (hr : Room k X.A) (hgd : X.A.guards = some []) (hg : Gl X x) (hm : X.mg x = some (.ref f)) (hk : PySem.W.keepIn X.K (.ref f) = true)
    (hb : ∀ (s : Shared) (ws : List Value), ws.length = ks.length → BindsTo s fd ⟨[], ks.zip ws⟩ (ps.zip (permL pm ws))) (hkl : pm.length = ks.length) (hx : ∀ σ, PassesAt (L2.CX X.prog X.w) X σ (E σ)) (hkw : PK X kws t)
    (hall : (backToKw pos (keywordEach kws X.env)).all (·.1.isSome) = true := by rfl) (hks : (backToKw pos (keywordEach kws X.env)).filterMap (·.1) = ks := by rfl) (hdb : (x == ("__debug__" : Str)) = false := by decide)
    (hpl : ((backTo pos (starEach [] X.env)).any (·.1) || (backToKw pos (keywordEach kws X.env)).any (·.1.isNone)) = false := by rfl) :
    PE X (.Call (.Name x p) [] kws pos) (fun σ H Q => t σ H fun vs H1 => vs.length = pm.length ∧ sp (permL pm vs) H1 Q (E σ)) := by
  refine ⟨fun pins s σ H Q I h => ?_⟩
  refine wpAny_Call_Name_kw (ld_glob I hg hm ?_ hdb)
  refine PySem.W.callWith_KW0 (h₀ := X.base) I.ok.mod.kin hk hall ?_ hpl
  refine thn (hkw.run pos pins s σ H _ I h) fun us s1 ⟨vs, H1, I1, r, l0, q⟩ => ⟨I1.kIn, ?_⟩
  rw [hks]
  have l1 : vs.length = ks.length := l0.trans hkl
  refine wpAny_call (codeAny_mono (F.run X.A X.stack s1 H1 ⟨[], ks.zip us⟩ (permL pm us) (permL pm vs) Q (E σ) hr hgd I1.env0 (hb s1 us (by rw [← r.length]; exact l1)) (vals_perm r pm) q) fun rr s' hq => ?_)
  cases rr with
  | error e => exact hx σ pins H1 s1 e s' I1 hq
  | ok fl =>
    cases fl with
    | ret u => exact I1.after hq
    | next => exact False.elim hq
    | brk => exact False.elim hq
    | cont => exact False.elim hq
end
/-- how a def of the module takes its arguments by name -/
theorem Fn.kb {nm : Str} {P : Program} {w : World} {fa : List He.Fa} {fn : List He.DefD} {ts : Tb} {K : PySem.W.Frag} {mg : Str → Option Value} {base : Heap} {x : Str} {st : Stmt} {k : Nat} {ps : List Str} {io : List Nat} {m : List O → FRes} (F : Fn P w K mg base x k ps io m) (Y : Ya fa fn ts K mg) (i j : Nat)
    (hi : fn[i]? = some ⟨(x, none), nm, nm, defArgs st, defBody st, defScope st, [], []⟩) (hj : fa[j]? = some (.glo x)) {ks : List Str} {pm : List Nat}
    (hb : ∀ (kV doc pmm : Value) (an : Option Addr) (cdv ct : Value) (ws : List Value), ws.length = ks.length → bindArgs (PySem.W.fnOf nm nm (defArgs st) (defBody st) (defScope st) .none kV doc pmm an cdv ct) ⟨[], ks.zip ws⟩ = pure (ps.zip (permL pm ws))) :
    ∃ (f : Addr) (fd : FuncData), mg x = some (.ref f) ∧ FE P w K mg base k f fd ps io m ∧ PySem.W.keepIn K (.ref f) = true ∧ ∀ (s : Shared) (ws : List Value), ws.length = ks.length → BindsTo s fd ⟨[], ks.zip ws⟩ (ps.zip (permL pm ws)) := by
  obtain ⟨f, fd, h1, h2, h3, h4, ⟨oc, od, osl, h5⟩, h6⟩ := F
  obtain ⟨fd', F'⟩ := Y.says.def_ i hi
  obtain ⟨⟨oc', od', dV, kV, doc, pmm, an, cdv, ct, osl', rfl, lk, hcd, hD, hK⟩, kp⟩ := F'
  have e := Y.glo j hj
  rw [h1] at e
  have e2 : f = He.ga K x := by cases e; rfl
  subst e2
  have e3 : K.lookup (He.ga K x) = _ := lk
  rw [h5] at e3
  rcases hD with ⟨_, rfl⟩ | ⟨e, _⟩
  · cases e3
    exact ⟨_, _, h1, h2, h3, fun s ws hl => .of_eq (hb kV doc pmm an cdv ct ws hl)⟩
  · exact absurd rfl e
section
variable {X : Cx} {W : WX} {pos p : Pos} {kws : List Keyword} {x nm : Str} {k k0 : Nat} {ps ks : List Str} {pm : List Nat} {m : List O → FRes} {fs : Env → Option (List O)} {fa : List He.Fa} {fn : List He.DefD} {ts : Tb} {st : Stmt}
theorem ee_fnK (F : Fn X.prog X.w X.K X.mg X.base x k ps [] m) (hr : Room k0 X.A) (hgd : X.A.guards = some []) (tk : Takes X W) (Y : Ya fa fn ts X.K X.mg) (i j : Nat) (hkw : VKw X kws fs) (pm : List Nat) (ks : List Str)
    (hb : ∀ (kV doc pmm : Value) (an : Option Addr) (cdv ct : Value) (ws : List Value), ws.length = ks.length → bindArgs (PySem.W.fnOf nm nm (defArgs st) (defBody st) (defScope st) .none kV doc pmm an cdv ct) ⟨[], ks.zip ws⟩ = pure (ps.zip (permL pm ws)))
    (hi : fn[i]? = some ⟨(x, none), nm, nm, defArgs st, defBody st, defScope st, [], []⟩ := by rfl) (hj : fa[j]? = some (.glo x) := by rfl) (hkl : pm.length = ks.length := by rfl) (hk : k ≤ k0 := by first | decide | omega) (hg : Gl X x := by rfl)
    (hall : (backToKw pos (keywordEach kws X.env)).all (·.1.isSome) = true := by rfl) (hks : (backToKw pos (keywordEach kws X.env)).filterMap (·.1) = ks := by rfl) (hdb : (x == ("__debug__" : Str)) = false := by decide)
    (hpl : ((backTo pos (starEach [] X.env)).any (·.1) || (backToKw pos (keywordEach kws X.env)).any (·.1.isNone)) = false := by rfl) :
    EE X W (.Call (.Name x p) [] kws pos) (E.callP ps.length m (Vw.perm pm fs)) := by
  obtain ⟨f, fd, hm, F, kp, hb2⟩ := F.kb Y i j hi hj hb
  exact ee_callGen (pe_callGK F (hr.mono hk) hgd hg hm kp hb2 hkl (fun σ => passAt tk σ) hkw hall hks hdb hpl)
theorem ve_fnK (F : Fn X.prog X.w X.K X.mg X.base x k ps [] m) (hr : Room k0 X.A) (hgd : X.A.guards = some []) (Y : Ya fa fn ts X.K X.mg) (i j : Nat) (hkw : VKw X kws fs) (pm : List Nat) (ks : List Str)
    (hb : ∀ (kV doc pmm : Value) (an : Option Addr) (cdv ct : Value) (ws : List Value), ws.length = ks.length → bindArgs (PySem.W.fnOf nm nm (defArgs st) (defBody st) (defScope st) .none kV doc pmm an cdv ct) ⟨[], ks.zip ws⟩ = pure (ps.zip (permL pm ws)))
    (hi : fn[i]? = some ⟨(x, none), nm, nm, defArgs st, defBody st, defScope st, [], []⟩ := by rfl) (hj : fa[j]? = some (.glo x) := by rfl) (hkl : pm.length = ks.length := by rfl) (hk : k ≤ k0 := by first | decide | omega) (hg : Gl X x := by rfl)
    (hall : (backToKw pos (keywordEach kws X.env)).all (·.1.isSome) = true := by rfl) (hks : (backToKw pos (keywordEach kws X.env)).filterMap (·.1) = ks := by rfl) (hdb : (x == ("__debug__" : Str)) = false := by decide)
    (hpl : ((backTo pos (starEach [] X.env)).any (·.1) || (backToKw pos (keywordEach kws X.env)).any (·.1.isNone)) = false := by rfl) :
    VE X (.Call (.Name x p) [] kws pos) (Vw.callP ps.length m (Vw.perm pm fs)) := by
  obtain ⟨f, fd, hm, F, kp, hb2⟩ := F.kb Y i j hi hj hb
  exact ve_callGen (pe_callGK F (hr.mono hk) hgd hg hm kp hb2 hkl (fun σ => passAt takesW0 σ) hkw hall hks hdb hpl)
end
end EV

/-! The layer EV, part Y: sorted(set(..)). -/
namespace EV
open PySem PySem.Spec PyProof.Rows L2
/-! ### strictly ascending lists -/
def insS (x : Int) : List Int → List Int
  | [] => [x]
  | y :: r => if x < y then x :: y :: r else if x = y then y :: r else y :: insS x r
def sd (xs : List Int) : List Int := xs.foldr insS []
theorem mem_insS {x z : Int} : ∀ {l : List Int}, z ∈ insS x l ↔ z = x ∨ z ∈ l
  | [] => by simp [insS]
  | y :: r => by
    unfold insS
    by_cases h1 : x < y
    · rw [if_pos h1]; simp
    · rw [if_neg h1]
      by_cases h2 : x = y
      · rw [if_pos h2]; subst h2; simp
      · rw [if_neg h2, List.mem_cons, mem_insS (l := r), List.mem_cons]
        constructor
        · rintro (a | a | a)
          · exact .inr (.inl a)
          · exact .inl a
          · exact .inr (.inr a)
        · rintro (a | a | a)
          · exact .inr (.inl a)
          · exact .inl a
          · exact .inr (.inr a)
theorem pw_insS {x : Int} : ∀ {l : List Int}, l.Pairwise (· < ·) → (insS x l).Pairwise (· < ·)
  | [], _ => by unfold insS; exact List.pairwise_singleton _ _
  | y :: r, h => by
    obtain ⟨h1, h2⟩ := List.pairwise_cons.mp h
    unfold insS
    by_cases c1 : x < y
    · rw [if_pos c1]
      refine List.pairwise_cons.mpr ⟨fun z hz => ?_, h⟩
      rcases List.mem_cons.mp hz with rfl | hz
      · exact c1
      · exact Int.lt_trans c1 (h1 z hz)
    · rw [if_neg c1]
      by_cases c2 : x = y
      · rw [if_pos c2]; exact h
      · rw [if_neg c2]
        refine List.pairwise_cons.mpr ⟨fun z hz => ?_, pw_insS h2⟩
        rcases mem_insS.mp hz with rfl | hz
        · omega
        · exact h1 z hz
theorem mem_sd {z : Int} : ∀ {xs : List Int}, z ∈ sd xs ↔ z ∈ xs
  | [] => by simp [sd]
  | x :: xs => by
    have ih : z ∈ sd xs ↔ z ∈ xs := mem_sd
    show z ∈ insS x (sd xs) ↔ _
    rw [mem_insS, ih, List.mem_cons]
theorem pw_sd : ∀ (xs : List Int), (sd xs).Pairwise (· < ·)
  | [] => List.Pairwise.nil
  | x :: xs => pw_insS (pw_sd xs)
theorem asc_ext : ∀ {xs ys : List Int}, xs.Pairwise (· < ·) → ys.Pairwise (· < ·) → (∀ z, z ∈ xs ↔ z ∈ ys) → xs = ys
  | [], [], _, _, _ => rfl
  | [], y :: ys, _, _, h => by have := (h y).mpr List.mem_cons_self; cases this
  | x :: xs, [], _, _, h => by have := (h x).mp List.mem_cons_self; cases this
  | x :: xs, y :: ys, h1, h2, h => by
    obtain ⟨a1, a2⟩ := List.pairwise_cons.mp h1
    obtain ⟨b1, b2⟩ := List.pairwise_cons.mp h2
    have e : x = y := by
      have p1 := (h x).mp List.mem_cons_self
      have p2 := (h y).mpr List.mem_cons_self
      rcases List.mem_cons.mp p1 with p1 | p1
      · exact p1
      · rcases List.mem_cons.mp p2 with p2 | p2
        · exact p2.symm
        · have q1 := b1 x p1
          have q2 := a1 y p2
          omega
    subst e
    rw [asc_ext a2 b2 fun z => ?_]
    constructor
    · intro hz
      rcases List.mem_cons.mp ((h z).mp (List.mem_cons_of_mem _ hz)) with e | e
      · have := a1 z hz; omega
      · exact e
    · intro hz
      rcases List.mem_cons.mp ((h z).mpr (List.mem_cons_of_mem _ hz)) with e | e
      · have := b1 z hz; omega
      · exact e

/-! ### pairs of small ints -/
def pcode : D → Option Int
  | .tuple [.int x, .int y] => if 0 ≤ x ∧ x < 64 ∧ 0 ≤ y ∧ y < 64 then some (x * 64 + y) else none
  | _ => none
def pcodes : List D → Option (List Int)
  | [] => some []
  | d :: r => (pcode d).bind fun c => (pcodes r).map fun cs => c :: cs
def unp (c : Int) : D := .tuple [.int (c / 64), .int (c % 64)]
def v_setP (x : O) : Option O := (listD x).bind fun ds => (pcodes ds).bind fun cs => if cs.length < 64 then some (.d (.list ((sd cs).map unp))) else none
section
variable {K : PySem.W.Frag} {I : Hp}
def PairAt (I : Hp) (p : Addr × List Int) : Prop := ∃ x y : Int, p.2 = [x, y] ∧ (0 ≤ x ∧ x < 64) ∧ (0 ≤ y ∧ y < 64) ∧ I p.1 = some (.tup [.int x, .int y])
theorem pairs_at : ∀ {ds : List D} {vs : List V} {cs : List Int}, DenL K I ds vs → pcodes ds = some cs → ∃ ks : List (Addr × List Int), vs = ks.map (fun p => V.ref p.1) ∧ (∀ p ∈ ks, PairAt I p) ∧ ks.map (fun p => TS.code 64 p.2) = cs
  | _, _, _, .nil, e => by
    unfold pcodes at e; cases e
    exact ⟨[], rfl, fun _ h => (by cases h), rfl⟩
  | d :: ds, v :: vs, _, .cons a b, e => by
    unfold pcodes at e
    rw [Option.bind_eq_some_iff] at e
    obtain ⟨c, e1, e⟩ := e
    rw [Option.map_eq_some_iff] at e
    obtain ⟨cs, e2, rfl⟩ := e
    obtain ⟨ks, h1, h2, h3⟩ := pairs_at b e2
    unfold pcode at e1
    split at e1
    · rename_i x y
      split at e1
      · rename_i hb
        cases e1
        cases a with
        | @tuple q vs' _ t r =>
          cases r with
          | cons r1 r =>
            cases r with
            | cons r2 r =>
              cases r
              cases r1
              cases r2
              refine ⟨(q, [x, y]) :: ks, by rw [h1]; rfl, fun p hp => ?_, by rw [List.map_cons, h3, code_pair]⟩
              rcases List.mem_cons.mp hp with rfl | hp
              · exact ⟨x, y, rfl, ⟨hb.1, hb.2.1⟩, ⟨hb.2.2.1, hb.2.2.2⟩, t⟩
              · exact h2 p hp
      · cases e1
    · cases e1
theorem PairAt.unp {p : Addr × List Int} (h : PairAt I p) : Den K I (EV.unp (TS.code 64 p.2)) (.ref p.1) := by
  obtain ⟨x, y, e, hx, hy, t⟩ := h
  rw [e, code_pair]
  unfold EV.unp
  have e1 : (x * 64 + y) / 64 = x := by omega
  have e2 : (x * 64 + y) % 64 = y := by omega
  rw [e1, e2]
  exact .tuple t (.cons (.int x) (.cons (.int y) .nil))
theorem denL_unp : ∀ {L : List (Addr × List Int)}, (∀ p ∈ L, PairAt I p) → DenL K I ((L.map fun p => TS.code 64 p.2).map EV.unp) (L.map fun p => V.ref p.1)
  | [], _ => .nil
  | p :: L, h => .cons (h p List.mem_cons_self).unp (denL_unp fun q hq => h q (List.mem_cons_of_mem _ hq))
theorem codes_sd {L ks : List (Addr × List Int)} (hk : ∀ p ∈ ks, PairAt I p) (h1 : ∀ p ∈ L, p ∈ ks) (h2 : ∀ p ∈ ks, p.2 ∈ L.map (·.2)) (nd : (L.map (·.2)).Nodup) (pw : L.Pairwise fun q r => TS.code 64 q.2 ≤ TS.code 64 r.2) :
    L.map (fun p => TS.code 64 p.2) = sd (ks.map fun p => TS.code 64 p.2) := by
  refine asc_ext ?_ (pw_sd _) fun z => ?_
  · rw [List.pairwise_map]
    rw [List.Nodup, List.pairwise_map] at nd
    refine List.Pairwise.imp_of_mem (fun {p q} hp hq h => ?_) (List.Pairwise.and nd pw)
    obtain ⟨n, le⟩ := h
    obtain ⟨x, y, e, hx, hy, _⟩ := hk p (h1 p hp)
    obtain ⟨x', y', e', hx', hy', _⟩ := hk q (h1 q hq)
    rw [e, e'] at n le ⊢
    have := pair_lt le n hx hy hx' hy'
    rw [code_pair, code_pair]
    omega
  · rw [mem_sd, List.mem_map, List.mem_map]
    constructor
    · rintro ⟨p, hp, rfl⟩
      exact ⟨p, h1 p hp, rfl⟩
    · rintro ⟨p, hp, rfl⟩
      obtain ⟨q, hq, e⟩ := List.mem_map.mp (h2 p hp)
      exact ⟨q, hq, by rw [e]⟩
end
section
variable {X : Cx} {pos pos2 p p2 : Pos} {e : Expr} {f : Env → Option O}
/-- sorted(set(xs)), xs a list of pairs of ints from 0 to 63 -/
theorem ve_setP (ha : VE X e f) (hu : X.A.units + 100 < cLine) (hm1 : X.mg "sorted" = none) (hm2 : X.mg "set" = none) (hc : X.calm = true := by rfl) (hg1 : Gl X "sorted" := by rfl) (hg2 : Gl X "set" := by rfl)
    (hs : starEach [e] X.env = (false, eval e X.env) :: starEach [] X.env := by rfl) (hs2 : starEach [.Call (.Name "set" p2) [e] [] pos2] X.env = (false, eval (.Call (.Name "set" p2) [e] [] pos2) X.env) :: starEach [] X.env := by rfl) :
    VE X (.Call (.Name "sorted" p) [.Call (.Name "set" p2) [e] [] pos2] [] pos) (Vw.op1 v_setP f) := by
  refine PE.weak (pe_callB (cr_sortedT hc) hg1 hm1 (id := "sorted") bt_sorted (pa_cons (pe_callTy (cr_setOfT hc (by omega)) hg2 hm2 bt_set (pa_cons ha pa_nil hs) (by decide) (by decide) hs (by rfl)) pa_nil hs2) (by decide) (by decide) hs2 (by rfl)) fun σ H Q ⟨ρ, I, φ, gd, h⟩ => ?_
  refine vbind gd h fun x v S I1 H1 g1 w h => ?_
  refine h.some fun z ez hz => ?_
  unfold v_setP at ez
  rw [Option.bind_eq_some_iff] at ez
  obtain ⟨ds, e1, ez⟩ := ez
  rw [Option.bind_eq_some_iff] at ez
  obtain ⟨cs, e2, ez⟩ := ez
  split at ez
  case isFalse => cases ez
  rename_i hlen
  cases ez
  obtain ⟨l, vs, rfl, hl, dl⟩ := w.listD g1.gd.le e1
  obtain ⟨ks, rfl, hk, hcs⟩ := pairs_at dl e2
  have tup : ∀ {H2 : Hp} {q : Addr × List Int}, Same I1 H2 → PairAt I1 q → SqT X.K H2 q.1 (q.2.map V.int) := fun {H2 q} le hq => by
    obtain ⟨x, y, e, _, _, t⟩ := hq
    rw [e]
    exact SqT.of (le _ _ t)
  refine ⟨l, ks, rfl, hl, fun q hq => tup g1.gd.le (hk q hq), by rw [← hcs, List.length_map] at hlen; exact hlen, fun a L hA hL1 hL2 => ?_⟩
  have g2 : Grw X.K X.mg φ ρ σ I1 H1 I1 (upd H1 a (SetTO X.prog X.w a L)) := ⟨⟨Same.refl _, fun b o e _ => by rw [upd_ne (ne_of_none e hA)]; exact e, fun _ q => q.elim, fun _ _ e => .inl e⟩, g1.gd.new hA⟩
  refine ⟨a, L, 2, 64, rfl, upd_same, fun q hq => tup g2.gd.le (hk q (hL1 q hq)), by decide, fun q hq => ?_, fun L' b pm nd _ pw hb => ?_⟩
  · obtain ⟨x, y, e, hx, hy, _⟩ := hk q (hL1 q hq)
    rw [e]
    refine ⟨rfl, fun m hm => ?_⟩
    rcases List.mem_cons.mp hm with rfl | hm
    · exact hx
    · rcases List.mem_cons.mp hm with rfl | hm
      · exact hy
      · cases hm
  · have k1 : ∀ q ∈ L', q ∈ ks := fun q hq => hL1 q (pm.mem_iff.mp hq)
    have k2 : ∀ q ∈ ks, q.2 ∈ L'.map (·.2) := fun q hq => (pm.map (·.2)).mem_iff.mpr (hL2 q hq)
    have ec := codes_sd hk k1 k2 nd pw
    have hz2 := hz.grow g2
    rw [← hcs, ← ec] at hz2
    exact hz2.lst g2.gd (denL_unp fun q hq => hk q (k1 q hq)) hb
end
end EV

/-! The layer EV, part Z: zip(xs, ys, strict=True) over two of one length. -/
namespace EV
open PySem PySem.Spec PyProof.Rows L2
/-- a zip that is strict -/
abbrev ZipS (h : Heap) (z TI TO : Addr) (f0 : Value) : Prop := h.get? z = some ⟨.type "zip", none, .fields #[f0, .bool false, .bool true, .ref TI, .ref TO], #[]⟩
section
variable {P : Program} {w : World} {A : Around} {E : Value → Shared → Prop} {s : Shared}
theorem oe_item {it : Addr} {fp : List Addr} {n i : Nat} {Pi : Nat → Value → Prop} {St : Nat → Heap → Prop} {Q : Option Value → Shared → Prop} (D : Draws P w A it fp n Pi St) (hi : i < n) (st : St i s.heap)
    (h : ∀ x h' tk, Pi i x → St (i + 1) h' → Heap.SameBut it s.heap h' → Q (some x) { s with heap := h', toks := tk }) : wpAny (model P w) A (Builtin.SmallTypes.nextOrEnd (.ref it)) Q E s := by
  unfold Builtin.SmallTypes.nextOrEnd
  exact wpAny_bind (wpAny_attempt (D.item i s _ _ hi st fun x h' tk a b c => wpAny_pure (h x h' tk a b c)))
theorem oe_end {it : Addr} {fp : List Addr} {n : Nat} {Pi : Nat → Value → Prop} {St : Nat → Heap → Prop} {Q : Option Value → Shared → Prop} (D : Draws P w A it fp n Pi St) (st : St n s.heap)
    (h : ∀ h', Heap.ExtBut it s.heap h' → Q none { s with heap := h' }) : wpAny (model P w) A (Builtin.SmallTypes.nextOrEnd (.ref it)) Q E s := by
  unfold Builtin.SmallTypes.nextOrEnd
  refine wpAny_bind (wpAny_attempt (D.done s _ _ st fun h' e hx he => ?_))
  obtain ⟨o, ho, hc⟩ := he
  exact wpAny_bind (wpAny_isInstance (T := "StopIteration") (b := true) ⟨o, ho, hc⟩ isSubtype_stop (wpAny_pure (h h' hx)))
variable {z TI TO i1 i2 : Addr} {f1 f2 : List Addr} {n i : Nat} {P1 P2 : Nat → Value → Prop} {S1 S2 : Nat → Heap → Prop} {a1 a2 : Value}
/-- one turn -/
theorem zipS_item {Q : Value → Shared → Prop} (S : ZipSep2 z TI TO i1 i2 f1 f2) (D1 : Draws P w A i1 f1 n P1 S1) (D2 : Draws P w A i2 f2 n P2 S2) (hz : ZipS s.heap z TI TO .none) (hI : IsTupOf2 s.heap TI (.ref i1) (.ref i2)) (hO : IsTupOf2 s.heap TO a1 a2)
    (t1 : S1 i s.heap) (t2 : S2 i s.heap) (hi : i < n)
    (hQ : ∀ x y h' tk, P1 i x → P2 i y → ZipS h' z TI TO (rawInt s.heap.objs.size) → IsTupOf2 h' TO x y → S1 (i + 1) h' → S2 (i + 1) h' → IsTupOf2 h' s.heap.objs.size x y → h'.objs.size = s.heap.objs.size + 1 →
      (∀ b o, b ≠ z → b ≠ TO → b ≠ i1 → b ≠ i2 → s.heap.get? b = some o → h'.get? b = some o) → Q (.ref s.heap.objs.size) { s with heap := h', toks := tk }) :
    wpAny (model P w) A (Builtin.«zip.__next__» ⟨[.ref z], []⟩) (fun r s' => ∃ v, r = .done (.ret v) ∧ Q v s') E s := by
  obtain ⟨q0, gg, dd, t0, oo⟩ := s
  show wpAny _ _ (field (.ref z) 2 >>= _) _ _ _
  refine wpAny_bind (wpAny_field hz rfl (x := .bool true) rfl ?_)
  show wpAny _ _ (field (.ref z) 3 >>= _) _ _ _
  refine wpAny_bind (wpAny_field hz rfl (x := .ref TI) rfl (wpAny_bind (wpAny_seqItems hI rfl ?_)))
  show wpAny _ _ (Builtin.SmallTypes.ownedTupleIsFree (.ref z) >>= _) _ _ _
  unfold Builtin.SmallTypes.ownedTupleIsFree
  refine wpAny_bind (wpAny_bind (wpAny_field hz rfl (x := .none) rfl (wpAny_pure ?_)))
  simp only [if_true]
  refine wpAny_bind (wpAny_rule (wpAny_bind (wpAny_field hz rfl (x := .ref TO) rfl (wpAny_bind (wpAny_setField_rec hz (by simp) fun r0 k0 m0 => ?_)))))
  replace k0 : ZipS r0 z TI TO .ellipsis := k0
  replace m0 : Heap.SameBut z q0 r0 := m0
  refine wpAny_bind ?_
  simp only [List.zipIdx_cons, List.zipIdx_nil, List.forIn_cons, List.forIn_nil]
  refine wpAny_bind (wpAny_bind (wpAny_onRaise ?_))
  show wpAny _ _ (Builtin.SmallTypes.nextOrEnd (.ref i1)) _ _ ⟨r0, gg, dd, t0, oo⟩
  refine oe_item D1 hi (D1.over t1 m0 S.zf1) fun x c1 u1 hx e1 w1 => ?_
  replace w1 : Heap.SameBut i1 r0 c1 := w1
  have o1 : IsTupOf2 c1 TO a1 a2 := w1.extBut _ _ S.Ti1 (m0.extBut _ _ S.TOz hO)
  refine wpAny_bind (wpAny_seqItems (s := ⟨c1, gg, dd, u1, oo⟩) o1 rfl (wpAny_bind (updateSeq_IsTupOf2 (s := ⟨c1, gg, dd, u1, oo⟩) o1 fun r1 o2 m1 => ?_)))
  replace o2 : IsTupOf2 r1 TO x a2 := o2
  replace m1 : Heap.SameBut TO c1 r1 := m1
  refine wpAny_bind (wpAny_letGo (wpAny_pure (wpAny_bind (wpAny_bind (wpAny_onRaise ?_)))))
  show wpAny _ _ (Builtin.SmallTypes.nextOrEnd (.ref i2)) _ _ ⟨r1, gg, dd, u1, oo⟩
  refine oe_item D2 hi (D2.over (D2.over (D2.over t2 m0 S.zf2) w1 S.sep1_2) m1 S.Tf2) fun y c2 u2 hy e2 w2 => ?_
  replace w2 : Heap.SameBut i2 r1 c2 := w2
  have o3 : IsTupOf2 c2 TO x a2 := w2.extBut _ _ S.Ti2 o2
  refine wpAny_bind (wpAny_seqItems (s := ⟨c2, gg, dd, u2, oo⟩) o3 rfl (wpAny_bind (updateSeq_IsTupOf2 (s := ⟨c2, gg, dd, u2, oo⟩) o3 fun r2 o4 m2 => ?_)))
  replace o4 : IsTupOf2 r2 TO x y := o4
  replace m2 : Heap.SameBut TO c2 r2 := m2
  refine wpAny_bind (wpAny_letGo (wpAny_pure (wpAny_pure (wpAny_bind (wpAny_seqItems (s := ⟨r2, gg, dd, u2, oo⟩) o4 rfl (wpAny_bind (wpAny_newTuple ?_)))))))
  have sz : r2.objs.size = q0.objs.size := by rw [m2.1, w2.1, m1.1, w1.1, m0.1]
  have kz : ZipS r2 z TI TO .ellipsis := m2.extBut _ _ S.TOz.symm (w2.extBut _ _ S.zi2 (m1.extBut _ _ S.TOz.symm (w1.extBut _ _ S.zi1 k0)))
  have old : ∀ b o, b ≠ z → b ≠ TO → b ≠ i1 → b ≠ i2 → q0.get? b = some o → r2.get? b = some o := fun b o p1 p2 p3 p4 e => m2.extBut _ _ p2 (w2.extBut _ _ p4 (m1.extBut _ _ p2 (w1.extBut _ _ p3 (m0.extBut _ _ p1 e))))
  have v1 : S1 (i + 1) r2 := D1.over (D1.over (D1.over e1 m1 S.Tf1) w2 S.sep2_1) m2 S.Tf1
  have v2 : S2 (i + 1) r2 := D2.over e2 m2 S.Tf2
  have lz : z < r2.objs.size := Heap.lt_size kz
  show wpAny _ _ (Builtin.SmallTypes.ownedTupleHandOut (.ref z) (.ref r2.objs.size) >>= _) _ _ ⟨r2.push { cls := .type "tuple", data := .seq #[x, y] }, gg, dd, u2, oo⟩
  unfold Builtin.SmallTypes.ownedTupleHandOut
  have k6 : ZipS (r2.push { cls := .type "tuple", data := .seq #[x, y] }) z TI TO .ellipsis := Heap.get?_push_of_some _ kz
  refine wpAny_bind (wpAny_bind (wpAny_setField_rec k6 (by simp) fun r7 k7 m7 => ?_))
  replace k7 : ZipS r7 z TI TO (rawInt r2.objs.size) := k7
  refine wpAny_setField_rec k7 (by simp) fun r8 k8 m8 => ?_
  replace k8 : ZipS r8 z TI TO (rawInt r2.objs.size) := k8
  replace m7 : Heap.SameBut z (r2.push { cls := .type "tuple", data := .seq #[x, y] }) r7 := m7
  replace m8 : Heap.SameBut z r7 r8 := m8
  have up : ∀ b o, b ≠ z → r2.get? b = some o → r8.get? b = some o := fun b o p e => m8.extBut _ _ p (m7.extBut _ _ p (Heap.get?_push_of_some _ e))
  have kT : IsTupOf2 r8 r2.objs.size x y := m8.extBut _ _ (Nat.ne_of_gt lz) (m7.extBut _ _ (Nat.ne_of_gt lz) (Heap.get?_push_size _ rfl))
  have k9 : r8.objs.size = r2.objs.size + 1 := by rw [m8.1, m7.1, Heap.size_push]
  rw [sz] at k8 kT k9
  refine wpAny_pure ⟨_, rfl, ?_⟩
  show Q (.ref r2.objs.size) ⟨r8, gg, dd, u2, oo⟩
  rw [sz]
  exact hQ x y r8 u2 hx hy k8 (up _ _ S.TOz o4) (D1.frame _ _ _ v1 fun b hb o e => up b o (fun q => S.zf1 (q ▸ hb)) e) (D2.frame _ _ _ v2 fun b hb o e => up b o (fun q => S.zf2 (q ▸ hb)) e) kT k9 fun b o p1 p2 p3 p4 e => up b o p1 (old b o p1 p2 p3 p4 e)
/-- the end: both are through -/
theorem zipS_end {Q : PySem.Fin → Shared → Prop} (hh : A.handled = none) (S : ZipSep2 z TI TO i1 i2 f1 f2) (D1 : Draws P w A i1 f1 n P1 S1) (D2 : Draws P w A i2 f2 n P2 S2) (hz : ZipS s.heap z TI TO .none) (hI : IsTupOf2 s.heap TI (.ref i1) (.ref i2)) (hO : IsTupOf2 s.heap TO a1 a2)
    (t1 : S1 n s.heap) (t2 : S2 n s.heap)
    (hE : ∀ h' tk e, (∀ b o, b ≠ z → b ≠ TO → b ≠ i1 → b ≠ i2 → s.heap.get? b = some o → h'.get? b = some o) → (∃ o, h'.get? e = some o ∧ o.cls = .type "StopIteration") → E (.ref e) { s with heap := h', toks := tk }) :
    wpAny (model P w) A (Builtin.«zip.__next__» ⟨[.ref z], []⟩) Q E s := by
  obtain ⟨q0, gg, dd, t0, oo⟩ := s
  show wpAny _ _ (field (.ref z) 2 >>= _) _ _ _
  refine wpAny_bind (wpAny_field hz rfl (x := .bool true) rfl ?_)
  show wpAny _ _ (field (.ref z) 3 >>= _) _ _ _
  refine wpAny_bind (wpAny_field hz rfl (x := .ref TI) rfl (wpAny_bind (wpAny_seqItems hI rfl ?_)))
  show wpAny _ _ (Builtin.SmallTypes.ownedTupleIsFree (.ref z) >>= _) _ _ _
  unfold Builtin.SmallTypes.ownedTupleIsFree
  refine wpAny_bind (wpAny_bind (wpAny_field hz rfl (x := .none) rfl (wpAny_pure ?_)))
  simp only [if_true]
  refine wpAny_bind (wpAny_rule (wpAny_bind (wpAny_field hz rfl (x := .ref TO) rfl (wpAny_bind (wpAny_setField_rec hz (by simp) fun r0 k0 m0 => ?_)))))
  replace k0 : ZipS r0 z TI TO .ellipsis := k0
  replace m0 : Heap.SameBut z q0 r0 := m0
  refine wpAny_bind ?_
  simp only [List.zipIdx_cons, List.zipIdx_nil, List.forIn_cons, List.forIn_nil]
  refine wpAny_bind (wpAny_bind (wpAny_onRaise ?_))
  show wpAny _ _ (Builtin.SmallTypes.nextOrEnd (.ref i1)) _ _ ⟨r0, gg, dd, t0, oo⟩
  refine oe_end D1 (D1.over t1 m0 S.zf1) fun c1 w1 => ?_
  replace w1 : Heap.ExtBut i1 r0 c1 := w1
  have kc : ZipS c1 z TI TO .ellipsis := w1 _ _ S.zi1 k0
  refine wpAny_bind (wpAny_setField_rec (s := ⟨c1, gg, dd, t0, oo⟩) kc (by simp) fun r1 k1 m1 => ?_)
  replace m1 : Heap.SameBut z c1 r1 := m1
  refine wpAny_bind ?_
  show wpAny _ _ (((Builtin.SmallTypes.nextOrEnd (.ref i2) >>= _) >>= _) >>= _) _ _ _
  have d2 : S2 n r1 := D2.over (D2.frame _ _ _ (D2.over t2 m0 S.zf2) fun b hb o e => w1 b o (fun q => S.sep1_2 (q ▸ hb)) e) m1 S.zf2
  refine wpAny_bind (wpAny_bind (wpAny_bind (oe_end (s := ⟨r1, gg, dd, t0, oo⟩) D2 d2 fun c2 w2 => wpAny_pure ?_)))
  replace w2 : Heap.ExtBut i2 r1 c2 := w2
  show wpAny _ _ (pure _) _ _ _
  refine wpAny_pure ?_
  refine wpAny_bind (wpAny_rule ?_)
  show wpAny _ _ (newExc (.type "StopIteration") [] >>= (raiseNew : Value → Sem PySem.Fin)) _ _ ⟨c2, gg, dd, t0, oo⟩
  refine wpAny_bind ?_; simp only [newExc, newTuple]
  refine wpAny_bind (wpAny_newObj_type (wpAny_bind (m := firstArgMember _ _) (wpAny_of_eq (a := Value.none) (by first | rfl | (simp only [firstArgMember]; rfl)) (wpAny_newObj_type ?_ (by size_fits)))) (by size_fits))
  simp only [raiseNew]; refine wpAny_bind (wpAny_handled ?_); rw [hh]
  refine wpAny_bind (wpAny_pure (wpAny_throw ?_))
  have far : ∀ b o, b ≠ z → b ≠ TO → b ≠ i1 → b ≠ i2 → q0.get? b = some o → c2.get? b = some o := fun b o p1 p2 p3 p4 e => w2 _ _ p4 (m1.extBut _ _ p1 (w1 _ _ p3 (m0.extBut _ _ p1 e)))
  exact hE _ _ _ (fun b o p1 p2 p3 p4 e => Heap.get?_push_of_some _ (Heap.get?_push_of_some _ (far b o p1 p2 p3 p4 e))) ⟨_, Heap.get?_push_size _ rfl, rfl⟩
theorem zipS_iter {f0 : Value} {Q : Value → Shared → Prop} (hz : ZipS s.heap z TI TO f0) (h : Q (.ref z) s) : wpAny (model P w) A (pyIter (.ref z)) Q E s := by
  have ty : s.TypeIs (.ref z) "zip" := ⟨_, hz, rfl⟩
  refine wpAny_pyIter_slot ty F.slot_zip_iter (wpAny_call_entry F.slot_zip_iter ty F.entry_zip_iter (?_ : wpAny _ _ (ret (.ref z)) _ _ s) (F.args_zip_iter_1 _))
  exact wpAny_pure ⟨_, rfl, "zip", _, ty, F.slot_zip_next.lookup, h⟩
theorem zipS_go {elts : List Expr} {kk : Nat} {pos : Pos} {T : Addr} {Q : Unit → Shared → Prop} (hz : ZipS s.heap z TI TO (rawInt T)) (hQ : ∀ h', ZipS h' z TI TO .none → Heap.SameBut z s.heap h' → Q () { s with heap := h' }) :
    wpAny (model P w) A (letOwnedTupleGo (.Tuple elts kk pos) (.ref z) (.ref T)) Q E s := by
  unfold letOwnedTupleGo; refine wpAny_bind (wpAny_load hz ?_)
  show wpAny _ _ (ite ((["enumerate", "zip", "dict_itemiterator", "dict_reverseitemiterator", "odict_iterator", "itertools.zip_longest", "itertools.pairwise"].contains "zip" && (#[rawInt T, .bool false, .bool true, .ref TI, .ref TO] : Array Value)[0]? == some (rawInt T)) = true) _ _) Q E s
  rw [if_pos (by simp)]; refine wpAny_bind (wpAny_rule ?_)
  exact wpAny_setField_rec hz (by simp) fun r k m => hQ r k m
/-- pyNext of it -/
theorem zipS_nextItem {Q : Option Value → Shared → Prop} (S : ZipSep2 z TI TO i1 i2 f1 f2) (D1 : Draws P w A.in1 i1 f1 n P1 S1) (D2 : Draws P w A.in1 i2 f2 n P2 S2) (hz : ZipS s.heap z TI TO .none) (hI : IsTupOf2 s.heap TI (.ref i1) (.ref i2)) (hO : IsTupOf2 s.heap TO a1 a2)
    (t1 : S1 i s.heap) (t2 : S2 i s.heap) (hi : i < n)
    (hQ : ∀ x y h' tk, P1 i x → P2 i y → ZipS h' z TI TO (rawInt s.heap.objs.size) → IsTupOf2 h' TO x y → S1 (i + 1) h' → S2 (i + 1) h' → IsTupOf2 h' s.heap.objs.size x y → h'.objs.size = s.heap.objs.size + 1 →
      (∀ b o, b ≠ z → b ≠ TO → b ≠ i1 → b ≠ i2 → s.heap.get? b = some o → h'.get? b = some o) → Q (some (.ref s.heap.objs.size)) { s with heap := h', toks := tk }) :
    wpAny (model P w) A (pyNext (.ref z)) Q E s := by
  have ty : s.TypeIs (.ref z) "zip" := ⟨_, hz, rfl⟩
  unfold pyNext
  exact wpAny_bind (wpAny_attempt (wpAny_callSpecial?_slot (name := Str.ofString "__next__") ty F.slot_zip_next (wpAny_call_entry F.slot_zip_next ty F.entry_zip_next
    (zipS_item S D1 D2 hz hI hO t1 t2 hi fun x y h' tk c1 c2 c3 c4 c5 c6 c7 c8 c9 => wpAny_pure (hQ x y h' tk c1 c2 c3 c4 c5 c6 c7 c8 c9)) (F.args_zip_next_1 _))))
theorem zipS_nextEnd {Q : Option Value → Shared → Prop} (hh : A.in1.handled = none) (S : ZipSep2 z TI TO i1 i2 f1 f2) (D1 : Draws P w A.in1 i1 f1 n P1 S1) (D2 : Draws P w A.in1 i2 f2 n P2 S2) (hz : ZipS s.heap z TI TO .none) (hI : IsTupOf2 s.heap TI (.ref i1) (.ref i2)) (hO : IsTupOf2 s.heap TO a1 a2)
    (t1 : S1 n s.heap) (t2 : S2 n s.heap)
    (hQ : ∀ h' tk, (∀ b o, b ≠ z → b ≠ TO → b ≠ i1 → b ≠ i2 → s.heap.get? b = some o → h'.get? b = some o) → Q none { s with heap := h', toks := tk }) : wpAny (model P w) A (pyNext (.ref z)) Q E s := by
  have ty : s.TypeIs (.ref z) "zip" := ⟨_, hz, rfl⟩
  unfold pyNext
  refine wpAny_bind (wpAny_attempt (wpAny_callSpecial?_slot (name := Str.ofString "__next__") ty F.slot_zip_next (wpAny_call_entry F.slot_zip_next ty F.entry_zip_next (zipS_end hh S D1 D2 hz hI hO t1 t2 fun h' tk e hk he => ?_) (F.args_zip_next_1 _))))
  obtain ⟨o, ho, hc⟩ := he
  exact wpAny_bind (wpAny_isInstance (T := "StopIteration") (b := true) ⟨o, ho, hc⟩ isSubtype_stop (wpAny_pure (hQ _ _ hk)))
end
/-! ### its beginning -/
abbrev zs1 (h : Heap) (o1 o2 : Obj) : Heap := ((h.push o1).push o2).push { cls := .type "tuple", data := .seq #[.ref h.objs.size, .ref (h.push o1).objs.size] }
abbrev zs2 (h : Heap) (o1 o2 : Obj) : Heap := (zs1 h o1 o2).push { cls := .type "tuple", data := .seq #[.none, .none] }
abbrev zs3 (h : Heap) (o1 o2 : Obj) : Heap := (zs2 h o1 o2).push ⟨.type "zip", none, .fields #[.none, .bool false, .bool true, .ref ((h.push o1).push o2).objs.size, .ref (zs1 h o1 o2).objs.size], #[]⟩
abbrev kwS : List (Str × Value) := [(Str.ofString "strict", .bool true)]
theorem zipS_tc (a b : Value) : checkTypeCall "zip" ⟨[a, b], kwS⟩ = pure () := by kernel_rfl
theorem zipS_nc (a b : Value) : checkBuiltinCall "zip.__new__" ⟨[.type "zip", a, b], kwS⟩ = pure () := by kernel_rfl
theorem zipS_oi (obj a b : Value) : argsOk "object.__init__" ⟨[obj, a, b], kwS⟩ := by unfold argsOk; kernel_rfl
theorem zipS_new {v1 v2 : Value} {o1 o2 : Obj} {H1 H2 : Heap → Prop} (B1 : Begins v1 o1 H1) (B2 : Begins v2 o2 H2) :
    Meets (Builtin.«zip.__new__» ⟨[.type "zip", v1, v2], kwS⟩) (fun _ R s => (H1 s.heap ∧ H2 s.heap) ∧ R (.ok (.ret (.ref (zs2 s.heap o1 o2).objs.size))) { s with heap := zs3 s.heap o1 o2 }) :=
  .of_wp fun P w A R s h => by
    obtain ⟨q0, gg, dd, t0, oo⟩ := s
    obtain ⟨⟨g1, g2⟩, h⟩ := h
    have sb := sub_zip
    have e1 : ∀ {A' : Around} {E Q : Value → Shared → Prop}, Q (.ref q0.objs.size) ⟨q0.push o1, gg, dd, t0, oo⟩ → wpAny (model P w) A' (pyIter v1) Q E ⟨q0, gg, dd, t0, oo⟩ := fun q => B1.iter P w _ _ ⟨q0, gg, dd, t0, oo⟩ _ g1 q
    have e2 : ∀ {A' : Around} {E Q : Value → Shared → Prop}, Q (.ref (q0.push o1).objs.size) ⟨(q0.push o1).push o2, gg, dd, t0, oo⟩ → wpAny (model P w) A' (pyIter v2) Q E ⟨q0.push o1, gg, dd, t0, oo⟩ := fun q => B2.iter P w _ _ ⟨q0.push o1, gg, dd, t0, oo⟩ _ (B2.keeps _ _ g2 fun b o' e => Heap.get?_push_of_some _ e) q
    wp_walk using e1, e2
    exact ⟨_, rfl, h⟩
section
variable {P : Program} {w : World} {A : Around} {E : Value → Shared → Prop} {s : Shared}
theorem zipS_begins {v1 v2 : Value} {o1 o2 : Obj} {H1 H2 : Heap → Prop} {Q : Value → Shared → Prop} (B1 : Begins v1 o1 H1) (B2 : Begins v2 o2 H2) (g1 : H1 s.heap) (g2 : H2 s.heap)
    (h : ∀ h', ZipS h' (s.heap.objs.size + 4) (s.heap.objs.size + 2) (s.heap.objs.size + 3) .none → IsTupOf2 h' (s.heap.objs.size + 2) (.ref s.heap.objs.size) (.ref (s.heap.objs.size + 1)) →
      IsTupOf2 h' (s.heap.objs.size + 3) .none .none → h'.get? s.heap.objs.size = some o1 → h'.get? (s.heap.objs.size + 1) = some o2 → (∀ c o, s.heap.get? c = some o → h'.get? c = some o) → Q (.ref (s.heap.objs.size + 4)) { s with heap := h' }) :
    wpAny (model P w) A (call (.type "zip") [v1, v2] kwS) Q E s := by
  refine callType_newKw F.called_zip (by decide) (zipS_tc _ _) (zipS_nc _ _) (fun obj => zipS_oi obj _ _) F.entry_zip_new (zipS_new B1 B2) ⟨⟨g1, g2⟩, ?_⟩
  have l1 : (s.heap.push o1).objs.size = s.heap.objs.size + 1 := Heap.size_push ..
  have l2 : ((s.heap.push o1).push o2).objs.size = s.heap.objs.size + 2 := by rw [Heap.size_push, l1]
  have l3 : (zs1 s.heap o1 o2).objs.size = s.heap.objs.size + 3 := by rw [Heap.size_push, l2]
  have l4 : (zs2 s.heap o1 o2).objs.size = s.heap.objs.size + 4 := by rw [Heap.size_push, l3]
  have kZ : (zs3 s.heap o1 o2).get? (zs2 s.heap o1 o2).objs.size = some ⟨.type "zip", none, .fields #[.none, .bool false, .bool true, .ref ((s.heap.push o1).push o2).objs.size, .ref (zs1 s.heap o1 o2).objs.size], #[]⟩ := Heap.get?_push_size _ rfl
  have kO : (zs3 s.heap o1 o2).get? (zs1 s.heap o1 o2).objs.size = some { cls := .type "tuple", data := .seq #[.none, .none] } := Heap.get?_push_of_some _ (Heap.get?_push_size _ rfl)
  have kT : (zs3 s.heap o1 o2).get? ((s.heap.push o1).push o2).objs.size = some { cls := .type "tuple", data := .seq #[.ref s.heap.objs.size, .ref (s.heap.push o1).objs.size] } := Heap.get?_push_of_some _ (Heap.get?_push_of_some _ (Heap.get?_push_size _ rfl))
  have k1 : (zs3 s.heap o1 o2).get? s.heap.objs.size = some o1 := Heap.get?_push_of_some _ (Heap.get?_push_of_some _ (Heap.get?_push_of_some _ (Heap.get?_push_of_some _ (Heap.get?_push_size _ B1.free))))
  have k2 : (zs3 s.heap o1 o2).get? (s.heap.push o1).objs.size = some o2 := Heap.get?_push_of_some _ (Heap.get?_push_of_some _ (Heap.get?_push_of_some _ (Heap.get?_push_size _ B2.free)))
  rw [l4, l3, l2] at kZ
  rw [l3] at kO
  rw [l2, l1] at kT
  rw [l1] at k2
  show _ ∧ _
  rw [l4]
  exact ⟨⟨_, kZ, rfl⟩, h _ kZ kT kO k1 k2 fun c o e => Heap.get?_push_of_some _ (Heap.get?_push_of_some _ (Heap.get?_push_of_some _ (Heap.get?_push_of_some _ (Heap.get?_push_of_some _ e))))⟩
end
/-! ### the walk -/
def ItZS (k1 k2 : SK) (K : PySem.W.Frag) (a b : Addr) : It :=
  ⟨fun i H => ∃ (xs ys : List V) (x y : V), SqA k1 K H a xs ∧ SqA k2 K H b ys ∧ xs[i]? = some x ∧ ys[i]? = some y ∧ xs.length = ys.length,
    fun i H v H' => ∃ T x y, v = .ref T ∧ H T = none ∧ H' = upd H T (.tup [x, y]) ∧ (∀ xs, SqA k1 K H a xs → xs[i]? = some x) ∧ ∀ ys, SqA k2 K H b ys → ys[i]? = some y,
    fun i H => ∃ xs ys : List V, SqA k1 K H a xs ∧ SqA k2 K H b ys ∧ i = xs.length ∧ i = ys.length⟩
theorem turn_zipS {P : Program} {w : World} {K : PySem.W.Frag} {elts : List Expr} {kk : Nat} {tpos : Pos} (k1 k2 : SK) {a b z TI TO i1 i2 : Addr} (D : ZipSep2 z TI TO i1 i2 [i1, a] [i2, b]) :
    Turn P w K (.Tuple elts kk tpos) (ItZS k1 k2 K a b) [z, TI, TO, i1, i2] z (fun i h => ZipS h z TI TO .none ∧ IsTupOf2 h TI (.ref i1) (.ref i2) ∧ (∃ x y, IsTupOf2 h TO x y) ∧ ItAt k1 h i1 a i ∧ ItAt k2 h i2 b i) where
  mem := by simp
  obj := fun i h st c hc => by
    obtain ⟨hz, hTI, ⟨x, y, hTO⟩, h1, h2⟩ := st
    have e' : c = z ∨ c = TI ∨ c = TO ∨ c = i1 ∨ c = i2 := by simpa using hc
    rcases e' with q | q | q | q | q
    · rw [q]; exact ⟨_, hz, fun v q => nomatch q⟩
    · rw [q]; exact ⟨_, hTI, fun v q => nomatch q⟩
    · rw [q]; exact ⟨_, hTO, fun v q => nomatch q⟩
    · rw [q]; exact h1.there
    · rw [q]; exact h2.there
  keep := fun i h h' st k => by
    obtain ⟨hz, hTI, ⟨x, y, hTO⟩, h1, h2⟩ := st
    exact ⟨k z (by simp) _ hz, k TI (by simp) _ hTI, ⟨x, y, k TO (by simp) _ hTO⟩, h1.at fun o q => k i1 (by simp) o q, h2.at fun o q => k i2 (by simp) o q⟩
  item := by
    intro X hP hw hK hc i pins s σ H E I hf st hg
    subst hP hw hK
    obtain ⟨hz, hTI, ⟨x0, y0, hTO⟩, h1, h2⟩ := st
    obtain ⟨xs, ys, x, y, hqx, hqy, hx, hy, hll⟩ := hg
    obtain ⟨its, rv, p, _⟩ := inv_sq I hqx
    obtain ⟨its2, rv2, p2, _⟩ := inv_sq I hqy
    obtain ⟨u, hu, ru⟩ := rv.get hx
    obtain ⟨u2, hu2, ru2⟩ := rv2.get hy
    have hzl : z < s.heap.objs.size := Heap.lt_size hz
    have l1 : i < its.toArray.size := by
      have := (List.getElem?_eq_some_iff.mp hu).1
      simpa using this
    have hsz : its2.toArray.size = its.toArray.size := by rw [List.size_toArray, List.size_toArray, ← rv.length, ← rv2.length, hll]
    have D2 := draws_sq (prog := X.prog) (w := X.w) (A := X.A.in1) (I.ok.hd hc) k2 i2 b (h2.ne p2) its2.toArray
    rw [hsz] at D2
    refine zipS_nextItem D (draws_sq (A := X.A.in1) (I.ok.hd hc) k1 i1 a (h1.ne p) its.toArray) D2 hz hTI hTO ⟨h1, p⟩ ⟨h2, p2⟩ l1 fun v1 v2 h' tk e1 e2 z' TO' h1' h2' hT hs hk => ?_
    have e1' : v1 = u := by
      have q : its.toArray[i]? = some v1 := e1
      have q2 : its[i]? = some v1 := by simpa using q
      rw [hu] at q2; exact (Option.some.inj q2).symm
    have e2' : v2 = u2 := by
      have q : its2.toArray[i]? = some v2 := e2
      have q2 : its2[i]? = some v2 := by simpa using q
      rw [hu2] at q2; exact (Option.some.inj q2).symm
    subst e1' e2'
    refine ⟨_, rfl, zipS_go (s := { s with heap := h', toks := tk }) z' fun h'' z'' sb => ?_⟩
    have hT2 : h''.get? s.heap.objs.size = some { cls := .type "tuple", data := .seq #[v1, v2] } := (sb.2 _ (Nat.ne_of_gt hzl)).trans hT
    have new : ObjOk X.prog X.w (upd H s.heap.objs.size (.tup [x, y])) h'' s.heap.objs.size (.tup [x, y]) :=
      ⟨by show 2 ≤ sizeLine; decide, [v1, v2], .cons ru (.cons ru2 .nil), ⟨_, hT2, rfl, _, rfl⟩⟩
    have I1 : Inv X pins σ (upd H s.heap.objs.size (.tup [x, y])) { s with heap := h'', toks := tk } :=
      I.turnedNew (t' := tk) (ch := [z, TI, TO, i1, i2]) (fun c o hb q => (sb.2 c (fun q' => hb (by simp [q']))).trans (hk c o (fun q' => hb (by simp [q'])) (fun q' => hb (by simp [q'])) (fun q' => hb (by simp [q'])) (fun q' => hb (by simp [q'])) q)) hf (Nat.le_refl _) new
    have nz1 : i1 ≠ z := fun q => D.zf1 (by rw [← q]; exact D.mem1)
    have nz2 : i2 ≠ z := fun q => D.zf2 (by rw [← q]; exact D.mem2)
    refine ⟨.ref s.heap.objs.size, _, I1, rfl, ⟨_, x, y, rfl, I.hok.fresh (Nat.le_refl _), rfl, fun l hl => by rw [inv_sq_inj I hl hqx]; exact hx, fun l hl => by rw [inv_sq_inj I hl hqy]; exact hy⟩, ⟨z'', ?_, ⟨v1, v2, ?_⟩, ?_, ?_⟩, fun c hcm => ?_⟩
    · exact (sb.2 _ D.TIz).trans (hk _ _ D.TIz D.TITO D.TIi1 D.TIi2 hTI)
    · exact (sb.2 _ D.TOz).trans TO'
    · exact h1'.1.at fun o q => (sb.2 _ nz1).trans q
    · exact h2'.1.at fun o q => (sb.2 _ nz2).trans q
    · have hlt : c < s.heap.objs.size := by
        have e' : c = z ∨ c = TI ∨ c = TO ∨ c = i1 ∨ c = i2 := by simpa using hcm
        rcases e' with q | q | q | q | q
        · rw [q]; exact hzl
        · rw [q]; exact Heap.lt_size hTI
        · rw [q]; exact Heap.lt_size hTO
        · rw [q]; obtain ⟨_, e1, _⟩ := h1.there; exact Heap.lt_size e1
        · rw [q]; obtain ⟨_, e2, _⟩ := h2.there; exact Heap.lt_size e2
      rw [upd_ne (Nat.ne_of_lt hlt)]
      exact (hf c hcm).1
  done := by
    intro X hP hw hK hc i pins s σ H E I hf st hg
    subst hP hw hK
    obtain ⟨hz, hTI, ⟨x0, y0, hTO⟩, h1, h2⟩ := st
    obtain ⟨xs, ys, hqx, hqy, e1, e2⟩ := hg
    obtain ⟨its, rv, p, _⟩ := inv_sq I hqx
    obtain ⟨its2, rv2, p2, _⟩ := inv_sq I hqy
    have m1 : its.toArray.size = i := by rw [List.size_toArray, ← rv.length, e1]
    have m2 : its2.toArray.size = i := by rw [List.size_toArray, ← rv2.length, e2]
    have D1 := draws_sq (prog := X.prog) (w := X.w) (A := X.A.in1) (I.ok.hd hc) k1 i1 a (h1.ne p) its.toArray
    have D2 := draws_sq (prog := X.prog) (w := X.w) (A := X.A.in1) (I.ok.hd hc) k2 i2 b (h2.ne p2) its2.toArray
    rw [m1] at D1
    rw [m2] at D2
    exact zipS_nextEnd (I.ok.hd hc) D D1 D2 hz hTI hTO ⟨h1, p⟩ ⟨h2, p2⟩ fun h' tk hk => ⟨rfl, I.turnedL (t' := tk) (ch := [z, TI, TO, i1, i2]) (fun c o hb q =>
      hk c o (fun q' => hb (by simp [q'])) (fun q' => hb (by simp [q'])) (fun q' => hb (by simp [q'])) (fun q' => hb (by simp [q'])) q) hf⟩
  self := fun A i s Q E st h => zipS_iter st.1 h
theorem callWith_tyKw {M : Model} {A : Around} {E : Value → Shared → Prop} {s : Shared} {env : PySem.Env} {pos : Pos} {T : String} {e : Expr} {rest : List Expr} {kws : List Keyword} {Q : Value → Shared → Prop} (hall : (backToKw pos (keywordEach kws env)).all (·.1.isSome) = true)
    (h : wpAny M A (spliced (backTo pos (starEach (e :: rest) env))) (fun vs s₁ => wpAny M A (evalAll ((backToKw pos (keywordEach kws env)).map (·.2))) (fun ks s₂ => wpAny M A (call (.type T) vs (((backToKw pos (keywordEach kws env)).filterMap (·.1)).zip ks)) Q E s₂) E s₁) E s)
    (he : starEach (e :: rest) env = (false, eval e env) :: starEach rest env) (hpl : (backTo pos (starEach (e :: rest) env)).any (·.1) = false) (hkw : (backToKw pos (keywordEach kws env)).any (·.1.isNone) = false) :
    wpAny M A (callWith pos (.type T) [] (backTo pos (starEach (e :: rest) env)) (backToKw pos (keywordEach kws env))) Q E s := by
  unfold callWith
  refine wpAny_bind (wpAny_holding (wpAny_mono (evalArgs_kw2 (Q := fun a s₁ => wpAny M A (call (.type T) a.pos a.kw) Q E s₁) hall h he) (fun a s₁ k => wpAny_bind (wpAny_standAt ?_)) fun _ _ x => x))
  simp only [hpl, hkw, Bool.or_false]
  exact wpAny_bind (wpAny_pure (wpAny_bind (wpAny_mono k (fun r s₂ hr => wpAny_bind (wpAny_holding (wpAny_point (wpAny_pure hr)))) fun _ _ x => x)))
def iZipS (K : PySem.W.Frag) (ta : TA) : TI := fun σ H R => ta σ H fun vs H1 => ∃ k1 k2 a b xs ys, vs = [.ref a, .ref b] ∧ SqA k1 K H1 a xs ∧ SqA k2 K H1 b ys ∧ R (ItZS k1 k2 K a b) H1
theorem pi_zipS {X : Cx} {e e2 : Expr} {ta : TA} {p pos tpos bp kp : Pos} {elts : List Expr} {kk kb} (hg : Gl X "zip") (hm : X.mg "zip" = none) (ha : PA X [e, e2] ta)
    (hs : starEach [e, e2] X.env = (false, eval e X.env) :: starEach [e2] X.env := by rfl) (hpl : (backTo pos (starEach [e, e2] X.env)).any (·.1) = false := by rfl)
    (hall : (backToKw pos (keywordEach [⟨some "strict", .Constant (.bool true) kb bp, kp⟩] X.env)).all (·.1.isSome) = true := by rfl) (hkw : (backToKw pos (keywordEach [⟨some "strict", .Constant (.bool true) kb bp, kp⟩] X.env)).any (·.1.isNone) = false := by rfl)
    (hks : (backToKw pos (keywordEach [⟨some "strict", .Constant (.bool true) kb bp, kp⟩] X.env)).filterMap (·.1) = [Str.ofString "strict"] := by rfl) :
    PI X (.Tuple elts kk tpos) (.Call (.Name "zip" p) [e, e2] [⟨some "strict", .Constant (.bool true) kb bp, kp⟩] pos) (iZipS X.K ta) := by
  refine ⟨fun pins s σ H R I h => ?_⟩
  refine wpAny_Call_Name_kw (ld_blt I hg hm PyProof.Rows.boot_zip (callWith_tyKw hall (thn (ha.run pos pins s σ H _ I h) fun us s0 ⟨vs, H0, I0, r1, q1⟩ => thn ((pk_cons (nm := some "strict") (kpos := kp) (show PE X (.Constant (.bool true) kb bp) (tC (.bl true)) from pe_bl) pk_nil).run pos pins s0 σ H0 (fun zs H2 => zs = [.bl true] ∧ H2 = H0) I0 ⟨rfl, rfl⟩) fun ws s1 ⟨zs, H1, I1, r2, ez, eH⟩ => ?_) hs hpl hkw))
  rw [hks]
  subst ez eH
  have ew : ws = [.bool true] := by
    cases r2 with
    | cons r rr => cases rr; cases r; rfl
  subst ew
  obtain ⟨k1, k2, a, b, xs, ys, ex, hqx, hqy, q⟩ := q1
  subst ex
  cases r1 with
  | cons r rr =>
    cases rr with
    | cons r' rr =>
      cases rr
      cases r
      cases r'
      obtain ⟨its, rv, p1, _⟩ := inv_sq I1 hqx
      obtain ⟨its2, rv2, p2, _⟩ := inv_sq I1 hqy
      have la : a < s1.heap.objs.size := p1.lt
      have lb : b < s1.heap.objs.size := p2.lt
      refine zipS_begins (begins_sq k1 a its.toArray) (begins_sq k2 b its2.toArray) p1 p2 fun h' hz hTI hTO h1 h2 hk => zipS_iter hz ?_
      have I2 : Inv X pins σ H1 { s1 with heap := h' } := I1.kept (t' := s1.toks) hk
      have t1 : ItAt k1 h' s1.heap.objs.size a 0 := by
        cases k1 with
        | l => exact ⟨_, h1, rfl, rfl⟩
        | t => exact ⟨_, h1, rfl, rfl⟩
      have t2 : ItAt k2 h' (s1.heap.objs.size + 1) b 0 := by
        cases k2 with
        | l => exact ⟨_, h2, rfl, rfl⟩
        | t => exact ⟨_, h2, rfl, rfl⟩
      refine ⟨s1.heap.objs.size + 4, [s1.heap.objs.size + 4, s1.heap.objs.size + 2, s1.heap.objs.size + 3, s1.heap.objs.size, s1.heap.objs.size + 1], _, _, H1, rfl, I2, turn_zipS k1 k2 (zip_sep2 (fun c hc => by rw [List.mem_singleton.mp hc]; exact la) (fun c hc => by rw [List.mem_singleton.mp hc]; exact lb)), ⟨hz, hTI, ⟨_, _, hTO⟩, t1, t2⟩, fun c hcm => ?_, q⟩
      have e' : c = s1.heap.objs.size + 4 ∨ c = s1.heap.objs.size + 2 ∨ c = s1.heap.objs.size + 3 ∨ c = s1.heap.objs.size ∨ c = s1.heap.objs.size + 1 := by simpa using hcm
      have hle : s1.heap.objs.size ≤ c := by
        rcases e' with z | z | z | z | z
        · rw [z]; exact Nat.le_add_right _ _
        · rw [z]; exact Nat.le_add_right _ _
        · rw [z]; exact Nat.le_add_right _ _
        · rw [z]; exact Nat.le_refl _
        · rw [z]; exact Nat.le_add_right _ _
      exact I1.fpOk hle (I1.hok.fresh hle)
def Wk.zipS (f : M (List O)) : M (List D) := f.bind fun os => match os with
  | [o, p] => (match oseq o, oseq p with
    | some xs, some ys => if xs.length = ys.length then M.ret (Wk.zips xs ys) else M.fail
    | _, _ => M.fail)
  | _ => M.fail
theorem walk_zipS {K : PySem.W.Frag} {I : Hp} {xs ys : List D} {vs ws : List V} {a b : Addr} {k1 k2 : SK} (hl : xs.length = ys.length) (q : SqA k1 K I a vs) (r : DenL K I xs vs) (q2 : SqA k2 K I b ws) (r2 : DenL K I ys ws) : IsWalk K (ItZS k1 k2 K a b) (Wk.zips xs ys) I := by
  have w := walk_zip q r q2 r2
  have sq : ∀ {H2 I2 : Hp}, Same I I2 → Same I2 H2 → SqA k1 K H2 a vs := fun h1 h2 => sqA_le (h1.trans h2) q
  have sq2 : ∀ {H2 I2 : Hp}, Same I I2 → Same I2 H2 → SqA k2 K H2 b ws := fun h1 h2 => sqA_le (h1.trans h2) q2
  have ln : (Wk.zips xs ys).length = xs.length := by unfold Wk.zips; simp [hl]
  refine ⟨fun H2 I2 i h1 h2 hi => ?_, fun H2 I2 h1 h2 => ⟨vs, ws, sq h1 h2, sq2 h1 h2, by rw [r.len, ln], by rw [r2.len, ln, hl]⟩, fun H2 I2 i x H3 d h1 h2 e y => w.yld H2 I2 i x H3 d h1 h2 e y⟩
  rw [ln] at hi
  have l1 : i < vs.length := by rw [r.len]; exact hi
  have l2 : i < ws.length := by rw [r2.len, ← hl]; exact hi
  exact ⟨vs, ws, vs[i], ws[i], sq h1 h2, sq2 h1 h2, by simp [l1], by simp [l2], by rw [r.len, r2.len, hl]⟩
theorem ei_zipS {X : Cx} {W : WX} {e e2 : Expr} {fa : M (List O)} {p pos tpos bp kp : Pos} {elts : List Expr} {kk kb} (hg : Gl X "zip") (hm : X.mg "zip" = none) (ha : EA X W [e, e2] fa)
    (hs : starEach [e, e2] X.env = (false, eval e X.env) :: starEach [e2] X.env := by rfl) (hpl : (backTo pos (starEach [e, e2] X.env)).any (·.1) = false := by rfl)
    (hall : (backToKw pos (keywordEach [⟨some "strict", .Constant (.bool true) kb bp, kp⟩] X.env)).all (·.1.isSome) = true := by rfl) (hkw : (backToKw pos (keywordEach [⟨some "strict", .Constant (.bool true) kb bp, kp⟩] X.env)).any (·.1.isNone) = false := by rfl)
    (hks : (backToKw pos (keywordEach [⟨some "strict", .Constant (.bool true) kb bp, kp⟩] X.env)).filterMap (·.1) = [Str.ofString "strict"] := by rfl) :
    EI X W (.Tuple elts kk tpos) (.Call (.Name "zip" p) [e, e2] [⟨some "strict", .Constant (.bool true) kb bp, kp⟩] pos) (Wk.zipS fa) := by
  refine ⟨fun pins s σ H R' I0 h => (pi_zipS hg hm ha hs hpl hall hkw hks).run pins s σ H R' I0 ?_⟩
  obtain ⟨ρ, I, φ, gd, h⟩ := h
  refine bindA (P := PostI X.K X.mg W σ I H (al φ) R') gd h (fun _ _ z => z) (fun z => z) fun x ρ1 hx0 h v1 H1 I1 φ1 G1 s1 gd1 t1 w1 => ?_
  clear hx0
  split at h
  · rename_i o o2
    cases w1 with
    | @cons _ _ v vs' _ S1 S2 a b c d _ =>
      cases b with
      | @cons _ _ v2 vs2 _ S3 S4 a2 b2 c2 _ _ =>
      cases b2
      cases eo : oseq o with
      | none => rw [eo] at h; exact h.elim
      | some xs =>
      cases eo2 : oseq o2 with
      | none => rw [eo, eo2] at h; exact h.elim
      | some ys =>
        rw [eo, eo2] at h
        simp only at h
        split at h
        case isFalse => exact h.elim
        rename_i hl
        obtain ⟨x', ex, ed⟩ := frz_oseq eo
        obtain ⟨y', ey, ed2⟩ := frz_oseq eo2
        obtain ⟨gd2, st2⟩ := gd1.freeze t1
        obtain ⟨k, a', vs, rfl, q, r⟩ := den_seq ((a.mono c).den ex t1.dj) ed
        obtain ⟨k2, a2', vs2, rfl, q2, r2⟩ := den_seq ((a2.mono fun z hz => d z (c2 z hz)).den ey t1.dj) ed2
        exact ⟨k, k2, a', a2', vs, vs2, rfl, sqA_le gd2.le q, sqA_le gd2.le q2, h _ H1 _ φ1 (s1.trans st2) gd2 (walk_zipS hl q r q2 r2)⟩
  · exact h.elim
end EV

/-! The layer EV, part AA: min of a list of alike data. -/
namespace EV
open PySem PySem.Spec PyProof.Rows L2
def rMinL (K : PySem.W.Frag) : List V → Hp → VK → Prop := fun xs H Q => ∃ (l : Addr) (vs : List V) (x : D) (ds : List D), xs = [.ref l] ∧ SqL K H l vs ∧ DpAll K H vs (x :: ds) ∧ PySem.W.AlikeAll (x :: ds) ∧ PyData.depthAll (x :: ds) ≤ 64 ∧
  ∀ (i : Nat) (v : V), vs[i]? = some v → (x :: ds)[i]? = some (PySem.W.minD x ds) → Q v H
theorem cr_minL {X : Cx} (hc : X.calm = true) (hu : X.A.units + 100 < cLine) : CallR X (.builtin "min") (rMinL X.K) := by
  intro pins s σ H xs us Q I r h
  obtain ⟨l, vs, x, ds, rfl, hl, dp, al, dep, q⟩ := h
  rw [Vals.ref1 r]
  obtain ⟨its, rv, pl, hz⟩ := I.list hl
  obtain ⟨as, ra⟩ := Dp.readsAll I (x :: ds) vs its dp rv
  refine PySem.W.min_list_data (I.ok.hd hc) pl.isList (by simpa using ra) al (by omega) fun i v h' tk bs hi hr hk => ?_
  have hi' : its[i]? = some v := by simpa using hi
  obtain ⟨u, hu1, ru⟩ : ∃ u, vs[i]? = some u ∧ RelV u v := by
    have hlt : i < vs.length := by rw [rv.length]; exact (List.getElem?_eq_some_iff.mp hi').1
    obtain ⟨u, e⟩ : ∃ u, vs[i]? = some u := ⟨vs[i], by simp [hlt]⟩
    obtain ⟨w, e2, r2⟩ := rv.get e
    rw [hi'] at e2; cases e2
    exact ⟨u, e, r2⟩
  refine ⟨u, H, I.kept (t' := tk) hk, ru, q i u hu1 ?_⟩
  obtain ⟨bs2, r1, hlt, _, _⟩ := PySem.W.readsAll_atA (vs := its.toArray) (by simpa using ra) i v hi
  have e : PySem.W.minD x ds = (x :: ds).getD i .none := (PyProof.Rows.reads_det (fun b o e _ => e) (PySem.W.reads_keeps hk r1) hr).1
  rw [e, List.getD_eq_getElem?_getD]
  simp [List.getElem?_eq_getElem hlt]
def notNon : D → Bool
  | .none => false
  | _ => true
def minOk (ds : List D) : Bool := (ds.all fun d => ds.all fun e => PySem.W.alike d e) && (ds.all notNon) && PyData.plainAll ds && decide (PyData.depthAll ds ≤ 64)
/-- min of a list of alike data -/
def b_minL : List O → Option O
  | [x] => (listD x).bind fun ds => (match ds with
    | [] => none
    | d :: r => if minOk (d :: r) then some (.d (PySem.W.minD d r)) else none)
  | _ => none
theorem vw_minL {X : Cx} : VwN X (rMinL X.K) b_minL := by
  intro I H φ ρ σ Q xs z as gd ws e h
  unfold b_minL at e
  split at e
  · rw [Option.bind_eq_some_iff] at e
    obtain ⟨ds, e1, e2⟩ := e
    split at e2
    · cases e2
    · rename_i d r
      split at e2
      · rename_i hk
        cases e2
        simp only [minOk, Bool.and_eq_true, List.all_eq_true, decide_eq_true_eq] at hk
        obtain ⟨⟨⟨k1, k2⟩, k3⟩, k4⟩ := hk
        obtain ⟨v, S, rfl, w⟩ := ws.one
        obtain ⟨a, vs, rfl, hs, q⟩ := w.listD gd.le e1
        refine ⟨a, vs, d, r, rfl, hs, DenL.dp gd.le q k3, ⟨fun x hx y hy => k1 x hx y hy, fun x hx z => ?_⟩, k4, fun i u hu hi => ?_⟩
        · have := k2 x hx
          rw [z] at this; cases this
        · obtain ⟨u', hu', du⟩ := q.get hi
          rw [hu] at hu'; cases hu'
          exact h.d gd du
      · cases e2
  · cases e
end EV

/-! The layer EV, part AB: dict comprehensions. -/
namespace EV
open PySem PySem.Spec PyProof.Rows L2
def dcF (vs : List Nat) (g : O → M Unit) (t : M Bool) (fk fv : M O) : List D → List (D × D) → M (List (D × D))
  | [], acc => M.ret acc
  | x :: xs, acc => fun ρ => match g (.d x) ρ with
    | .ok _ ρ1 => (match t ρ1 with
      | .ok true ρ2 => (match fk ρ2 with
        | .ok (.d k) ρ3 => if isK k then (match fv ρ3 with
          | .ok y ρ4 => (match frz y with
            | some yd => if acc.length < 1000000 then dcF vs g t fk fv xs (putKD acc k yd) (wipeE ρ4 vs) else .stuck
            | none => .stuck)
          | _ => .stuck) else .stuck
        | _ => .stuck)
      | .ok false ρ2 => dcF vs g t fk fv xs acc (wipeE ρ2 vs)
      | _ => .stuck)
    | _ => .stuck
def E.dc (vs : List Nat) (fi : M (List D)) (g : O → M Unit) (t : M Bool) (fk fv : M O) : M O := fi.bind fun ds => fun ρ =>
  if calmE ρ vs then (match dcF vs g t fk fv ds [] (wipeE ρ vs) with
    | .ok acc ρ' => .ok (.dic acc) (backE ρ ρ' vs)
    | _ => .stuck) else .stuck
section
variable {X : Cx} {W : WX} {vs : List Nat} {fi : M (List D)} {g : O → M Unit} {t : M Bool} {fk fv : M O}
theorem dc_read {σ : St} {H : Hp} {Q : VK} (hσ : σ.length = X.N.length) (h : rdE X.K X.mg W (E.dc vs fi g t fk fv) σ H Q) :
    tDc (rdI X.K X.mg W fi) (rdG X.K X.mg (notIn X.N.length vs) g) (rdT X.K X.mg W0 t) (rdE X.K X.mg W0 fk) (rdE X.K X.mg W0 fv) vs σ H Q := by
  obtain ⟨ρ, I, φ, gd, h⟩ := h
  refine ⟨ρ, I, φ, gd, ?_⟩
  unfold E.dc M.bind at h
  cases e : fi ρ with
  | stuck => rw [e] at h; exact h
  | exc c ρ1 => rw [e] at h; exact h
  | ok ds ρ1 =>
    rw [e] at h
    intro J H1 I1 φ1 s1 gd1 wk Dd hD
    have h' := PostE.shift s1 h
    simp only at h'
    by_cases hc : calmE ρ1 vs = true
    case neg => rw [if_neg hc] at h'; exact h'.elim
    rw [if_pos hc] at h'
    cases er : dcF vs g t fk fv ds [] (wipeE ρ1 vs) with
    | stuck => rw [er] at h'; exact h'.elim
    | exc c ρF => rw [er] at h'; exact h'.elim
    | ok accF ρF =>
      rw [er] at h'
      let GD : Pd := fun a => a = Dd
      refine ⟨fun i m H2 => m = ds.length - i ∧ i ≤ ds.length ∧ ∃ ρ2 I2 φ2 acc kvs, Gd X.K X.mg I2 H2 φ2 ρ2 (wipe σ vs) ∧ Same I1 I2 ∧ H2 Dd = some (.dK kvs) ∧ DenK X.K I2 acc kvs ∧
          Tm I2 H2 φ2 GD ∧ Stp I1 H1 (al φ1) I2 H2 (orP (al φ2) GD) ∧ dcF vs g t fk fv (ds.drop i) acc ρ2 = .ok accF ρF,
        ⟨_, rfl, Nat.zero_le _, wipeE ρ1 vs, I1, fun i => if i ∈ vs then noP else φ1 i, [], [], (gd1.wipe).new hD, Same.refl _, upd_same, .nil, ⟨fun a q => ?_, fun a q => ?_, fun i a q z => ?_⟩, Stp.new hD fun a q => ?_, er⟩, ?_⟩
      · rw [show a = Dd from q]; exact gd1.free hD
      · rw [show a = Dd from q, upd_same]; exact Option.some_ne_none _
      · split at z
        · exact z
        · rw [show a = Dd from q] at z; exact gd1.th i _ z hD
      · rcases q with ⟨i, q⟩ | q
        · split at q
          · exact q.elim
          · exact .inl ⟨i, q⟩
        · exact .inr q
      rintro i m H2 ⟨rfl, hi, ρ2, I2, φ2, acc, kvs, gd2, le, hDd, wA, tA, st, hr⟩
      have sm : ∀ (φ : Ph) (a : Addr), al (fun i => if i ∈ vs then noP else φ i) a → al φ a := fun φ a ⟨j, q⟩ => by
        simp only at q
        split at q
        · exact q.elim
        · exact ⟨j, q⟩
      by_cases hlt : i < ds.length
      · rw [drop_cons hlt] at hr
        refine .inr ⟨wk.go H2 I2 i le gd2.le hlt, _, fun H' q => q, fun x H3 y => ?_⟩
        obtain ⟨I3, a1, a2, a3, a4, den⟩ := wk.yld H2 I2 i x H3 _ le gd2.le (List.getElem?_eq_getElem hlt) y
        obtain ⟨gd3, st3⟩ := gd2.grow a1 a2 a3 a4
        have tA3 : Tm I3 H3 φ2 GD := by
          refine ⟨fun a q => ?_, fun a q z => ?_, tA.sp⟩
          · cases ea : I3 a with
            | none => rfl
            | some o =>
              rcases a4 a o ea with z | z
              · rw [tA.dj a q] at z; cases z
              · exact (tA.th a q z).elim
          · obtain ⟨o, ho⟩ := Option.ne_none_iff_exists'.mp (tA.th a q)
            rw [a3 a o ho] at z; cases z
        have st3' : Stp I1 H1 (al φ1) I3 H3 (orP (al φ2) GD) := st.trans ((st3 (al φ2) fun _ q => q).frame (G := GD) tA.th)
        have hD3 : H3 Dd = some (.dK kvs) := a3 _ _ hDd
        unfold dcF at hr
        refine ⟨ρ2, I3, φ2, .d ds[i], noP, gd3, Tm.none, .d den, ?_⟩
        cases eg : g (.d ds[i]) ρ2 with
        | stuck => rw [eg] at hr; cases hr
        | exc c ρ4 => rw [eg] at hr; cases hr
        | ok _ ρ4 =>
          rw [eg] at hr
          intro σ4 H4 I4 φ4 k4 s4 gd4
          have s4' : Stp I3 H3 (al φ2) I4 H4 (al φ4) := s4.from fun a q => q.elim id False.elim
          have hw : wipe σ4 vs = wipe σ vs := wipe_keep (by rw [hσ]; exact k4)
          refine ⟨hw, ρ4, I4, φ4, gd4, ?_⟩
          have tA4 : Tm I4 H4 φ4 GD := (tA3.step (G' := noP) (s4'.sub fun a q => q.elim id False.elim) Tm.none).1.mono fun a => .inl
          have hD4 : H4 Dd = some (.dK kvs) := s4'.kp _ _ hD3 fun ⟨j, z⟩ => tA3.sp j Dd rfl z
          have st4 := st3'.trans (s4'.frame (G := GD) tA3.th)
          simp only at hr
          cases et : t ρ4 with
          | stuck => rw [et] at hr; cases hr
          | exc c ρ5 => rw [et] at hr; cases hr
          | ok b ρ5 =>
            rw [et] at hr
            intro H5 I5 φ5 s5 gd5
            have tA5 : Tm I5 H5 φ5 GD := (tA4.step (G' := noP) (s5.sub fun a q => q.elim id False.elim) Tm.none).1.mono fun a => .inl
            have hD5 : H5 Dd = some (.dK kvs) := s5.kp _ _ hD4 fun ⟨j, z⟩ => tA4.sp j Dd rfl z
            have st5 := st4.trans (s5.frame (G := GD) tA4.th)
            have li25 : Same I2 I5 := (a1.trans s4.li).trans s5.li
            cases b with
            | false =>
              rw [if_neg Bool.false_ne_true]
              simp only at hr
              have gw := gd5.wipe (vs := vs)
              rw [hw] at gw
              refine ⟨ds.length - (i + 1), by omega, rfl, hlt, wipeE ρ5 vs, I5, _, acc, kvs, gw, le.trans li25, hD5, wA.grow (RdLe.of li25), ⟨tA5.dj, tA5.th, fun j a q z => ?_⟩, st5.sub fun a q => q.imp (sm _ a) id, hr⟩
              obtain ⟨j', z'⟩ := sm φ5 a ⟨j, z⟩
              exact tA5.sp j' a q z'
            | true =>
              rw [if_pos rfl]
              simp only at hr
              refine ⟨ρ5, I5, φ5, gd5, ?_⟩
              cases ek : fk ρ5 with
              | stuck => rw [ek] at hr; cases hr
              | exc c ρ6 => rw [ek] at hr; cases hr
              | ok ko ρ6 =>
                rw [ek] at hr
                intro kv H6 I6 φ6 G6 s6 gd6 t6 w6
                cases ko with
                | d kd =>
                  simp only at hr
                  split at hr
                  case isFalse => cases hr
                  rename_i hkk
                  obtain ⟨key, rfl⟩ := isK_of hkk
                  have ekv : kv = kV key := by
                    cases w6 with
                    | d q => exact q.key
                  have s6' : Stp I5 H5 (al φ5) I6 H6 (al φ6) := s6.sub fun a q => .inl q
                  have tA6 : Tm I6 H6 φ6 GD := (tA5.step (G' := noP) (s6'.sub fun a q => q.elim id False.elim) Tm.none).1.mono fun a => .inl
                  have hD6 : H6 Dd = some (.dK kvs) := s6'.kp _ _ hD5 fun ⟨j, z⟩ => tA5.sp j Dd rfl z
                  have st6 := st5.trans (s6'.frame (G := GD) tA5.th)
                  refine ⟨ρ6, I6, φ6, gd6, ?_⟩
                  cases ef : fv ρ6 with
                  | stuck => rw [ef] at hr; cases hr
                  | exc c ρ7 => rw [ef] at hr; cases hr
                  | ok y ρ7 =>
                    rw [ef] at hr
                    intro v H7 I7 φ7 G7 s7 gd7 t7 w7
                    simp only at hr
                    cases ey : EV.frz y with
                    | none => rw [ey] at hr; cases hr
                    | some yd =>
                      rw [ey] at hr
                      simp only at hr
                      split at hr
                      case isFalse => cases hr
                      rename_i hz
                      obtain ⟨tt, dis⟩ := tA6.step s7 t7
                      obtain ⟨gd8, st8⟩ := gd7.freeze t7
                      have hD7 : H7 Dd = some (.dK kvs) := s7.kp _ _ hD6 fun ⟨j, z⟩ => tA6.sp j Dd rfl z
                      have dv : Den X.K (addI I7 H7 G7) yd v := w7.den ey t7.dj
                      have nGD : ¬ G7 Dd := fun q => dis Dd rfl q
                      have i8 : addI I7 H7 G7 Dd = none := by rw [addI_out nGD]; exact tt.dj Dd (.inl rfl)
                      have s8 : Stp I6 H6 (al φ6) (addI I7 H7 G7) H7 (al φ7) := s7.trans st8
                      have li28 : Same I2 (addI I7 H7 G7) := (li25.trans s6.li).trans s8.li
                      have st8' := st6.trans (s8.frame (G := GD) tA6.th)
                      refine ⟨kvs, key, ekv, hD7, by rw [wA.len, sizeLine_eq]; omega, ?_⟩
                      have nD : ∀ j, ¬ φ7 j Dd := fun j => tt.sp j Dd (.inl rfl)
                      have gw := gd8.wipe (vs := vs)
                      rw [hw] at gw
                      have gw2 := gw.other (p := Dd) (o := .dK (putK kvs key v)) i8 fun j z => by
                        obtain ⟨j', z'⟩ := sm φ7 Dd ⟨j, z⟩
                        exact nD j' z'
                      refine ⟨ds.length - (i + 1), by omega, rfl, hlt, wipeE ρ7 vs, addI I7 H7 G7, _, putKD acc (keyD key) yd, putK kvs key v, gw2, le.trans li28, upd_same, (wA.grow (RdLe.of li28)).put dv key, ⟨fun a q => ?_, fun a q => ?_, fun j a q z => ?_⟩, ?_, hr⟩
                      · rw [show a = Dd from q]; exact i8
                      · rw [show a = Dd from q, upd_same]; exact Option.some_ne_none _
                      · obtain ⟨j', z'⟩ := sm φ7 a ⟨j, z⟩
                        rw [show a = Dd from q] at z'
                        exact nD j' z'
                      · have s9 : Stp (addI I7 H7 G7) H7 (orP (al φ7) GD) (addI I7 H7 G7) (upd H7 Dd (.dK (putK kvs key v))) (orP (al φ7) GD) :=
                          ⟨Same.refl _, fun a o e nF => by rw [upd_ne (fun z => nF (.inr z))]; exact e, fun a q => .inl q, fun a o e => .inl e⟩
                        exact (st8'.trans s9).sub fun a q => q.imp (sm φ7 a) id
                | _ => cases hr
      · have ei : i = ds.length := by omega
        subst ei
        rw [List.drop_length] at hr
        refine .inl ⟨wk.stop H2 I2 le gd2.le, ?_⟩
        unfold dcF M.ret at hr
        cases hr
        have gu := gd1.unwipe (vs := vs) le hc gd2
        refine h' (.ref Dd) H2 I2 _ GD (st.sub fun a q => q.imp (sm φ2 a) id) gu ⟨tA.dj, tA.th, fun j a q z => ?_⟩ (.dic hDd rfl wA)
        obtain ⟨j', z'⟩ := sm φ2 a ⟨j, z⟩
        exact tA.sp j' a q z'
theorem ee_dc {kx vx tg iter : Expr} {ifs : List Expr} {scope : Scope} {own : List (Str × Nat)} {pos : Pos} {fi : M (List D)} {g : O → M Unit} {t : M Bool} {fk fv : M O} (hc : X.calm = true) (hN : X.N.Nodup) (hi : EI X W tg iter fi) (ok : BlkOk X.N X.env.scope scope own)
    (hg : ∀ (s : Shared) (H : Hp) (C : Addr) (cl : List (Str × Addr)) (fp : List Addr), PG (X.blk s H scope (compEnvC scope cl C X.env) fp) tg (rdG X.K X.mg (notIn X.N.length (own.map (·.2))) g))
    (ht : ∀ (s : Shared) (H : Hp) (C : Addr) (cl : List (Str × Addr)) (fp : List Addr), PTs (X.blk s H scope (compEnvC scope cl C X.env) fp) ifs (rdT X.K X.mg W0 t))
    (hk : ∀ (s : Shared) (H : Hp) (C : Addr) (cl : List (Str × Addr)) (fp : List Addr), PE (X.blk s H scope (compEnvC scope cl C X.env) fp) kx (rdE X.K X.mg W0 fk))
    (he : ∀ (s : Shared) (H : Hp) (C : Addr) (cl : List (Str × Addr)) (fp : List Addr), PE (X.blk s H scope (compEnvC scope cl C X.env) fp) vx (rdE X.K X.mg W0 fv)) (hs : ∀ x, foldedSetIterable iter X.env x = pure x := by intro _; rfl) :
    EE X W (.DictComp kx vx [⟨tg, iter, ifs, 0⟩] scope pos) (E.dc (own.map (·.2)) fi g t fk fv) :=
  ⟨fun pins s σ H Q I h => (pe_dc hc hN hi ok hg ht hk he hs).run pins s σ H Q I (dc_read I.len h)⟩
end
end EV

/-! The layer EV, part AC: {**a, **b}. -/
namespace EV
open PySem PySem.Spec PyProof.Rows L2
section
variable {P : Program} {w : World} {A : Around} {E : Value → Shared → Prop} {s : Shared}
theorem put_pairs {d : Addr} {kvs : List (Key × Value)} {k : Key} {key v : Value} {Q : Unit → Shared → Prop} (hkey : (mixKind P w).is k key = true) (hm : s.heap.DictOf (mixKind P w) d kvs) (hsz : kvs.length ≤ sizeLine)
    (hQ : ∀ h', h'.DictOf (mixKind P w) d (stored kvs k v) → Heap.SameBut d s.heap h' → Q () { s with heap := h' }) : wpAny (model P w) A (dictPut d ((mixKind P w).hash k) key v) Q E s := by
  obtain ⟨o, es, ep, ho, hc, hd, hk, hp, hn⟩ := hm
  have hes : es.size ≤ sizeLine := by
    have e1 := hp.length
    rw [Array.length_toList] at e1
    omega
  unfold dictPut
  refine wpAny_bind (wpAny_dictFind_of hkey ho hd hk ?_)
  have hidx : (es.findIdx? fun e => (mixKind P w).is k e.key) = kvs.findIdx? fun kv => decide (kv.1 = k) := by rw [← hp.findIdx k]; cases es; simp
  cases hi : es.findIdx? fun e => (mixKind P w).is k e.key with
  | some i =>
    have any : (kvs.any fun kv => decide (kv.1 = k)) = true := any_of_findIdx_some (hidx ▸ hi)
    refine wpAny_updateDict ho hd (hQ _ ⟨_, _, ep, Heap.get?_update_self _ ho (Obj.isFreed_of_dict (Obj.data_mapDict hd _)), hc.mapDict _, Obj.data_mapDict hd _, hk.modify _ _, ?_, ?_⟩ (Heap.SameBut.update ..))
    · have hl : (es.toList.findIdx? fun e => (mixKind P w).is k e.key) = some i := by rw [← hi]; cases es; simp
      have z := hp.modify hn hl v
      rw [stored, if_pos any]
      cases es; simpa using z
    · rw [stored, if_pos any, keys_map_store]; exact hn
  | none =>
    have hnot : k ∉ kvs.map (·.1) := not_mem_of_findIdx_none (hidx ▸ hi)
    have hany : ¬ (kvs.any fun kv => decide (kv.1 = k)) = true := fun z => by
      obtain ⟨kv, h1, h2⟩ := List.any_eq_true.mp z
      exact hnot (List.mem_map.mpr ⟨kv, h1, of_decide_eq_true h2⟩)
    refine wpAny_updateDictKeys (hz := hes) ho hd (hQ _ ⟨_, _, ep + 1, Heap.get?_update_self _ ho (Obj.isFreed_of_dict (Obj.data_mapDictKeys hd _)), hc.mapDictKeys _, Obj.data_mapDictKeys hd _, hk.push hkey _, ?_, ?_⟩ (Heap.SameBut.update ..))
    · have z := hp.append hkey ((mixKind P w).hash k) v
      rw [stored, if_neg hany]
      cases es; simpa using z
    · rw [stored, if_neg hany, List.map_append, List.nodup_append]
      refine ⟨hn, by simp, fun a ha b hb => ?_⟩
      simp only [List.map_cons, List.map_nil, List.mem_singleton] at hb
      subst hb
      exact fun e => hnot (e ▸ ha)
theorem merge_map {d o : Addr} {kvs more : List (Key × Value)} {Q : Unit → Shared → Prop} (hdo : d ≠ o) (hoS : (o == sysModules) = false) (hd : s.heap.DictOf (mixKind P w) d kvs) (ho : s.heap.DictOf (mixKind P w) o more) (hsz : kvs.length + more.length ≤ sizeLine)
    (hQ : ∀ h', h'.DictOf (mixKind P w) d (merged kvs more) → Heap.SameBut d s.heap h' → Q () { s with heap := h' }) : wpAny (model P w) A (mergeMapping d (.ref o) false) Q E s := by
  obtain ⟨od, esd, epd, hod, hcd, hdd, hkd, hpd, hnd⟩ := id hd
  obtain ⟨oo, eso, epo, hoo, hco, hdo', hko, hpo, hno⟩ := id ho
  unfold mergeMapping
  refine wpAny_bind (wpAny_isInstance ho.typeIs isSubtype_dict_dict ?_)
  rw [if_pos rfl]
  refine wpAny_bind (wpAny_specialOf ho.typeIs F.slot_dict_iter.lookup ?_)
  simp only [beq_self_eq_true]
  refine wpAny_bind (wpAny_pure ?_)
  show wpAny _ _ (ite ((o == sysModules) = true) _ _) _ _ _
  rw [if_neg (by rw [hoS]; exact Bool.false_ne_true)]
  refine wpAny_bind (wpAny_dictEntries hod hdd ?_)
  have loop : wpAny (model P w) A (do
      let l ← dictEntries o
      let epoch ← dictEpoch o
      forIn (List.range l.size) PUnit.unit fun i (_ : PUnit) => (do
        let l' ← dictEntries o
        match l'[i]? with
          | some e => do
            holding [e.key, e.val] (dictPut d e.hash e.key e.val)
            let ep' ← dictEpoch o
            if (ep' != epoch) = true then do
              (unsupported "dict.changed-during-merge" : Sem PUnit)
              pure (ForInStep.yield PUnit.unit)
            else pure (ForInStep.yield PUnit.unit)
          | _ => do
            (unsupported "dict.changed-during-merge" : Sem PUnit)
            pure (ForInStep.yield PUnit.unit) : Sem (ForInStep PUnit))
      pure ()) Q E s := by
    have hlen : more.length = eso.size := by rw [← hpo.length, Array.length_toList]
    refine wpAny_bind (wpAny_dictEntries hoo hdo' (wpAny_bind (wpAny_dictEpoch hoo hdo' (wpAny_bind ?_))))
    refine wpAny_forIn_list _ (fun rest _ s' => ∃ h' i, s' = { s with heap := h' } ∧ rest = (List.range eso.size).drop i ∧ i ≤ eso.size ∧ h'.DictOf (mixKind P w) d (merged kvs (more.take i)) ∧ h'.get? o = some oo ∧ Heap.SameBut d s.heap h') _ ?_ ?_ _ _ ⟨s.heap, 0, rfl, by simp, Nat.zero_le _, by simpa [merged] using hd, hoo, Heap.SameBut.refl _ _⟩
    · rintro x rest b s' ⟨h', i, rfl, hr, hi, hd', hoo', hs'⟩
      have hlt : i < eso.size := by
        rcases Nat.lt_or_ge i eso.size with h | h
        · exact h
        · rw [List.drop_of_length_le (by simpa using h)] at hr; cases hr
      rw [drop_cons (by simpa using hlt), List.getElem_range] at hr
      injection hr with e1 e2
      subst e1
      refine wpAny_bind (wpAny_dictEntries hoo' hdo' ?_)
      rw [Array.getElem?_eq_getElem hlt]
      obtain ⟨⟨k, v⟩, hkv⟩ : ∃ kv, more[x]? = some kv := ⟨more[x]'(by rw [hlen]; exact hlt), List.getElem?_eq_getElem _⟩
      obtain ⟨hkey, hval⟩ := hpo.get? (e := eso[x]) (by simp [hlt]) hkv
      obtain ⟨k', hkey', hhash⟩ := hko eso[x] (Array.getElem_mem hlt)
      obtain rfl : k' = k := (mixKind P w).inj _ _ _ hkey' hkey
      show wpAny _ _ (holding [eso[x].key, eso[x].val] (dictPut d eso[x].hash eso[x].key eso[x].val) >>= _) _ _ _
      rw [hhash, hval]
      have hmx : (merged kvs (more.take x)).length ≤ sizeLine := by
        have e1 := merged_length_le kvs (more.take x)
        have e2 : (more.take x).length ≤ more.length := by rw [List.length_take]; omega
        omega
      refine wpAny_bind (wpAny_holding (put_pairs hkey hd' hmx fun h2 hd2 hs2 => ?_))
      have hoo2 : h2.get? o = some oo := (hs2.2 o (Ne.symm hdo)).trans hoo'
      refine wpAny_bind (wpAny_dictEpoch hoo2 hdo' ?_)
      rw [if_neg (by simp)]
      exact wpAny_pure ⟨h2, x + 1, rfl, e2, hlt, by rw [merged_take_succ kvs more x (k', v) hkv]; exact hd2, hoo2, hs'.trans hs2⟩
    · rintro b s' ⟨h', i, rfl, hr, hi, hd', hoo', hs'⟩
      have hin : i = eso.size := by
        rcases Nat.lt_or_ge i eso.size with h | h
        · rw [drop_cons (by simpa using h)] at hr; cases hr
        · omega
      refine wpAny_pure (hQ h' ?_ hs')
      rw [hin, ← hlen, List.take_length] at hd'; exact hd'
  split
  · refine wpAny_bind (wpAny_dictEntries hoo hdo' ?_)
    refine wpAny_bind ?_
    rw [← Array.forIn_toList]
    refine wpAny_forIn_list _ (fun rest _ s' => (∀ e ∈ rest, ∃ k, (mixKind P w).is k e.key = true) ∧ s' = s) _ ?_ ?_ _ _ ⟨fun e he => ?_, rfl⟩
    · rintro e rest b s' ⟨hk, rfl⟩
      obtain ⟨k, hk1⟩ := hk e List.mem_cons_self
      rcases keyIs_shape hk1 with ⟨i, u, _, ek⟩ | ⟨i, u, _, ek⟩ <;> (rw [ek]; exact wpAny_pure ⟨fun e he => hk e (List.mem_cons_of_mem _ he), rfl⟩)
    · rintro b s' ⟨_, rfl⟩
      exact loop
    · obtain ⟨k, h1, _⟩ := hko e (Array.mem_toList_iff.mp he)
      exact ⟨k, h1⟩
  · exact loop
end
section
variable {X : Cx} {pins : List (Addr × Obj)} {σ : St} {H : Hp} {s : Shared} {A : Around} {E : Value → Shared → Prop}
theorem d_merge {d a : Addr} {kvs more : List (Key × V)} {Q : Unit → Shared → Prop} (I : Inv X pins σ H s) (ed : H d = some (.dK kvs)) (ea : Rd H a (.dK more)) (ne : d ≠ a) (hl : kvs.length + more.length ≤ sizeLine)
    (h : ∀ s', Inv X pins σ (upd H d (.dK (mergeK kvs more))) s' → Q () s') : wpAny (model X.prog X.w) A (mergeMapping d (.ref a) false) Q E s := by
  obtain ⟨z1, y1, vs, r1, d1⟩ := dk_of I.hok ed
  obtain ⟨z2, y2, ws, r2, d2⟩ := dk_rd I.hok ea
  refine merge_map ne y2 d1 d2 (by rw [← r1.length, ← r2.length]; exact hl) fun h' hd hs => ?_
  have ll : (mergeK kvs more).length ≤ sizeLine := Nat.le_trans (length_mergeK more kvs) hl
  have there : ∃ u, h'.get? d = some u := let ⟨o, _, _, e, _⟩ := hd; ⟨o, e⟩
  exact h _ (I.write (x := d) (e := d) (t' := s.toks) (by rw [ed]; trivial) (.inl rfl) (fun b u hb hu => (hs.2 b hb).trans hu) there (dk_new ll y1 (KV.merge r2 r1) hd))
def tMerge2 (t1 t2 : TE) : TE := fun σ H Q => ∀ d, H d = none → t1 σ (upd H d (.dK [])) fun x H1 => ∃ a kvs, x = .ref a ∧ d ≠ a ∧ Rd H1 a (.dK kvs) ∧ H1 d = some (.dK []) ∧ kvs.length ≤ 1000 ∧ t2 σ (upd H1 d (.dK (mergeK [] kvs))) fun y H2 => ∃ b more, y = .ref b ∧ d ≠ b ∧ Rd H2 b (.dK more) ∧
  H2 d = some (.dK (mergeK [] kvs)) ∧ more.length ≤ 1000 ∧ Q (.ref d) (upd H2 d (.dK (mergeK (mergeK [] kvs) more)))
theorem pe_merge2 {e1 e2 : Expr} {t1 t2 : TE} {pos : Pos} (h1 : PE X e1 t1) (h2 : PE X e2 t2) : PE X (.Dict [none, none] [e1, e2] pos) (tMerge2 t1 t2) := by
  refine ⟨fun pins s σ H Q I h => ?_⟩
  rw [arm_eval_Dict]
  refine wpAny_bind (wpAny_standAt ?_)
  show wpAny _ _ (dictDisplay [(none, do let x ← eval e1 X.env; standAt pos; pure x), (none, do let x ← eval e2 X.env; standAt pos; pure x)]) _ _ s
  have q0 := h s.heap.objs.size (I.hok.fresh (Nat.le_refl _))
  have I0 : Inv X pins σ (upd H s.heap.objs.size (.dK [])) { s with heap := s.heap.push { cls := .type "dict", data := .dict #[] } } := I.laid (a := s.heap.objs.size) (o := .dK []) (t' := s.toks) (fun _ _ q => Heap.get?_push_of_some _ q) (Nat.le_refl _) (dk_empty s.heap I.big)
  unfold dictDisplay
  simp only [List.forIn_cons, List.forIn_nil]
  refine wpAny_bind (wpAny_bind (wpAny_bind ?_))
  rw [if_pos (show ([] : List (Sem Value × Sem Value)).isEmpty = true from rfl)]
  refine wpAny_pure ?_
  refine wpAny_bind (wpAny_alloc (wpAny_bind (wpAny_holding (wpAny_bind (thn (h1.run pins _ σ _ _ I0 q0) fun u s1 ⟨x, H1, I1, rx, a, kvs, ex, na, ea, ed, l1, q1⟩ => wpAny_bind (wpAny_standAt (wpAny_pure ?_)))))))
  subst ex
  obtain rfl : u = Value.ref a := rx
  refine wpAny_bind (wpAny_onRaise (wpAny_tryCatch (wpAny_onRaise (wpAny_holding (d_merge I1 ed ea na (by rw [sizeLine_eq]; simp; omega) fun s2 I2 => ?_)))))
  refine wpAny_pure ?_
  dsimp only
  refine wpAny_bind (wpAny_bind ?_)
  rw [if_pos (show ([] : List (Sem Value × Sem Value)).isEmpty = true from rfl)]
  refine wpAny_pure ?_
  dsimp only
  refine wpAny_bind (wpAny_pure (wpAny_bind (wpAny_holding (wpAny_bind (thn (h2.run pins _ σ _ _ I2 q1) fun u s3 ⟨y, H3, I3, ry, b, more, ey, nb, eb, ed2, l2, q2⟩ => wpAny_bind (wpAny_standAt (wpAny_pure ?_)))))))
  subst ey
  obtain rfl : u = Value.ref b := ry
  have lm : (mergeK [] kvs).length ≤ 1000 := Nat.le_trans (length_mergeK kvs []) (by simpa using l1)
  refine wpAny_bind (wpAny_onRaise (wpAny_tryCatch (wpAny_onRaise (wpAny_holding (d_merge I3 ed2 eb nb (by rw [sizeLine_eq]; omega) fun s4 I4 => ?_)))))
  refine wpAny_pure ?_
  dsimp only
  refine wpAny_pure ?_
  dsimp only
  refine wpAny_bind ?_
  rw [if_pos (show ([] : List (Sem Value × Sem Value)).isEmpty = true from rfl)]
  refine wpAny_pure ?_
  exact wpAny_pure ⟨.ref s.heap.objs.size, _, I4, rfl, q2⟩
end
def mergeD (acc ds : List (D × D)) : List (D × D) := ds.foldl (fun acc p => putKD acc p.1 p.2) acc
theorem DenK.mrg {K : PySem.W.Frag} {I : Hp} : ∀ {ds : List (D × D)} {more : List (Key × V)} {acc : List (D × D)} {kvs : List (Key × V)}, DenK K I ds more → DenK K I acc kvs → DenK K I (mergeD acc ds) (mergeK kvs more)
  | _, _, _, _, .nil, h => h
  | _, _, acc, kvs, .cons (k := k) (x := x) (xs := xs) (v := v) (vs := vs) a b, h => show DenK K I (mergeD (putKD acc (keyD k) x) xs) (mergeK (putK kvs k v) vs) from DenK.mrg b (h.put a k)
/-- {**x, **y}, x and y names -/
def E.merge2 (i j : Nat) : M O := fun ρ => match (Pl.slot i).get ρ, (Pl.slot j).get ρ with
  | some x, some y => (match dO x, dO y with
    | some ds, some es => if keysOk ds && keysOk es && decide (ds.length ≤ 1000) && decide (es.length ≤ 1000) then .ok (.dic (mergeD (mergeD [] ds) es)) ρ else .stuck
    | _, _ => .stuck)
  | _, _ => .stuck
theorem ee_merge2 {X : Cx} {W : WX} {x y : Str} {px py pos : Pos} (i j : Nat) (hx : PlE X (.Name x px) (.slot i)) (hy : PlE X (.Name y py) (.slot j)) : EE X W (.Dict [none, none] [.Name x px, .Name y py] pos) (E.merge2 i j) := by
  refine PE.weak (pe_merge2 hx hy) fun σ H Q ⟨ρ, I, φ, gd, h⟩ => ?_
  unfold E.merge2 at h
  split at h
  case h_2 => exact h.elim
  rename_i o1 o2 g1 g2
  split at h
  case h_2 => exact h.elim
  rename_i ds es e1 e2
  split at h
  case isFalse => exact h.elim
  rename_i hk
  simp only [Bool.and_eq_true, decide_eq_true_eq] at hk
  obtain ⟨⟨⟨k1, k2⟩, l1⟩, l2⟩ := hk
  intro d hd
  obtain ⟨v1, S1, hv1, at1⟩ := gd.at g1
  obtain ⟨v2, S2, hv2, at2⟩ := gd.at g2
  obtain ⟨a, kvs, rfl, r1, d1⟩ := at1.own.dK gd.le e1 k1
  obtain ⟨b, more, rfl, r2, d2⟩ := at2.own.dK gd.le e2 k2
  have ne : ∀ {c : Addr} {u : HO}, Rd H c u → d ≠ c := fun r z => by
    subst z
    rcases r with r | ⟨_, r⟩ <;> (rw [hd] at r; cases r)
  have keep : ∀ {H2 : Hp} {c : Addr} {u o : HO}, Rd H2 c u → d ≠ c → Rd (upd H2 d o) c u := fun r n => r.imp (fun e => by rw [upd_ne (Ne.symm n)]; exact e) fun ⟨z, e⟩ => ⟨z, by rw [upd_ne (Ne.symm n)]; exact e⟩
  have iD : I d = none := gd.free hd
  have nD : ∀ i, ¬ φ i d := fun i q => gd.th i d q hd
  have gw := ((gd.new (o := .dK []) hd).other (o := .dK (mergeK [] kvs)) iD nD).other (o := .dK (mergeK (mergeK [] kvs) more)) iD nD
  refine ⟨.ref a, hv1, a, kvs, rfl, ne r1, keep r1 (ne r1), upd_same, by rw [d1.len]; exact l1, .ref b, hv2, b, more, rfl, ne r2, keep (keep r2 (ne r2)) (ne r2), upd_same, by rw [d2.len]; exact l2, ?_⟩
  refine h (.ref d) _ I φ (fun a => a = d) ⟨Same.refl _, fun c o e _ => ?_, fun c q => ?_, fun c o e => .inl e⟩ gw ⟨fun c q => by rw [show c = d from q]; exact iD, fun c q => by rw [show c = d from q, upd_same]; exact Option.some_ne_none _, fun i c q => by rw [show c = d from q]; exact nD i⟩ (.dic upd_same rfl (DenK.mrg d2 (DenK.mrg d1 .nil)))
  · have n : c ≠ d := fun z => by rw [z, hd] at e; cases e
    rw [upd_ne n, upd_ne n, upd_ne n]; exact e
  · rcases q with q | q
    · exact .inl q
    · exact .inr (by rw [show c = d from q]; exact hd)
end EV

/-! The layer EV, part AD: calls without arguments. -/
namespace EV
open PySem PySem.Spec PyProof.Rows L2
section
variable {X : Cx} {W : WX} {p pos : Pos} {x : Str} {k k0 : Nat} {m : List O → FRes}
theorem pe_callG0 {f : Addr} {fd : FuncData} {sp : Sp} {E : St → XK} (F : FnG X.prog X.w X.K X.mg X.base k f fd [] sp) (hr : Room k X.A) (hgd : X.A.guards = some []) (hg : Gl X x) (hm : X.mg x = some (.ref f)) (hk : PySem.W.keepIn X.K (.ref f) = true) (hb : Binds X.K fd [] []) (hx : ∀ σ, PassesAt (L2.CX X.prog X.w) X σ (E σ))
    (hdb : (x == ("__debug__" : Str)) = false := by decide) : PE X (.Call (.Name x p) [] [] pos) (fun σ H Q => sp [] H Q (E σ)) := by
  refine ⟨fun pins s σ H Q I h => ?_⟩
  refine wpAny_Call_Name_kw (ld_glob I hg hm ?_ hdb)
  exact PySem.W.callWith_K0 (first := []) I.kIn hk (run_fnG (us := []) (vs := []) F hr hgd hb (hx σ) I .nil h)
theorem nil_read {σ : St} {H : Hp} {Q : VK} {E : XK} (h : rdVb X.K X.mg Vw.nil σ H fun vs H1 => vs.length = ([] : List Nat).length ∧ spF X.K X.mg 0 [] m (permL [] vs) H1 Q E) : spF X.K X.mg 0 [] m [] H Q E := by
  obtain ⟨ρ, I, φ, gd, h⟩ := h
  exact (h [] I H (Grw.refl gd) .nil).2
theorem ve_fn0 (F : Fn X.prog X.w X.K X.mg X.base x k [] [] m) (hr : Room k0 X.A) (hgd : X.A.guards = some []) (hk : k ≤ k0 := by first | decide | omega) (hg : Gl X x := by rfl) (hdb : (x == ("__debug__" : Str)) = false := by decide) : VE X (.Call (.Name x p) [] [] pos) (Vw.callP 0 m (Vw.perm [] Vw.nil)) := by
  obtain ⟨f, fd, hm, F, kp, hb, _⟩ := F
  exact ve_callGen (PE.weak (pe_callG0 F (hr.mono hk) hgd hg hm kp hb (fun σ => passAt takesW0 σ) hdb) fun σ H Q h => nil_read h)
theorem ee_fn0 (F : Fn X.prog X.w X.K X.mg X.base x k [] [] m) (hr : Room k0 X.A) (hgd : X.A.guards = some []) (tk : Takes X W) (hk : k ≤ k0 := by first | decide | omega) (hg : Gl X x := by rfl) (hdb : (x == ("__debug__" : Str)) = false := by decide) : EE X W (.Call (.Name x p) [] [] pos) (E.callP 0 m (Vw.perm [] Vw.nil)) := by
  obtain ⟨f, fd, hm, F, kp, hb, _⟩ := F
  exact ee_callGen (PE.weak (pe_callG0 F (hr.mono hk) hgd hg hm kp hb (fun σ => passAt tk σ) hdb) fun σ H Q h => nil_read h)
end
end EV

/-! The layer EV, part AE: stores that bring data to a canonical form first, so that equal evaluations are met again. -/
namespace EV
open PySem PySem.Spec PyProof.Rows L2
universe u
def cN {α : Type} (n : Nat) (k : Nat → α) : α := match n with
  | 0 => k 0
  | m + 1 => k (m + 1)
theorem cN_eq {α : Type} (n : Nat) (k : Nat → α) : cN n k = k n := by cases n <;> rfl
def cI {α : Type} (i : Int) (k : Int → α) : α := match i with
  | .ofNat n => cN n fun n => k (.ofNat n)
  | .negSucc n => cN n fun n => k (.negSucc n)
theorem cI_eq {α : Type} (i : Int) (k : Int → α) : cI i k = k i := by cases i <;> (unfold cI; exact cN_eq _ _)
mutual
def cD {α : Type} : D → (D → α) → α
  | .int i, k => cI i fun i => k (.int i)
  | .bool b, k => (match b with
    | true => k (.bool true)
    | false => k (.bool false))
  | .tuple xs, k => cDs xs fun xs => k (.tuple xs)
  | .list xs, k => cDs xs fun xs => k (.list xs)
  | .dict xs, k => cKs xs fun xs => k (.dict xs)
  | x, k => k x
def cDs {α : Type} : List D → (List D → α) → α
  | [], k => k []
  | x :: xs, k => cD x fun x => cDs xs fun xs => k (x :: xs)
def cKs {α : Type} : List (D × D) → (List (D × D) → α) → α
  | [], k => k []
  | x :: xs, k => cP x fun x => cKs xs fun xs => k (x :: xs)
def cP {α : Type} : D × D → (D × D → α) → α
  | (x, y), k => cD x fun x => cD y fun y => k (x, y)
end
mutual
theorem cD_eq {α : Type} : ∀ (x : D) (k : D → α), cD x k = k x
  | .int i, k => by rw [cD, cI_eq]
  | .bool b, k => by cases b <;> rfl
  | .tuple xs, k => by rw [cD, cDs_eq xs]
  | .list xs, k => by rw [cD, cDs_eq xs]
  | .dict xs, k => by rw [cD, cKs_eq xs]
  | .none, k => rfl
  | .str x, k => rfl
theorem cDs_eq {α : Type} : ∀ (x : List D) (k : List D → α), cDs x k = k x
  | [], k => rfl
  | x :: xs, k => by rw [cDs, cD_eq x, cDs_eq xs]
theorem cKs_eq {α : Type} : ∀ (x : List (D × D)) (k : List (D × D) → α), cKs x k = k x
  | [], k => rfl
  | x :: xs, k => by rw [cKs, cP_eq x, cKs_eq xs]
theorem cP_eq {α : Type} : ∀ (x : D × D) (k : D × D → α), cP x k = k x
  | (x, y), k => by rw [cP, cD_eq x, cD_eq y]
end
def cOs {α : Type} : List O → (List O → α) → α
  | [], k => k []
  | .d x :: r, k => cD x fun x => cOs r fun r => k (.d x :: r)
  | o :: r, k => cOs r fun r => k (o :: r)
theorem cOs_eq {α : Type} : ∀ (x : List O) (k : List O → α), cOs x k = k x
  | [], k => rfl
  | .d x :: r, k => by rw [cOs, cD_eq, cOs_eq r]
  | .un :: r, k | .lst _ :: r, k | .tup _ :: r, k | .dic _ :: r, k | .dicT _ :: r, k | .obj _ _ :: r, k | .exn _ :: r, k | .scr _ :: r, k | .kst _ :: r, k => by
    rw [cOs, cOs_eq r]
    all_goals (intro x z; cases z)
def cO {α : Type} (o : O) (k : O → α) : α := match o with
  | .d x => cD x fun x => k (.d x)
  | .lst xs => cOs xs fun xs => k (.lst xs)
  | .dic xs => cKs xs fun xs => k (.dic xs)
  | o => k o
theorem cO_eq {α : Type} (o : O) (k : O → α) : cO o k = k o := by
  unfold cO
  split
  · rw [cD_eq]
  · rw [cOs_eq]
  · rw [cKs_eq]
  · rfl
/-- a name, which holds the canonical form -/
def G.nmC (i : Nat) : O → M Unit := fun o ρ => cO o fun o => .ok () (ρ.set i o)
theorem nmC_eq (i : Nat) : G.nmC i = G.nm i := by
  funext o ρ
  unfold G.nmC
  rw [cO_eq]
  rfl
theorem eg_nmC {X : Cx} {io : List Nat} {pos : Pos} (i : Nat) {x : Str} (hN : X.N.Nodup) (hi : X.N[i]? = some x := by rfl) (hx : Loc X.env.scope x := by first | exact Or.inl rfl | exact Or.inr rfl) (hio : i ∉ io := by first | decide | exact not_notIn (by decide))
    (hf : X.fn x = true ∨ X.env.scope.names.lookup x = some .local := by first | exact .inl rfl | exact .inr rfl | assumption) : EG X io (.Name x pos) (G.nmC i) := by
  rw [nmC_eq]
  exact eg_nm i hN hi hx hio hf
theorem es_canon {X : Cx} {W : WX} {io : List Nat} {st : Stmt} {i : Nat} {f : M O} (h : ES X W io st (S.asg f (G.nm i))) : ES X W io st (S.asg f (G.nmC i)) := by
  rw [nmC_eq]
  exact h
end EV

/-! The layer EV, part AJ: loops over known lists, reckoned; dicts from numbers to lists of numbers. -/
namespace EV
open PySem PySem.Spec PyProof.Rows L2
theorem lcF_map {α : Type} {vs : List Nat} {g : O → M Unit} {t : M Bool} {f : M O} (mk : α → D) (h : α → Option D) {ρ : Env} : ∀ (xs : List α) (acc : List O)
    (hs : ∀ x ∈ xs, ∃ ρ1 : Env, g (.d (mk x)) ρ = .ok () ρ1 ∧ ((h x = none ∧ ∃ ρ2 : Env, t ρ1 = .ok false ρ2 ∧ wipeE ρ2 vs = ρ) ∨ ∃ (y : D) (ρ2 ρ3 : Env), h x = some y ∧ t ρ1 = .ok true ρ2 ∧ f ρ2 = .ok (.d y) ρ3 ∧ wipeE ρ3 vs = ρ))
    (hb : acc.length + xs.length < 1000000), lcF vs g t f (xs.map mk) acc ρ = .ok (acc ++ (xs.filterMap h).map .d) ρ
  | [], acc, _, _ => by
    show R.ok acc ρ = _
    rw [List.filterMap_nil, List.map_nil, List.append_nil]
  | x :: xs, acc, hs, hb => by
    obtain ⟨ρ1, h1, h2⟩ := hs x (.head _)
    rw [List.length_cons] at hb
    rw [List.map_cons, lcF]
    simp only [h1]
    rcases h2 with ⟨hn, ρ2, h3, h4⟩ | ⟨y, ρ2, ρ3, hy, h3, h4, h5⟩
    · rw [h3]
      simp only
      rw [h4, lcF_map mk h xs acc (fun z q => hs z (.tail _ q)) (by omega), List.filterMap_cons, hn]
    · rw [h3]
      simp only
      rw [h4]
      simp only
      rw [if_pos (by omega), h5]
      refine (lcF_map mk h xs (acc ++ [.d y]) (fun z q => hs z (.tail _ q)) (by rw [List.length_append, List.length_singleton]; omega)).trans ?_
      rw [List.filterMap_cons, hy]
      simp
theorem lc_map {α : Type} {vs : List Nat} {fi : M (List D)} {g : O → M Unit} {t : M Bool} {f : M O} (mk : α → D) (h : α → Option D) {ρ : Env} (xs : List α) (hi : fi ρ = .ok (xs.map mk) ρ) (hc : calmE ρ vs = true) (hw : wipeE ρ vs = ρ) (hk : backE ρ ρ vs = ρ)
    (hs : ∀ x ∈ xs, ∃ ρ1 : Env, g (.d (mk x)) ρ = .ok () ρ1 ∧ ((h x = none ∧ ∃ ρ2 : Env, t ρ1 = .ok false ρ2 ∧ wipeE ρ2 vs = ρ) ∨ ∃ (y : D) (ρ2 ρ3 : Env), h x = some y ∧ t ρ1 = .ok true ρ2 ∧ f ρ2 = .ok (.d y) ρ3 ∧ wipeE ρ3 vs = ρ))
    (hb : xs.length < 1000000) : E.lc vs fi g t f ρ = .ok (.lst ((xs.filterMap h).map .d)) ρ := by
  unfold E.lc M.bind
  rw [hi]
  simp only
  rw [if_pos hc, hw, lcF_map mk h xs [] hs (by simpa using hb)]
  simp only [hk, List.nil_append]
theorem lc_mapW {α : Type} {vs : List Nat} {fi : M (List D)} {g : O → M Unit} {t : M Bool} {f : M O} (mk : α → D) (h : α → Option D) {ρ ρ' : Env} (xs : List α) (hi : fi ρ = .ok (xs.map mk) ρ) (hc : calmE ρ vs = true) (hw : wipeE ρ vs = ρ')
    (hs : ∀ x ∈ xs, ∃ ρ1 : Env, g (.d (mk x)) ρ' = .ok () ρ1 ∧ ((h x = none ∧ ∃ ρ2 : Env, t ρ1 = .ok false ρ2 ∧ wipeE ρ2 vs = ρ') ∨ ∃ (y : D) (ρ2 ρ3 : Env), h x = some y ∧ t ρ1 = .ok true ρ2 ∧ f ρ2 = .ok (.d y) ρ3 ∧ wipeE ρ3 vs = ρ'))
    (hb : xs.length < 1000000) : E.lc vs fi g t f ρ = .ok (.lst ((xs.filterMap h).map .d)) (backE ρ ρ' vs) := by
  unfold E.lc M.bind
  rw [hi]
  simp only
  rw [if_pos hc, hw, lcF_map mk h xs [] hs (by simpa using hb)]
  simp only [List.nil_append]
theorem dcF_map {α : Type} {vs : List Nat} {g : O → M Unit} {t : M Bool} {fk fv : M O} (mk : α → D) (h : α → Option (D × D)) {ρ : Env} : ∀ (xs : List α) (acc : List (D × D))
    (hs : ∀ x ∈ xs, ∃ ρ1 : Env, g (.d (mk x)) ρ = .ok () ρ1 ∧ ((h x = none ∧ ∃ ρ2 : Env, t ρ1 = .ok false ρ2 ∧ wipeE ρ2 vs = ρ) ∨ ∃ (k y : D) (o : O) (ρ2 ρ3 ρ4 : Env), h x = some (k, y) ∧ t ρ1 = .ok true ρ2 ∧ fk ρ2 = .ok (.d k) ρ3 ∧ isK k = true ∧ fv ρ3 = .ok o ρ4 ∧ frz o = some y ∧ wipeE ρ4 vs = ρ))
    (hb : acc.length + xs.length < 1000000), dcF vs g t fk fv (xs.map mk) acc ρ = .ok ((xs.filterMap h).foldl (fun acc p => putKD acc p.1 p.2) acc) ρ
  | [], acc, _, _ => rfl
  | x :: xs, acc, hs, hb => by
    obtain ⟨ρ1, h1, h2⟩ := hs x (.head _)
    rw [List.length_cons] at hb
    rw [List.map_cons, dcF]
    simp only [h1]
    rcases h2 with ⟨hn, ρ2, h3, h4⟩ | ⟨k, y, o, ρ2, ρ3, ρ4, hy, h3, h4, hk, h5, h6, h7⟩
    · rw [h3]
      simp only
      rw [h4, dcF_map mk h xs acc (fun z q => hs z (.tail _ q)) (by omega), List.filterMap_cons, hn]
    · rw [h3]
      simp only
      rw [h4]
      simp only [hk, if_true, h5, h6]
      have hl : (putKD acc k y).length ≤ acc.length + 1 := by
        unfold putKD
        split
        · rw [List.length_map]; omega
        · rw [List.length_append, List.length_singleton]; omega
      rw [if_pos (by omega), h7, dcF_map mk h xs (putKD acc k y) (fun z q => hs z (.tail _ q)) (by omega), List.filterMap_cons, hy, List.foldl_cons]
theorem dc_map {α : Type} {vs : List Nat} {fi : M (List D)} {g : O → M Unit} {t : M Bool} {fk fv : M O} (mk : α → D) (h : α → Option (D × D)) {ρ : Env} (xs : List α) (hi : fi ρ = .ok (xs.map mk) ρ) (hc : calmE ρ vs = true) (hw : wipeE ρ vs = ρ) (hk : backE ρ ρ vs = ρ)
    (hs : ∀ x ∈ xs, ∃ ρ1 : Env, g (.d (mk x)) ρ = .ok () ρ1 ∧ ((h x = none ∧ ∃ ρ2 : Env, t ρ1 = .ok false ρ2 ∧ wipeE ρ2 vs = ρ) ∨ ∃ (k y : D) (o : O) (ρ2 ρ3 ρ4 : Env), h x = some (k, y) ∧ t ρ1 = .ok true ρ2 ∧ fk ρ2 = .ok (.d k) ρ3 ∧ isK k = true ∧ fv ρ3 = .ok o ρ4 ∧ frz o = some y ∧ wipeE ρ4 vs = ρ))
    (hb : xs.length < 1000000) : E.dc vs fi g t fk fv ρ = .ok (.dic ((xs.filterMap h).foldl (fun acc p => putKD acc p.1 p.2) [])) ρ := by
  unfold E.dc M.bind
  rw [hi]
  simp only
  rw [if_pos hc, hw, dcF_map mk h xs [] hs (by simpa using hb)]
  simp only [hk]
theorem loopF_fold {α σ τ : Type} {g : O → M Unit} {fb : M Fl} (mk : α → D) (step : σ → α → σ) (e : σ → τ → Env) (ok : List α → σ → Prop) (hs : ∀ s v x xs, ok (x :: xs) s → ∃ (ρ1 : Env) (v' : τ), g (.d (mk x)) (e s v) = .ok () ρ1 ∧ fb ρ1 = .ok .nx (e (step s x) v') ∧ ok xs (step s x)) :
    ∀ (xs : List α) (s : σ) (v : τ), ok xs s → ∃ v', loopF g fb (xs.map mk) (e s v) = .ok .nx (e (xs.foldl step s) v')
  | [], s, v, h0 => ⟨v, rfl⟩
  | x :: xs, s, v, h0 => by
    obtain ⟨ρ1, v1, h1, h2, h3⟩ := hs s v x xs h0
    obtain ⟨v2, h4⟩ := loopF_fold mk step e ok hs xs (step s x) v1 h3
    refine ⟨v2, ?_⟩
    rw [List.map_cons, loopF]
    simp only [h1, h2]
    exact h4
namespace Wy
def iD (p : Nat) : D := .int (p : Int)
def lD (w : List Nat) : D := .list (w.map iD)
abbrev Kn := List (Nat × List Nat)
def kD (kn : Kn) : List (D × D) := kn.map fun e => (iD e.1, lD e.2)
theorem eqv_i (a b : Nat) : PyData.eqv (iD a) (iD b) = (a == b) := by
  unfold iD
  rw [PyData.eqv]
  by_cases h : a = b
  · rw [h, beq_self_eq_true, beq_self_eq_true]
  · have h2 : ¬ ((a : Int) = b) := by omega
    rw [beq_eq_false_iff_ne.mpr h, beq_eq_false_iff_ne.mpr h2]
def lk : Kn → Nat → Option (List Nat)
  | [], _ => none
  | e :: r, p => if e.1 == p then some e.2 else lk r p
theorem lookK_kD : ∀ (kn : Kn) (p : Nat), lookK (kD kn) (iD p) = (lk kn p).map lD
  | [], _ => rfl
  | e :: r, p => by
    show (if PyData.eqv (iD e.1) (iD p) then some (lD e.2) else lookK (kD r) (iD p)) = _
    rw [eqv_i, lookK_kD r p, lk]
    split <;> rfl
def pt (kn : Kn) (p : Nat) (w : List Nat) : Kn := if kn.any (fun e => e.1 == p) then kn.map (fun e => if e.1 == p then (e.1, w) else e) else kn ++ [(p, w)]
theorem putKD_kD (kn : Kn) (p : Nat) (w : List Nat) : putKD (kD kn) (iD p) (lD w) = kD (pt kn p w) := by
  unfold putKD pt kD
  rw [List.any_map]
  have e1 : ((fun q : D × D => PyData.eqv q.1 (iD p)) ∘ fun e : Nat × List Nat => (iD e.1, lD e.2)) = fun e => e.1 == p := by
    funext e
    exact eqv_i _ _
  rw [e1]
  split
  · rw [List.map_map, List.map_map]
    congr 1
    funext e
    show (if PyData.eqv (iD e.1) (iD p) = true then (iD e.1, lD w) else (iD e.1, lD e.2)) = (fun e : Nat × List Nat => (iD e.1, lD e.2)) (if (e.1 == p) = true then (e.1, w) else e)
    rw [eqv_i]
    split <;> rfl
  · rw [List.map_append]
    rfl
def mg (a b : Kn) : Kn := b.foldl (fun acc e => pt acc e.1 e.2) a
theorem mergeD_kD : ∀ (b a : Kn), mergeD (kD a) (kD b) = kD (mg a b)
  | [], a => rfl
  | e :: b, a => by
    show mergeD (putKD (kD a) (iD e.1) (lD e.2)) (kD b) = kD (mg (pt a e.1 e.2) b)
    rw [putKD_kD, mergeD_kD b]
theorem keysOk_kD (kn : Kn) : keysOk (kD kn) = true := by
  unfold keysOk kD
  rw [List.all_map]
  exact List.all_eq_true.mpr fun _ _ => rfl
def minN (x : List Nat) (xs : List (List Nat)) : List Nat := xs.foldl (fun a y => if PySem.W.dataLt (lD y) (lD a) then y else a) x
theorem minD_lD : ∀ (xs : List (List Nat)) (x : List Nat), PySem.W.minD (lD x) (xs.map lD) = lD (minN x xs)
  | [], x => rfl
  | y :: xs, x => by
    show PySem.W.minD (if PySem.W.dataLt (lD y) (lD x) = true then lD y else lD x) (xs.map lD) = lD (minN (if PySem.W.dataLt (lD y) (lD x) then y else x) xs)
    split
    · exact minD_lD xs y
    · exact minD_lD xs x
theorem alike_i : ∀ (a b : List Nat), PySem.W.alikeAll (a.map iD) (b.map iD) = true
  | [], b => by cases b <;> simp [PySem.W.alikeAll]
  | x :: a, [] => by simp [PySem.W.alikeAll]
  | x :: a, y :: b => by
    have := alike_i a b
    simp [PySem.W.alikeAll, this, iD, PySem.W.alike]
theorem plain_i : ∀ (a : List Nat), PyData.plainAll (a.map iD) = true
  | [] => by simp [PyData.plainAll]
  | x :: a => by
    have := plain_i a
    simp [PyData.plainAll, this, iD, PyData.plain]
theorem plain_l : ∀ (a : List (List Nat)), PyData.plainAll (a.map lD) = true
  | [] => by simp [PyData.plainAll]
  | x :: a => by
    have := plain_l a
    have h2 := plain_i x
    simp [PyData.plainAll, this, lD, PyData.plain, h2]
theorem depth_i : ∀ (a : List Nat), PyData.depthAll (a.map iD) ≤ 1
  | [] => by simp [PyData.depthAll]
  | x :: a => by
    have := depth_i a
    simp [PyData.depthAll, iD, PyData.depth]
    omega
theorem depth_l : ∀ (a : List (List Nat)), PyData.depthAll (a.map lD) ≤ 2
  | [] => by simp [PyData.depthAll]
  | x :: a => by
    have := depth_l a
    have h2 := depth_i x
    simp [PyData.depthAll, lD, PyData.depth]
    omega
theorem minOk_lD (ws : List (List Nat)) : minOk (ws.map lD) = true := by
  unfold minOk
  simp only [Bool.and_eq_true, List.all_eq_true, decide_eq_true_eq, List.mem_map]
  refine ⟨⟨⟨?_, ?_⟩, plain_l ws⟩, by have := depth_l ws; omega⟩
  · rintro _ ⟨a, _, rfl⟩ _ ⟨b, _, rfl⟩
    show PySem.W.alike (.list _) (.list _) = true
    rw [PySem.W.alike]
    exact alike_i a b
  · rintro _ ⟨a, _, rfl⟩
    rfl
end Wy
end EV

/-! The layer EV, part AK: reckoning of mirrors by simp. -/
namespace EV
open PySem PySem.Spec PyProof.Rows L2
namespace Ev
def bnd {α β : Type} (r : R α) (g : α → M β) : R β := match r with
  | .ok x ρ => g x ρ
  | .exc c ρ => .exc c ρ
  | .stuck => .stuck
section
variable {α β : Type}
@[simp] theorem bnd_ok (x : α) (ρ : EV.Env) (g : α → M β) : bnd (.ok x ρ) g = g x ρ := rfl
@[simp] theorem bnd_exc (c : PySem.Str) (ρ : EV.Env) (g : α → M β) : bnd (.exc c ρ) g = .exc c ρ := rfl
@[simp] theorem bnd_stuck (g : α → M β) : bnd (.stuck) g = .stuck := rfl
@[simp] theorem bnd_ite {c : Prop} [Decidable c] (a b : R α) (g : α → M β) : bnd (if c then a else b) g = if c then bnd a g else bnd b g := by split <;> rfl
@[simp] theorem bind_ap (f : M α) (g : α → M β) (ρ : EV.Env) : M.bind f g ρ = bnd (f ρ) g := rfl
@[simp] theorem ret_ap (x : α) (ρ : EV.Env) : M.ret x ρ = .ok x ρ := rfl
@[simp] theorem fail_ap (ρ : EV.Env) : (M.fail : M α) ρ = .stuck := rfl
@[simp] theorem opt_some (x : α) (ρ : EV.Env) : M.opt (some x) ρ = .ok x ρ := rfl
@[simp] theorem opt_none (ρ : EV.Env) : (M.opt none : M α) ρ = .stuck := rfl
@[simp] theorem opt_ite {c : Prop} [Decidable c] (a b : Option α) (ρ : EV.Env) : M.opt (if c then a else b) ρ = if c then M.opt a ρ else M.opt b ρ := by split <;> rfl
@[simp] theorem ite_ap {c : Prop} [Decidable c] (a b : M α) (ρ : EV.Env) : (if c then a else b) ρ = if c then a ρ else b ρ := by split <;> rfl
end
/-! ### slots -/
def varK : Option O → Option O
  | some .un => none
  | o => o
@[simp] theorem varK_d (x : D) : varK (some (.d x)) = some (.d x) := rfl
@[simp] theorem varK_lst (x : List O) : varK (some (.lst x)) = some (.lst x) := rfl
@[simp] theorem varK_tup (x : List O) : varK (some (.tup x)) = some (.tup x) := rfl
@[simp] theorem varK_dic (x : List (D × D)) : varK (some (.dic x)) = some (.dic x) := rfl
@[simp] theorem varK_scr (x : List Int) : varK (some (.scr x)) = some (.scr x) := rfl
@[simp] theorem var_ap (i : Nat) (ρ : EV.Env) : Vw.var i ρ = varK (ρ[i]?) := rfl
@[simp] theorem plv_ap (i : Nat) (ρ : EV.Env) : Vw.pl (.slot i) ρ = varK (ρ[i]?) := rfl
@[simp] theorem get_ap (i : Nat) (ρ : EV.Env) : (Pl.slot i).get ρ = varK (ρ[i]?) := rfl
@[simp] theorem pset_ap (i : Nat) (o : O) (ρ : EV.Env) : (Pl.slot i).set o ρ = ρ.set i o := rfl
/-! ### views -/
@[simp] theorem c_ap (x : D) (ρ : EV.Env) : Vw.c x ρ = some (.d x) := rfl
@[simp] theorem vop1_ap (g : O → Option O) (f : EV.Env → Option O) (ρ : EV.Env) : Vw.op1 g f ρ = (f ρ).bind g := rfl
@[simp] theorem vop2_ap (g : O → O → Option O) (f1 f2 : EV.Env → Option O) (ρ : EV.Env) : Vw.op2 g f1 f2 ρ = (f1 ρ).bind fun x => (f2 ρ).bind fun y => g x y := rfl
@[simp] theorem vop3_ap (g : O → O → O → Option O) (f1 f2 f3 : EV.Env → Option O) (ρ : EV.Env) : Vw.op3 g f1 f2 f3 ρ = (f1 ρ).bind fun x => (f2 ρ).bind fun y => (f3 ρ).bind fun z => g x y z := rfl
@[simp] theorem vnil_ap (ρ : EV.Env) : Vw.nil ρ = some [] := rfl
@[simp] theorem vcons_ap (f : EV.Env → Option O) (g : EV.Env → Option (List O)) (ρ : EV.Env) : Vw.cons f g ρ = (f ρ).bind fun x => (g ρ).bind fun xs => some (x :: xs) := rfl
@[simp] theorem vopN_ap (g : List O → Option O) (f : EV.Env → Option (List O)) (ρ : EV.Env) : Vw.opN g f ρ = (f ρ).bind g := rfl
@[simp] theorem boo_b (b : Bool) : Vw.boo (.d (.bool b)) = some b := rfl
@[simp] theorem vand_ap (f g : EV.Env → Option O) (ρ : EV.Env) : Vw.and f g ρ = (f ρ).bind fun o => (Vw.boo o).bind fun b => if b then g ρ else some (.d (.bool false)) := rfl
@[simp] theorem vor_ap (f g : EV.Env → Option O) (ρ : EV.Env) : Vw.or f g ρ = (f ρ).bind fun o => (Vw.boo o).bind fun b => if b then some (.d (.bool true)) else g ρ := rfl
@[simp] theorem vnot_ap (f : EV.Env → Option O) (ρ : EV.Env) : Vw.not f ρ = (f ρ).bind fun o => (Vw.boo o).bind fun b => some (.d (.bool (!b))) := rfl
@[simp] theorem vif_ap (t f g : EV.Env → Option O) (ρ : EV.Env) : Vw.ifE t f g ρ = (t ρ).bind fun o => (Vw.boo o).bind fun b => if b then f ρ else g ρ := rfl
@[simp] theorem vchain_ap (g1 g2 : O → O → Option O) (f1 f2 f3 : EV.Env → Option O) (ρ : EV.Env) : Vw.chain g1 g2 f1 f2 f3 ρ = (f1 ρ).bind fun x => (f2 ρ).bind fun y => (g1 x y).bind fun o => (Vw.boo o).bind fun b => if b then (f3 ρ).bind fun z => g2 y z else some (.d (.bool false)) := rfl
@[simp] theorem vtup_ap (f : EV.Env → Option (List O)) (ρ : EV.Env) : Vw.tup f ρ = (f ρ).bind fun os => (allD os).bind fun ds => if ds.length ≤ 1000000 then some (.d (.tuple ds)) else none := rfl
@[simp] theorem vlst_ap (f : EV.Env → Option (List O)) (ρ : EV.Env) : Vw.lst f ρ = (f ρ).bind fun os => (allD os).bind fun ds => if ds.length ≤ 1000000 then some (.d (.list ds)) else none := rfl
@[simp] theorem vdat_ap (f : EV.Env → Option O) (ρ : EV.Env) : Vw.dat f ρ = (f ρ).bind fun o => (EV.dat o).map .d := rfl
@[simp] theorem dat_d (x : D) : EV.dat (.d x) = some x := rfl
@[simp] theorem vnoPart_ap (ρ : EV.Env) : Vw.noPart ρ = some none := rfl
def partK : Option O → Option (Option Int)
  | some (.d (.int i)) => some (some i)
  | _ => none
@[simp] theorem partK_i (i : Int) : partK (some (.d (.int i))) = some (some i) := rfl
@[simp] theorem vpart_ap (f : EV.Env → Option O) (ρ : EV.Env) : Vw.part f ρ = partK (f ρ) := rfl
@[simp] theorem vsl_ap (f : EV.Env → Option O) (l h : EV.Env → Option (Option Int)) (g : O → Option Int → Option Int → Option O) (ρ : EV.Env) : Vw.sl f l h g ρ = (f ρ).bind fun x => (l ρ).bind fun lo => (h ρ).bind fun hi => g x lo hi := rfl
@[simp] theorem obind_ite {α β : Type} {c : Prop} [Decidable c] (a b : Option α) (f : α → Option β) : (if c then a else b).bind f = if c then a.bind f else b.bind f := by split <;> rfl
@[simp] theorem allD_nil : allD [] = some [] := rfl
@[simp] theorem allD_cons (x : D) (r : List O) : allD (.d x :: r) = (allD r).map (x :: ·) := rfl
@[simp] theorem allD_mapd (ds : List D) : allD (ds.map O.d) = some ds := allD_map ds
/-! ### values -/
def viewK : Option O → EV.Env → R O
  | some (.d x), ρ => .ok (.d x) ρ
  | some (.scr x), ρ => .ok (.scr x) ρ
  | _, _ => .stuck
@[simp] theorem viewK_d (x : D) (ρ : EV.Env) : viewK (some (.d x)) ρ = .ok (.d x) ρ := rfl
@[simp] theorem viewK_scr (x : List Int) (ρ : EV.Env) : viewK (some (.scr x)) ρ = .ok (.scr x) ρ := rfl
@[simp] theorem viewK_none (ρ : EV.Env) : viewK none ρ = .stuck := rfl
@[simp] theorem viewK_ite {c : Prop} [Decidable c] (a b : Option O) (ρ : EV.Env) : viewK (if c then a else b) ρ = if c then viewK a ρ else viewK b ρ := by split <;> rfl
@[simp] theorem view_ap (f : EV.Env → Option O) (ρ : EV.Env) : E.view f ρ = viewK (f ρ) ρ := by
  unfold E.view viewK
  split <;> first | rfl | (split <;> simp_all)
def tviewK : Option O → EV.Env → R Bool
  | some (.d (.bool b)), ρ => .ok b ρ
  | _, _ => .stuck
@[simp] theorem tviewK_b (b : Bool) (ρ : EV.Env) : tviewK (some (.d (.bool b))) ρ = .ok b ρ := rfl
@[simp] theorem tviewK_none (ρ : EV.Env) : tviewK none ρ = .stuck := rfl
@[simp] theorem tviewK_ite {c : Prop} [Decidable c] (a b : Option O) (ρ : EV.Env) : tviewK (if c then a else b) ρ = if c then tviewK a ρ else tviewK b ρ := by split <;> rfl
@[simp] theorem tview_ap (f : EV.Env → Option O) (ρ : EV.Env) : T.view f ρ = tviewK (f ρ) ρ := by
  unfold T.view tviewK
  split <;> first | rfl | (split <;> simp_all)
def frK : Option O → EV.Env → R O
  | some z, ρ => .ok z ρ
  | none, _ => .stuck
@[simp] theorem frK_some (z : O) (ρ : EV.Env) : frK (some z) ρ = .ok z ρ := rfl
@[simp] theorem frK_none (ρ : EV.Env) : frK none ρ = .stuck := rfl
@[simp] theorem fr_ap (f : EV.Env → Option O) (ρ : EV.Env) : E.fr f ρ = frK (f ρ) ρ := by
  unfold E.fr frK
  split <;> simp_all
def evK (i : Nat) (ρ : EV.Env) : Option O → R O
  | some (.d x) => .ok (.d x) ρ
  | some (.scr x) => .ok (.scr x) ρ
  | some o => (match frz o with
    | some x => .ok (.d x) (ρ.set i (.d x))
    | none => .stuck)
  | none => .stuck
@[simp] theorem evar_ap (i : Nat) (ρ : EV.Env) : E.var i ρ = evK i ρ (ρ[i]?) := by
  unfold E.var evK
  cases h : ρ[i]? with
  | none => rfl
  | some o => cases o <;> first | rfl | (simp only; cases frz _ <;> rfl)
@[simp] theorem evK_d (i : Nat) (ρ : EV.Env) (x : D) : evK i ρ (some (.d x)) = .ok (.d x) ρ := rfl
@[simp] theorem evK_scr (i : Nat) (ρ : EV.Env) (x : List Int) : evK i ρ (some (.scr x)) = .ok (.scr x) ρ := rfl
@[simp] theorem frzL_mapd (ds : List D) : frzL (ds.map O.d) = some ds := Pen.frzL_map ds
@[simp] theorem frz_d (x : D) : frz (.d x) = some x := rfl
@[simp] theorem frzL_nil : frzL [] = some [] := rfl
@[simp] theorem frzL_consd (x : D) (r : List O) : frzL (.d x :: r) = (frzL r).map (x :: ·) := by
  rw [frzL]
  cases frzL r <;> rfl
@[simp] theorem frz_lst (xs : List O) : frz (.lst xs) = (frzL xs).map .list := by rw [frz]
@[simp] theorem frzL_consl (xs : List O) (r : List O) : frzL (.lst xs :: r) = (frzL xs).bind fun ds => (frzL r).map (.list ds :: ·) := by
  rw [frzL, frz_lst]
  cases frzL xs <;> cases frzL r <;> rfl
@[simp] theorem evK_ol (i : Nat) (ρ : EV.Env) (ds : List D) : evK i ρ (some (.lst (ds.map O.d))) = .ok (.d (.list ds)) (ρ.set i (.d (.list ds))) := by
  show (match frz (.lst (ds.map O.d)) with
    | some x => R.ok (O.d x) (ρ.set i (.d x))
    | none => R.stuck) = _
  rw [frz_lst, frzL_mapd]
  rfl
@[simp] theorem evK_nil (i : Nat) (ρ : EV.Env) : evK i ρ (some (.lst [])) = .ok (.d (.list [])) (ρ.set i (.d (.list []))) := evK_ol i ρ []
@[simp] theorem evK_dic (i : Nat) (ρ : EV.Env) (ds : List (D × D)) : evK i ρ (some (.dic ds)) = .ok (.d (.dict ds)) (ρ.set i (.d (.dict ds))) := by
  show (match frz (.dic ds) with
    | some x => R.ok (O.d x) (ρ.set i (.d x))
    | none => R.stuck) = _
  rw [frz]
def vfK (i : Nat) (ρ : EV.Env) : Option (List D) → R O
  | some ds => .ok (.d (.list ds)) (ρ.set i (.d (.list ds)))
  | none => .stuck
@[simp] theorem vfK_some (i : Nat) (ρ : EV.Env) (ds : List D) : vfK i ρ (some ds) = .ok (.d (.list ds)) (ρ.set i (.d (.list ds))) := rfl
@[simp] theorem evK_lst (i : Nat) (ρ : EV.Env) (xs : List O) : evK i ρ (some (.lst xs)) = vfK i ρ (frzL xs) := by
  show (match frz (.lst xs) with
    | some x => R.ok (O.d x) (ρ.set i (.d x))
    | none => R.stuck) = _
  rw [frz_lst]
  cases frzL xs <;> rfl
def mvK (i : Nat) (ρ : EV.Env) : Option O → R O
  | some .un => .stuck
  | some o => .ok o (ρ.set i .un)
  | none => .stuck
@[simp] theorem move_ap (i : Nat) (ρ : EV.Env) : E.move i ρ = mvK i ρ (ρ[i]?) := by
  unfold E.move mvK
  split <;> simp_all
@[simp] theorem mvK_d (i : Nat) (ρ : EV.Env) (x : D) : mvK i ρ (some (.d x)) = .ok (.d x) (ρ.set i .un) := rfl
@[simp] theorem mvK_lst (i : Nat) (ρ : EV.Env) (x : List O) : mvK i ρ (some (.lst x)) = .ok (.lst x) (ρ.set i .un) := rfl
@[simp] theorem mvK_tup (i : Nat) (ρ : EV.Env) (x : List O) : mvK i ρ (some (.tup x)) = .ok (.tup x) (ρ.set i .un) := rfl
@[simp] theorem mvK_dic (i : Nat) (ρ : EV.Env) (x : List (D × D)) : mvK i ρ (some (.dic x)) = .ok (.dic x) (ρ.set i .un) := rfl
@[simp] theorem eop2_ap (g : O → O → Option O) (f1 f2 : M O) (ρ : EV.Env) : E.op2 g f1 f2 ρ = bnd (f1 ρ) fun x => M.bind f2 fun y => M.opt (g x y) := rfl
@[simp] theorem eop1_ap (g : O → Option O) (f : M O) (ρ : EV.Env) : E.op1 g f ρ = bnd (f ρ) fun x => M.opt (g x) := rfl
@[simp] theorem eopN_ap (g : List O → Option O) (f : M (List O)) (ρ : EV.Env) : E.opN g f ρ = bnd (f ρ) fun x => M.opt (g x) := rfl
@[simp] theorem etup_ap (f : M (List O)) (ρ : EV.Env) : E.tup f ρ = bnd (f ρ) fun xs => if xs.length ≤ 1000000 then M.ret (mkTup xs) else M.fail := rfl
@[simp] theorem elst_ap (f : M (List O)) (ρ : EV.Env) : E.lst f ρ = bnd (f ρ) fun xs => if xs.length ≤ 1000000 then M.ret (.lst xs) else M.fail := rfl
@[simp] theorem eifE_ap (t : M Bool) (f g : M O) (ρ : EV.Env) : E.ifE t f g ρ = bnd (t ρ) fun b => if b then f else g := rfl
@[simp] theorem ec_ap (x : D) (ρ : EV.Env) : E.c x ρ = .ok (.d x) ρ := rfl
@[simp] theorem anil_ap (ρ : EV.Env) : A.nil ρ = .ok [] ρ := rfl
@[simp] theorem acons_ap (f : M O) (g : M (List O)) (ρ : EV.Env) : A.cons f g ρ = bnd (f ρ) fun x => M.bind g fun xs => M.ret (x :: xs) := rfl
def valK : O → EV.Env → R Bool
  | .d (.bool b), ρ => .ok b ρ
  | _, _ => .stuck
@[simp] theorem valK_b (b : Bool) (ρ : EV.Env) : valK (.d (.bool b)) ρ = .ok b ρ := rfl
@[simp] theorem tval_ap (f : M O) (ρ : EV.Env) : T.val f ρ = bnd (f ρ) valK := by
  unfold T.val
  rw [bind_ap]
  congr 1
  funext o ρ1
  unfold valK
  split
  · rfl
  · rename_i h
    split
    · rename_i b; exact absurd rfl (h b)
    · rfl
@[simp] theorem tnot_ap (f : M Bool) (ρ : EV.Env) : T.not f ρ = bnd (f ρ) fun b => M.ret (!b) := rfl
@[simp] theorem tand_ap (f g : M Bool) (ρ : EV.Env) : T.and f g ρ = bnd (f ρ) fun b => if b then g else M.ret false := rfl
@[simp] theorem tor_ap (f g : M Bool) (ρ : EV.Env) : T.or f g ρ = bnd (f ρ) fun b => if b then M.ret true else g := rfl
@[simp] theorem tyes_ap (ρ : EV.Env) : T.yes ρ = .ok true ρ := rfl
@[simp] theorem eand_ap (f g : M O) (ρ : EV.Env) : E.and f g ρ = bnd (T.val f ρ) fun b => if b then g else M.ret (.d (.bool false)) := rfl
@[simp] theorem eor_ap (f g : M O) (ρ : EV.Env) : E.or f g ρ = bnd (T.val f ρ) fun b => if b then M.ret (.d (.bool true)) else g := rfl
@[simp] theorem enot_ap (f : M O) (ρ : EV.Env) : E.not f ρ = bnd (T.val f ρ) fun b => M.ret (.d (.bool (!b))) := rfl
/-! ### statements -/
def seqK (r : R Fl) (g : M Fl) : R Fl := match r with
  | .ok .nx ρ1 => g ρ1
  | r => r
@[simp] theorem seqK_nx (ρ : EV.Env) (g : M Fl) : seqK (.ok .nx ρ) g = g ρ := rfl
@[simp] theorem seqK_ret (o : O) (ρ : EV.Env) (g : M Fl) : seqK (.ok (.ret o) ρ) g = .ok (.ret o) ρ := rfl
@[simp] theorem seqK_brk (ρ : EV.Env) (g : M Fl) : seqK (.ok .brk ρ) g = .ok .brk ρ := rfl
@[simp] theorem seqK_cnt (ρ : EV.Env) (g : M Fl) : seqK (.ok .cnt ρ) g = .ok .cnt ρ := rfl
@[simp] theorem seqK_exc (c : PySem.Str) (ρ : EV.Env) (g : M Fl) : seqK (.exc c ρ) g = .exc c ρ := rfl
@[simp] theorem seqK_stuck (g : M Fl) : seqK .stuck g = .stuck := rfl
@[simp] theorem seqK_ite {c : Prop} [Decidable c] (a b : R Fl) (g : M Fl) : seqK (if c then a else b) g = if c then seqK a g else seqK b g := by split <;> rfl
@[simp] theorem seq_ap (f g : M Fl) (ρ : EV.Env) : S.seq f g ρ = seqK (f ρ) g := rfl
@[simp] theorem snx_ap (ρ : EV.Env) : S.nx ρ = .ok .nx ρ := rfl
@[simp] theorem sexpr_ap (f : M O) (ρ : EV.Env) : S.expr f ρ = bnd (f ρ) fun _ => M.ret .nx := rfl
@[simp] theorem sret_ap (f : M O) (ρ : EV.Env) : S.ret f ρ = bnd (f ρ) fun o => M.ret (.ret o) := rfl
@[simp] theorem sretN_ap (ρ : EV.Env) : S.retN ρ = .ok (.ret (.d .none)) ρ := rfl
@[simp] theorem sif_ap (t : M Bool) (f g : M Fl) (ρ : EV.Env) : S.ifS t f g ρ = bnd (t ρ) fun b => if b then f else g := rfl
@[simp] theorem sbrk_ap (ρ : EV.Env) : S.brk ρ = .ok .brk ρ := rfl
@[simp] theorem scnt_ap (ρ : EV.Env) : S.cnt ρ = .ok .cnt ρ := rfl
@[simp] theorem sraise_ap (c : PySem.Str) (ρ : EV.Env) : S.raise c ρ = .exc c ρ := rfl
def asgK : R Unit → R Fl
  | .ok _ ρ => .ok .nx ρ
  | _ => .stuck
@[simp] theorem asgK_ok (u : Unit) (ρ : EV.Env) : asgK (.ok u ρ) = .ok .nx ρ := rfl
@[simp] theorem sasg_ap (f : M O) (g : O → M Unit) (ρ : EV.Env) : S.asg f g ρ = bnd (f ρ) fun o ρ1 => asgK (g o ρ1) := by
  unfold S.asg
  rw [bind_ap]
  congr 1
@[simp] theorem gnm_ap (i : Nat) (o : O) (ρ : EV.Env) : G.nm i o ρ = .ok () (ρ.set i o) := rfl
@[simp] theorem gnil_ap (ρ : EV.Env) : G.nil [] ρ = .ok () ρ := rfl
@[simp] theorem gcons_ap (g : O → M Unit) (gs : List O → M Unit) (o : O) (r : List O) (ρ : EV.Env) : G.cons g gs (o :: r) ρ = bnd (g o ρ) fun _ => gs r := rfl
@[simp] theorem gtup_d (n : Nat) (gs : List O → M Unit) (xs : List D) (ρ : EV.Env) : G.tup n gs (.d (.tuple xs)) ρ = if xs.length = n then gs (xs.map .d) ρ else .stuck := by
  show (if (xs.map O.d).length = n then gs (xs.map .d) else M.fail) ρ = _
  rw [List.length_map]
  split <;> rfl
@[simp] theorem gtup_t (n : Nat) (gs : List O → M Unit) (xs : List O) (ρ : EV.Env) : G.tup n gs (.tup xs) ρ = if xs.length = n then gs xs ρ else .stuck := by
  show (if xs.length = n then gs xs else M.fail) ρ = _
  split <;> rfl
theorem mkTup_d (x : D) (r : List D) : mkTup (.d x :: r.map O.d) = .d (.tuple (x :: r)) := by
  unfold mkTup
  rw [allD_cons, allD_mapd]
  rfl
def par2K (i j : Nat) : List O → M Fl := fun os ρ => match os with
  | [x, y] => .ok .nx ((ρ.set i x).set j y)
  | _ => .stuck
@[simp] theorem par2K_ap (i j : Nat) (x y : O) (ρ : EV.Env) : par2K i j [x, y] ρ = .ok .nx ((ρ.set i x).set j y) := rfl
@[simp] theorem par2_ap (i j : Nat) (f : M (List O)) (ρ : EV.Env) : S.par2 i j f ρ = bnd (f ρ) (par2K i j) := rfl
def par3K (i j l : Nat) : List O → M Fl := fun os ρ => match os with
  | [x, y, z] => .ok .nx (((ρ.set i x).set j y).set l z)
  | _ => .stuck
@[simp] theorem par3K_ap (i j l : Nat) (x y z : O) (ρ : EV.Env) : par3K i j l [x, y, z] ρ = .ok .nx (((ρ.set i x).set j y).set l z) := rfl
@[simp] theorem par3_ap (i j l : Nat) (f : M (List O)) (ρ : EV.Env) : S.par3 i j l f ρ = bnd (f ρ) (par3K i j l) := rfl
@[simp] theorem sfor_ap (f : M (List D)) (g : O → M Unit) (fb : M Fl) (ρ : EV.Env) : S.for f g fb ρ = bnd (f ρ) fun ds => loopF g fb ds := rfl
end Ev
end EV

/-! The layer EV, part AL: calls, walks and operators, reckoned. -/
namespace EV
open PySem PySem.Spec PyProof.Rows L2
namespace Ev
/-! ### calls -/
@[simp] theorem frzArgs_nil : frzArgs [] = some [] := rfl
@[simp] theorem frzArgs_d (x : D) (r : List O) : frzArgs (.d x :: r) = (frzArgs r).map (.d x :: ·) := by
  rw [frzArgs]
  show (match some (O.d x), frzArgs r with | some x, some xs => some (x :: xs) | _, _ => none) = _
  cases frzArgs r <;> rfl
@[simp] theorem frzArgs_scr (x : List Int) (r : List O) : frzArgs (.scr x :: r) = (frzArgs r).map (.scr x :: ·) := by
  rw [frzArgs]
  show (match some (O.scr x), frzArgs r with | some x, some xs => some (x :: xs) | _, _ => none) = _
  cases frzArgs r <;> rfl
@[simp] theorem frzArgs_ol (ds : List D) (r : List O) : frzArgs (.lst (ds.map O.d) :: r) = (frzArgs r).map (.d (.list ds) :: ·) := by
  rw [frzArgs]
  have e : frzA (.lst (ds.map O.d)) = some (.d (.list ds)) := by
    show (frz (.lst (ds.map O.d))).map O.d = _
    rw [frz_lst, frzL_mapd]
    rfl
  rw [e]
  cases frzArgs r <;> rfl
@[simp] theorem frzArgs_dic (ds : List (D × D)) (r : List O) : frzArgs (.dic ds :: r) = (frzArgs r).map (.d (.dict ds) :: ·) := by
  rw [frzArgs]
  have e : frzA (.dic ds) = some (.d (.dict ds)) := by
    show (frz (.dic ds)).map O.d = _
    rw [frz]
    rfl
  rw [e]
  cases frzArgs r <;> rfl
@[simp] theorem frzArgs_ol0 (r : List O) : frzArgs (.lst [] :: r) = (frzArgs r).map (.d (.list []) :: ·) := frzArgs_ol [] r
def cpV (os : List O) : FRes → Option O
  | .ok r [] => if ((allD os).isSome || cleanO r) = true then (frz r).map .d else none
  | _ => none
@[simp] theorem cpV_ok (os : List O) (r : O) : cpV os (.ok r []) = if ((allD os).isSome || cleanO r) = true then (frz r).map .d else none := rfl
@[simp] theorem vcallP_ap (n : Nat) (m : List O → FRes) (fs : EV.Env → Option (List O)) (ρ : EV.Env) : Vw.callP n m fs ρ = (fs ρ).bind fun os => (frzArgs os).bind fun xs => if xs.length = n then cpV os (m xs) else none := by
  rfl
def ceR (os : List O) (ρ : EV.Env) : FRes → R O
  | .ok r [] => if ((allD os).isSome || cleanO r) = true then .ok r ρ else .stuck
  | .exc c [] => .exc c ρ
  | _ => .stuck
@[simp] theorem ceR_ok (os : List O) (ρ : EV.Env) (r : O) : ceR os ρ (.ok r []) = if ((allD os).isSome || cleanO r) = true then .ok r ρ else .stuck := rfl
@[simp] theorem ceR_exc (os : List O) (ρ : EV.Env) (c : PySem.Str) : ceR os ρ (.exc c []) = .exc c ρ := rfl
def ceK (n : Nat) (m : List O → FRes) (ρ : EV.Env) : Option (List O × List O) → R O
  | some (os, xs) => if xs.length = n then ceR os ρ (m xs) else .stuck
  | none => .stuck
@[simp] theorem ceK_some (n : Nat) (m : List O → FRes) (ρ : EV.Env) (os xs : List O) : ceK n m ρ (some (os, xs)) = if xs.length = n then ceR os ρ (m xs) else .stuck := rfl
@[simp] theorem callP_ap (n : Nat) (m : List O → FRes) (fs : EV.Env → Option (List O)) (ρ : EV.Env) : E.callP n m fs ρ = ceK n m ρ ((fs ρ).bind fun os => (frzArgs os).map fun xs => (os, xs)) := by
  unfold E.callP
  cases (fs ρ).bind fun os => (frzArgs os).map fun xs => (os, xs) with
  | none => rfl
  | some p =>
    obtain ⟨os, xs⟩ := p
    show (if xs.length = n then _ else _) = _
    rw [ceK_some]
    rfl
def ecR (ρ : EV.Env) : FRes → R O
  | .ok r [] => .ok r ρ
  | .exc c [] => .exc c ρ
  | _ => .stuck
@[simp] theorem ecR_ok (ρ : EV.Env) (r : O) : ecR ρ (.ok r []) = .ok r ρ := rfl
@[simp] theorem ecR_exc (ρ : EV.Env) (c : PySem.Str) : ecR ρ (.exc c []) = .exc c ρ := rfl
def ecK (n : Nat) (m : List O → FRes) (ρ : EV.Env) : Option (List O) → R O
  | some xs => if xs.length = n then ecR ρ (m xs) else .stuck
  | none => .stuck
@[simp] theorem ecK_some (n : Nat) (m : List O → FRes) (ρ : EV.Env) (xs : List O) : ecK n m ρ (some xs) = if xs.length = n then ecR ρ (m xs) else .stuck := rfl
@[simp] theorem call_ap (n : Nat) (m : List O → FRes) (f : M (List O)) (ρ : EV.Env) : E.call n m f ρ = bnd (f ρ) fun os ρ1 => ecK n m ρ1 (frzArgs os) := by
  rfl
def eiR (i : Nat) (ρ : EV.Env) : FRes → R O
  | .ok r [o'] => .ok r (ρ.set i o')
  | .exc c [o'] => .exc c (ρ.set i o')
  | _ => .stuck
@[simp] theorem eiR_ok (i : Nat) (ρ : EV.Env) (r o' : O) : eiR i ρ (.ok r [o']) = .ok r (ρ.set i o') := rfl
@[simp] theorem eiR_exc (i : Nat) (ρ : EV.Env) (c : PySem.Str) (o' : O) : eiR i ρ (.exc c [o']) = .exc c (ρ.set i o') := rfl
def eiK (n : Nat) (m : List O → FRes) (i : Nat) (ρ : EV.Env) : Option (List O) → Option O → R O
  | some xs, some o => if xs.length + 1 = n then eiR i ρ (m (o :: xs)) else .stuck
  | _, _ => .stuck
@[simp] theorem eiK_some (n : Nat) (m : List O → FRes) (i : Nat) (ρ : EV.Env) (xs : List O) (o : O) : eiK n m i ρ (some xs) (some o) = if xs.length + 1 = n then eiR i ρ (m (o :: xs)) else .stuck := rfl
theorem callIO_ap {n : Nat} {m : List O → FRes} {i : Nat} {f : M (List O)} {ρ : EV.Env} {o : O} (h : ρ[i]? = some o) (hn : o ≠ .un) : E.callIO n m i f ρ = bnd (f ρ) fun os ρ1 => eiK n m i ρ1 (frzArgs os) (ρ1[i]?) := by
  unfold E.callIO
  rw [h]
  have : ∀ r : R O, (match (some o : Option O) with | some .un => R.stuck | none => R.stuck | some _ => r) = r := by
    intro r
    cases o <;> first | rfl | exact absurd rfl hn
  show (match (some o : Option O) with | some .un => R.stuck | none => R.stuck | some _ => _) = _
  rw [this, bind_ap]
  congr 1
def ciT : Option O → R O → R O
  | some .un, _ => .stuck
  | none, _ => .stuck
  | some _, r => r
@[simp] theorem ciT_lst (xs : List O) (r : R O) : ciT (some (.lst xs)) r = r := rfl
@[simp] theorem ciT_d (x : D) (r : R O) : ciT (some (.d x)) r = r := rfl
@[simp] theorem ciT_obj (c : PySem.Str) (fs : List (PySem.Str × O)) (r : R O) : ciT (some (.obj c fs)) r = r := rfl
@[simp] theorem callIO_apT (n : Nat) (m : List O → FRes) (i : Nat) (f : M (List O)) (ρ : EV.Env) : E.callIO n m i f ρ = ciT (ρ[i]?) (bnd (f ρ) fun os ρ1 => eiK n m i ρ1 (frzArgs os) (ρ1[i]?)) := by
  cases h : ρ[i]? with
  | none =>
    unfold E.callIO
    rw [h]
    rfl
  | some o =>
    by_cases hn : o = .un
    · subst hn
      unfold E.callIO
      rw [h]
      rfl
    · rw [callIO_ap h hn]
      cases o <;> first | rfl | exact absurd rfl hn
@[simp] theorem permL_nil {α : Type} (l : List α) : permL [] l = [] := rfl
@[simp] theorem permL_cons {α : Type} (i : Nat) (pm : List Nat) (l : List α) : permL (i :: pm) l = match l[i]? with | some x => x :: permL pm l | none => permL pm l := by
  unfold permL
  rw [List.filterMap_cons]
  cases l[i]? <;> rfl
@[simp] theorem vperm_ap (pm : List Nat) (fs : EV.Env → Option (List O)) (ρ : EV.Env) : Vw.perm pm fs ρ = (fs ρ).bind fun os => if os.length = pm.length then some (permL pm os) else none := rfl
@[simp] theorem frzArgs_lst (xs : List O) (r : List O) : frzArgs (.lst xs :: r) = (frzL xs).bind fun ds => (frzArgs r).map (.d (.list ds) :: ·) := by
  rw [frzArgs]
  show (match (frz (.lst xs)).map O.d, frzArgs r with | some x, some xs => some (x :: xs) | _, _ => none) = _
  rw [frz_lst]
  cases frzL xs <;> cases frzArgs r <;> rfl
@[simp] theorem allD_lst (xs : List O) (r : List O) : allD (.lst xs :: r) = none := rfl
@[simp] theorem allD_tup (xs : List O) (r : List O) : allD (.tup xs :: r) = none := rfl
@[simp] theorem allD_dic (xs : List (D × D)) (r : List O) : allD (.dic xs :: r) = none := rfl
def mtK : Option (List D) → List O → O
  | some ds, _ => .d (.tuple ds)
  | none, os => .tup os
@[simp] theorem mtK_some (ds : List D) (os : List O) : mtK (some ds) os = .d (.tuple ds) := rfl
@[simp] theorem mtK_none (os : List O) : mtK none os = .tup os := rfl
@[simp] theorem mkTup_ap (os : List O) : mkTup os = mtK (allD os) os := by
  unfold mkTup mtK
  cases allD os <;> rfl
/-! ### what a def's run gives -/
def runK (io : List Nat) : R Fl → FRes
  | .ok (.ret r) ρ => .ok r (io.map fun i => ρ.getD i .un)
  | .ok .nx ρ => .ok (.d .none) (io.map fun i => ρ.getD i .un)
  | .exc c ρ => .exc c (io.map fun i => ρ.getD i .un)
  | _ => .stuck
theorem runF_ap (io : List Nat) (n : Nat) (body : M Fl) (os : List O) : runF io n body os = runK io (body (os ++ List.replicate (n - os.length) .un)) := rfl
@[simp] theorem runK_ret (io : List Nat) (r : O) (ρ : EV.Env) : runK io (.ok (.ret r) ρ) = .ok r (io.map fun i => ρ.getD i .un) := rfl
@[simp] theorem runK_nx (io : List Nat) (ρ : EV.Env) : runK io (.ok .nx ρ) = .ok (.d .none) (io.map fun i => ρ.getD i .un) := rfl
@[simp] theorem runK_exc (io : List Nat) (c : PySem.Str) (ρ : EV.Env) : runK io (.exc c ρ) = .exc c (io.map fun i => ρ.getD i .un) := rfl
@[simp] theorem runK_ite (io : List Nat) {c : Prop} [Decidable c] (a b : R Fl) : runK io (if c then a else b) = if c then runK io a else runK io b := by split <;> rfl
/-! ### walks -/
@[simp] theorem oseq_list (xs : List D) : oseq (.d (.list xs)) = some xs := rfl
@[simp] theorem oseq_tuple (xs : List D) : oseq (.d (.tuple xs)) = some xs := rfl
@[simp] theorem oseq_ol (xs : List D) : oseq (.lst (xs.map O.d)) = some xs := by
  unfold oseq
  rw [frz_lst, frzL_mapd]
  rfl
@[simp] theorem wseq_ap (f : M O) (ρ : EV.Env) : Wk.seq f ρ = bnd (f ρ) fun o => M.opt (oseq o) := rfl
def enK : List O → Option (List D)
  | [o] => (oseq o).map Wk.enums
  | _ => none
@[simp] theorem enK_1 (o : O) : enK [o] = (oseq o).map Wk.enums := rfl
@[simp] theorem wenum_ap (f : M (List O)) (ρ : EV.Env) : Wk.enum f ρ = bnd (f ρ) fun os => M.opt (enK os) := by
  unfold Wk.enum
  rw [bind_ap]
  congr 1
  funext os
  rcases os with _ | ⟨o, _ | ⟨p, r⟩⟩ <;> rfl
def r1K : List O → Option (List D)
  | [.d (.int j)] => if -1000000000000 ≤ j ∧ j ≤ 1000000000000 then some ((List.range j.toNat).map fun (i : Nat) => .int (i : Int)) else none
  | _ => none
@[simp] theorem r1K_1 (j : Int) : r1K [.d (.int j)] = if -1000000000000 ≤ j ∧ j ≤ 1000000000000 then some ((List.range j.toNat).map fun (i : Nat) => .int (i : Int)) else none := rfl
@[simp] theorem wr1_ap (f : M (List O)) (ρ : EV.Env) : Wk.range1 f ρ = bnd (f ρ) fun os => M.opt (r1K os) := by
  unfold Wk.range1
  rw [bind_ap]
  congr 1
  funext os
  rcases os with _ | ⟨o, _ | ⟨p, r⟩⟩
  · rfl
  · cases o with
    | d x => cases x <;> first | rfl | (simp only [r1K_1]; split <;> rfl)
    | _ => rfl
  · cases o with
    | d x => cases x <;> rfl
    | _ => rfl
def r2K : List O → Option (List D)
  | [.d (.int i), .d (.int j)] => if -1000000000000 ≤ i ∧ i ≤ 1000000000000 ∧ -1000000000000 ≤ j ∧ j ≤ 1000000000000 then some ((List.range (j - i).toNat).map fun (n : Nat) => .int (i + n)) else none
  | _ => none
@[simp] theorem r2K_1 (i j : Int) : r2K [.d (.int i), .d (.int j)] = if -1000000000000 ≤ i ∧ i ≤ 1000000000000 ∧ -1000000000000 ≤ j ∧ j ≤ 1000000000000 then some ((List.range (j - i).toNat).map fun (n : Nat) => .int (i + n)) else none := rfl
@[simp] theorem wr2_ap (f : M (List O)) (ρ : EV.Env) : Wk.range2 f ρ = bnd (f ρ) fun os => M.opt (r2K os) := by
  unfold Wk.range2
  rw [bind_ap]
  congr 1
  funext os
  rcases os with _ | ⟨o, _ | ⟨p, _ | ⟨q, r⟩⟩⟩
  · rfl
  · cases o with
    | d x => cases x <;> rfl
    | _ => rfl
  · cases o with
    | d x => cases x with
      | int i => cases p with
        | d y => cases y <;> first | rfl | (simp only [r2K_1]; split <;> rfl)
        | _ => rfl
      | _ => rfl
    | _ => rfl
  · cases o with
    | d x => cases x with
      | int i => cases p with
        | d y => cases y <;> rfl
        | _ => rfl
      | _ => rfl
    | _ => rfl
def zipK : List O → Option (List D)
  | [o, p] => (oseq o).bind fun xs => (oseq p).map fun ys => Wk.zips xs ys
  | _ => none
@[simp] theorem zipK_2 (o p : O) : zipK [o, p] = (oseq o).bind fun xs => (oseq p).map fun ys => Wk.zips xs ys := rfl
@[simp] theorem wzip_ap (f : M (List O)) (ρ : EV.Env) : Wk.zip f ρ = bnd (f ρ) fun os => M.opt (zipK os) := by
  unfold Wk.zip
  rw [bind_ap]
  congr 1
  funext os
  rcases os with _ | ⟨o, _ | ⟨p, _ | ⟨q, r⟩⟩⟩
  · rfl
  · rfl
  · simp only [zipK_2]
    cases oseq o <;> cases oseq p <;> rfl
  · rfl
/-! ### changes of places -/
def muK (i : Nat) (ρ : EV.Env) : Option (D × O) → R O
  | some (res, o') => .ok (.d res) (ρ.set i o')
  | none => .stuck
@[simp] theorem muK_some (i : Nat) (ρ : EV.Env) (res : D) (o' : O) : muK i ρ (some (res, o')) = .ok (.d res) (ρ.set i o') := rfl
def muG (i : Nat) (g : O → List D → Option (D × O)) (ρ : EV.Env) : Option (List D) → Option O → R O
  | some ds, some o => muK i ρ (g o ds)
  | _, _ => .stuck
@[simp] theorem muG_some (i : Nat) (g : O → List D → Option (D × O)) (ρ : EV.Env) (ds : List D) (o : O) : muG i g ρ (some ds) (some o) = muK i ρ (g o ds) := rfl
def muT (T : String) : Option O → R O → R O
  | some o, r => if tyP T o = true then r else .stuck
  | none, _ => .stuck
@[simp] theorem muT_lst (xs : List O) (r : R O) : muT "list" (some (.lst xs)) r = r := rfl
@[simp] theorem muT_dic (xs : List (D × D)) (r : R O) : muT "dict" (some (.dic xs)) r = r := rfl
@[simp] theorem mut_apT (i : Nat) (T : String) (g : O → List D → Option (D × O)) (fs : M (List O)) (ρ : EV.Env) : E.mut i T g fs ρ = muT T (varK (ρ[i]?)) (bnd (fs ρ) fun os ρ1 => muG i g ρ1 (frzL os) (varK (ρ1[i]?))) := by
  unfold E.mut
  rw [get_ap]
  cases varK (ρ[i]?) with
  | none => rfl
  | some o =>
    show (if tyP T o = true then _ else R.stuck) = (if tyP T o = true then _ else R.stuck)
    split
    · rw [bind_ap]
      congr 1
    · rfl
@[simp] theorem append_ol (ds : List D) (x : D) : m_append (.lst (ds.map O.d)) [x] = if ds.length < 1000000 then some (.none, .lst ((ds ++ [x]).map .d)) else none := by
  show (allD (ds.map O.d)).bind _ = _
  rw [allD_mapd]
  rfl
@[simp] theorem append_nil (x : D) : m_append (.lst []) [x] = some (.none, .lst ([x].map .d)) := rfl
/-! ### operators -/
def pyIx {α : Type} (xs : List α) (i : Int) : Option α := if 0 ≤ i then xs[i.toNat]? else if -(xs.length : Int) ≤ i then xs[(i + xs.length).toNat]? else none
theorem atI_py {α : Type} (xs : List α) (i : Int) : atI xs i = pyIx xs i := by
  unfold atI ixN pyIx
  split
  · split
    · rfl
    · rename_i h0 h
      have : xs.length ≤ i.toNat := by omega
      rw [List.getElem?_eq_none this]
      rfl
  · split <;> rfl
theorem pyIx_map {α β : Type} (f : α → β) (xs : List α) (i : Int) : pyIx (xs.map f) i = (pyIx xs i).map f := by
  unfold pyIx
  rw [List.length_map, List.getElem?_map, List.getElem?_map]
  split
  · rfl
  · split <;> rfl
@[simp] theorem pyIx_nat {α : Type} (xs : List α) (n : Nat) : pyIx xs (n : Int) = xs[n]? := by
  unfold pyIx
  rw [if_pos (Int.natCast_nonneg n), Int.toNat_natCast]
@[simp] theorem pyIx_succ {α : Type} (xs : List α) (n : Nat) : pyIx xs ((n : Int) + 1) = xs[n + 1]? := pyIx_nat xs (n + 1)
@[simp] theorem pyIx_0 {α : Type} (xs : List α) : pyIx xs 0 = xs[0]? := pyIx_nat xs 0
@[simp] theorem pyIx_1 {α : Type} (xs : List α) : pyIx xs 1 = xs[1]? := pyIx_nat xs 1
@[simp] theorem pyIx_2 {α : Type} (xs : List α) : pyIx xs 2 = xs[2]? := pyIx_nat xs 2
@[simp] theorem pyIx_3 {α : Type} (xs : List α) : pyIx xs 3 = xs[3]? := pyIx_nat xs 3
@[simp] theorem pyIx_4 {α : Type} (xs : List α) : pyIx xs 4 = xs[4]? := pyIx_nat xs 4
@[simp] theorem pyIx_5 {α : Type} (xs : List α) : pyIx xs 5 = xs[5]? := pyIx_nat xs 5
@[simp] theorem pyIx_6 {α : Type} (xs : List α) : pyIx xs 6 = xs[6]? := pyIx_nat xs 6
@[simp] theorem pyIx_7 {α : Type} (xs : List α) : pyIx xs 7 = xs[7]? := pyIx_nat xs 7
@[simp] theorem pyIx_m1 {α : Type} (xs : List α) : pyIx xs (-1) = xs.getLast? := by
  unfold pyIx
  rw [if_neg (by decide)]
  split
  · rw [List.getLast?_eq_getElem?]
    congr 1
    omega
  · rename_i h
    have : xs = [] := by
      cases xs with
      | nil => rfl
      | cons x r => exact absurd (by rw [List.length_cons]; omega) h
    rw [this]
    rfl
@[simp] theorem ix_tuple (xs : List D) (i : Int) : o_ix (.d (.tuple xs)) (.d (.int i)) = (pyIx xs i).map .d := by
  show atI (xs.map O.d) i = _
  rw [atI_py, pyIx_map]
@[simp] theorem ix_list (xs : List D) (i : Int) : o_ix (.d (.list xs)) (.d (.int i)) = (pyIx xs i).map .d := by
  show atI (xs.map O.d) i = _
  rw [atI_py, pyIx_map]
@[simp] theorem ix_lst (xs : List O) (i : Int) : o_ix (.lst xs) (.d (.int i)) = pyIx xs i := by
  show atI xs i = _
  rw [atI_py]
@[simp] theorem ixd_tuple (xs : List D) (i : Int) : o_ixd (.d (.tuple xs)) (.d (.int i)) = (pyIx xs i).map .d := by
  unfold o_ixd
  rw [ix_tuple]
  cases pyIx xs i <;> rfl
@[simp] theorem ixd_list (xs : List D) (i : Int) : o_ixd (.d (.list xs)) (.d (.int i)) = (pyIx xs i).map .d := by
  unfold o_ixd
  rw [ix_list]
  cases pyIx xs i <;> rfl
@[simp] theorem ixd_ol (xs : List D) (i : Int) : o_ixd (.lst (xs.map O.d)) (.d (.int i)) = (pyIx xs i).map .d := by
  unfold o_ixd
  rw [ix_lst, pyIx_map]
  cases pyIx xs i <;> rfl
@[simp] theorem sub_i (i j : Int) : o_sub (.d (.int i)) (.d (.int j)) = some (.d (.int (i - j))) := rfl
@[simp] theorem vadd_i (i j : Int) : v_add (.d (.int i)) (.d (.int j)) = some (.d (.int (i + j))) := rfl
@[simp] theorem oadd_i (i j : Int) : o_add (.d (.int i)) (.d (.int j)) = some (.d (.int (i + j))) := rfl
@[simp] theorem lt_i (i j : Int) : o_lt (.d (.int i)) (.d (.int j)) = some (.d (.bool (decide (i < j)))) := rfl
@[simp] theorem le_i (i j : Int) : o_le (.d (.int i)) (.d (.int j)) = some (.d (.bool (decide (i ≤ j)))) := rfl
@[simp] theorem gt_i (i j : Int) : o_gt (.d (.int i)) (.d (.int j)) = some (.d (.bool (decide (j < i)))) := rfl
@[simp] theorem ge_i (i j : Int) : o_ge (.d (.int i)) (.d (.int j)) = some (.d (.bool (decide (j ≤ i)))) := rfl
@[simp] theorem neg_i (i : Int) : o_neg (.d (.int i)) = some (.d (.int (-i))) := rfl
@[simp] theorem abs_i (i : Int) : b_abs [.d (.int i)] = some (.d (.int (if i < 0 then -i else i))) := rfl
@[simp] theorem int_i (i : Int) : b_int [.d (.int i)] = some (.d (.int i)) := rfl
theorem mod_i {i j : Int} (h : 0 < j) : o_mod (.d (.int i)) (.d (.int j)) = some (.d (.int (i % j))) := Pen.mod_ok h
@[simp] theorem len_list (xs : List D) : o_len [.d (.list xs)] = some (.d (.int xs.length)) := by
  show some (O.d (.int ((xs.map O.d).length))) = _
  rw [List.length_map]
@[simp] theorem len_tuple (xs : List D) : o_len [.d (.tuple xs)] = some (.d (.int xs.length)) := by
  show some (O.d (.int ((xs.map O.d).length))) = _
  rw [List.length_map]
@[simp] theorem len_lst (xs : List O) : o_len [.lst xs] = some (.d (.int xs.length)) := rfl
@[simp] theorem rdO_d (x : D) : rdO (.d x) = some x := by rw [rdO]
@[simp] theorem rdOs_mapd : ∀ ds : List D, rdOs (ds.map O.d) = some ds
  | [] => by rw [List.map_nil, rdOs]
  | d :: ds => by rw [List.map_cons, rdOs, rdOs_mapd ds, rdO]
@[simp] theorem rdO_ol (ds : List D) : rdO (.lst (ds.map O.d)) = some (.list ds) := by rw [rdO, rdOs_mapd]; rfl
@[simp] theorem rdO_nil : rdO (.lst []) = some (.list []) := rdO_ol []
@[simp] theorem eq_i (i j : Int) : o_eq (.d (.int i)) (.d (.int j)) = some (.d (.bool (decide (i = j)))) := by
  unfold o_eq o_eqB
  rw [rdO_d, rdO_d]
  rfl
@[simp] theorem ne_i (i j : Int) : o_ne (.d (.int i)) (.d (.int j)) = some (.d (.bool (!decide (i = j)))) := by
  unfold o_ne o_eqB
  rw [rdO_d, rdO_d]
  rfl
@[simp] theorem eq_s (i j : PySem.Str) : o_eq (.d (.str i)) (.d (.str j)) = some (.d (.bool (decide (i = j)))) := by
  unfold o_eq o_eqB
  rw [rdO_d, rdO_d]
  rfl
@[simp] theorem ne_s (i j : PySem.Str) : o_ne (.d (.str i)) (.d (.str j)) = some (.d (.bool (!decide (i = j)))) := by
  unfold o_ne o_eqB
  rw [rdO_d, rdO_d]
  rfl
theorem eqv_str (a b : PySem.Str) : PyData.eqv (.str a) (.str b) = decide (a = b) := by
  rw [PyData.eqv]
  rfl
theorem eqv_int (a b : Int) : PyData.eqv (.int a) (.int b) = decide (a = b) := by
  rw [PyData.eqv]
  rfl
@[simp] theorem in_s2 (x a b : PySem.Str) : o_in (.d (.str x)) (.d (.tuple [.str a, .str b])) = some (.d (.bool (decide (a = x) || decide (b = x)))) := by
  have : inB (.d (.str x)) (.d (.tuple [.str a, .str b])) = some (decide (a = x) || decide (b = x)) := by
    unfold inB
    rw [show seqO (.d (.tuple [.str a, .str b])) = some [.d (.str a), .d (.str b)] from rfl, rdO_d, rdO_d]
    simp [PyData.plain, PyData.plainAll, PyData.depth, eqv_str]
  unfold o_in
  rw [this]
  rfl
/-! ### texts -/
theorem mapNat_inj : ∀ (a b : List Char), a.map Char.toNat = b.map Char.toNat → a = b
  | [], [], _ => rfl
  | [], _ :: _, h => by simp at h
  | _ :: _, [], h => by simp at h
  | x :: a, y :: b, h => by
    rw [List.map_cons, List.map_cons, List.cons.injEq] at h
    have e : x = y := by
      apply Char.ext
      apply UInt32.toNat_inj.mp
      exact h.1
    rw [e, mapNat_inj a b h.2]
@[simp] theorem ofString_inj (a b : String) : (PySem.Str.ofString a = PySem.Str.ofString b) = (a = b) := by
  apply propext
  constructor
  · intro h
    rw [PySem.Str.ofString_eq_toList, PySem.Str.ofString_eq_toList, PySem.Str.mk.injEq] at h
    have h2 : a.toList.map Char.toNat = b.toList.map Char.toNat := by simpa using h
    exact String.toList_inj.mp (mapNat_inj _ _ h2)
  · intro h
    rw [h]

/-! ### more operators -/
@[simp] theorem in_s3 (x a b c : PySem.Str) : o_in (.d (.str x)) (.d (.tuple [.str a, .str b, .str c])) = some (.d (.bool (decide (a = x) || (decide (b = x) || decide (c = x))))) := by
  have : inB (.d (.str x)) (.d (.tuple [.str a, .str b, .str c])) = some (decide (a = x) || (decide (b = x) || decide (c = x))) := by
    unfold inB
    rw [show seqO (.d (.tuple [.str a, .str b, .str c])) = some [.d (.str a), .d (.str b), .d (.str c)] from rfl, rdO_d, rdO_d]
    simp [PyData.plain, PyData.plainAll, PyData.depth, eqv_str]
  unfold o_in
  rw [this]
  rfl
@[simp] theorem in_s4 (x a b c d : PySem.Str) : o_in (.d (.str x)) (.d (.tuple [.str a, .str b, .str c, .str d])) = some (.d (.bool (decide (a = x) || (decide (b = x) || (decide (c = x) || decide (d = x)))))) := by
  have : inB (.d (.str x)) (.d (.tuple [.str a, .str b, .str c, .str d])) = some (decide (a = x) || (decide (b = x) || (decide (c = x) || decide (d = x)))) := by
    unfold inB
    rw [show seqO (.d (.tuple [.str a, .str b, .str c, .str d])) = some [.d (.str a), .d (.str b), .d (.str c), .d (.str d)] from rfl, rdO_d, rdO_d]
    simp [PyData.plain, PyData.plainAll, PyData.depth, eqv_str]
  unfold o_in
  rw [this]
  rfl
theorem plainAll_iff : ∀ xs : List D, PyData.plainAll xs = xs.all PyData.plain
  | [] => by rw [PyData.plainAll]; rfl
  | x :: xs => by rw [PyData.plainAll, plainAll_iff xs]; rfl
theorem depthAll_le {n : Nat} : ∀ {xs : List D}, (∀ x ∈ xs, x.depth ≤ n) → PyData.depthAll xs ≤ n
  | [], _ => by rw [PyData.depthAll]; omega
  | x :: xs, h => by
    rw [PyData.depthAll]
    have h1 := h x (.head _)
    have h2 := depthAll_le (xs := xs) fun y q => h y (.tail _ q)
    omega
theorem anyEqv_int (xs : List Int) (i : Int) : ((xs.map PyData.int).any fun z => PyData.eqv z (.int i)) = decide (i ∈ xs) := by
  induction xs with
  | nil => rfl
  | cons x r ih =>
    rw [List.map_cons, List.any_cons, ih, eqv_int]
    by_cases h : x = i
    · simp [h]
    · have h2 : ¬ i = x := fun q => h q.symm
      simp [h, h2]
theorem in_dd {a : D} {xs : List D} (h : inB (.d a) (.d (.list xs)) = some (xs.any fun z => PyData.eqv z a)) : o_in (.d a) (.d (.list xs)) = some (.d (.bool (xs.any fun z => PyData.eqv z a))) := by
  unfold o_in
  rw [h]
  rfl
theorem inB_flat {a : D} {xs : List D} (hp : a.plain = true) (ha : a.depth ≤ 64) (hx : PyData.plainAll xs = true) : inB (.d a) (.d (.list xs)) = some (xs.any fun z => PyData.eqv z a) := by
  unfold inB
  rw [show seqO (.d (.list xs)) = some (xs.map O.d) from rfl, rdO_d, rdO_d]
  simp only [Option.bind_some, hp, hx, Bool.true_and]
  rw [if_pos]
  simp only [decide_eq_true_eq]
  omega
theorem plain_ints (xs : List Int) : PyData.plainAll (xs.map PyData.int) = true := by
  rw [plainAll_iff, List.all_map]
  exact List.all_eq_true.mpr fun _ _ => rfl
/-- a list of numbers -/
def nI (fs : List Nat) : List Int := fs.map fun (n : Nat) => (n : Int)
@[simp] theorem in_ints (i : Int) (xs : List Int) : o_in (.d (.int i)) (.d (.list (xs.map PyData.int))) = some (.d (.bool (decide (i ∈ xs)))) := by
  rw [in_dd (inB_flat (by simp [PyData.plain]) (by simp [PyData.depth]) (plain_ints xs)), anyEqv_int]
theorem depth_int (i : Int) : (PyData.int i).depth = 0 := by rw [PyData.depth] <;> simp

/-! ### conditions hoisted -/
@[simp] theorem some_ite {α : Type} {c : Prop} [Decidable c] (a b : α) : (if c then some a else some b) = some (if c then a else b) := by split <;> rfl
@[simp] theorem ok_ite {α : Type} {c : Prop} [Decidable c] (a b : α) (ρ : EV.Env) : (if c then R.ok a ρ else R.ok b ρ) = R.ok (if c then a else b) ρ := by split <;> rfl
@[simp] theorem d_ite {c : Prop} [Decidable c] (a b : D) : (if c then O.d a else O.d b) = O.d (if c then a else b) := by split <;> rfl
@[simp] theorem int_ite {c : Prop} [Decidable c] (a b : Int) : (if c then PyData.int a else PyData.int b) = PyData.int (if c then a else b) := by split <;> rfl
@[simp] theorem bool_ite {c : Prop} [Decidable c] (a b : Bool) : (if c then PyData.bool a else PyData.bool b) = PyData.bool (if c then a else b) := by split <;> rfl
@[simp] theorem ret_ite {c : Prop} [Decidable c] (a b : O) : (if c then Fl.ret a else Fl.ret b) = Fl.ret (if c then a else b) := by split <;> rfl
@[simp] theorem fok_ite {c : Prop} [Decidable c] (a b : O) (l : List O) : (if c then FRes.ok a l else FRes.ok b l) = FRes.ok (if c then a else b) l := by split <;> rfl

/-! ### isinstance -/
theorem kit_int_none : kitB "NoneType" "int" = some false := by decide +kernel
@[simp] theorem isi_int_none : isi "int" (.d .none) = some (.d (.bool false)) := by
  show ((some "NoneType").bind fun t => (kitB t "int").map fun b => O.d (.bool b)) = _
  rw [Option.bind_some, kit_int_none]
  rfl
theorem kit_int_bool : kitB "bool" "int" = some true := by decide +kernel
@[simp] theorem isi_int_bool (b : Bool) : isi "int" (.d (.bool b)) = some (.d (.bool true)) := by
  show ((some "bool").bind fun t => (kitB t "int").map fun b => O.d (.bool b)) = _
  rw [Option.bind_some, kit_int_bool]
  rfl
theorem kit_int_int : kitB "int" "int" = some true := by decide +kernel
@[simp] theorem isi_int_int (i : Int) : isi "int" (.d (.int i)) = some (.d (.bool true)) := by
  show ((some "int").bind fun t => (kitB t "int").map fun b => O.d (.bool b)) = _
  rw [Option.bind_some, kit_int_int]
  rfl
theorem kit_int_str : kitB "str" "int" = some false := by decide +kernel
@[simp] theorem isi_int_str (s : PySem.Str) : isi "int" (.d (.str s)) = some (.d (.bool false)) := by
  show ((some "str").bind fun t => (kitB t "int").map fun b => O.d (.bool b)) = _
  rw [Option.bind_some, kit_int_str]
  rfl
theorem kit_int_list : kitB "list" "int" = some false := by decide +kernel
@[simp] theorem isi_int_list (xs : List D) : isi "int" (.d (.list xs)) = some (.d (.bool false)) := by
  show ((some "list").bind fun t => (kitB t "int").map fun b => O.d (.bool b)) = _
  rw [Option.bind_some, kit_int_list]
  rfl
theorem kit_int_tuple : kitB "tuple" "int" = some false := by decide +kernel
@[simp] theorem isi_int_tuple (xs : List D) : isi "int" (.d (.tuple xs)) = some (.d (.bool false)) := by
  show ((some "tuple").bind fun t => (kitB t "int").map fun b => O.d (.bool b)) = _
  rw [Option.bind_some, kit_int_tuple]
  rfl
@[simp] theorem isi_int_lst (xs : List O) : isi "int" (.lst xs) = some (.d (.bool false)) := by
  show ((some "list").bind fun t => (kitB t "int").map fun b => O.d (.bool b)) = _
  rw [Option.bind_some, kit_int_list]
  rfl
theorem kit_bool_none : kitB "NoneType" "bool" = some false := by decide +kernel
@[simp] theorem isi_bool_none : isi "bool" (.d .none) = some (.d (.bool false)) := by
  show ((some "NoneType").bind fun t => (kitB t "bool").map fun b => O.d (.bool b)) = _
  rw [Option.bind_some, kit_bool_none]
  rfl
theorem kit_bool_bool : kitB "bool" "bool" = some true := by decide +kernel
@[simp] theorem isi_bool_bool (b : Bool) : isi "bool" (.d (.bool b)) = some (.d (.bool true)) := by
  show ((some "bool").bind fun t => (kitB t "bool").map fun b => O.d (.bool b)) = _
  rw [Option.bind_some, kit_bool_bool]
  rfl
theorem kit_bool_int : kitB "int" "bool" = some false := by decide +kernel
@[simp] theorem isi_bool_int (i : Int) : isi "bool" (.d (.int i)) = some (.d (.bool false)) := by
  show ((some "int").bind fun t => (kitB t "bool").map fun b => O.d (.bool b)) = _
  rw [Option.bind_some, kit_bool_int]
  rfl
theorem kit_bool_str : kitB "str" "bool" = some false := by decide +kernel
@[simp] theorem isi_bool_str (s : PySem.Str) : isi "bool" (.d (.str s)) = some (.d (.bool false)) := by
  show ((some "str").bind fun t => (kitB t "bool").map fun b => O.d (.bool b)) = _
  rw [Option.bind_some, kit_bool_str]
  rfl
theorem kit_bool_list : kitB "list" "bool" = some false := by decide +kernel
@[simp] theorem isi_bool_list (xs : List D) : isi "bool" (.d (.list xs)) = some (.d (.bool false)) := by
  show ((some "list").bind fun t => (kitB t "bool").map fun b => O.d (.bool b)) = _
  rw [Option.bind_some, kit_bool_list]
  rfl
theorem kit_bool_tuple : kitB "tuple" "bool" = some false := by decide +kernel
@[simp] theorem isi_bool_tuple (xs : List D) : isi "bool" (.d (.tuple xs)) = some (.d (.bool false)) := by
  show ((some "tuple").bind fun t => (kitB t "bool").map fun b => O.d (.bool b)) = _
  rw [Option.bind_some, kit_bool_tuple]
  rfl
@[simp] theorem isi_bool_lst (xs : List O) : isi "bool" (.lst xs) = some (.d (.bool false)) := by
  show ((some "list").bind fun t => (kitB t "bool").map fun b => O.d (.bool b)) = _
  rw [Option.bind_some, kit_bool_list]
  rfl
theorem kit_str_none : kitB "NoneType" "str" = some false := by decide +kernel
@[simp] theorem isi_str_none : isi "str" (.d .none) = some (.d (.bool false)) := by
  show ((some "NoneType").bind fun t => (kitB t "str").map fun b => O.d (.bool b)) = _
  rw [Option.bind_some, kit_str_none]
  rfl
theorem kit_str_bool : kitB "bool" "str" = some false := by decide +kernel
@[simp] theorem isi_str_bool (b : Bool) : isi "str" (.d (.bool b)) = some (.d (.bool false)) := by
  show ((some "bool").bind fun t => (kitB t "str").map fun b => O.d (.bool b)) = _
  rw [Option.bind_some, kit_str_bool]
  rfl
theorem kit_str_int : kitB "int" "str" = some false := by decide +kernel
@[simp] theorem isi_str_int (i : Int) : isi "str" (.d (.int i)) = some (.d (.bool false)) := by
  show ((some "int").bind fun t => (kitB t "str").map fun b => O.d (.bool b)) = _
  rw [Option.bind_some, kit_str_int]
  rfl
theorem kit_str_str : kitB "str" "str" = some true := by decide +kernel
@[simp] theorem isi_str_str (s : PySem.Str) : isi "str" (.d (.str s)) = some (.d (.bool true)) := by
  show ((some "str").bind fun t => (kitB t "str").map fun b => O.d (.bool b)) = _
  rw [Option.bind_some, kit_str_str]
  rfl
theorem kit_str_list : kitB "list" "str" = some false := by decide +kernel
@[simp] theorem isi_str_list (xs : List D) : isi "str" (.d (.list xs)) = some (.d (.bool false)) := by
  show ((some "list").bind fun t => (kitB t "str").map fun b => O.d (.bool b)) = _
  rw [Option.bind_some, kit_str_list]
  rfl
theorem kit_str_tuple : kitB "tuple" "str" = some false := by decide +kernel
@[simp] theorem isi_str_tuple (xs : List D) : isi "str" (.d (.tuple xs)) = some (.d (.bool false)) := by
  show ((some "tuple").bind fun t => (kitB t "str").map fun b => O.d (.bool b)) = _
  rw [Option.bind_some, kit_str_tuple]
  rfl
@[simp] theorem isi_str_lst (xs : List O) : isi "str" (.lst xs) = some (.d (.bool false)) := by
  show ((some "list").bind fun t => (kitB t "str").map fun b => O.d (.bool b)) = _
  rw [Option.bind_some, kit_str_list]
  rfl
theorem kit_list_none : kitB "NoneType" "list" = some false := by decide +kernel
@[simp] theorem isi_list_none : isi "list" (.d .none) = some (.d (.bool false)) := by
  show ((some "NoneType").bind fun t => (kitB t "list").map fun b => O.d (.bool b)) = _
  rw [Option.bind_some, kit_list_none]
  rfl
theorem kit_list_bool : kitB "bool" "list" = some false := by decide +kernel
@[simp] theorem isi_list_bool (b : Bool) : isi "list" (.d (.bool b)) = some (.d (.bool false)) := by
  show ((some "bool").bind fun t => (kitB t "list").map fun b => O.d (.bool b)) = _
  rw [Option.bind_some, kit_list_bool]
  rfl
theorem kit_list_int : kitB "int" "list" = some false := by decide +kernel
@[simp] theorem isi_list_int (i : Int) : isi "list" (.d (.int i)) = some (.d (.bool false)) := by
  show ((some "int").bind fun t => (kitB t "list").map fun b => O.d (.bool b)) = _
  rw [Option.bind_some, kit_list_int]
  rfl
theorem kit_list_str : kitB "str" "list" = some false := by decide +kernel
@[simp] theorem isi_list_str (s : PySem.Str) : isi "list" (.d (.str s)) = some (.d (.bool false)) := by
  show ((some "str").bind fun t => (kitB t "list").map fun b => O.d (.bool b)) = _
  rw [Option.bind_some, kit_list_str]
  rfl
theorem kit_list_list : kitB "list" "list" = some true := by decide +kernel
@[simp] theorem isi_list_list (xs : List D) : isi "list" (.d (.list xs)) = some (.d (.bool true)) := by
  show ((some "list").bind fun t => (kitB t "list").map fun b => O.d (.bool b)) = _
  rw [Option.bind_some, kit_list_list]
  rfl
theorem kit_list_tuple : kitB "tuple" "list" = some false := by decide +kernel
@[simp] theorem isi_list_tuple (xs : List D) : isi "list" (.d (.tuple xs)) = some (.d (.bool false)) := by
  show ((some "tuple").bind fun t => (kitB t "list").map fun b => O.d (.bool b)) = _
  rw [Option.bind_some, kit_list_tuple]
  rfl
@[simp] theorem isi_list_lst (xs : List O) : isi "list" (.lst xs) = some (.d (.bool true)) := by
  show ((some "list").bind fun t => (kitB t "list").map fun b => O.d (.bool b)) = _
  rw [Option.bind_some, kit_list_list]
  rfl
theorem kit_tuple_none : kitB "NoneType" "tuple" = some false := by decide +kernel
@[simp] theorem isi_tuple_none : isi "tuple" (.d .none) = some (.d (.bool false)) := by
  show ((some "NoneType").bind fun t => (kitB t "tuple").map fun b => O.d (.bool b)) = _
  rw [Option.bind_some, kit_tuple_none]
  rfl
theorem kit_tuple_bool : kitB "bool" "tuple" = some false := by decide +kernel
@[simp] theorem isi_tuple_bool (b : Bool) : isi "tuple" (.d (.bool b)) = some (.d (.bool false)) := by
  show ((some "bool").bind fun t => (kitB t "tuple").map fun b => O.d (.bool b)) = _
  rw [Option.bind_some, kit_tuple_bool]
  rfl
theorem kit_tuple_int : kitB "int" "tuple" = some false := by decide +kernel
@[simp] theorem isi_tuple_int (i : Int) : isi "tuple" (.d (.int i)) = some (.d (.bool false)) := by
  show ((some "int").bind fun t => (kitB t "tuple").map fun b => O.d (.bool b)) = _
  rw [Option.bind_some, kit_tuple_int]
  rfl
theorem kit_tuple_str : kitB "str" "tuple" = some false := by decide +kernel
@[simp] theorem isi_tuple_str (s : PySem.Str) : isi "tuple" (.d (.str s)) = some (.d (.bool false)) := by
  show ((some "str").bind fun t => (kitB t "tuple").map fun b => O.d (.bool b)) = _
  rw [Option.bind_some, kit_tuple_str]
  rfl
theorem kit_tuple_list : kitB "list" "tuple" = some false := by decide +kernel
@[simp] theorem isi_tuple_list (xs : List D) : isi "tuple" (.d (.list xs)) = some (.d (.bool false)) := by
  show ((some "list").bind fun t => (kitB t "tuple").map fun b => O.d (.bool b)) = _
  rw [Option.bind_some, kit_tuple_list]
  rfl
theorem kit_tuple_tuple : kitB "tuple" "tuple" = some true := by decide +kernel
@[simp] theorem isi_tuple_tuple (xs : List D) : isi "tuple" (.d (.tuple xs)) = some (.d (.bool true)) := by
  show ((some "tuple").bind fun t => (kitB t "tuple").map fun b => O.d (.bool b)) = _
  rw [Option.bind_some, kit_tuple_tuple]
  rfl
@[simp] theorem isi_tuple_lst (xs : List O) : isi "tuple" (.lst xs) = some (.d (.bool false)) := by
  show ((some "list").bind fun t => (kitB t "tuple").map fun b => O.d (.bool b)) = _
  rw [Option.bind_some, kit_tuple_list]
  rfl
theorem kit_dict_none : kitB "NoneType" "dict" = some false := by decide +kernel
@[simp] theorem isi_dict_none : isi "dict" (.d .none) = some (.d (.bool false)) := by
  show ((some "NoneType").bind fun t => (kitB t "dict").map fun b => O.d (.bool b)) = _
  rw [Option.bind_some, kit_dict_none]
  rfl
theorem kit_dict_bool : kitB "bool" "dict" = some false := by decide +kernel
@[simp] theorem isi_dict_bool (b : Bool) : isi "dict" (.d (.bool b)) = some (.d (.bool false)) := by
  show ((some "bool").bind fun t => (kitB t "dict").map fun b => O.d (.bool b)) = _
  rw [Option.bind_some, kit_dict_bool]
  rfl
theorem kit_dict_int : kitB "int" "dict" = some false := by decide +kernel
@[simp] theorem isi_dict_int (i : Int) : isi "dict" (.d (.int i)) = some (.d (.bool false)) := by
  show ((some "int").bind fun t => (kitB t "dict").map fun b => O.d (.bool b)) = _
  rw [Option.bind_some, kit_dict_int]
  rfl
theorem kit_dict_str : kitB "str" "dict" = some false := by decide +kernel
@[simp] theorem isi_dict_str (s : PySem.Str) : isi "dict" (.d (.str s)) = some (.d (.bool false)) := by
  show ((some "str").bind fun t => (kitB t "dict").map fun b => O.d (.bool b)) = _
  rw [Option.bind_some, kit_dict_str]
  rfl
theorem kit_dict_list : kitB "list" "dict" = some false := by decide +kernel
@[simp] theorem isi_dict_list (xs : List D) : isi "dict" (.d (.list xs)) = some (.d (.bool false)) := by
  show ((some "list").bind fun t => (kitB t "dict").map fun b => O.d (.bool b)) = _
  rw [Option.bind_some, kit_dict_list]
  rfl
theorem kit_dict_tuple : kitB "tuple" "dict" = some false := by decide +kernel
@[simp] theorem isi_dict_tuple (xs : List D) : isi "dict" (.d (.tuple xs)) = some (.d (.bool false)) := by
  show ((some "tuple").bind fun t => (kitB t "dict").map fun b => O.d (.bool b)) = _
  rw [Option.bind_some, kit_dict_tuple]
  rfl
@[simp] theorem isi_dict_lst (xs : List O) : isi "dict" (.lst xs) = some (.d (.bool false)) := by
  show ((some "list").bind fun t => (kitB t "dict").map fun b => O.d (.bool b)) = _
  rw [Option.bind_some, kit_dict_list]
  rfl
end Ev
end EV

/-! The layer EV, part AM: typed lists. -/
namespace EV
open PySem PySem.Spec PyProof.Rows L2
namespace Ev
/-- a type whose members are told as plain data, unlike members as unlike data -/
class Enc (α : Type) where
  enc : α → D
  plain : ∀ x, (enc x).plain = true
  dep : Nat
  depth : ∀ x, (enc x).depth ≤ dep
  eqv : ∀ x y, PyData.eqv (enc x) (enc y) = true ↔ x = y
open Enc (enc)
section
variable {α : Type} [Enc α]
def dlE (xs : List α) : D := .list (xs.map enc)
def tpE (xs : List α) : D := .tuple (xs.map enc)
def olE (xs : List α) : O := .lst ((xs.map enc).map O.d)
theorem plain_map (xs : List α) : PyData.plainAll (xs.map enc) = true := by
  rw [plainAll_iff, List.all_map]
  exact List.all_eq_true.mpr fun x _ => Enc.plain x
theorem depth_map (xs : List α) : PyData.depthAll (xs.map enc) ≤ Enc.dep α := depthAll_le fun d h => by
  obtain ⟨x, _, rfl⟩ := List.mem_map.mp h
  exact Enc.depth x
theorem eqvAll_map : ∀ xs ys : List α, PyData.eqvAll (xs.map enc) (ys.map enc) = true ↔ xs = ys
  | [], [] => by simp [PyData.eqvAll]
  | [], _ :: _ => by simp [PyData.eqvAll]
  | _ :: _, [] => by simp [PyData.eqvAll]
  | x :: xs, y :: ys => by
    rw [List.map_cons, List.map_cons, PyData.eqvAll, Bool.and_eq_true, Enc.eqv, eqvAll_map xs ys, List.cons.injEq]
end
instance : Enc Int := ⟨.int, fun _ => by rw [PyData.plain] <;> simp, 0, fun x => by rw [PyData.depth] <;> simp, fun x y => by rw [eqv_int]; simp⟩
instance : Enc PySem.Str := ⟨.str, fun _ => by rw [PyData.plain] <;> simp, 0, fun x => by rw [PyData.depth] <;> simp, fun x y => by rw [eqv_str]; simp⟩
instance : Enc Bool := ⟨.bool, fun _ => by rw [PyData.plain] <;> simp, 0, fun x => by rw [PyData.depth] <;> simp, fun x y => by cases x <;> cases y <;> simp [PyData.eqv]⟩
instance {α : Type} [Enc α] : Enc (List α) := ⟨dlE, fun xs => by rw [dlE, PyData.plain]; exact plain_map xs, Enc.dep α + 1, fun xs => by rw [dlE, PyData.depth]; have := depth_map xs; omega, fun xs ys => by rw [dlE, dlE, PyData.eqv]; exact eqvAll_map xs ys⟩
instance {α β : Type} [Enc α] [Enc β] : Enc (α × β) := ⟨fun p => .tuple [enc p.1, enc p.2], fun p => by simp [PyData.plain, PyData.plainAll, Enc.plain], max (Enc.dep α) (Enc.dep β) + 1, fun p => by
  have := Enc.depth p.1
  have := Enc.depth p.2
  simp only [PyData.depth, PyData.depthAll]
  omega, fun p q => by
  simp only [PyData.eqv, PyData.eqvAll, Bool.and_eq_true, Enc.eqv, Bool.and_true]
  exact ⟨fun h => Prod.ext h.1 h.2, fun h => by rw [h]; exact ⟨rfl, rfl⟩⟩⟩
@[simp] theorem enc_int (x : Int) : (enc x : D) = .int x := rfl
@[simp] theorem enc_str (x : PySem.Str) : (enc x : D) = .str x := rfl
@[simp] theorem enc_bool (x : Bool) : (enc x : D) = .bool x := rfl
@[simp] theorem enc_list {α : Type} [Enc α] (x : List α) : (enc x : D) = dlE x := rfl
@[simp] theorem enc_pair {α β : Type} [Enc α] [Enc β] (x : α × β) : (enc x : D) = .tuple [enc x.1, enc x.2] := rfl
@[simp] theorem dep_int : Enc.dep Int = 0 := rfl
@[simp] theorem dep_str : Enc.dep PySem.Str = 0 := rfl
@[simp] theorem dep_bool : Enc.dep Bool = 0 := rfl
@[simp] theorem dep_list {α : Type} [Enc α] : Enc.dep (List α) = Enc.dep α + 1 := rfl
@[simp] theorem dep_pair {α β : Type} [Enc α] [Enc β] : Enc.dep (α × β) = max (Enc.dep α) (Enc.dep β) + 1 := rfl
section
variable {α : Type} [Enc α]
theorem olE_nil : (olE ([] : List α)) = .lst [] := rfl
theorem dlE_nil : (dlE ([] : List α)) = .list [] := rfl
@[simp] theorem varK_olE (xs : List α) : varK (some (olE xs)) = some (olE xs) := rfl
@[simp] theorem evK_olE (i : Nat) (ρ : EV.Env) (xs : List α) : evK i ρ (some (olE xs)) = .ok (.d (dlE xs)) (ρ.set i (.d (dlE xs))) := evK_ol i ρ _
@[simp] theorem mvK_olE (i : Nat) (ρ : EV.Env) (xs : List α) : mvK i ρ (some (olE xs)) = .ok (olE xs) (ρ.set i .un) := rfl
@[simp] theorem muT_olE (xs : List α) (r : R O) : muT "list" (some (olE xs)) r = r := rfl
@[simp] theorem ciT_olE (xs : List α) (r : R O) : ciT (some (olE xs)) r = r := rfl
@[simp] theorem frz_olE (xs : List α) : frz (olE xs) = some (dlE xs) := by
  unfold olE
  rw [frz_lst, frzL_mapd]
  rfl
@[simp] theorem frzArgs_olE (xs : List α) (r : List O) : frzArgs (olE xs :: r) = (frzArgs r).map (.d (dlE xs) :: ·) := frzArgs_ol _ r
@[simp] theorem frzL_olE (xs : List α) (r : List O) : frzL (olE xs :: r) = (frzL r).map (dlE xs :: ·) := by
  rw [frzL, frz_olE]
  cases frzL r <;> rfl
@[simp] theorem rdO_olE (xs : List α) : rdO (olE xs) = some (dlE xs) := rdO_ol _
@[simp] theorem ix_dlE (xs : List α) (i : Int) : o_ix (.d (dlE xs)) (.d (.int i)) = (pyIx xs i).map fun x => .d (enc x) := by
  unfold dlE
  rw [ix_list, pyIx_map, Option.map_map]
  rfl
@[simp] theorem ix_tpE (xs : List α) (i : Int) : o_ix (.d (tpE xs)) (.d (.int i)) = (pyIx xs i).map fun x => .d (enc x) := by
  unfold tpE
  rw [ix_tuple, pyIx_map, Option.map_map]
  rfl
@[simp] theorem ix_olE (xs : List α) (i : Int) : o_ix (olE xs) (.d (.int i)) = (pyIx xs i).map fun x => .d (enc x) := by
  unfold olE
  rw [ix_lst, pyIx_map, pyIx_map, Option.map_map]
  rfl
@[simp] theorem ixd_dlE (xs : List α) (i : Int) : o_ixd (.d (dlE xs)) (.d (.int i)) = (pyIx xs i).map fun x => .d (enc x) := by
  unfold dlE
  rw [ixd_list, pyIx_map, Option.map_map]
  rfl
@[simp] theorem ixd_tpE (xs : List α) (i : Int) : o_ixd (.d (tpE xs)) (.d (.int i)) = (pyIx xs i).map fun x => .d (enc x) := by
  unfold tpE
  rw [ixd_tuple, pyIx_map, Option.map_map]
  rfl
@[simp] theorem ixd_olE (xs : List α) (i : Int) : o_ixd (olE xs) (.d (.int i)) = (pyIx xs i).map fun x => .d (enc x) := by
  unfold olE
  rw [ixd_ol, pyIx_map, Option.map_map]
  rfl
@[simp] theorem len_dlE (xs : List α) : o_len [.d (dlE xs)] = some (.d (.int xs.length)) := by
  unfold dlE
  rw [len_list, List.length_map]
@[simp] theorem len_tpE (xs : List α) : o_len [.d (tpE xs)] = some (.d (.int xs.length)) := by
  unfold tpE
  rw [len_tuple, List.length_map]
@[simp] theorem len_olE (xs : List α) : o_len [olE xs] = some (.d (.int xs.length)) := by
  unfold olE
  rw [len_lst, List.length_map, List.length_map]
@[simp] theorem oseq_dlE (xs : List α) : oseq (.d (dlE xs)) = some (xs.map enc) := rfl
@[simp] theorem oseq_tpE (xs : List α) : oseq (.d (tpE xs)) = some (xs.map enc) := rfl
@[simp] theorem oseq_olE (xs : List α) : oseq (olE xs) = some (xs.map enc) := oseq_ol _
@[simp] theorem isi_list_dlE (xs : List α) : isi "list" (.d (dlE xs)) = some (.d (.bool true)) := isi_list_list _
@[simp] theorem isi_tuple_dlE (xs : List α) : isi "tuple" (.d (dlE xs)) = some (.d (.bool false)) := isi_tuple_list _
@[simp] theorem isi_int_dlE (xs : List α) : isi "int" (.d (dlE xs)) = some (.d (.bool false)) := isi_int_list _
@[simp] theorem isi_bool_dlE (xs : List α) : isi "bool" (.d (dlE xs)) = some (.d (.bool false)) := isi_bool_list _
@[simp] theorem isi_dict_dlE (xs : List α) : isi "dict" (.d (dlE xs)) = some (.d (.bool false)) := isi_dict_list _
@[simp] theorem isi_list_tpE (xs : List α) : isi "list" (.d (tpE xs)) = some (.d (.bool false)) := isi_list_tuple _
@[simp] theorem isi_tuple_tpE (xs : List α) : isi "tuple" (.d (tpE xs)) = some (.d (.bool true)) := isi_tuple_tuple _
@[simp] theorem isi_int_tpE (xs : List α) : isi "int" (.d (tpE xs)) = some (.d (.bool false)) := isi_int_tuple _
@[simp] theorem isi_bool_tpE (xs : List α) : isi "bool" (.d (tpE xs)) = some (.d (.bool false)) := isi_bool_tuple _
@[simp] theorem isi_dict_tpE (xs : List α) : isi "dict" (.d (tpE xs)) = some (.d (.bool false)) := isi_dict_tuple _
@[simp] theorem isi_list_olE (xs : List α) : isi "list" (olE xs) = some (.d (.bool true)) := isi_list_lst _
@[simp] theorem isi_tuple_olE (xs : List α) : isi "tuple" (olE xs) = some (.d (.bool false)) := isi_tuple_lst _
theorem append_E (xs : List α) (x : α) : m_append (olE xs) [enc x] = if xs.length < 1000000 then some (.none, olE (xs ++ [x])) else none := by
  unfold olE
  rw [append_ol, List.length_map]
  show (if xs.length < 1000000 then some (PyData.none, O.lst ((xs.map enc ++ [x].map enc).map O.d)) else none) = _
  rw [← List.map_append]
theorem append0_E (x : α) : m_append (.lst []) [enc x] = some (.none, olE [x]) := by
  rw [append_nil]
  rfl
theorem eqD_plain {a b : D} (ha : a.plain = true) (hb : b.plain = true) (h : min a.depth b.depth ≤ 64) : eqD a b = some (PyData.eqv a b) := by
  unfold eqD
  split
  · rw [eqv_int]; rfl
  · rw [eqv_str]; rfl
  · rename_i i j; cases i <;> cases j <;> simp [PyData.eqv]
  · simp [PyData.plain] at ha
  · simp [ha, hb, h]
theorem eqD_E [DecidableEq α] (x y : α) (h : Enc.dep α ≤ 64) : eqD (enc x) (enc y) = some (decide (x = y)) := by
  have h1 := Enc.depth x
  rw [eqD_plain (Enc.plain x) (Enc.plain y) (by omega)]
  congr 1
  by_cases e : x = y
  · rw [decide_eq_true e]; exact (Enc.eqv x y).mpr e
  · rw [decide_eq_false e]
    cases q : PyData.eqv (enc x) (enc y) with
    | false => rfl
    | true => exact absurd ((Enc.eqv x y).mp q) e
theorem eq_EE [DecidableEq α] {o p : O} {x y : α} (h1 : rdO o = some (enc x)) (h2 : rdO p = some (enc y)) (h : Enc.dep α ≤ 64) : o_eq o p = some (.d (.bool (decide (x = y)))) := by
  unfold o_eq o_eqB
  rw [h1, Option.bind_some, h2, Option.bind_some, eqD_E x y h]
  rfl
theorem ne_EE [DecidableEq α] {o p : O} {x y : α} (h1 : rdO o = some (enc x)) (h2 : rdO p = some (enc y)) (h : Enc.dep α ≤ 64) : o_ne o p = some (.d (.bool (!decide (x = y)))) := by
  unfold o_ne o_eqB
  rw [h1, Option.bind_some, h2, Option.bind_some, eqD_E x y h]
  rfl
@[simp] theorem eq_dd [DecidableEq α] (xs ys : List α) (h : Enc.dep α < 64) : o_eq (.d (dlE xs)) (.d (dlE ys)) = some (.d (.bool (decide (xs = ys)))) := eq_EE (α := List α) (rdO_d _) (rdO_d _) h
@[simp] theorem eq_do [DecidableEq α] (xs ys : List α) (h : Enc.dep α < 64) : o_eq (.d (dlE xs)) (olE ys) = some (.d (.bool (decide (xs = ys)))) := eq_EE (α := List α) (rdO_d _) (rdO_olE _) h
@[simp] theorem eq_od [DecidableEq α] (xs ys : List α) (h : Enc.dep α < 64) : o_eq (olE xs) (.d (dlE ys)) = some (.d (.bool (decide (xs = ys)))) := eq_EE (α := List α) (rdO_olE _) (rdO_d _) h
@[simp] theorem eq_oo [DecidableEq α] (xs ys : List α) (h : Enc.dep α < 64) : o_eq (olE xs) (olE ys) = some (.d (.bool (decide (xs = ys)))) := eq_EE (α := List α) (rdO_olE _) (rdO_olE _) h
@[simp] theorem eq_dn [DecidableEq α] (xs : List α) (h : Enc.dep α < 64) : o_eq (.d (dlE xs)) (.d (.list [])) = some (.d (.bool (decide (xs = [])))) := eq_dd xs [] h
@[simp] theorem eq_on [DecidableEq α] (xs : List α) (h : Enc.dep α < 64) : o_eq (olE xs) (.d (.list [])) = some (.d (.bool (decide (xs = [])))) := eq_od xs [] h
@[simp] theorem ne_dd [DecidableEq α] (xs ys : List α) (h : Enc.dep α < 64) : o_ne (.d (dlE xs)) (.d (dlE ys)) = some (.d (.bool (!decide (xs = ys)))) := ne_EE (α := List α) (rdO_d _) (rdO_d _) h
@[simp] theorem ne_do [DecidableEq α] (xs ys : List α) (h : Enc.dep α < 64) : o_ne (.d (dlE xs)) (olE ys) = some (.d (.bool (!decide (xs = ys)))) := ne_EE (α := List α) (rdO_d _) (rdO_olE _) h
@[simp] theorem ne_od [DecidableEq α] (xs ys : List α) (h : Enc.dep α < 64) : o_ne (olE xs) (.d (dlE ys)) = some (.d (.bool (!decide (xs = ys)))) := ne_EE (α := List α) (rdO_olE _) (rdO_d _) h
@[simp] theorem ne_oo [DecidableEq α] (xs ys : List α) (h : Enc.dep α < 64) : o_ne (olE xs) (olE ys) = some (.d (.bool (!decide (xs = ys)))) := ne_EE (α := List α) (rdO_olE _) (rdO_olE _) h
@[simp] theorem ne_dn [DecidableEq α] (xs : List α) (h : Enc.dep α < 64) : o_ne (.d (dlE xs)) (.d (.list [])) = some (.d (.bool (!decide (xs = [])))) := ne_dd xs [] h
@[simp] theorem ne_on [DecidableEq α] (xs : List α) (h : Enc.dep α < 64) : o_ne (olE xs) (.d (.list [])) = some (.d (.bool (!decide (xs = [])))) := ne_od xs [] h
theorem any_E [DecidableEq α] (xs : List α) (x : α) : ((xs.map enc).any fun z => PyData.eqv z (enc x)) = decide (x ∈ xs) := by
  induction xs with
  | nil => rfl
  | cons y r ih =>
    rw [List.map_cons, List.any_cons, ih]
    by_cases h : y = x
    · rw [(Enc.eqv y x).mpr h]; simp [h]
    · have h2 : ¬ x = y := fun q => h q.symm
      have : PyData.eqv (enc y) (enc x) = false := by
        cases q : PyData.eqv (enc y) (enc x) with
        | false => rfl
        | true => exact absurd ((Enc.eqv y x).mp q) h
      rw [this]
      simp [h2]
theorem inB_E [DecidableEq α] {o : O} {p : O} {x : α} {xs : List α} {zs : List O} (h1 : rdO o = some (enc x)) (h2 : seqO p = some zs) (h3 : rdO p = some (.list (xs.map enc)) ∨ rdO p = some (.tuple (xs.map enc))) (h : Enc.dep α ≤ 64) : inB o p = some (decide (x ∈ xs)) := by
  unfold inB
  rw [h2, h1]
  have hx := Enc.depth x
  rcases h3 with h3 | h3 <;>
  · rw [h3]
    simp only [Option.bind_some, Enc.plain, plain_map, Bool.true_and]
    rw [if_pos (by simp only [decide_eq_true_eq]; omega), any_E]
theorem in_E [DecidableEq α] {o : O} {p : O} {x : α} {xs : List α} {zs : List O} (h1 : rdO o = some (enc x)) (h2 : seqO p = some zs) (h3 : rdO p = some (.list (xs.map enc)) ∨ rdO p = some (.tuple (xs.map enc))) (h : Enc.dep α ≤ 64) : o_in o p = some (.d (.bool (decide (x ∈ xs)))) := by
  unfold o_in
  rw [inB_E h1 h2 h3 h]
  rfl
theorem nin_E [DecidableEq α] {o : O} {p : O} {x : α} {xs : List α} {zs : List O} (h1 : rdO o = some (enc x)) (h2 : seqO p = some zs) (h3 : rdO p = some (.list (xs.map enc)) ∨ rdO p = some (.tuple (xs.map enc))) (h : Enc.dep α ≤ 64) : o_nin o p = some (.d (.bool (!decide (x ∈ xs)))) := by
  unfold o_nin
  rw [inB_E h1 h2 h3 h]
  rfl
@[simp] theorem allD_olE (xs : List α) (r : List O) : allD (olE xs :: r) = none := rfl
@[simp] theorem vadd_dd (xs ys : List α) : v_add (.d (dlE xs)) (.d (dlE ys)) = if xs.length + ys.length ≤ 1000000 then some (.d (dlE (xs ++ ys))) else none := by
  have : l_add (.d (dlE xs)) (.d (dlE ys)) = if xs.length + ys.length ≤ 1000000 then some ((xs ++ ys).map enc) else none := by
    show ((allD ((xs.map enc).map O.d)).bind fun ds => (allD ((ys.map enc).map O.d)).bind fun es => if ds.length + es.length ≤ 1000000 then some (ds ++ es) else none) = _
    rw [allD_mapd, allD_mapd]
    simp
  show (match l_add (.d (dlE xs)) (.d (dlE ys)) with | some ds => some (dl ds) | none => _) = _
  rw [this]
  split
  · rename_i h
    split at h
    · cases h; rename_i h2; rw [if_pos h2]; rfl
    · cases h
  · rename_i h
    split at h
    · cases h
    · rename_i h2; rw [if_neg h2]; rfl
end
@[simp] theorem append_int (xs : List (Int)) (x : Int) : m_append (olE xs) [(.int x)] = if xs.length < 1000000 then some (.none, olE (xs ++ [x])) else none := append_E xs x
@[simp] theorem in_int_d (xs : List (Int)) (x : Int) : o_in (.d (.int x)) (.d (dlE xs)) = some (.d (.bool (decide (x ∈ xs)))) := in_E (α := Int) (rdO_d _) rfl (.inl (rdO_d _)) (Nat.zero_le _)
@[simp] theorem in_int_t (xs : List (Int)) (x : Int) : o_in (.d (.int x)) (.d (tpE xs)) = some (.d (.bool (decide (x ∈ xs)))) := in_E (α := Int) (rdO_d _) rfl (.inr (rdO_d _)) (Nat.zero_le _)
@[simp] theorem in_int_o (xs : List (Int)) (x : Int) : o_in (.d (.int x)) (olE xs) = some (.d (.bool (decide (x ∈ xs)))) := in_E (α := Int) (rdO_d _) rfl (.inl (rdO_olE _)) (Nat.zero_le _)
@[simp] theorem nin_int_d (xs : List (Int)) (x : Int) : o_nin (.d (.int x)) (.d (dlE xs)) = some (.d (.bool (!decide (x ∈ xs)))) := nin_E (α := Int) (rdO_d _) rfl (.inl (rdO_d _)) (Nat.zero_le _)
@[simp] theorem nin_int_o (xs : List (Int)) (x : Int) : o_nin (.d (.int x)) (olE xs) = some (.d (.bool (!decide (x ∈ xs)))) := nin_E (α := Int) (rdO_d _) rfl (.inl (rdO_olE _)) (Nat.zero_le _)
@[simp] theorem append_str (xs : List (PySem.Str)) (x : PySem.Str) : m_append (olE xs) [(.str x)] = if xs.length < 1000000 then some (.none, olE (xs ++ [x])) else none := append_E xs x
@[simp] theorem in_str_d (xs : List (PySem.Str)) (x : PySem.Str) : o_in (.d (.str x)) (.d (dlE xs)) = some (.d (.bool (decide (x ∈ xs)))) := in_E (α := PySem.Str) (rdO_d _) rfl (.inl (rdO_d _)) (Nat.zero_le _)
@[simp] theorem in_str_t (xs : List (PySem.Str)) (x : PySem.Str) : o_in (.d (.str x)) (.d (tpE xs)) = some (.d (.bool (decide (x ∈ xs)))) := in_E (α := PySem.Str) (rdO_d _) rfl (.inr (rdO_d _)) (Nat.zero_le _)
@[simp] theorem in_str_o (xs : List (PySem.Str)) (x : PySem.Str) : o_in (.d (.str x)) (olE xs) = some (.d (.bool (decide (x ∈ xs)))) := in_E (α := PySem.Str) (rdO_d _) rfl (.inl (rdO_olE _)) (Nat.zero_le _)
@[simp] theorem nin_str_d (xs : List (PySem.Str)) (x : PySem.Str) : o_nin (.d (.str x)) (.d (dlE xs)) = some (.d (.bool (!decide (x ∈ xs)))) := nin_E (α := PySem.Str) (rdO_d _) rfl (.inl (rdO_d _)) (Nat.zero_le _)
@[simp] theorem nin_str_o (xs : List (PySem.Str)) (x : PySem.Str) : o_nin (.d (.str x)) (olE xs) = some (.d (.bool (!decide (x ∈ xs)))) := nin_E (α := PySem.Str) (rdO_d _) rfl (.inl (rdO_olE _)) (Nat.zero_le _)
@[simp] theorem append_bool (xs : List (Bool)) (x : Bool) : m_append (olE xs) [(.bool x)] = if xs.length < 1000000 then some (.none, olE (xs ++ [x])) else none := append_E xs x
@[simp] theorem in_bool_d (xs : List (Bool)) (x : Bool) : o_in (.d (.bool x)) (.d (dlE xs)) = some (.d (.bool (decide (x ∈ xs)))) := in_E (α := Bool) (rdO_d _) rfl (.inl (rdO_d _)) (Nat.zero_le _)
@[simp] theorem in_bool_t (xs : List (Bool)) (x : Bool) : o_in (.d (.bool x)) (.d (tpE xs)) = some (.d (.bool (decide (x ∈ xs)))) := in_E (α := Bool) (rdO_d _) rfl (.inr (rdO_d _)) (Nat.zero_le _)
@[simp] theorem in_bool_o (xs : List (Bool)) (x : Bool) : o_in (.d (.bool x)) (olE xs) = some (.d (.bool (decide (x ∈ xs)))) := in_E (α := Bool) (rdO_d _) rfl (.inl (rdO_olE _)) (Nat.zero_le _)
@[simp] theorem nin_bool_d (xs : List (Bool)) (x : Bool) : o_nin (.d (.bool x)) (.d (dlE xs)) = some (.d (.bool (!decide (x ∈ xs)))) := nin_E (α := Bool) (rdO_d _) rfl (.inl (rdO_d _)) (Nat.zero_le _)
@[simp] theorem nin_bool_o (xs : List (Bool)) (x : Bool) : o_nin (.d (.bool x)) (olE xs) = some (.d (.bool (!decide (x ∈ xs)))) := nin_E (α := Bool) (rdO_d _) rfl (.inl (rdO_olE _)) (Nat.zero_le _)
@[simp] theorem append_lst {α : Type} [Enc α] (xs : List (List α)) (x : List α) : m_append (olE xs) [(dlE x)] = if xs.length < 1000000 then some (.none, olE (xs ++ [x])) else none := append_E xs x
@[simp] theorem in_lst_d {α : Type} [Enc α] [DecidableEq α] (xs : List (List α)) (x : List α) (h : Enc.dep α < 64) : o_in (.d (dlE x)) (.d (dlE xs)) = some (.d (.bool (decide (x ∈ xs)))) := by
  have e := in_E (α := List α) (x := x) (xs := xs) (rdO_d _) rfl (.inl (rdO_d _)) h
  exact e.trans (congrArg (fun b => some (O.d (.bool b))) (decide_eq_decide.mpr Iff.rfl))
@[simp] theorem in_lst_t {α : Type} [Enc α] [DecidableEq α] (xs : List (List α)) (x : List α) (h : Enc.dep α < 64) : o_in (.d (dlE x)) (.d (tpE xs)) = some (.d (.bool (decide (x ∈ xs)))) := by
  have e := in_E (α := List α) (x := x) (xs := xs) (rdO_d _) rfl (.inr (rdO_d _)) h
  exact e.trans (congrArg (fun b => some (O.d (.bool b))) (decide_eq_decide.mpr Iff.rfl))
@[simp] theorem in_lst_o {α : Type} [Enc α] [DecidableEq α] (xs : List (List α)) (x : List α) (h : Enc.dep α < 64) : o_in (.d (dlE x)) (olE xs) = some (.d (.bool (decide (x ∈ xs)))) := by
  have e := in_E (α := List α) (x := x) (xs := xs) (rdO_d _) rfl (.inl (rdO_olE _)) h
  exact e.trans (congrArg (fun b => some (O.d (.bool b))) (decide_eq_decide.mpr Iff.rfl))
@[simp] theorem nin_lst_d {α : Type} [Enc α] [DecidableEq α] (xs : List (List α)) (x : List α) (h : Enc.dep α < 64) : o_nin (.d (dlE x)) (.d (dlE xs)) = some (.d (.bool (!decide (x ∈ xs)))) := by
  have e := nin_E (α := List α) (x := x) (xs := xs) (rdO_d _) rfl (.inl (rdO_d _)) h
  exact e.trans (congrArg (fun b => some (O.d (.bool (!b)))) (decide_eq_decide.mpr Iff.rfl))
@[simp] theorem nin_lst_o {α : Type} [Enc α] [DecidableEq α] (xs : List (List α)) (x : List α) (h : Enc.dep α < 64) : o_nin (.d (dlE x)) (olE xs) = some (.d (.bool (!decide (x ∈ xs)))) := by
  have e := nin_E (α := List α) (x := x) (xs := xs) (rdO_d _) rfl (.inl (rdO_olE _)) h
  exact e.trans (congrArg (fun b => some (O.d (.bool (!b)))) (decide_eq_decide.mpr Iff.rfl))

/-! ### loops -/
def lpK (r : R Fl) (k : EV.Env → R Fl) : R Fl := match r with
  | .ok .nx ρ2 => k ρ2
  | .ok .cnt ρ2 => k ρ2
  | .ok .brk ρ2 => .ok .nx ρ2
  | r => r
@[simp] theorem lpK_nx (ρ : EV.Env) (k : EV.Env → R Fl) : lpK (.ok .nx ρ) k = k ρ := rfl
@[simp] theorem lpK_cnt (ρ : EV.Env) (k : EV.Env → R Fl) : lpK (.ok .cnt ρ) k = k ρ := rfl
@[simp] theorem lpK_brk (ρ : EV.Env) (k : EV.Env → R Fl) : lpK (.ok .brk ρ) k = .ok .nx ρ := rfl
@[simp] theorem lpK_ret (o : O) (ρ : EV.Env) (k : EV.Env → R Fl) : lpK (.ok (.ret o) ρ) k = .ok (.ret o) ρ := rfl
@[simp] theorem lpK_exc (c : PySem.Str) (ρ : EV.Env) (k : EV.Env → R Fl) : lpK (.exc c ρ) k = .exc c ρ := rfl
@[simp] theorem lpK_ite {c : Prop} [Decidable c] (a b : R Fl) (k : EV.Env → R Fl) : lpK (if c then a else b) k = if c then lpK a k else lpK b k := by split <;> rfl
def unK (r : R Unit) (k : EV.Env → R Fl) : R Fl := match r with
  | .ok _ ρ => k ρ
  | _ => .stuck
@[simp] theorem unK_ok (u : Unit) (ρ : EV.Env) (k : EV.Env → R Fl) : unK (.ok u ρ) k = k ρ := rfl
@[simp] theorem loopF_nil (g : O → M Unit) (fb : M Fl) (ρ : EV.Env) : loopF g fb [] ρ = .ok .nx ρ := rfl
theorem loopF_cons (g : O → M Unit) (fb : M Fl) (x : D) (xs : List D) (ρ : EV.Env) : loopF g fb (x :: xs) ρ = unK (g (.d x) ρ) fun ρ1 => lpK (fb ρ1) (loopF g fb xs) := by
  show (match g (.d x) ρ with
    | .ok _ ρ1 => (match fb ρ1 with
      | .ok .nx ρ2 => loopF g fb xs ρ2
      | .ok .cnt ρ2 => loopF g fb xs ρ2
      | .ok .brk ρ2 => .ok .nx ρ2
      | r => r)
    | _ => .stuck) = _
  generalize g (.d x) ρ = r
  cases r with
  | ok u ρ1 =>
    simp only [unK_ok]
    generalize fb ρ1 = r2
    cases r2 with
    | ok f ρ2 => cases f <;> rfl
    | exc c ρ2 => rfl
    | stuck => rfl
  | exc c ρ1 => rfl
  | stuck => rfl
theorem loopW_succ (t : M Bool) (fb : M Fl) (n : Nat) (ρ : EV.Env) : loopW t fb (n + 1) ρ = bnd (t ρ) fun b => if b then (fun ρ => lpK (fb ρ) (loopW t fb n)) else M.ret .nx := by
  rfl
theorem while_ap (t : M Bool) (fb : M Fl) (n : Nat) (ρ : EV.Env) : S.while t fb n ρ = loopW t fb n ρ := rfl
section
variable {α : Type} [Enc α]
def enE : List α → Nat → List D
  | [], _ => []
  | x :: xs, i => .tuple [.int (i : Nat), enc x] :: enE xs (i + 1)
theorem zipIdx_enE : ∀ (xs : List α) (i : Nat), ((xs.map enc).zipIdx i).map (fun p => PyData.tuple [.int p.2, p.1]) = enE xs i
  | [], _ => rfl
  | x :: xs, i => by
    rw [List.map_cons, List.zipIdx_cons, List.map_cons, zipIdx_enE xs (i + 1)]
    rfl
@[simp] theorem enums_E (xs : List α) : Wk.enums (xs.map enc) = enE xs 0 := zipIdx_enE xs 0
theorem enE_cons (x : α) (xs : List α) (i : Nat) : enE (x :: xs) i = .tuple [.int (i : Nat), enc x] :: enE xs (i + 1) := rfl
@[simp] theorem enE_nil (i : Nat) : enE ([] : List α) i = [] := rfl
end
/-- numbers from i on, n of them -/
def rgE : Int → Nat → List D
  | _, 0 => []
  | i, n + 1 => .int i :: rgE (i + 1) n
theorem rgE_map : ∀ (n : Nat) (i : Int), (List.range n).map (fun k : Nat => PyData.int (i + (k : Int))) = rgE i n
  | 0, _ => rfl
  | n + 1, i => by
    rw [List.range_succ_eq_map, List.map_cons, List.map_map, rgE, ← rgE_map n (i + 1)]
    congr 1
    · simp
    · apply List.map_congr_left
      intro k _
      show PyData.int (i + ((k + 1 : Nat) : Int)) = _
      congr 1
      omega
@[simp] theorem range_rgE (n : Nat) : (List.range n).map (fun k : Nat => PyData.int (k : Int)) = rgE 0 n := by
  rw [← rgE_map n 0]
  apply List.map_congr_left
  intro k _
  simp
@[simp] theorem range_rgE2 (i : Int) (n : Nat) : (List.range n).map (fun k : Nat => PyData.int (i + (k : Int))) = rgE i n := rgE_map n i
theorem rgE_succ (i : Int) (n : Nat) : rgE i (n + 1) = .int i :: rgE (i + 1) n := rfl
/-! ### comprehensions -/
def ccK (r : R O) (acc : List O) (k : List O → EV.Env → R (List O)) : R (List O) := match r with
  | .ok y ρ3 => if acc.length < 1000000 then k (acc ++ [y]) ρ3 else .stuck
  | _ => .stuck
@[simp] theorem ccK_ok (y : O) (ρ : EV.Env) (acc : List O) (k : List O → EV.Env → R (List O)) : ccK (.ok y ρ) acc k = if acc.length < 1000000 then k (acc ++ [y]) ρ else .stuck := rfl
def ctK (r : R Bool) (f : EV.Env → R (List O)) (k : EV.Env → R (List O)) : R (List O) := match r with
  | .ok true ρ2 => f ρ2
  | .ok false ρ2 => k ρ2
  | _ => .stuck
@[simp] theorem ctK_t (ρ : EV.Env) (f k : EV.Env → R (List O)) : ctK (.ok true ρ) f k = f ρ := rfl
@[simp] theorem ctK_f (ρ : EV.Env) (f k : EV.Env → R (List O)) : ctK (.ok false ρ) f k = k ρ := rfl
@[simp] theorem ctK_b (b : Bool) (ρ : EV.Env) (f k : EV.Env → R (List O)) : ctK (.ok b ρ) f k = if b = true then f ρ else k ρ := by cases b <;> rfl
def cuK (r : R Unit) (k : EV.Env → R (List O)) : R (List O) := match r with
  | .ok _ ρ => k ρ
  | _ => .stuck
@[simp] theorem cuK_ok (u : Unit) (ρ : EV.Env) (k : EV.Env → R (List O)) : cuK (.ok u ρ) k = k ρ := rfl
@[simp] theorem lcF_nil (vs : List Nat) (g : O → M Unit) (t : M Bool) (f : M O) (acc : List O) (ρ : EV.Env) : lcF vs g t f [] acc ρ = .ok acc ρ := rfl
theorem lcF_cons (vs : List Nat) (g : O → M Unit) (t : M Bool) (f : M O) (x : D) (xs : List D) (acc : List O) (ρ : EV.Env) : lcF vs g t f (x :: xs) acc ρ = cuK (g (.d x) ρ) fun ρ1 => ctK (t ρ1) (fun ρ2 => ccK (f ρ2) acc fun acc' ρ3 => lcF vs g t f xs acc' (wipeE ρ3 vs)) (fun ρ2 => lcF vs g t f xs acc (wipeE ρ2 vs)) := by
  show (match g (.d x) ρ with
    | .ok _ ρ1 => (match t ρ1 with
      | .ok true ρ2 => (match f ρ2 with
        | .ok y ρ3 => if acc.length < 1000000 then lcF vs g t f xs (acc ++ [y]) (wipeE ρ3 vs) else .stuck
        | _ => .stuck)
      | .ok false ρ2 => lcF vs g t f xs acc (wipeE ρ2 vs)
      | _ => .stuck)
    | _ => .stuck) = _
  generalize g (.d x) ρ = r
  cases r with
  | ok u ρ1 =>
    simp only [cuK_ok]
    generalize t ρ1 = r2
    cases r2 with
    | ok b ρ2 => cases b with
      | true =>
        simp only [ctK_t]
        generalize f ρ2 = r3
        cases r3 <;> rfl
      | false => rfl
    | exc c ρ2 => rfl
    | stuck => rfl
  | exc c ρ1 => rfl
  | stuck => rfl
def lcK (r : R (List O)) (ρ : EV.Env) (vs : List Nat) : R O := match r with
  | .ok acc ρ' => .ok (.lst acc) (backE ρ ρ' vs)
  | _ => .stuck
@[simp] theorem lcK_ok (acc : List O) (ρ ρ' : EV.Env) (vs : List Nat) : lcK (.ok acc ρ') ρ vs = .ok (.lst acc) (backE ρ ρ' vs) := rfl
theorem lc_ap (vs : List Nat) (fi : M (List D)) (g : O → M Unit) (t : M Bool) (f : M O) (ρ : EV.Env) : E.lc vs fi g t f ρ = bnd (fi ρ) fun ds ρ1 => if calmE ρ1 vs then lcK (lcF vs g t f ds [] (wipeE ρ1 vs)) ρ1 vs else .stuck := by
  rfl
@[simp] theorem wipe_nil (ρ : EV.Env) : wipeE ρ [] = ρ := rfl
@[simp] theorem wipe_cons (ρ : EV.Env) (v : Nat) (vs : List Nat) : wipeE ρ (v :: vs) = (wipeE ρ vs).set v .un := rfl
@[simp] theorem back_nil (ρ ρ' : EV.Env) : backE ρ ρ' [] = ρ' := rfl
@[simp] theorem back_cons (ρ ρ' : EV.Env) (v : Nat) (vs : List Nat) : backE ρ ρ' (v :: vs) = (backE ρ ρ' vs).set v (ρ.getD v .un) := rfl
@[simp] theorem calm_nil (ρ : EV.Env) : calmE ρ [] = true := rfl
def calm1 : O → Bool
  | .un => true
  | .d _ => true
  | _ => false
@[simp] theorem calm1_un : calm1 .un = true := rfl
@[simp] theorem calm1_d (x : D) : calm1 (.d x) = true := rfl
@[simp] theorem calm_cons (ρ : EV.Env) (v : Nat) (vs : List Nat) : calmE ρ (v :: vs) = (calm1 (ρ.getD v .un) && calmE ρ vs) := by
  unfold calmE
  rw [List.all_cons]
  congr 1
/-! ### typed comprehensions -/
def osE {α : Type} [Enc α] (xs : List α) : List O := (xs.map Enc.enc).map O.d
@[simp] theorem lst_osE {α : Type} [Enc α] (xs : List α) : O.lst (osE xs) = olE xs := rfl
/-- one member's turn -/
def lcS (vs : List Nat) (g : O → M Unit) (t : M Bool) (f : M O) (x : D) (ρ : EV.Env) (acc : List O) (k : List O → EV.Env → R (List O)) : R (List O) := cuK (g (.d x) ρ) fun ρ1 => ctK (t ρ1) (fun ρ2 => ccK (f ρ2) acc fun acc' ρ3 => k acc' (wipeE ρ3 vs)) (fun ρ2 => k acc (wipeE ρ2 vs))
theorem lcF_consS (vs : List Nat) (g : O → M Unit) (t : M Bool) (f : M O) (x : D) (xs : List D) (acc : List O) (ρ : EV.Env) : lcF vs g t f (x :: xs) acc ρ = lcS vs g t f x ρ acc fun acc' ρ' => lcF vs g t f xs acc' ρ' := lcF_cons vs g t f x xs acc ρ
theorem lcF_filE {α β : Type} [Enc α] [Enc β] (P : α → Bool) (F : α → β) {vs : List Nat} {g : O → M Unit} {t : M Bool} {f : M O} {ρ : EV.Env} (xs : List α)
    (hs : ∀ x ∈ xs, ∀ (acc : List O) (k : List O → EV.Env → R (List O)), acc.length < 1000000 → lcS vs g t f (Enc.enc x) ρ acc k = if P x = true then k (acc ++ [.d (Enc.enc (F x))]) ρ else k acc ρ)
    (hb : xs.length < 1000000) : lcF vs g t f (xs.map Enc.enc) [] ρ = .ok (osE ((xs.filter P).map F)) ρ := by
  have gen : ∀ (xs : List α) (acc : List O), (∀ x ∈ xs, ∀ (acc : List O) (k : List O → EV.Env → R (List O)), acc.length < 1000000 → lcS vs g t f (Enc.enc x) ρ acc k = if P x = true then k (acc ++ [.d (Enc.enc (F x))]) ρ else k acc ρ) → acc.length + xs.length < 1000000 → lcF vs g t f (xs.map Enc.enc) acc ρ = .ok (acc ++ osE ((xs.filter P).map F)) ρ := by
    intro xs
    induction xs with
    | nil => intro acc _ _; simp [osE]
    | cons x xs ih =>
      intro acc hs hb
      rw [List.length_cons] at hb
      rw [List.map_cons, lcF_consS, hs x (.head _) _ _ (by omega)]
      by_cases h : P x = true
      · rw [if_pos h, ih _ (fun z q => hs z (.tail _ q)) (by rw [List.length_append, List.length_singleton]; omega)]
        simp [osE, h]
      · rw [if_neg h, ih _ (fun z q => hs z (.tail _ q)) (by omega)]
        simp [osE, h]
  rw [gen xs [] hs (by simpa using hb), List.nil_append]
theorem lcF_mapE {α β : Type} [Enc α] [Enc β] (F : α → β) {vs : List Nat} {g : O → M Unit} {t : M Bool} {f : M O} {ρ : EV.Env} (xs : List α)
    (hs : ∀ x ∈ xs, ∀ (acc : List O) (k : List O → EV.Env → R (List O)), acc.length < 1000000 → lcS vs g t f (Enc.enc x) ρ acc k = k (acc ++ [.d (Enc.enc (F x))]) ρ)
    (hb : xs.length < 1000000) : lcF vs g t f (xs.map Enc.enc) [] ρ = .ok (osE (xs.map F)) ρ := by
  rw [lcF_filE (fun _ => true) F xs]
  · rw [List.filter_eq_self.mpr fun _ _ => rfl]
  · intro x hx acc k h
    rw [hs x hx acc k h]
    rfl
  · exact hb
def fmE {α β : Type} (P : Nat → α → Bool) (F : Nat → α → β) : List α → Nat → List β
  | [], _ => []
  | x :: xs, i => if P i x = true then F i x :: fmE P F xs (i + 1) else fmE P F xs (i + 1)
theorem lcF_enumE {α β : Type} [Enc α] [Enc β] (P : Nat → α → Bool) (F : Nat → α → β) {vs : List Nat} {g : O → M Unit} {t : M Bool} {f : M O} {ρ : EV.Env} (xs : List α)
    (hs : ∀ (j : Nat) (x : α), xs[j]? = some x → ∀ (acc : List O) (k : List O → EV.Env → R (List O)), acc.length < 1000000 → lcS vs g t f (.tuple [.int (j : Int), Enc.enc x]) ρ acc k = if P j x = true then k (acc ++ [.d (Enc.enc (F j x))]) ρ else k acc ρ)
    (hb : xs.length < 1000000) : lcF vs g t f (enE xs 0) [] ρ = .ok (osE (fmE P F xs 0)) ρ := by
  have gen : ∀ (xs : List α) (i : Nat) (acc : List O), (∀ (j : Nat) (x : α), xs[j]? = some x → ∀ (acc : List O) (k : List O → EV.Env → R (List O)), acc.length < 1000000 → lcS vs g t f (.tuple [.int ((i + j : Nat) : Int), Enc.enc x]) ρ acc k = if P (i + j) x = true then k (acc ++ [.d (Enc.enc (F (i + j) x))]) ρ else k acc ρ) → acc.length + xs.length < 1000000 → lcF vs g t f (enE xs i) acc ρ = .ok (acc ++ osE (fmE P F xs i)) ρ := by
    intro xs
    induction xs with
    | nil => intro i acc _ _; simp [osE, fmE]
    | cons x xs ih =>
      intro i acc hs hb
      rw [List.length_cons] at hb
      have hs' : ∀ (j : Nat) (z : α), xs[j]? = some z → ∀ (acc : List O) (k : List O → EV.Env → R (List O)), acc.length < 1000000 → lcS vs g t f (.tuple [.int ((i + 1 + j : Nat) : Int), Enc.enc z]) ρ acc k = if P (i + 1 + j) z = true then k (acc ++ [.d (Enc.enc (F (i + 1 + j) z))]) ρ else k acc ρ := fun j z q => by
        have := hs (j + 1) z (by simpa using q)
        rw [show i + (j + 1) = (i + 1) + j by omega] at this
        exact this
      have h0 := hs 0 x rfl acc
      rw [Nat.add_zero] at h0
      rw [enE_cons, lcF_consS, h0 _ (by omega), fmE]
      by_cases h : P i x = true
      · rw [if_pos h, ih _ _ hs' (by rw [List.length_append, List.length_singleton]; omega)]
        simp [osE, h]
      · rw [if_neg h, ih _ _ hs' (by omega)]
        simp [osE, h]
  rw [gen xs 0 [] (fun j x q => by rw [Nat.zero_add]; exact hs j x q) (by simpa using hb), List.nil_append]
theorem eq_tup (xs ys : List D) (h : PyData.plainAll xs = true) (h2 : PyData.plainAll ys = true) (h3 : PyData.depthAll xs ≤ 63) : o_eq (.d (.tuple xs)) (.d (.tuple ys)) = some (.d (.bool (PyData.eqvAll xs ys))) := by
  unfold o_eq o_eqB
  rw [rdO_d, rdO_d, Option.bind_some, Option.bind_some, eqD_plain (by rw [PyData.plain]; exact h) (by rw [PyData.plain]; exact h2) (by simp only [PyData.depth]; omega), PyData.eqv]
  rfl
theorem eq_tup0 (x : D) (xs : List D) (h : PyData.plainAll (x :: xs) = true) : o_eq (.d (.tuple (x :: xs))) (.d (.tuple [])) = some (.d (.bool false)) := by
  unfold o_eq o_eqB
  rw [rdO_d, rdO_d, Option.bind_some, Option.bind_some, eqD_plain (by rw [PyData.plain]; exact h) (by simp [PyData.plain, PyData.plainAll]) (by simp only [PyData.depth, PyData.depthAll]; omega), PyData.eqv, PyData.eqvAll]
  rfl
theorem boolsD_map : ∀ bs : List Bool, boolsD (bs.map Enc.enc) = some bs
  | [] => rfl
  | b :: bs => by
    rw [List.map_cons, enc_bool, boolsD, boolsD_map bs]
    rfl
theorem listD_olE {α : Type} [Enc α] (xs : List α) : listD (olE xs) = some (xs.map Enc.enc) := allD_mapd _
@[simp] theorem any_olE (bs : List Bool) : b_any [olE bs] = some (.d (.bool (bs.any id))) := by
  show ((listD (olE bs)).bind boolsD).map _ = _
  rw [listD_olE, Option.bind_some, boolsD_map]
  rfl
@[simp] theorem all_olE (bs : List Bool) : b_all [olE bs] = some (.d (.bool (bs.all id))) := by
  show ((listD (olE bs)).bind boolsD).map _ = _
  rw [listD_olE, Option.bind_some, boolsD_map]
  rfl

@[simp] theorem clean_bool (b : Bool) : cleanO (.d (.bool b)) = true := rfl
@[simp] theorem clean_int (b : Int) : cleanO (.d (.int b)) = true := rfl
@[simp] theorem clean_str (b : PySem.Str) : cleanO (.d (.str b)) = true := rfl
@[simp] theorem clean_none : cleanO (.d .none) = true := rfl
theorem clean_E {α : Type} [Enc α] (h : ∀ x : α, cleanD (Enc.enc x) = true) : ∀ xs : List α, cleanO (olE xs) = true := fun xs => by
  show cleanOs ((xs.map Enc.enc).map O.d) = true
  induction xs with
  | nil => rfl
  | cons x r ih =>
    rw [List.map_cons, List.map_cons, cleanOs, ih, Bool.and_true]
    exact h x
@[simp] theorem clean_ints (xs : List Int) : cleanO (olE xs) = true := clean_E (fun _ => rfl) xs
@[simp] theorem clean_bools (xs : List Bool) : cleanO (olE xs) = true := clean_E (fun _ => rfl) xs
@[simp] theorem clean_strs (xs : List PySem.Str) : cleanO (olE xs) = true := clean_E (fun _ => rfl) xs
@[simp] theorem in_i4 (x a b c d : Int) : o_in (.d (.int x)) (.d (.tuple [.int a, .int b, .int c, .int d])) = some (.d (.bool (decide (x ∈ [a, b, c, d])))) := in_int_t [a, b, c, d] x
@[simp] theorem in_i3 (x a b c : Int) : o_in (.d (.int x)) (.d (.tuple [.int a, .int b, .int c])) = some (.d (.bool (decide (x ∈ [a, b, c])))) := in_int_t [a, b, c] x
@[simp] theorem in_i2 (x a b : Int) : o_in (.d (.int x)) (.d (.tuple [.int a, .int b])) = some (.d (.bool (decide (x ∈ [a, b])))) := in_int_t [a, b] x

@[simp] theorem tuple_olE {α : Type} [Enc α] (xs : List α) : b_tuple [olE xs] = some (.d (tpE xs)) := by
  show (listD (olE xs)).map _ = _
  rw [listD_olE]
  rfl
@[simp] theorem tuple_dlE {α : Type} [Enc α] (xs : List α) : b_tuple [.d (dlE xs)] = some (.d (tpE xs)) := by
  show (allD ((xs.map Enc.enc).map O.d)).map _ = _
  rw [allD_mapd]
  rfl
@[simp] theorem tuple_tpE {α : Type} [Enc α] (xs : List α) : b_tuple [.d (tpE xs)] = some (.d (tpE xs)) := by
  show (allD ((xs.map Enc.enc).map O.d)).map _ = _
  rw [allD_mapd]
  rfl
/-! ### numbers in a row -/
def upI : Int → Nat → List Int
  | _, 0 => []
  | i, n + 1 => i :: upI (i + 1) n
theorem rgE_up : ∀ (i : Int) (n : Nat), rgE i n = (upI i n).map Enc.enc
  | _, 0 => rfl
  | i, n + 1 => by
    rw [rgE, upI, List.map_cons, rgE_up (i + 1) n]
    rfl
theorem mem_up : ∀ {n : Nat} {i x : Int}, x ∈ upI i n ↔ i ≤ x ∧ x < i + n
  | 0, i, x => by
    rw [upI]
    constructor
    · intro h; cases h
    · intro h; omega
  | n + 1, i, x => by
    rw [upI, List.mem_cons, mem_up]
    constructor
    · rintro (rfl | h) <;> omega
    · intro h
      by_cases e : x = i
      · exact .inl e
      · exact .inr (by omega)
theorem up_len : ∀ (n : Nat) (i : Int), (upI i n).length = n
  | 0, _ => rfl
  | n + 1, i => by rw [upI, List.length_cons, up_len n]
/-- member by member -/
inductive All2 {α β : Type} (R : α → β → Prop) : List α → List β → Prop
  | nil : All2 R [] []
  | cons {x : α} {y : β} {xs : List α} {ys : List β} : R x y → All2 R xs ys → All2 R (x :: xs) (y :: ys)
theorem All2.len {α β : Type} {R : α → β → Prop} : ∀ {xs : List α} {ys : List β}, All2 R xs ys → xs.length = ys.length
  | _, _, .nil => rfl
  | _, _, .cons _ h => by rw [List.length_cons, List.length_cons, All2.len h]
theorem All2.l {α β : Type} {R : α → β → Prop} : ∀ {xs : List α} {ys : List β}, All2 R xs ys → ∀ {i : Nat} {x : α}, xs[i]? = some x → ∃ y, ys[i]? = some y ∧ R x y
  | _, _, .nil, _, _, h => by simp at h
  | _, _, .cons a h, 0, _, e => by simp at e; subst e; exact ⟨_, rfl, a⟩
  | _, _, .cons a h, i + 1, _, e => by simp at e; obtain ⟨y, q, r⟩ := All2.l h e; exact ⟨y, by simpa using q, r⟩
theorem All2.r {α β : Type} {R : α → β → Prop} : ∀ {xs : List α} {ys : List β}, All2 R xs ys → ∀ {i : Nat} {y : β}, ys[i]? = some y → ∃ x, xs[i]? = some x ∧ R x y
  | _, _, .nil, _, _, h => by simp at h
  | _, _, .cons a h, 0, _, e => by simp at e; subst e; exact ⟨_, rfl, a⟩
  | _, _, .cons a h, i + 1, _, e => by simp at e; obtain ⟨y, q, r⟩ := All2.r h e; exact ⟨y, by simpa using q, r⟩
theorem All2.snoc {α β : Type} {R : α → β → Prop} : ∀ {xs : List α} {ys : List β} {x : α} {y : β}, All2 R xs ys → R x y → All2 R (xs ++ [x]) (ys ++ [y])
  | _, _, _, _, .nil, r => .cons r .nil
  | _, _, _, _, .cons a h, r => .cons a (All2.snoc h r)
/-! ### lists put together -/
def encs {α : Type} [Enc α] (xs : List α) : List D := xs.map Enc.enc
@[simp] theorem ol_encs {α : Type} [Enc α] (xs : List α) : ol (encs xs) = olE xs := rfl
@[simp] theorem dl_encs {α : Type} [Enc α] (xs : List α) : dl (encs xs) = .d (dlE xs) := rfl
theorem ladd_E {α : Type} [Enc α] {o p : O} {xs ys : List α} (h1 : G.litems o = some ((xs.map Enc.enc).map O.d)) (h2 : G.litems p = some ((ys.map Enc.enc).map O.d)) : l_add o p = if xs.length + ys.length ≤ 1000000 then some ((xs ++ ys).map Enc.enc) else none := by
  unfold l_add
  rw [h1, h2]
  simp only [allD_mapd, Option.bind_some, List.length_map, List.map_append]
theorem oadd_E {α : Type} [Enc α] {o p : O} {xs ys : List α} (h0 : ∀ i, o ≠ .d (.int i)) (h1 : G.litems o = some ((xs.map Enc.enc).map O.d)) (h2 : G.litems p = some ((ys.map Enc.enc).map O.d)) : o_add o p = if xs.length + ys.length ≤ 1000000 then some (olE (xs ++ ys)) else none := by
  have : o_add o p = o_addS o p := by
    unfold o_add
    split
    · exact absurd rfl (h0 _)
    · rfl
  rw [this]
  unfold o_addS
  rw [h1, h2]
  simp only [List.length_map, olE, List.map_append]
@[simp] theorem ol_map {α : Type} [Enc α] (xs : List α) : ol (xs.map Enc.enc) = olE xs := rfl
@[simp] theorem dl_map {α : Type} [Enc α] (xs : List α) : dl (xs.map Enc.enc) = .d (dlE xs) := rfl
@[simp] theorem omap_ite {α β : Type} {c : Prop} [Decidable c] (a : α) (f : α → β) : Option.map f (if c then some a else none) = if c then some (f a) else none := by split <;> rfl
theorem vadd_E {α : Type} [Enc α] {o p : O} {xs ys : List α} (h0 : ∀ i, o ≠ .d (.int i)) (h3 : G.titems o = none) (h1 : G.litems o = some ((xs.map Enc.enc).map O.d)) (h2 : G.litems p = some ((ys.map Enc.enc).map O.d)) : v_add o p = if xs.length + ys.length ≤ 1000000 then some (.d (dlE (xs ++ ys))) else none := by
  have : v_add o p = (match l_add o p with
    | some ds => some (dl ds)
    | none => (G.titems o).bind fun xs => (G.titems p).bind fun ys => (allD xs).bind fun ds => (allD ys).bind fun es => if ds.length + es.length ≤ 1000000 then some (.d (.tuple (ds ++ es))) else none) := by
    unfold v_add
    split
    · exact absurd rfl (h0 _)
    · rfl
  rw [this, ladd_E h1 h2, h3]
  split
  · rename_i h
    split at h
    · cases h; rename_i h2; rw [if_pos h2]; rfl
    · cases h
  · rename_i h
    split at h
    · cases h
    · rename_i h2; rw [if_neg h2]; rfl

@[simp] theorem ladd_oo {α : Type} [Enc α] (xs ys : List α) : l_add (olE xs) (olE ys) = if (xs : List α).length + (ys : List α).length ≤ 1000000 then some (encs (xs ++ ys)) else none := ladd_E (α := α) (xs := xs) (ys := ys) rfl rfl
@[simp] theorem oadd_oo {α : Type} [Enc α] (xs ys : List α) : o_add (olE xs) (olE ys) = if (xs : List α).length + (ys : List α).length ≤ 1000000 then some (olE (xs ++ ys)) else none := oadd_E (α := α) (xs := xs) (ys := ys) (fun _ h => by cases h) rfl rfl
@[simp] theorem vadd_oo {α : Type} [Enc α] (xs ys : List α) : v_add (olE xs) (olE ys) = if (xs : List α).length + (ys : List α).length ≤ 1000000 then some (.d (dlE (xs ++ ys))) else none := vadd_E (α := α) (xs := xs) (ys := ys) (fun _ h => by cases h) rfl rfl rfl
@[simp] theorem ladd_od {α : Type} [Enc α] (xs ys : List α) : l_add (olE xs) (.d (dlE ys)) = if (xs : List α).length + (ys : List α).length ≤ 1000000 then some (encs (xs ++ ys)) else none := ladd_E (α := α) (xs := xs) (ys := ys) rfl rfl
@[simp] theorem oadd_od {α : Type} [Enc α] (xs ys : List α) : o_add (olE xs) (.d (dlE ys)) = if (xs : List α).length + (ys : List α).length ≤ 1000000 then some (olE (xs ++ ys)) else none := oadd_E (α := α) (xs := xs) (ys := ys) (fun _ h => by cases h) rfl rfl
@[simp] theorem vadd_od {α : Type} [Enc α] (xs ys : List α) : v_add (olE xs) (.d (dlE ys)) = if (xs : List α).length + (ys : List α).length ≤ 1000000 then some (.d (dlE (xs ++ ys))) else none := vadd_E (α := α) (xs := xs) (ys := ys) (fun _ h => by cases h) rfl rfl rfl
@[simp] theorem ladd_o_int (xs : List Int) (z : Int) : l_add (olE xs) (.d (.list [.int z])) = if (xs : List Int).length + ([z] : List Int).length ≤ 1000000 then some (encs (xs ++ [z])) else none := ladd_E (α := Int) (xs := xs) (ys := [z]) rfl rfl
@[simp] theorem oadd_o_int (xs : List Int) (z : Int) : o_add (olE xs) (.d (.list [.int z])) = if (xs : List Int).length + ([z] : List Int).length ≤ 1000000 then some (olE (xs ++ [z])) else none := oadd_E (α := Int) (xs := xs) (ys := [z]) (fun _ h => by cases h) rfl rfl
@[simp] theorem vadd_o_int (xs : List Int) (z : Int) : v_add (olE xs) (.d (.list [.int z])) = if (xs : List Int).length + ([z] : List Int).length ≤ 1000000 then some (.d (dlE (xs ++ [z]))) else none := vadd_E (α := Int) (xs := xs) (ys := [z]) (fun _ h => by cases h) rfl rfl rfl
@[simp] theorem ladd_int_o (xs : List Int) (z : Int) : l_add (.d (.list [.int z])) (olE xs) = if ([z] : List Int).length + (xs : List Int).length ≤ 1000000 then some (encs ([z] ++ xs)) else none := ladd_E (α := Int) (xs := [z]) (ys := xs) rfl rfl
@[simp] theorem oadd_int_o (xs : List Int) (z : Int) : o_add (.d (.list [.int z])) (olE xs) = if ([z] : List Int).length + (xs : List Int).length ≤ 1000000 then some (olE ([z] ++ xs)) else none := oadd_E (α := Int) (xs := [z]) (ys := xs) (fun _ h => by cases h) rfl rfl
@[simp] theorem vadd_int_o (xs : List Int) (z : Int) : v_add (.d (.list [.int z])) (olE xs) = if ([z] : List Int).length + (xs : List Int).length ≤ 1000000 then some (.d (dlE ([z] ++ xs))) else none := vadd_E (α := Int) (xs := [z]) (ys := xs) (fun _ h => by cases h) rfl rfl rfl
@[simp] theorem ladd_o_int2 (xs : List Int) (z w : Int) : l_add (olE xs) (.d (.list [.int z, .int w])) = if (xs : List Int).length + ([z, w] : List Int).length ≤ 1000000 then some (encs (xs ++ [z, w])) else none := ladd_E (α := Int) (xs := xs) (ys := [z, w]) rfl rfl
@[simp] theorem oadd_o_int2 (xs : List Int) (z w : Int) : o_add (olE xs) (.d (.list [.int z, .int w])) = if (xs : List Int).length + ([z, w] : List Int).length ≤ 1000000 then some (olE (xs ++ [z, w])) else none := oadd_E (α := Int) (xs := xs) (ys := [z, w]) (fun _ h => by cases h) rfl rfl
@[simp] theorem vadd_o_int2 (xs : List Int) (z w : Int) : v_add (olE xs) (.d (.list [.int z, .int w])) = if (xs : List Int).length + ([z, w] : List Int).length ≤ 1000000 then some (.d (dlE (xs ++ [z, w]))) else none := vadd_E (α := Int) (xs := xs) (ys := [z, w]) (fun _ h => by cases h) rfl rfl rfl
@[simp] theorem ladd_int2_o (xs : List Int) (z w : Int) : l_add (.d (.list [.int z, .int w])) (olE xs) = if ([z, w] : List Int).length + (xs : List Int).length ≤ 1000000 then some (encs ([z, w] ++ xs)) else none := ladd_E (α := Int) (xs := [z, w]) (ys := xs) rfl rfl
@[simp] theorem oadd_int2_o (xs : List Int) (z w : Int) : o_add (.d (.list [.int z, .int w])) (olE xs) = if ([z, w] : List Int).length + (xs : List Int).length ≤ 1000000 then some (olE ([z, w] ++ xs)) else none := oadd_E (α := Int) (xs := [z, w]) (ys := xs) (fun _ h => by cases h) rfl rfl
@[simp] theorem vadd_int2_o (xs : List Int) (z w : Int) : v_add (.d (.list [.int z, .int w])) (olE xs) = if ([z, w] : List Int).length + (xs : List Int).length ≤ 1000000 then some (.d (dlE ([z, w] ++ xs))) else none := vadd_E (α := Int) (xs := [z, w]) (ys := xs) (fun _ h => by cases h) rfl rfl rfl
@[simp] theorem ladd_o_str (xs : List PySem.Str) (z : PySem.Str) : l_add (olE xs) (.d (.list [.str z])) = if (xs : List PySem.Str).length + ([z] : List PySem.Str).length ≤ 1000000 then some (encs (xs ++ [z])) else none := ladd_E (α := PySem.Str) (xs := xs) (ys := [z]) rfl rfl
@[simp] theorem oadd_o_str (xs : List PySem.Str) (z : PySem.Str) : o_add (olE xs) (.d (.list [.str z])) = if (xs : List PySem.Str).length + ([z] : List PySem.Str).length ≤ 1000000 then some (olE (xs ++ [z])) else none := oadd_E (α := PySem.Str) (xs := xs) (ys := [z]) (fun _ h => by cases h) rfl rfl
@[simp] theorem vadd_o_str (xs : List PySem.Str) (z : PySem.Str) : v_add (olE xs) (.d (.list [.str z])) = if (xs : List PySem.Str).length + ([z] : List PySem.Str).length ≤ 1000000 then some (.d (dlE (xs ++ [z]))) else none := vadd_E (α := PySem.Str) (xs := xs) (ys := [z]) (fun _ h => by cases h) rfl rfl rfl
@[simp] theorem ladd_str_o (xs : List PySem.Str) (z : PySem.Str) : l_add (.d (.list [.str z])) (olE xs) = if ([z] : List PySem.Str).length + (xs : List PySem.Str).length ≤ 1000000 then some (encs ([z] ++ xs)) else none := ladd_E (α := PySem.Str) (xs := [z]) (ys := xs) rfl rfl
@[simp] theorem oadd_str_o (xs : List PySem.Str) (z : PySem.Str) : o_add (.d (.list [.str z])) (olE xs) = if ([z] : List PySem.Str).length + (xs : List PySem.Str).length ≤ 1000000 then some (olE ([z] ++ xs)) else none := oadd_E (α := PySem.Str) (xs := [z]) (ys := xs) (fun _ h => by cases h) rfl rfl
@[simp] theorem vadd_str_o (xs : List PySem.Str) (z : PySem.Str) : v_add (.d (.list [.str z])) (olE xs) = if ([z] : List PySem.Str).length + (xs : List PySem.Str).length ≤ 1000000 then some (.d (dlE ([z] ++ xs))) else none := vadd_E (α := PySem.Str) (xs := [z]) (ys := xs) (fun _ h => by cases h) rfl rfl rfl
@[simp] theorem ladd_o_bool (xs : List Bool) (z : Bool) : l_add (olE xs) (.d (.list [.bool z])) = if (xs : List Bool).length + ([z] : List Bool).length ≤ 1000000 then some (encs (xs ++ [z])) else none := ladd_E (α := Bool) (xs := xs) (ys := [z]) rfl rfl
@[simp] theorem oadd_o_bool (xs : List Bool) (z : Bool) : o_add (olE xs) (.d (.list [.bool z])) = if (xs : List Bool).length + ([z] : List Bool).length ≤ 1000000 then some (olE (xs ++ [z])) else none := oadd_E (α := Bool) (xs := xs) (ys := [z]) (fun _ h => by cases h) rfl rfl
@[simp] theorem vadd_o_bool (xs : List Bool) (z : Bool) : v_add (olE xs) (.d (.list [.bool z])) = if (xs : List Bool).length + ([z] : List Bool).length ≤ 1000000 then some (.d (dlE (xs ++ [z]))) else none := vadd_E (α := Bool) (xs := xs) (ys := [z]) (fun _ h => by cases h) rfl rfl rfl
@[simp] theorem ladd_bool_o (xs : List Bool) (z : Bool) : l_add (.d (.list [.bool z])) (olE xs) = if ([z] : List Bool).length + (xs : List Bool).length ≤ 1000000 then some (encs ([z] ++ xs)) else none := ladd_E (α := Bool) (xs := [z]) (ys := xs) rfl rfl
@[simp] theorem oadd_bool_o (xs : List Bool) (z : Bool) : o_add (.d (.list [.bool z])) (olE xs) = if ([z] : List Bool).length + (xs : List Bool).length ≤ 1000000 then some (olE ([z] ++ xs)) else none := oadd_E (α := Bool) (xs := [z]) (ys := xs) (fun _ h => by cases h) rfl rfl
@[simp] theorem vadd_bool_o (xs : List Bool) (z : Bool) : v_add (.d (.list [.bool z])) (olE xs) = if ([z] : List Bool).length + (xs : List Bool).length ≤ 1000000 then some (.d (dlE ([z] ++ xs))) else none := vadd_E (α := Bool) (xs := [z]) (ys := xs) (fun _ h => by cases h) rfl rfl rfl
@[simp] theorem ladd_o_nil {α : Type} [Enc α] (xs : List α) : l_add (olE xs) (.d (.list [])) = if (xs : List α).length + ([] : List α).length ≤ 1000000 then some (encs (xs ++ [])) else none := ladd_E (α := α) (xs := xs) (ys := []) rfl rfl
@[simp] theorem oadd_o_nil {α : Type} [Enc α] (xs : List α) : o_add (olE xs) (.d (.list [])) = if (xs : List α).length + ([] : List α).length ≤ 1000000 then some (olE (xs ++ [])) else none := oadd_E (α := α) (xs := xs) (ys := []) (fun _ h => by cases h) rfl rfl
@[simp] theorem vadd_o_nil {α : Type} [Enc α] (xs : List α) : v_add (olE xs) (.d (.list [])) = if (xs : List α).length + ([] : List α).length ≤ 1000000 then some (.d (dlE (xs ++ []))) else none := vadd_E (α := α) (xs := xs) (ys := []) (fun _ h => by cases h) rfl rfl rfl
@[simp] theorem ladd_nil_o {α : Type} [Enc α] (xs : List α) : l_add (.d (.list [])) (olE xs) = if ([] : List α).length + (xs : List α).length ≤ 1000000 then some (encs ([] ++ xs)) else none := ladd_E (α := α) (xs := []) (ys := xs) rfl rfl
@[simp] theorem oadd_nil_o {α : Type} [Enc α] (xs : List α) : o_add (.d (.list [])) (olE xs) = if ([] : List α).length + (xs : List α).length ≤ 1000000 then some (olE ([] ++ xs)) else none := oadd_E (α := α) (xs := []) (ys := xs) (fun _ h => by cases h) rfl rfl
@[simp] theorem vadd_nil_o {α : Type} [Enc α] (xs : List α) : v_add (.d (.list [])) (olE xs) = if ([] : List α).length + (xs : List α).length ≤ 1000000 then some (.d (dlE ([] ++ xs))) else none := vadd_E (α := α) (xs := []) (ys := xs) (fun _ h => by cases h) rfl rfl rfl
@[simp] theorem ladd_o_lst {α : Type} [Enc α] (xs : List (List α)) (z : List α) : l_add (olE xs) (.d (.list [dlE z])) = if (xs : List (List α)).length + ([z] : List (List α)).length ≤ 1000000 then some (encs (xs ++ [z])) else none := ladd_E (α := (List α)) (xs := xs) (ys := [z]) rfl rfl
@[simp] theorem oadd_o_lst {α : Type} [Enc α] (xs : List (List α)) (z : List α) : o_add (olE xs) (.d (.list [dlE z])) = if (xs : List (List α)).length + ([z] : List (List α)).length ≤ 1000000 then some (olE (xs ++ [z])) else none := oadd_E (α := (List α)) (xs := xs) (ys := [z]) (fun _ h => by cases h) rfl rfl
@[simp] theorem vadd_o_lst {α : Type} [Enc α] (xs : List (List α)) (z : List α) : v_add (olE xs) (.d (.list [dlE z])) = if (xs : List (List α)).length + ([z] : List (List α)).length ≤ 1000000 then some (.d (dlE (xs ++ [z]))) else none := vadd_E (α := (List α)) (xs := xs) (ys := [z]) (fun _ h => by cases h) rfl rfl rfl
@[simp] theorem ladd_do {α : Type} [Enc α] (xs ys : List α) : l_add (.d (dlE xs)) (olE ys) = if (xs : List α).length + (ys : List α).length ≤ 1000000 then some (encs (xs ++ ys)) else none := ladd_E (α := α) (xs := xs) (ys := ys) rfl rfl
@[simp] theorem oadd_do {α : Type} [Enc α] (xs ys : List α) : o_add (.d (dlE xs)) (olE ys) = if (xs : List α).length + (ys : List α).length ≤ 1000000 then some (olE (xs ++ ys)) else none := oadd_E (α := α) (xs := xs) (ys := ys) (fun _ h => by cases h) rfl rfl
@[simp] theorem vadd_do {α : Type} [Enc α] (xs ys : List α) : v_add (.d (dlE xs)) (olE ys) = if (xs : List α).length + (ys : List α).length ≤ 1000000 then some (.d (dlE (xs ++ ys))) else none := vadd_E (α := α) (xs := xs) (ys := ys) (fun _ h => by cases h) rfl rfl rfl
@[simp] theorem ladd_dd {α : Type} [Enc α] (xs ys : List α) : l_add (.d (dlE xs)) (.d (dlE ys)) = if (xs : List α).length + (ys : List α).length ≤ 1000000 then some (encs (xs ++ ys)) else none := ladd_E (α := α) (xs := xs) (ys := ys) rfl rfl
@[simp] theorem oadd_dd {α : Type} [Enc α] (xs ys : List α) : o_add (.d (dlE xs)) (.d (dlE ys)) = if (xs : List α).length + (ys : List α).length ≤ 1000000 then some (olE (xs ++ ys)) else none := oadd_E (α := α) (xs := xs) (ys := ys) (fun _ h => by cases h) rfl rfl
@[simp] theorem ladd_d_int (xs : List Int) (z : Int) : l_add (.d (dlE xs)) (.d (.list [.int z])) = if (xs : List Int).length + ([z] : List Int).length ≤ 1000000 then some (encs (xs ++ [z])) else none := ladd_E (α := Int) (xs := xs) (ys := [z]) rfl rfl
@[simp] theorem oadd_d_int (xs : List Int) (z : Int) : o_add (.d (dlE xs)) (.d (.list [.int z])) = if (xs : List Int).length + ([z] : List Int).length ≤ 1000000 then some (olE (xs ++ [z])) else none := oadd_E (α := Int) (xs := xs) (ys := [z]) (fun _ h => by cases h) rfl rfl
@[simp] theorem vadd_d_int (xs : List Int) (z : Int) : v_add (.d (dlE xs)) (.d (.list [.int z])) = if (xs : List Int).length + ([z] : List Int).length ≤ 1000000 then some (.d (dlE (xs ++ [z]))) else none := vadd_E (α := Int) (xs := xs) (ys := [z]) (fun _ h => by cases h) rfl rfl rfl
@[simp] theorem ladd_int_d (xs : List Int) (z : Int) : l_add (.d (.list [.int z])) (.d (dlE xs)) = if ([z] : List Int).length + (xs : List Int).length ≤ 1000000 then some (encs ([z] ++ xs)) else none := ladd_E (α := Int) (xs := [z]) (ys := xs) rfl rfl
@[simp] theorem oadd_int_d (xs : List Int) (z : Int) : o_add (.d (.list [.int z])) (.d (dlE xs)) = if ([z] : List Int).length + (xs : List Int).length ≤ 1000000 then some (olE ([z] ++ xs)) else none := oadd_E (α := Int) (xs := [z]) (ys := xs) (fun _ h => by cases h) rfl rfl
@[simp] theorem vadd_int_d (xs : List Int) (z : Int) : v_add (.d (.list [.int z])) (.d (dlE xs)) = if ([z] : List Int).length + (xs : List Int).length ≤ 1000000 then some (.d (dlE ([z] ++ xs))) else none := vadd_E (α := Int) (xs := [z]) (ys := xs) (fun _ h => by cases h) rfl rfl rfl
@[simp] theorem ladd_d_int2 (xs : List Int) (z w : Int) : l_add (.d (dlE xs)) (.d (.list [.int z, .int w])) = if (xs : List Int).length + ([z, w] : List Int).length ≤ 1000000 then some (encs (xs ++ [z, w])) else none := ladd_E (α := Int) (xs := xs) (ys := [z, w]) rfl rfl
@[simp] theorem oadd_d_int2 (xs : List Int) (z w : Int) : o_add (.d (dlE xs)) (.d (.list [.int z, .int w])) = if (xs : List Int).length + ([z, w] : List Int).length ≤ 1000000 then some (olE (xs ++ [z, w])) else none := oadd_E (α := Int) (xs := xs) (ys := [z, w]) (fun _ h => by cases h) rfl rfl
@[simp] theorem vadd_d_int2 (xs : List Int) (z w : Int) : v_add (.d (dlE xs)) (.d (.list [.int z, .int w])) = if (xs : List Int).length + ([z, w] : List Int).length ≤ 1000000 then some (.d (dlE (xs ++ [z, w]))) else none := vadd_E (α := Int) (xs := xs) (ys := [z, w]) (fun _ h => by cases h) rfl rfl rfl
@[simp] theorem ladd_int2_d (xs : List Int) (z w : Int) : l_add (.d (.list [.int z, .int w])) (.d (dlE xs)) = if ([z, w] : List Int).length + (xs : List Int).length ≤ 1000000 then some (encs ([z, w] ++ xs)) else none := ladd_E (α := Int) (xs := [z, w]) (ys := xs) rfl rfl
@[simp] theorem oadd_int2_d (xs : List Int) (z w : Int) : o_add (.d (.list [.int z, .int w])) (.d (dlE xs)) = if ([z, w] : List Int).length + (xs : List Int).length ≤ 1000000 then some (olE ([z, w] ++ xs)) else none := oadd_E (α := Int) (xs := [z, w]) (ys := xs) (fun _ h => by cases h) rfl rfl
@[simp] theorem vadd_int2_d (xs : List Int) (z w : Int) : v_add (.d (.list [.int z, .int w])) (.d (dlE xs)) = if ([z, w] : List Int).length + (xs : List Int).length ≤ 1000000 then some (.d (dlE ([z, w] ++ xs))) else none := vadd_E (α := Int) (xs := [z, w]) (ys := xs) (fun _ h => by cases h) rfl rfl rfl
@[simp] theorem ladd_d_str (xs : List PySem.Str) (z : PySem.Str) : l_add (.d (dlE xs)) (.d (.list [.str z])) = if (xs : List PySem.Str).length + ([z] : List PySem.Str).length ≤ 1000000 then some (encs (xs ++ [z])) else none := ladd_E (α := PySem.Str) (xs := xs) (ys := [z]) rfl rfl
@[simp] theorem oadd_d_str (xs : List PySem.Str) (z : PySem.Str) : o_add (.d (dlE xs)) (.d (.list [.str z])) = if (xs : List PySem.Str).length + ([z] : List PySem.Str).length ≤ 1000000 then some (olE (xs ++ [z])) else none := oadd_E (α := PySem.Str) (xs := xs) (ys := [z]) (fun _ h => by cases h) rfl rfl
@[simp] theorem vadd_d_str (xs : List PySem.Str) (z : PySem.Str) : v_add (.d (dlE xs)) (.d (.list [.str z])) = if (xs : List PySem.Str).length + ([z] : List PySem.Str).length ≤ 1000000 then some (.d (dlE (xs ++ [z]))) else none := vadd_E (α := PySem.Str) (xs := xs) (ys := [z]) (fun _ h => by cases h) rfl rfl rfl
@[simp] theorem ladd_str_d (xs : List PySem.Str) (z : PySem.Str) : l_add (.d (.list [.str z])) (.d (dlE xs)) = if ([z] : List PySem.Str).length + (xs : List PySem.Str).length ≤ 1000000 then some (encs ([z] ++ xs)) else none := ladd_E (α := PySem.Str) (xs := [z]) (ys := xs) rfl rfl
@[simp] theorem oadd_str_d (xs : List PySem.Str) (z : PySem.Str) : o_add (.d (.list [.str z])) (.d (dlE xs)) = if ([z] : List PySem.Str).length + (xs : List PySem.Str).length ≤ 1000000 then some (olE ([z] ++ xs)) else none := oadd_E (α := PySem.Str) (xs := [z]) (ys := xs) (fun _ h => by cases h) rfl rfl
@[simp] theorem vadd_str_d (xs : List PySem.Str) (z : PySem.Str) : v_add (.d (.list [.str z])) (.d (dlE xs)) = if ([z] : List PySem.Str).length + (xs : List PySem.Str).length ≤ 1000000 then some (.d (dlE ([z] ++ xs))) else none := vadd_E (α := PySem.Str) (xs := [z]) (ys := xs) (fun _ h => by cases h) rfl rfl rfl
@[simp] theorem ladd_d_bool (xs : List Bool) (z : Bool) : l_add (.d (dlE xs)) (.d (.list [.bool z])) = if (xs : List Bool).length + ([z] : List Bool).length ≤ 1000000 then some (encs (xs ++ [z])) else none := ladd_E (α := Bool) (xs := xs) (ys := [z]) rfl rfl
@[simp] theorem oadd_d_bool (xs : List Bool) (z : Bool) : o_add (.d (dlE xs)) (.d (.list [.bool z])) = if (xs : List Bool).length + ([z] : List Bool).length ≤ 1000000 then some (olE (xs ++ [z])) else none := oadd_E (α := Bool) (xs := xs) (ys := [z]) (fun _ h => by cases h) rfl rfl
@[simp] theorem vadd_d_bool (xs : List Bool) (z : Bool) : v_add (.d (dlE xs)) (.d (.list [.bool z])) = if (xs : List Bool).length + ([z] : List Bool).length ≤ 1000000 then some (.d (dlE (xs ++ [z]))) else none := vadd_E (α := Bool) (xs := xs) (ys := [z]) (fun _ h => by cases h) rfl rfl rfl
@[simp] theorem ladd_bool_d (xs : List Bool) (z : Bool) : l_add (.d (.list [.bool z])) (.d (dlE xs)) = if ([z] : List Bool).length + (xs : List Bool).length ≤ 1000000 then some (encs ([z] ++ xs)) else none := ladd_E (α := Bool) (xs := [z]) (ys := xs) rfl rfl
@[simp] theorem oadd_bool_d (xs : List Bool) (z : Bool) : o_add (.d (.list [.bool z])) (.d (dlE xs)) = if ([z] : List Bool).length + (xs : List Bool).length ≤ 1000000 then some (olE ([z] ++ xs)) else none := oadd_E (α := Bool) (xs := [z]) (ys := xs) (fun _ h => by cases h) rfl rfl
@[simp] theorem vadd_bool_d (xs : List Bool) (z : Bool) : v_add (.d (.list [.bool z])) (.d (dlE xs)) = if ([z] : List Bool).length + (xs : List Bool).length ≤ 1000000 then some (.d (dlE ([z] ++ xs))) else none := vadd_E (α := Bool) (xs := [z]) (ys := xs) (fun _ h => by cases h) rfl rfl rfl
@[simp] theorem ladd_d_nil {α : Type} [Enc α] (xs : List α) : l_add (.d (dlE xs)) (.d (.list [])) = if (xs : List α).length + ([] : List α).length ≤ 1000000 then some (encs (xs ++ [])) else none := ladd_E (α := α) (xs := xs) (ys := []) rfl rfl
@[simp] theorem oadd_d_nil {α : Type} [Enc α] (xs : List α) : o_add (.d (dlE xs)) (.d (.list [])) = if (xs : List α).length + ([] : List α).length ≤ 1000000 then some (olE (xs ++ [])) else none := oadd_E (α := α) (xs := xs) (ys := []) (fun _ h => by cases h) rfl rfl
@[simp] theorem vadd_d_nil {α : Type} [Enc α] (xs : List α) : v_add (.d (dlE xs)) (.d (.list [])) = if (xs : List α).length + ([] : List α).length ≤ 1000000 then some (.d (dlE (xs ++ []))) else none := vadd_E (α := α) (xs := xs) (ys := []) (fun _ h => by cases h) rfl rfl rfl
@[simp] theorem ladd_nil_d {α : Type} [Enc α] (xs : List α) : l_add (.d (.list [])) (.d (dlE xs)) = if ([] : List α).length + (xs : List α).length ≤ 1000000 then some (encs ([] ++ xs)) else none := ladd_E (α := α) (xs := []) (ys := xs) rfl rfl
@[simp] theorem oadd_nil_d {α : Type} [Enc α] (xs : List α) : o_add (.d (.list [])) (.d (dlE xs)) = if ([] : List α).length + (xs : List α).length ≤ 1000000 then some (olE ([] ++ xs)) else none := oadd_E (α := α) (xs := []) (ys := xs) (fun _ h => by cases h) rfl rfl
@[simp] theorem vadd_nil_d {α : Type} [Enc α] (xs : List α) : v_add (.d (.list [])) (.d (dlE xs)) = if ([] : List α).length + (xs : List α).length ≤ 1000000 then some (.d (dlE ([] ++ xs))) else none := vadd_E (α := α) (xs := []) (ys := xs) (fun _ h => by cases h) rfl rfl rfl
@[simp] theorem ladd_d_lst {α : Type} [Enc α] (xs : List (List α)) (z : List α) : l_add (.d (dlE xs)) (.d (.list [dlE z])) = if (xs : List (List α)).length + ([z] : List (List α)).length ≤ 1000000 then some (encs (xs ++ [z])) else none := ladd_E (α := (List α)) (xs := xs) (ys := [z]) rfl rfl
@[simp] theorem oadd_d_lst {α : Type} [Enc α] (xs : List (List α)) (z : List α) : o_add (.d (dlE xs)) (.d (.list [dlE z])) = if (xs : List (List α)).length + ([z] : List (List α)).length ≤ 1000000 then some (olE (xs ++ [z])) else none := oadd_E (α := (List α)) (xs := xs) (ys := [z]) (fun _ h => by cases h) rfl rfl
@[simp] theorem vadd_d_lst {α : Type} [Enc α] (xs : List (List α)) (z : List α) : v_add (.d (dlE xs)) (.d (.list [dlE z])) = if (xs : List (List α)).length + ([z] : List (List α)).length ≤ 1000000 then some (.d (dlE (xs ++ [z]))) else none := vadd_E (α := (List α)) (xs := xs) (ys := [z]) (fun _ h => by cases h) rfl rfl rfl

/-! ### lists of owned things -/
theorem lcF_mapO {α : Type} [Enc α] (F : α → O) {vs : List Nat} {g : O → M Unit} {t : M Bool} {f : M O} {ρ : EV.Env} (xs : List α)
    (hs : ∀ x ∈ xs, ∀ (acc : List O) (k : List O → EV.Env → R (List O)), acc.length < 1000000 → lcS vs g t f (Enc.enc x) ρ acc k = k (acc ++ [F x]) ρ)
    (hb : xs.length < 1000000) : lcF vs g t f (xs.map Enc.enc) [] ρ = .ok (xs.map F) ρ := by
  have gen : ∀ (xs : List α) (acc : List O), (∀ x ∈ xs, ∀ (acc : List O) (k : List O → EV.Env → R (List O)), acc.length < 1000000 → lcS vs g t f (Enc.enc x) ρ acc k = k (acc ++ [F x]) ρ) → acc.length + xs.length < 1000000 → lcF vs g t f (xs.map Enc.enc) acc ρ = .ok (acc ++ xs.map F) ρ := by
    intro xs
    induction xs with
    | nil => intro acc _ _; simp
    | cons x xs ih =>
      intro acc hs hb
      rw [List.length_cons] at hb
      rw [List.map_cons, lcF_consS, hs x (.head _) _ _ (by omega), ih _ (fun z q => hs z (.tail _ q)) (by rw [List.length_append, List.length_singleton]; omega)]
      simp
  rw [gen xs [] hs (by simpa using hb), List.nil_append]
theorem frzL_mapO {α : Type} {F : α → O} {G : α → D} : ∀ {xs : List α}, (∀ x ∈ xs, frz (F x) = some (G x)) → frzL (xs.map F) = some (xs.map G)
  | [], _ => rfl
  | x :: xs, h => by
    rw [List.map_cons, frzL, h x (.head _), frzL_mapO (xs := xs) fun y q => h y (.tail _ q)]
    rfl
theorem frzL_app : ∀ {xs ys : List O} {ds es : List D}, frzL xs = some ds → frzL ys = some es → frzL (xs ++ ys) = some (ds ++ es)
  | [], ys, ds, es, h1, h2 => by cases h1; exact h2
  | x :: xs, ys, ds, es, h1, h2 => by
    rw [frzL] at h1
    cases e1 : frz x with
    | none => rw [e1] at h1; cases h1
    | some d =>
      rw [e1] at h1
      cases e2 : frzL xs with
      | none => rw [e2] at h1; cases h1
      | some r =>
        rw [e2] at h1
        cases h1
        rw [List.cons_append, frzL, e1, frzL_app e2 h2]
        rfl
theorem oadd_dl_lst {α : Type} [Enc α] (xs : List α) (zs : List O) : o_add (.d (dlE xs)) (.lst zs) = if xs.length + zs.length ≤ 1000000 then some (.lst (osE xs ++ zs)) else none := by
  have : o_add (.d (dlE xs)) (.lst zs) = o_addS (.d (dlE xs)) (.lst zs) := by
    unfold o_add
    split
    · rename_i h _; cases h
    · rfl
  rw [this]
  unfold o_addS
  show (if ((xs.map Enc.enc).map O.d).length + zs.length ≤ 1000000 then _ else _) = _
  rw [List.length_map, List.length_map]
  rfl
theorem frzL_osE {α : Type} [Enc α] (xs : List α) : frzL (osE xs) = some (xs.map Enc.enc) := frzL_mapd _
end Ev
end EV

/-! Sorting, texts. -/
namespace EV
open PySem PySem.Spec PyProof.Rows L2 EV.Ev
theorem toks_int (a : Int) : PySem.W.keyToks (.int a) = [.inl a] := by rw [PySem.W.keyToks] <;> simp
theorem leD_int (a b : Int) : leD (.int a) (.int b) = decide (a ≤ b) := by
  show (!PyProof.Rows.lexLt itemOrd (PySem.W.keyToks (.int b)) (PySem.W.keyToks (.int a))) = _
  rw [toks_int, toks_int]
  show (!(decide (b < a) || (!decide (a < b) && false))) = _
  by_cases h : a ≤ b
  · have : ¬ b < a := by omega
    simp [h, this]
  · have : b < a := by omega
    simp [h, this]
def sortI (xs : List Int) : List Int := isort (fun a b => decide (a ≤ b)) xs
theorem sortD_ints (xs : List Int) : sortD (xs.map PyData.int) = (sortI xs).map PyData.int := by
  unfold sortD sortI
  rw [isort_map (fun a b => (leD_int a b).symm)]
theorem sortOk_ints (xs : List Int) (h : xs.length ≤ 1000000) : sortOk (xs.map PyData.int) = true := by
  unfold sortOk
  simp only [Bool.and_eq_true, Bool.or_eq_true, List.all_eq_true, decide_eq_true_eq, List.mem_map, List.length_map]
  refine ⟨⟨⟨?_, .inr ?_⟩, ?_⟩, h⟩
  · rintro _ ⟨a, _, rfl⟩ _ ⟨b, _, rfl⟩; rfl
  · rintro _ ⟨a, _, rfl⟩; rfl
  · rintro _ ⟨a, _, rfl⟩; rw [depth_int]; omega
namespace Ev
@[simp] theorem sorted_olI (xs : List Int) : l_sorted [olE xs] = if xs.length ≤ 1000000 then some (encs (sortI xs)) else none := by
  show (listD (olE xs)).bind (fun ds => if sortOk ds then some (sortD ds) else none) = _
  rw [listD_olE, Option.bind_some]
  show (if sortOk (xs.map PyData.int) = true then some (sortD (xs.map PyData.int)) else none) = _
  by_cases h : xs.length ≤ 1000000
  · rw [if_pos (sortOk_ints xs h), if_pos h, sortD_ints]; rfl
  · rw [if_neg h, if_neg]
    intro q
    exact h (by have := (sortOk_spec q).2.2.2; simpa using this)
@[simp] theorem sorted_dlI (xs : List Int) : l_sorted [.d (dlE xs)] = if xs.length ≤ 1000000 then some (encs (sortI xs)) else none := by
  rw [← sorted_olI]
  rfl
end Ev
theorem ins_mem (a x : Int) : ∀ xs : List Int, x ∈ ins (fun a b => decide (a ≤ b)) a xs ↔ x = a ∨ x ∈ xs
  | [] => by simp [ins]
  | b :: r => by
    rw [ins]
    split
    · simp
    · rw [List.mem_cons, ins_mem a x r, List.mem_cons]
      constructor
      · rintro (h | h | h); exact .inr (.inl h); exact .inl h; exact .inr (.inr h)
      · rintro (h | h | h); exact .inr (.inl h); exact .inl h; exact .inr (.inr h)
theorem sortI_mem (x : Int) : ∀ xs : List Int, x ∈ sortI xs ↔ x ∈ xs
  | [] => by simp [sortI, isort]
  | a :: r => by
    have := sortI_mem x r
    unfold sortI at this ⊢
    rw [isort, ins_mem, this, List.mem_cons]
/-- ascending -/
def Asc (xs : List Int) : Prop := xs.Pairwise (· < ·)
theorem ins_pw (a : Int) : ∀ xs : List Int, xs.Pairwise (· ≤ ·) → (ins (fun a b => decide (a ≤ b)) a xs).Pairwise (· ≤ ·)
  | [], _ => by simp [ins]
  | b :: r, h => by
    rw [List.pairwise_cons] at h
    rw [ins]
    split
    · rename_i q
      have q := of_decide_eq_true q
      rw [List.pairwise_cons, List.pairwise_cons]
      refine ⟨fun x hx => ?_, h⟩
      rcases List.mem_cons.mp hx with rfl | hx
      · exact q
      · exact Int.le_trans q (h.1 x hx)
    · rename_i q
      have q : b < a := by simpa using q
      rw [List.pairwise_cons]
      refine ⟨fun x hx => ?_, ins_pw a r h.2⟩
      rcases (ins_mem a x r).mp hx with rfl | hx
      · omega
      · exact h.1 x hx
theorem sortI_pw : ∀ xs : List Int, (sortI xs).Pairwise (· ≤ ·)
  | [] => by simp [sortI, isort]
  | a :: r => by
    have := sortI_pw r
    unfold sortI at this ⊢
    rw [isort]
    exact ins_pw a _ this
theorem ins_count (a x : Int) : ∀ xs : List Int, (ins (fun a b => decide (a ≤ b)) a xs).count x = (a :: xs).count x
  | [] => rfl
  | b :: r => by
    rw [ins]
    split
    · rfl
    · rw [List.count_cons, ins_count a x r]
      simp only [List.count_cons]
      omega
theorem sortI_count (x : Int) : ∀ xs : List Int, (sortI xs).count x = xs.count x
  | [] => rfl
  | a :: r => by
    have := sortI_count x r
    unfold sortI at this ⊢
    rw [isort, ins_count, List.count_cons, List.count_cons, this]
/-- two ascending lists with the same members -/
theorem asc_extI : ∀ {xs ys : List Int}, Asc xs → Asc ys → (∀ x, x ∈ xs ↔ x ∈ ys) → xs = ys
  | [], [], _, _, _ => rfl
  | [], y :: ys, _, _, h => by have := (h y).mpr (.head _); cases this
  | x :: xs, [], _, _, h => by have := (h x).mp (.head _); cases this
  | x :: xs, y :: ys, h1, h2, h => by
    have h1' := List.pairwise_cons.mp h1
    have h2' := List.pairwise_cons.mp h2
    have e : x = y := by
      rcases List.mem_cons.mp ((h x).mp (.head _)) with q | q
      · exact q
      · rcases List.mem_cons.mp ((h y).mpr (.head _)) with q2 | q2
        · exact q2.symm
        · have a := h2'.1 x q
          have b := h1'.1 y q2
          omega
    subst e
    congr 1
    refine asc_extI h1'.2 h2'.2 fun z => ?_
    constructor
    · intro q
      rcases List.mem_cons.mp ((h z).mp (.tail _ q)) with rfl | q2
      · have := h1'.1 z q; omega
      · exact q2
    · intro q
      rcases List.mem_cons.mp ((h z).mpr (.tail _ q)) with rfl | q2
      · have := h2'.1 z q; omega
      · exact q2
theorem sortI_asc {xs : List Int} (h : xs.Nodup) : Asc (sortI xs) := by
  have h1 := sortI_pw xs
  have h2 : (sortI xs).Nodup := by
    rw [List.nodup_iff_count] at h ⊢
    intro a
    rw [sortI_count]
    exact h a
  unfold Asc
  have := List.pairwise_and_iff.mpr ⟨h1, h2⟩
  exact this.imp fun ⟨a, b⟩ => by omega
theorem ofString_len (s : String) : (PySem.Str.ofString s).length = s.toList.length := by
  rw [PySem.Str.ofString_eq_toList]
  show (s.toList.map Char.toNat).toArray.size = _
  simp
theorem natRepr_len (n : Nat) (h : n < 10 ^ 40) : n.repr.toList.length ≤ 40 := by
  have := toDigits_len_pow (b := 10) (k := 40) (n := n) (by decide) (by decide) h
  unfold Nat.repr
  simpa using this
theorem int_short (i : Int) (h : i.natAbs < 10 ^ 40) : (PyData.shown (.int i)).length ≤ 42 := by
  rw [PyData.shown]
  show (PySem.Str.ofString (toString i)).length ≤ 42
  rw [ofString_len]
  cases i with
  | ofNat n =>
    have := natRepr_len n h
    show (n.repr).toList.length ≤ 42
    omega
  | negSucc n =>
    have := natRepr_len (n + 1) h
    show ("-" ++ (n + 1).repr).toList.length ≤ 42
    rw [String.toList_append, List.length_append]
    have : "-".toList.length = 1 := rfl
    omega
/-- data that can be told as a text of a bounded length -/
structure Rp (k w : Nat) (d : D) : Prop where
  plain : d.plain = true
  show_ : d.showable = true
  short : d.leavesShort 42 = true
  bulk : d.bulk ≤ w
  depth : d.depth ≤ k
theorem Rp.le {k w k2 w2 : Nat} {d : D} (h : Rp k w d) (h1 : k ≤ k2) (h2 : w ≤ w2) : Rp k2 w2 d := ⟨h.1, h.2, h.3, Nat.le_trans h.4 h2, Nat.le_trans h.5 h1⟩
theorem Rp.none : Rp 0 0 .none := ⟨by simp [PyData.plain], by simp [PyData.showable], by simp [PyData.leavesShort], by simp [PyData.bulk], by simp [PyData.depth]⟩
theorem Rp.bool (b : Bool) : Rp 0 0 (.bool b) := ⟨by simp [PyData.plain], by simp [PyData.showable], by simp [PyData.leavesShort], by simp [PyData.bulk], by simp [PyData.depth]⟩
theorem Rp.int {i : Int} (h : i.natAbs < 10 ^ 40) : Rp 0 0 (.int i) := ⟨by simp [PyData.plain], by
  simp only [PyData.showable, decide_eq_true_eq]
  have : i.natAbs.log2 < 200 := by
    by_cases z : i.natAbs = 0
    · rw [z]; decide
    · exact (Nat.log2_lt z).mpr (Nat.lt_trans h (by decide))
  omega, by simp only [PyData.leavesShort, decide_eq_true_eq]; exact int_short i h, by simp [PyData.bulk], by simp [PyData.depth]⟩
theorem Rp.str {x : PySem.Str} {w : Nat} (h : ∀ c ∈ x.cps.toList, c < 16 ^ 8) (hw : x.cps.size ≤ w) : Rp 0 w (.str x) := ⟨by simp [PyData.plain], by simp [PyData.showable], by
  simp only [PyData.leavesShort, List.all_eq_true, decide_eq_true_eq]; exact h, by simpa [PyData.bulk] using hw, by simp [PyData.depth]⟩
theorem RpAll {k w : Nat} : ∀ {xs : List D}, (∀ x ∈ xs, Rp k w x) → PyData.plainAll xs = true ∧ PyData.showableAll xs = true ∧ PyData.leavesShortAll 42 xs = true ∧ PyData.bulkAll xs ≤ xs.length * (w + 1) ∧ PyData.depthAll xs ≤ k
  | [], _ => by simp [PyData.plainAll, PyData.showableAll, PyData.leavesShortAll, PyData.bulkAll, PyData.depthAll]
  | x :: xs, h => by
    have h1 := h x (.head _)
    obtain ⟨a, b, c, d, e⟩ := RpAll (xs := xs) fun y q => h y (.tail _ q)
    have h4 := h1.4
    have h5 := h1.5
    refine ⟨by simp [PyData.plainAll, h1.1, a], by simp [PyData.showableAll, h1.2, b], by simp [PyData.leavesShortAll, h1.3, c], ?_, ?_⟩
    · rw [PyData.bulkAll, List.length_cons, Nat.add_mul, Nat.one_mul]; omega
    · rw [PyData.depthAll]; omega
theorem Rp.tuple {k w n : Nat} {xs : List D} (h : ∀ x ∈ xs, Rp k w x) (hn : xs.length ≤ n) : Rp (k + 1) (n * (w + 1)) (.tuple xs) := by
  obtain ⟨a, b, c, d, e⟩ := RpAll h
  have := Nat.mul_le_mul_right (w + 1) hn
  exact ⟨by rw [PyData.plain]; exact a, by rw [PyData.showable]; exact b, by rw [PyData.leavesShort]; exact c, by rw [PyData.bulk]; omega, by rw [PyData.depth]; omega⟩
theorem Rp.list {k w n : Nat} {xs : List D} (h : ∀ x ∈ xs, Rp k w x) (hn : xs.length ≤ n) : Rp (k + 1) (n * (w + 1)) (.list xs) := by
  obtain ⟨a, b, c, d, e⟩ := RpAll h
  have := Nat.mul_le_mul_right (w + 1) hn
  exact ⟨by rw [PyData.plain]; exact a, by rw [PyData.showable]; exact b, by rw [PyData.leavesShort]; exact c, by rw [PyData.bulk]; omega, by rw [PyData.depth]; omega⟩
theorem repr_ok {k w : Nat} {d : D} {o : O} (h : Rp k w d) (ho : rdO o = some d) (hk : k ≤ 64) (hw : w ≤ 20000) (hs : isSeqD d = true) : g_repr [o] = some (.d (.str d.shown)) := by
  have hl := PyData.shown_le_bulk 42 (by decide) d h.short
  have := h.bulk
  have h5 := h.depth
  have e : (42 + 2) * d.bulk ≤ 44 * 20000 := Nat.mul_le_mul (by decide) (by omega)
  unfold g_repr
  simp only [ho]
  rw [if_pos]
  simp only [Bool.and_eq_true, decide_eq_true_eq]
  exact ⟨⟨⟨⟨h.plain, h.show_⟩, by omega⟩, by omega⟩, hs⟩

namespace Ev
@[simp] theorem is_none_none : o_is (.d .none) (.d .none) = some (.d (.bool true)) := rfl
@[simp] theorem isn_none_none : o_isn (.d .none) (.d .none) = some (.d (.bool false)) := rfl
theorem kis_none : kitAnyB "NoneType" ["int", "str"] = some false := by decide +kernel
@[simp] theorem isiT_is_none : isiT ["int", "str"] (.d .none) = some (.d (.bool false)) := by
  show ((some "NoneType").bind fun t => (kitAnyB t ["int", "str"]).map fun b => O.d (.bool b)) = _
  rw [Option.bind_some, kis_none]
  rfl
@[simp] theorem is_bool_none (b : Bool) : o_is (.d (.bool b)) (.d .none) = some (.d (.bool false)) := rfl
@[simp] theorem isn_bool_none (b : Bool) : o_isn (.d (.bool b)) (.d .none) = some (.d (.bool true)) := rfl
theorem kis_bool : kitAnyB "bool" ["int", "str"] = some true := by decide +kernel
@[simp] theorem isiT_is_bool (b : Bool) : isiT ["int", "str"] (.d (.bool b)) = some (.d (.bool true)) := by
  show ((some "bool").bind fun t => (kitAnyB t ["int", "str"]).map fun b => O.d (.bool b)) = _
  rw [Option.bind_some, kis_bool]
  rfl
@[simp] theorem is_int_none (i : Int) : o_is (.d (.int i)) (.d .none) = some (.d (.bool false)) := rfl
@[simp] theorem isn_int_none (i : Int) : o_isn (.d (.int i)) (.d .none) = some (.d (.bool true)) := rfl
theorem kis_int : kitAnyB "int" ["int", "str"] = some true := by decide +kernel
@[simp] theorem isiT_is_int (i : Int) : isiT ["int", "str"] (.d (.int i)) = some (.d (.bool true)) := by
  show ((some "int").bind fun t => (kitAnyB t ["int", "str"]).map fun b => O.d (.bool b)) = _
  rw [Option.bind_some, kis_int]
  rfl
@[simp] theorem is_str_none (s : PySem.Str) : o_is (.d (.str s)) (.d .none) = some (.d (.bool false)) := rfl
@[simp] theorem isn_str_none (s : PySem.Str) : o_isn (.d (.str s)) (.d .none) = some (.d (.bool true)) := rfl
theorem kis_str : kitAnyB "str" ["int", "str"] = some true := by decide +kernel
@[simp] theorem isiT_is_str (s : PySem.Str) : isiT ["int", "str"] (.d (.str s)) = some (.d (.bool true)) := by
  show ((some "str").bind fun t => (kitAnyB t ["int", "str"]).map fun b => O.d (.bool b)) = _
  rw [Option.bind_some, kis_str]
  rfl
@[simp] theorem is_list_none (xs : List D) : o_is (.d (.list xs)) (.d .none) = some (.d (.bool false)) := rfl
@[simp] theorem isn_list_none (xs : List D) : o_isn (.d (.list xs)) (.d .none) = some (.d (.bool true)) := rfl
theorem kis_list : kitAnyB "list" ["int", "str"] = some false := by decide +kernel
@[simp] theorem isiT_is_list (xs : List D) : isiT ["int", "str"] (.d (.list xs)) = some (.d (.bool false)) := by
  show ((some "list").bind fun t => (kitAnyB t ["int", "str"]).map fun b => O.d (.bool b)) = _
  rw [Option.bind_some, kis_list]
  rfl
@[simp] theorem is_tuple_none (xs : List D) : o_is (.d (.tuple xs)) (.d .none) = some (.d (.bool false)) := rfl
@[simp] theorem isn_tuple_none (xs : List D) : o_isn (.d (.tuple xs)) (.d .none) = some (.d (.bool true)) := rfl
theorem kis_tuple : kitAnyB "tuple" ["int", "str"] = some false := by decide +kernel
@[simp] theorem isiT_is_tuple (xs : List D) : isiT ["int", "str"] (.d (.tuple xs)) = some (.d (.bool false)) := by
  show ((some "tuple").bind fun t => (kitAnyB t ["int", "str"]).map fun b => O.d (.bool b)) = _
  rw [Option.bind_some, kis_tuple]
  rfl
@[simp] theorem is_dlE_none {α : Type} [Enc α] (xs : List α) : o_is (.d (dlE xs)) (.d .none) = some (.d (.bool false)) := rfl
@[simp] theorem is_tpE_none {α : Type} [Enc α] (xs : List α) : o_is (.d (tpE xs)) (.d .none) = some (.d (.bool false)) := rfl
@[simp] theorem is_olE_none {α : Type} [Enc α] (xs : List α) : o_is (olE xs) (.d .none) = some (.d (.bool false)) := rfl
@[simp] theorem isn_dlE_none {α : Type} [Enc α] (xs : List α) : o_isn (.d (dlE xs)) (.d .none) = some (.d (.bool true)) := rfl
@[simp] theorem isn_tpE_none {α : Type} [Enc α] (xs : List α) : o_isn (.d (tpE xs)) (.d .none) = some (.d (.bool true)) := rfl
@[simp] theorem isn_olE_none {α : Type} [Enc α] (xs : List α) : o_isn (olE xs) (.d .none) = some (.d (.bool true)) := rfl
@[simp] theorem eq_b (i j : Bool) : o_eq (.d (.bool i)) (.d (.bool j)) = some (.d (.bool (decide (i = j)))) := by
  unfold o_eq o_eqB
  rw [rdO_d, rdO_d]
  rfl
@[simp] theorem ne_b (i j : Bool) : o_ne (.d (.bool i)) (.d (.bool j)) = some (.d (.bool (!decide (i = j)))) := by
  unfold o_ne o_eqB
  rw [rdO_d, rdO_d]
  rfl
theorem lcF_mapG {α β : Type} [Enc β] (mk : α → D) (F : α → β) {vs : List Nat} {g : O → M Unit} {t : M Bool} {f : M O} {ρ : EV.Env} (xs : List α)
    (hs : ∀ x ∈ xs, ∀ (acc : List O) (k : List O → EV.Env → R (List O)), acc.length < 1000000 → lcS vs g t f (mk x) ρ acc k = k (acc ++ [.d (Enc.enc (F x))]) ρ)
    (hb : xs.length < 1000000) : lcF vs g t f (xs.map mk) [] ρ = .ok (osE (xs.map F)) ρ := by
  have gen : ∀ (xs : List α) (acc : List O), (∀ x ∈ xs, ∀ (acc : List O) (k : List O → EV.Env → R (List O)), acc.length < 1000000 → lcS vs g t f (mk x) ρ acc k = k (acc ++ [.d (Enc.enc (F x))]) ρ) → acc.length + xs.length < 1000000 → lcF vs g t f (xs.map mk) acc ρ = .ok (acc ++ osE (xs.map F)) ρ := by
    intro xs
    induction xs with
    | nil => intro acc _ _; simp [osE]
    | cons x xs ih =>
      intro acc hs hb
      rw [List.length_cons] at hb
      rw [List.map_cons, lcF_consS, hs x (.head _) _ _ (by omega), ih _ (fun z q => hs z (.tail _ q)) (by rw [List.length_append, List.length_singleton]; omega)]
      simp [osE]
  rw [gen xs [] hs (by simpa using hb), List.nil_append]
theorem zips_self (xs : List D) : Wk.zips xs xs = xs.map fun x => PyData.tuple [x, x] := by
  unfold Wk.zips
  induction xs with
  | nil => rfl
  | cons x r ih => rw [List.zip_cons_cons, List.map_cons, List.map_cons, ih]
/-- what the laws' own comparison looks through in so many steps -/
inductive Sm : Nat → D → Prop
  | none (n : Nat) : Sm (n + 1) .none
  | bool (n : Nat) (b : Bool) : Sm (n + 1) (.bool b)
  | int (n : Nat) (i : Int) : Sm (n + 1) (.int i)
  | str (n : Nat) (s : PySem.Str) : Sm (n + 1) (.str s)
  | list {n : Nat} {xs : List D} : (∀ x ∈ xs, Sm n x) → xs.length < 1000000 → Sm (n + 1) (.list xs)
  | tuple {n : Nat} {xs : List D} : (∀ x ∈ xs, Sm n x) → xs.length < 1000000 → Sm (n + 1) (.tuple xs)
end Ev

namespace Ev
@[simp] theorem frz_tup (xs : List O) : frz (.tup xs) = (frzL xs).map .tuple := by rw [frz]
@[simp] theorem frzArgs_tup (xs : List O) (r : List O) : frzArgs (.tup xs :: r) = (frzL xs).bind fun ds => (frzArgs r).map (.d (.tuple ds) :: ·) := by
  rw [frzArgs]
  show (match (frz (.tup xs)).map O.d, frzArgs r with | some x, some xs => some (x :: xs) | _, _ => none) = _
  rw [frz_tup]
  cases frzL xs <;> cases frzArgs r <;> rfl
def mvvK (pl : Pl) (T : String) (g : O → List D → Option (D × O)) (ρ : EV.Env) : Option O → Option (List D) → R O
  | some o, some ds => if tyP T o then muP pl ρ (g o ds) else .stuck
  | _, _ => .stuck
where muP (pl : Pl) (ρ : EV.Env) : Option (D × O) → R O
  | some (res, o') => .ok (.d res) (pl.set o' ρ)
  | none => .stuck
@[simp] theorem muP_some (pl : Pl) (ρ : EV.Env) (res : D) (o' : O) : mvvK.muP pl ρ (some (res, o')) = .ok (.d res) (pl.set o' ρ) := rfl
@[simp] theorem mvvK_some (pl : Pl) (T : String) (g : O → List D → Option (D × O)) (ρ : EV.Env) (o : O) (ds : List D) : mvvK pl T g ρ (some o) (some ds) = if tyP T o = true then mvvK.muP pl ρ (g o ds) else .stuck := rfl
@[simp] theorem mutV_ap (pl : Pl) (T : String) (g : O → List D → Option (D × O)) (fs : EV.Env → Option (List O)) (ρ : EV.Env) : E.mutV pl T g fs ρ = mvvK pl T g ρ (pl.get ρ) ((fs ρ).bind allD) := by
  unfold E.mutV
  cases pl.get ρ with
  | none => rfl
  | some o =>
    cases (fs ρ).bind allD with
    | none => rfl
    | some ds =>
      simp only [mvvK_some]
      split
      · cases g o ds <;> rfl
      · rfl
def itK (n : Nat) : Option O → Option O
  | some (.tup xs) => varK (xs[n]?)
  | _ => none
@[simp] theorem itK_tup (n : Nat) (xs : List O) : itK n (some (.tup xs)) = varK (xs[n]?) := rfl
@[simp] theorem get_item (i n : Nat) (ρ : EV.Env) : (Pl.item i n).get ρ = itK n (ρ[i]?) := by
  show (match ρ[i]? with
    | some (.tup xs) => (match xs[n]? with
      | some .un => none
      | o => o)
    | _ => none) = _
  cases ρ[i]? with
  | none => rfl
  | some o => cases o <;> rfl
def isK (i n : Nat) (o : O) (ρ : EV.Env) : Option O → EV.Env
  | some (.tup xs) => ρ.set i (.tup (xs.set n o))
  | _ => ρ
@[simp] theorem isK_tup (i n : Nat) (o : O) (ρ : EV.Env) (xs : List O) : isK i n o ρ (some (.tup xs)) = ρ.set i (.tup (xs.set n o)) := rfl
@[simp] theorem set_item (i n : Nat) (o : O) (ρ : EV.Env) : (Pl.item i n).set o ρ = isK i n o ρ (ρ[i]?) := by
  show (match ρ[i]? with
    | some (.tup xs) => ρ.set i (.tup (xs.set n o))
    | _ => ρ) = _
  cases ρ[i]? with
  | none => rfl
  | some o => cases o <;> rfl
@[simp] theorem tyP_lst (xs : List O) : tyP "list" (.lst xs) = true := rfl
@[simp] theorem tyP_olE {α : Type} [Enc α] (xs : List α) : tyP "list" (olE xs) = true := rfl
@[simp] theorem append_none {α : Type} [Enc α] (xs : List α) : m_append (olE xs) [.none] = if xs.length < 1000000 then some (.none, .lst (osE xs ++ [.d .none])) else none := by
  unfold olE
  rw [append_ol, List.length_map, List.map_append]
  rfl
@[simp] theorem ix_tup (xs : List O) (i : Int) : o_ix (.tup xs) (.d (.int i)) = pyIx xs i := by
  show atI xs i = _
  rw [atI_py]
theorem cutD_map {α β : Type} (f : α → β) (xs : List α) (lo hi : Option Int) : cutD (xs.map f) lo hi = (cutD xs lo hi).map f := by
  unfold cutD
  rw [List.length_map, List.map_take, List.map_drop]
@[simp] theorem sview_olE {α : Type} [Enc α] (xs : List α) (lo hi : Option Int) : s_view (olE xs) lo hi = some (.d (dlE (cutD xs lo hi))) := by
  unfold s_view s_list
  rw [listD_olE, Option.map_some, cutD_map]
  rfl
@[simp] theorem sview_dlE {α : Type} [Enc α] (xs : List α) (lo hi : Option Int) : s_view (.d (dlE xs)) lo hi = some (.d (dlE (cutD xs lo hi))) := by
  unfold s_view s_list
  rw [show listD (.d (dlE xs)) = some (xs.map Enc.enc) from allD_mapd _, Option.map_some, cutD_map]
  rfl
@[simp] theorem snew_olE {α : Type} [Enc α] (xs : List α) (lo hi : Option Int) : s_new (olE xs) lo hi = some (olE (cutD xs lo hi)) := by
  unfold s_new s_list
  rw [listD_olE, Option.map_some, cutD_map]
  rfl
@[simp] theorem snew_dlE {α : Type} [Enc α] (xs : List α) (lo hi : Option Int) : s_new (.d (dlE xs)) lo hi = some (olE (cutD xs lo hi)) := by
  unfold s_new s_list
  rw [show listD (.d (dlE xs)) = some (xs.map Enc.enc) from allD_mapd _, Option.map_some, cutD_map]
  rfl
@[simp] theorem sview_tpE {α : Type} [Enc α] (xs : List α) (lo hi : Option Int) : s_view (.d (tpE xs)) lo hi = some (.d (tpE (cutD xs lo hi))) := by
  unfold s_view s_list
  rw [show listD (.d (tpE xs)) = none from rfl, Option.map_none]
  show ((allD ((xs.map Enc.enc).map O.d)).map fun ds => O.d (.tuple (cutD ds lo hi))) = _
  rw [allD_mapd, Option.map_some, cutD_map]
  rfl
@[simp] theorem eq_ints_none (xs : List Int) : o_eq (.d (dlE xs)) (.d (.list [.none])) = some (.d (.bool false)) := by
  unfold o_eq o_eqB
  rw [rdO_d, rdO_d, Option.bind_some, Option.bind_some, eqD_plain (by rw [dlE, PyData.plain]; exact plain_map xs) (by simp [PyData.plain, PyData.plainAll]) (by simp [PyData.depth, PyData.depthAll]; omega), dlE, PyData.eqv]
  cases xs with
  | nil => simp [PyData.eqvAll]
  | cons x r => simp [PyData.eqvAll, PyData.eqv]
end Ev
end EV

/-! Rows, parts and machines. -/
namespace EV
open PySem PySem.Spec PyProof.Rows L2 EV.Ev
namespace Ga
inductive Rw where
  | plain (s a : Int)
  | stop (s : Int)
  | jump (k : Nat)
  | branch (k : Nat)
  | far (p : Int)
  | load (v : Int)
  | word (v : Int)
  | align (n : Int)
  deriving DecidableEq
def Rw.enc : Rw → D
  | .plain s a => .tuple [.str "plain", .int s, .int a]
  | .stop s => .tuple [.str "stop", .int s]
  | .jump k => .tuple [.str "jump", .int k]
  | .branch k => .tuple [.str "branch", .int k]
  | .far p => .tuple [.str "far", .int p]
  | .load v => .tuple [.str "load", .int v]
  | .word v => .tuple [.str "word", .int v]
  | .align n => .tuple [.str "align", .int n]
def Rw.isJ : Rw → Bool
  | .jump _ => true
  | .branch _ => true
  | _ => false
def Rw.goal : Rw → Nat
  | .jump k => k
  | .branch k => k
  | _ => 0
def Rw.isW : Rw → Bool
  | .word _ => true
  | _ => false
def Rw.isA : Rw → Bool
  | .align _ => true
  | _ => false
def Rw.goes : Rw → Bool
  | .plain _ _ => true
  | .branch _ => true
  | .load _ => true
  | .align _ => true
  | _ => false
theorem Rw.plain_enc (r : Rw) : r.enc.plain = true := by cases r <;> simp [Rw.enc, PyData.plain, PyData.plainAll]
theorem Rw.depth_enc (r : Rw) : r.enc.depth ≤ 1 := by cases r <;> simp [Rw.enc, PyData.depth, PyData.depthAll]
theorem Rw.eqv_enc (r s : Rw) : PyData.eqv r.enc s.enc = true ↔ r = s := by
  cases r <;> cases s <;> simp [Rw.enc, PyData.eqv, PyData.eqvAll] <;> omega
instance : Enc Rw := ⟨Rw.enc, Rw.plain_enc, 1, Rw.depth_enc, Rw.eqv_enc⟩
@[simp] theorem enc_rw (r : Rw) : (Enc.enc r : D) = r.enc := rfl
@[simp] theorem dep_rw : Enc.dep Rw = 1 := rfl
def Rw.kind : Rw → PySem.Str
  | .plain _ _ => "plain"
  | .stop _ => "stop"
  | .jump _ => "jump"
  | .branch _ => "branch"
  | .far _ => "far"
  | .load _ => "load"
  | .word _ => "word"
  | .align _ => "align"
@[simp] theorem ix_rw0 (r : Rw) : o_ix (.d r.enc) (.d (.int 0)) = some (.d (.str r.kind)) := by cases r <;> simp [Rw.enc, Rw.kind]
@[simp] theorem ixd_rw0 (r : Rw) : o_ixd (.d r.enc) (.d (.int 0)) = some (.d (.str r.kind)) := by cases r <;> simp [Rw.enc, Rw.kind]
theorem ix_goal {r : Rw} (h : r.isJ = true) : o_ix (.d r.enc) (.d (.int 1)) = some (.d (.int r.goal)) := by cases r <;> simp [Rw.isJ] at h <;> simp [Rw.enc, Rw.goal]
@[simp] theorem kindW (r : Rw) : (r.kind = PySem.Str.ofString "word") ↔ r.isW = true := by cases r <;> simp [Rw.kind, Rw.isW]
@[simp] theorem kindA (r : Rw) : (r.kind = PySem.Str.ofString "align") ↔ r.isA = true := by cases r <;> simp [Rw.kind, Rw.isA]
@[simp] theorem kindJ (r : Rw) : (PySem.Str.ofString "jump" = r.kind ∨ PySem.Str.ofString "branch" = r.kind) ↔ r.isJ = true := by cases r <;> simp [Rw.kind, Rw.isJ]
/-- a row of a part with so many rows -/
def Rw.ok (n : Nat) : Rw → Prop
  | .plain s a => 1 ≤ s ∧ s ≤ 99 ∧ 0 ≤ a ∧ a ≤ 999
  | .stop s => 1 ≤ s ∧ s ≤ 99
  | .jump k => k < n
  | .branch k => k < n
  | .far p => 0 ≤ p ∧ p ≤ 4
  | .load v => 0 ≤ v ∧ v ≤ 65535
  | .word v => 0 ≤ v ∧ v ≤ 65535
  | .align n => n = 2 ∨ n = 4 ∨ n = 8 ∨ n = 16
structure Mc where
  (short reach long far leap load span word : Int)
def Mc.enc (m : Mc) : D := .tuple [.int m.short, .int m.reach, .int m.long, .int m.far, .int m.leap, .int m.load, .int m.span, .int m.word]
structure Mc.ok (m : Mc) : Prop where
  short : 1 ≤ m.short ∧ m.short ≤ 9
  reach : 0 ≤ m.reach ∧ m.reach ≤ 999
  long : m.short + 1 ≤ m.long ∧ m.long ≤ 20
  far : 1 ≤ m.far ∧ m.far ≤ 20
  leap : 0 ≤ m.leap ∧ m.leap ≤ 9999
  load : 1 ≤ m.load ∧ m.load ≤ 9
  span : 0 ≤ m.span ∧ m.span ≤ 999
  word : 1 ≤ m.word ∧ m.word ≤ 16
abbrev Pt := List Rw
def sizeN (m : Mc) (r : Rw) (sh : Bool) (at_ : Int) : Int := match r with
  | .plain s _ => s
  | .stop s => s
  | .jump _ => if sh then m.short else m.long
  | .branch _ => if sh then m.short else m.long
  | .far _ => m.far
  | .load _ => m.load
  | .word _ => m.word
  | .align n => (n - at_ % n) % n
def placesF (m : Mc) (fs : List Int) : Pt → Nat → Int → List Int
  | [], _, a => [a]
  | r :: rs, i, a => a :: placesF m fs rs (i + 1) (a + sizeN m r (decide ((i : Int) ∈ fs)) a)
def placesN (p : Pt) (m : Mc) (fs : List Int) : List Int := placesF m fs p 0 0
theorem placesF_len (m : Mc) (fs : List Int) : ∀ (p : Pt) (i : Nat) (a : Int), (placesF m fs p i a).length = p.length + 1
  | [], _, _ => rfl
  | r :: rs, i, a => by rw [placesF, List.length_cons, placesF_len, List.length_cons]
@[simp high] theorem in_free (r : Rw) : o_in (.d (.str r.kind)) (.d (.tuple [.str "stop", .str "jump", .str "far", .str "word"])) = some (.d (.bool (!r.goes))) := by cases r <;> simp [Rw.kind, Rw.goes]
@[simp high] theorem in_isJ (r : Rw) : o_in (.d (.str r.kind)) (.d (.tuple [.str "jump", .str "branch"])) = some (.d (.bool r.isJ)) := by cases r <;> simp [Rw.kind, Rw.isJ]
@[simp high] theorem eq_isW (r : Rw) : o_eq (.d (.str r.kind)) (.d (.str "word")) = some (.d (.bool r.isW)) := by cases r <;> simp [Rw.kind, Rw.isW]
@[simp high] theorem ne_isW (r : Rw) : o_ne (.d (.str r.kind)) (.d (.str "word")) = some (.d (.bool (!r.isW))) := by cases r <;> simp [Rw.kind, Rw.isW]
@[simp high] theorem eq_isA (r : Rw) : o_eq (.d (.str r.kind)) (.d (.str "align")) = some (.d (.bool r.isA)) := by cases r <;> simp [Rw.kind, Rw.isA]
@[simp] theorem append_rw (xs : List Rw) (x : Rw) : m_append (olE xs) [x.enc] = if xs.length < 1000000 then some (.none, olE (xs ++ [x])) else none := append_E xs x
@[simp] theorem clean_rw (r : Rw) : cleanO (.d r.enc) = true := by cases r <;> rfl
/-- drawn rows, without their goals, of so many in all -/
structure Raw (al : Int) (N : Nat) (rs : Pt) : Prop where
  rows : ∀ r ∈ rs, r.ok 1
  al : ∀ r ∈ rs, r.isA = true → 0 < al
  word : ∀ (i : Nat) (r : Rw), rs[i]? = some r → r.isW = true → ∃ (j : Nat) (q : Rw), i = j + 1 ∧ rs[j]? = some q ∧ q.goes = false
  last : ∀ (i : Nat) (r : Rw), rs[i]? = some r → i + 1 = N → r.goes = false
theorem Raw.nil (al : Int) (N : Nat) : Raw al N [] := ⟨(fun _ h => by cases h), (fun _ h => by cases h), (fun _ _ h => by simp at h), (fun _ _ h => by simp at h)⟩
theorem Raw.snoc {al : Int} {N : Nat} {rs : Pt} {r : Rw} (h : Raw al N rs) (h1 : r.ok 1) (h2 : r.isA = true → 0 < al) (h3 : r.isW = true → ∃ (l : Pt) (q : Rw), rs = l ++ [q] ∧ q.goes = false) (h4 : rs.length + 1 = N → r.goes = false) : Raw al N (rs ++ [r]) := by
  refine ⟨?_, ?_, ?_, ?_⟩
  · intro z hz
    rcases List.mem_append.mp hz with q | q
    · exact h.rows z q
    · rw [List.mem_singleton] at q; subst q; exact h1
  · intro z hz
    rcases List.mem_append.mp hz with q | q
    · exact h.al z q
    · rw [List.mem_singleton] at q; subst q; exact h2
  · intro i z hz hw
    by_cases hi : i < rs.length
    · rw [List.getElem?_append_left hi] at hz
      obtain ⟨j, q, rfl, hq, hg⟩ := h.word i z hz hw
      exact ⟨j, q, rfl, by rw [List.getElem?_append_left (by omega)]; exact hq, hg⟩
    · rw [List.getElem?_append_right (by omega)] at hz
      have : i = rs.length := by
        cases hk : i - rs.length with
        | zero => omega
        | succ k => rw [hk] at hz; simp at hz
      subst this
      simp at hz
      subst hz
      obtain ⟨l, q, rfl, hg⟩ := h3 hw
      exact ⟨l.length, q, by simp, by simp, hg⟩
  · intro i z hz hn
    by_cases hi : i < rs.length
    · rw [List.getElem?_append_left hi] at hz
      exact h.last i z hz hn
    · rw [List.getElem?_append_right (by omega)] at hz
      have : i = rs.length := by
        cases hk : i - rs.length with
        | zero => omega
        | succ k => rw [hk] at hz; simp at hz
      subst this
      simp at hz
      subst hz
      exact h4 hn
/-- a drawn row with its goal -/
def Upd (al : Int) (gs : List Int) (r r2 : Rw) : Prop := match r with
  | .jump _ => (∃ g : Nat, (g : Int) ∈ gs ∧ r2 = .jump g) ∨ r2 = .stop 2
  | .branch _ => (∃ g : Nat, (g : Int) ∈ gs ∧ r2 = .branch g) ∨ r2 = .plain 2 1
  | r => r2 = r
theorem Upd.isW {al : Int} {gs : List Int} {r r2 : Rw} (h : Upd al gs r r2) : r2.isW = r.isW := by
  cases r <;> simp only [Upd] at h
  case jump => rcases h with ⟨_, _, rfl⟩ | rfl <;> rfl
  case branch => rcases h with ⟨_, _, rfl⟩ | rfl <;> rfl
  all_goals rw [h]
theorem Upd.goes {al : Int} {gs : List Int} {r r2 : Rw} (h : Upd al gs r r2) : r2.goes = r.goes := by
  cases r <;> simp only [Upd] at h
  case jump => rcases h with ⟨_, _, rfl⟩ | rfl <;> rfl
  case branch => rcases h with ⟨_, _, rfl⟩ | rfl <;> rfl
  all_goals rw [h]
theorem Upd.isA {al : Int} {gs : List Int} {r r2 : Rw} (h : Upd al gs r r2) : r2.isA = r.isA := by
  cases r <;> simp only [Upd] at h
  case jump => rcases h with ⟨_, _, rfl⟩ | rfl <;> rfl
  case branch => rcases h with ⟨_, _, rfl⟩ | rfl <;> rfl
  all_goals rw [h]
theorem Upd.ok {al : Int} {gs : List Int} {r r2 : Rw} {n : Nat} (h : Upd al gs r r2) (hr : r.ok 1) (hg : ∀ g : Nat, (g : Int) ∈ gs → g < n) : r2.ok n := by
  cases r <;> simp only [Upd] at h
  case jump => rcases h with ⟨g, q, rfl⟩ | rfl; exact hg g q; exact ⟨by decide, by decide⟩
  case branch => rcases h with ⟨g, q, rfl⟩ | rfl; exact hg g q; exact ⟨by decide, by decide, by decide, by decide⟩
  all_goals (rw [h]; exact hr)
theorem Upd.goal {al : Int} {gs : List Int} {r r2 : Rw} (h : Upd al gs r r2) (hj : r2.isJ = true) : (r2.goal : Int) ∈ gs := by
  cases r <;> simp only [Upd] at h
  case jump => rcases h with ⟨g, q, rfl⟩ | rfl; exact q; cases hj
  case branch => rcases h with ⟨g, q, rfl⟩ | rfl; exact q; cases hj
  all_goals (rw [h] at hj; cases hj)
structure PtOk (p : Pt) : Prop where
  len : 1 ≤ p.length ∧ p.length ≤ 20
  rows : ∀ r ∈ p, r.ok p.length
  zero : ∀ r, p[0]? = some r → r.isW = false
  next : ∀ (i : Nat) (r : Rw), p[i]? = some r → r.goes = true → ∃ r2, p[i + 1]? = some r2 ∧ r2.isW = false
  goal : ∀ (i : Nat) (r : Rw), p[i]? = some r → r.isJ = true → ∃ r2, p[r.goal]? = some r2 ∧ r2.isW = false
theorem Raw.pt {al : Int} {gs : List Int} {rs fs : Pt} (h : Raw al rs.length rs) (u : All2 (Upd al gs) rs fs) (l : 1 ≤ rs.length ∧ rs.length ≤ 20) (hg : ∀ g : Nat, (g : Int) ∈ gs → ∃ q, rs[g]? = some q ∧ q.isW = false) : PtOk fs := by
  have ln := u.len
  refine ⟨by omega, ?_, ?_, ?_, ?_⟩
  · intro r hr
    obtain ⟨i, hi⟩ := List.getElem?_of_mem hr
    obtain ⟨r0, h0, hu⟩ := u.r hi
    exact hu.ok (h.rows r0 (List.mem_of_getElem? h0)) fun g q => by
      obtain ⟨z, hz, _⟩ := hg g q
      have := (List.getElem?_eq_some_iff.mp hz).1
      omega
  · intro r hr
    obtain ⟨r0, h0, hu⟩ := u.r hr
    rw [hu.isW]
    cases q : r0.isW with
    | false => rfl
    | true =>
      obtain ⟨j, _, e, _⟩ := h.word 0 r0 h0 q
      omega
  · intro i r hr hgo
    obtain ⟨r0, h0, hu⟩ := u.r hr
    rw [hu.goes] at hgo
    have li := (List.getElem?_eq_some_iff.mp h0).1
    have : i + 1 < rs.length := by
      by_cases q : i + 1 = rs.length
      · rw [h.last i r0 h0 q] at hgo; cases hgo
      · omega
    have e1 : rs[i + 1]? = some rs[i + 1] := List.getElem?_eq_getElem this
    obtain ⟨r2, h2, hu2⟩ := u.l e1
    refine ⟨r2, h2, ?_⟩
    rw [hu2.isW]
    cases q : (rs[i + 1]).isW with
    | false => rfl
    | true =>
      obtain ⟨j, z, e, hz, hzg⟩ := h.word (i + 1) _ e1 q
      have : j = i := by omega
      subst this
      rw [h0] at hz
      cases hz
      rw [hgo] at hzg; cases hzg
  · intro i r hr hj
    obtain ⟨r0, h0, hu⟩ := u.r hr
    obtain ⟨q, hq, hw⟩ := hg _ (hu.goal hj)
    obtain ⟨r2, h2, hu2⟩ := u.l hq
    exact ⟨r2, h2, by rw [hu2.isW]; exact hw⟩
def evenN (p : Pt) : Bool := !(p.map Rw.isA).any id
theorem PtOk.at {p : Pt} (h : PtOk p) {i : Nat} {r : Rw} (e : p[i]? = some r) : r.ok p.length := h.rows r (List.mem_of_getElem? e)
def jumpsF : Pt → Nat → List Int
  | [], _ => []
  | r :: rs, i => if r.isJ then (i : Int) :: jumpsF rs (i + 1) else jumpsF rs (i + 1)
def jumpsN (p : Pt) : List Int := jumpsF p 0
def reachN (m : Mc) (a b : Int) : Bool := decide ((if b - a < 0 then -(b - a) else b - a) ≤ m.reach)
def atN (xs : List Int) (i : Nat) : Int := xs.getD i 0
theorem atN_some {xs : List Int} {i : Nat} (h : i < xs.length) : xs[i]? = some (atN xs i) := by
  simp [atN, List.getD_eq_getElem?_getD, List.getElem?_eq_getElem h]
def misP (p : Pt) (m : Mc) (fs : List Int) (i : Int) : Bool := match p[i.toNat]? with
  | some r => !reachN m (atN (placesN p m fs) i.toNat) (atN (placesN p m fs) r.goal)
  | none => false
def misfitsN (p : Pt) (m : Mc) (fs : List Int) : List Int := fs.filter (misP p m fs)
/-- rows with two forms, told by numbers -/
def JsOk (p : Pt) (fs : List Int) : Prop := ∀ i ∈ fs, ∃ (k : Nat) (r : Rw), i = (k : Int) ∧ p[k]? = some r ∧ r.isJ = true
theorem placesN_len (p : Pt) (m : Mc) (fs : List Int) : (placesN p m fs).length = p.length + 1 := placesF_len m fs p 0 0
theorem fmE_jumps : ∀ (p : Pt) (i : Nat), fmE (fun _ (r : Rw) => r.isJ) (fun i _ => (i : Int)) p i = jumpsF p i
  | [], _ => rfl
  | r :: rs, i => by rw [fmE, jumpsF, fmE_jumps rs (i + 1)]
def fewN (p : Pt) : Prop := evenN p = true ∨ (jumpsN p).length ≤ 6
def grownL (p : Pt) (m : Mc) : Nat → List Int → List Int → List Int × List Int
  | 0, fs, ch => (fs, ch)
  | n + 1, fs, ch => match misfitsN p m fs with
    | [] => (fs, ch)
    | b :: _ => grownL p m n (fs.filter fun x => !decide (x = b)) (ch ++ [b])
theorem JsOk.filter {p : Pt} {fs : List Int} (h : JsOk p fs) (f : Int → Bool) : JsOk p (fs.filter f) := fun i hi => h i (List.mem_filter.mp hi).1
theorem misfits_sub {p : Pt} {m : Mc} {fs : List Int} {b : Int} (h : b ∈ misfitsN p m fs) : b ∈ fs := (List.mem_filter.mp h).1
theorem filter_ne_len {fs : List Int} {b : Int} (h : b ∈ fs) : (fs.filter fun x => !decide (x = b)).length < fs.length := by
  apply List.length_filter_lt_length_iff_exists.mpr
  exact ⟨b, h, by simp⟩
theorem jumpsF_js (p : Pt) : ∀ (rs : Pt) (i : Nat), (∀ (j : Nat) (r : Rw), rs[j]? = some r → p[i + j]? = some r) → JsOk p (jumpsF rs i)
  | [], _, _ => fun _ h => by cases h
  | r :: rs, i, hs => by
    have ih := jumpsF_js p rs (i + 1) (fun j z q => by
      have := hs (j + 1) z (by simpa using q)
      rwa [show i + (j + 1) = i + 1 + j by omega] at this)
    intro k hk
    rw [jumpsF] at hk
    split at hk
    · rename_i hj
      rcases List.mem_cons.mp hk with rfl | hk
      · exact ⟨i, r, rfl, hs 0 r rfl, hj⟩
      · exact ih k hk
    · exact ih k hk
theorem jumpsN_js (p : Pt) : JsOk p (jumpsN p) := jumpsF_js p p 0 fun j r q => by rwa [Nat.zero_add]
theorem jumpsF_len : ∀ (rs : Pt) (i : Nat), (jumpsF rs i).length ≤ rs.length
  | [], _ => Nat.le_refl 0
  | r :: rs, i => by
    have := jumpsF_len rs (i + 1)
    rw [jumpsF, List.length_cons]
    split
    · rw [List.length_cons]; omega
    · omega
def grownN (p : Pt) (m : Mc) : List Int × List Int := grownL p m (jumpsN p).length (jumpsN p) []
theorem countP_jumps : ∀ (p : Pt) (i : Nat), (jumpsF p i).length = p.countP Rw.isJ
  | [], _ => rfl
  | r :: rs, i => by
    rw [jumpsF, List.countP_cons]
    split
    · rename_i h; rw [List.length_cons, countP_jumps rs (i + 1)]
    · rename_i h; rw [countP_jumps rs (i + 1)]; rfl
end Ga
end EV

/-! Draws. -/
namespace EV
open PySem PySem.Spec PyProof.Rows L2 EV.Ev
namespace Ga
structure Pn where
  (xs : List Int) (p q : Int)
def pn (s : Pn) : O := Pen.pen s.xs s.p s.q
/-- so many draws are left -/
def Pn.ok (s : Pn) (b : Nat) : Prop := 0 ≤ s.p ∧ s.p + b ≤ 100000
theorem Pn.ok.le {s : Pn} {b c : Nat} (h : s.ok b) (l : c ≤ b) : s.ok c := ⟨h.1, by have := h.2; omega⟩
@[simp] theorem ciT_pn (s : Pn) (r : R O) : ciT (some (pn s)) r = r := rfl
@[simp] theorem varK_pn (s : Pn) : varK (some (pn s)) = some (pn s) := rfl
theorem take_sp {b : Nat} {s : Pn} {many : Int} (h : s.ok (b + 1)) (h1 : 0 < many) (h2 : many < 1073741824) :
    ∃ (r : Int) (s' : Pn), Pen.take Pen.spread [pn s, .d (.int many)] = .ok (.d (.int r)) [pn s'] ∧ s'.ok b ∧ 0 ≤ r ∧ r < many := by
  obtain ⟨hp, hq⟩ := h
  obtain ⟨r, p', q', e, r0, r1, a1, a2⟩ := Pen.take_ok Pen.spread_ok (xs := s.xs) (p := s.p) (q := s.q) h1 h2 hp (by omega)
  exact ⟨r, ⟨s.xs, p', q'⟩, e, ⟨a1, by show p' + (b : Int) ≤ 100000; omega⟩, r0, r1⟩
theorem one_sp {b : Nat} {s : Pn} {ds : List D} (h : s.ok (b + 1)) (h1 : 0 < ds.length) (h2 : ds.length < 1000000) :
    ∃ (d : D) (s' : Pn), Pen.one (Pen.take Pen.spread) [pn s, .d (.list ds)] = .ok (.d d) [pn s'] ∧ s'.ok b ∧ d ∈ ds := by
  obtain ⟨hp, hq⟩ := h
  obtain ⟨r, d, p', q', hd, e, a1, a2⟩ := Pen.one_ok Pen.spread_ok (xs := s.xs) (p := s.p) (q := s.q) h1 (by omega) hp (by omega)
  exact ⟨d, ⟨s.xs, p', q'⟩, e, ⟨a1, by show p' + (b : Int) ≤ 100000; omega⟩, List.mem_of_getElem? hd⟩
theorem oneI_sp {b : Nat} {s : Pn} (xs : List Int) (h : s.ok (b + 1)) (h1 : 0 < xs.length) (h2 : xs.length < 1000000) :
    ∃ (r : Int) (s' : Pn), Pen.one (Pen.take Pen.spread) [pn s, .d (.list (xs.map PyData.int))] = .ok (.d (.int r)) [pn s'] ∧ s'.ok b ∧ r ∈ xs := by
  obtain ⟨d, s', e, ho, hd⟩ := one_sp (ds := xs.map PyData.int) h (by simpa using h1) (by simpa using h2)
  obtain ⟨r, hr, rfl⟩ := List.mem_map.mp hd
  exact ⟨r, s', e, ho, hr⟩
theorem oneE_sp {b : Nat} {s : Pn} (xs : List Int) (h : s.ok (b + 1)) (h1 : xs ≠ []) (h2 : xs.length < 1000000) :
    ∃ (r : Int) (s' : Pn), Pen.one (Pen.take Pen.spread) [pn s, .d (dlE xs)] = .ok (.d (.int r)) [pn s'] ∧ s'.ok b ∧ r ∈ xs := oneI_sp xs h (List.length_pos_iff.mpr h1) h2
end Ga
end EV

/-! The mathematics of growing. -/
namespace EV
open PySem PySem.Spec PyProof.Rows L2 EV.Ev
namespace Ga
theorem atN_zero (m : Mc) (fs : List Int) (rs : Pt) (i : Nat) (a : Int) : atN (placesF m fs rs i a) 0 = a := by
  cases rs <;> simp [placesF, atN]
theorem atN_step (m : Mc) (fs : List Int) : ∀ (rs : Pt) (i : Nat) (a : Int) (k : Nat) (r : Rw), rs[k]? = some r →
    atN (placesF m fs rs i a) (k + 1) = atN (placesF m fs rs i a) k + sizeN m r (decide (((i + k : Nat) : Int) ∈ fs)) (atN (placesF m fs rs i a) k)
  | [], i, a, k, r, h => by simp at h
  | q :: rs, i, a, 0, r, h => by
    simp at h
    subst h
    rw [atN_zero, placesF]
    show atN (placesF m fs rs (i + 1) _) 0 = _
    rw [atN_zero, Nat.add_zero]
  | q :: rs, i, a, k + 1, r, h => by
    simp at h
    have := atN_step m fs rs (i + 1) (a + sizeN m q (decide ((i : Int) ∈ fs)) a) k r h
    rw [placesF]
    show atN (placesF m fs rs (i + 1) _) (k + 1) = atN (placesF m fs rs (i + 1) _) k + _
    rw [this, show i + 1 + k = i + (k + 1) by omega]
    rfl
theorem at_step {p : Pt} {m : Mc} {fs : List Int} {k : Nat} {r : Rw} (h : p[k]? = some r) :
    atN (placesN p m fs) (k + 1) = atN (placesN p m fs) k + sizeN m r (decide ((k : Int) ∈ fs)) (atN (placesN p m fs) k) := by
  have := atN_step m fs p 0 0 k r h
  rw [Nat.zero_add] at this
  exact this
theorem size_mono {m : Mc} (hm : m.ok) {r : Rw} {n : Nat} (hr : r.ok n) (ha : r.isA = false) {s t : Bool} (h : t = true → s = true) (a b : Int) : 0 ≤ sizeN m r s a ∧ sizeN m r s a ≤ sizeN m r t b := by
  have h1 := hm.short
  have h2 := hm.long
  have h3 := hm.far
  have h4 := hm.load
  have h5 := hm.word
  cases r <;> simp only [sizeN] <;> simp only [Rw.ok] at hr
  case align => cases ha
  case jump => cases s <;> cases t <;> simp at h ⊢ <;> omega
  case branch => cases s <;> cases t <;> simp at h ⊢ <;> omega
  all_goals omega
theorem even_row {p : Pt} (h : evenN p = true) {k : Nat} {r : Rw} (hr : p[k]? = some r) : r.isA = false := by
  unfold evenN at h
  rw [Bool.not_eq_true', List.any_eq_false] at h
  have := h r.isA (List.mem_map.mpr ⟨r, List.mem_of_getElem? hr, rfl⟩)
  simpa using this
/-- with more long rows no two rows come nearer -/
theorem dist_mono {p : Pt} {m : Mc} (hp : PtOk p) (he : evenN p = true) (hm : m.ok) {fs gs : List Int} (h : ∀ x, x ∈ gs → x ∈ fs) : ∀ (n j : Nat), j + n ≤ p.length →
    0 ≤ atN (placesN p m fs) (j + n) - atN (placesN p m fs) j ∧ atN (placesN p m fs) (j + n) - atN (placesN p m fs) j ≤ atN (placesN p m gs) (j + n) - atN (placesN p m gs) j
  | 0, j, _ => by simp
  | n + 1, j, hl => by
    have ih := dist_mono hp he hm h n j (by omega)
    have hr : p[j + n]? = some p[j + n] := List.getElem?_eq_getElem (by omega)
    have s := size_mono hm (hp.at hr) (even_row he hr) (s := decide (((j + n : Nat) : Int) ∈ fs)) (t := decide (((j + n : Nat) : Int) ∈ gs)) (fun z => decide_eq_true (h _ (of_decide_eq_true z))) (atN (placesN p m fs) (j + n)) (atN (placesN p m gs) (j + n))
    rw [← Nat.add_assoc, at_step hr, at_step hr]
    omega
theorem reach_mono {p : Pt} {m : Mc} (hp : PtOk p) (he : evenN p = true) (hm : m.ok) {fs gs : List Int} (h : ∀ x, x ∈ gs → x ∈ fs) {i j : Nat} (hi : i ≤ p.length) (hj : j ≤ p.length)
    (hr : reachN m (atN (placesN p m gs) i) (atN (placesN p m gs) j) = true) : reachN m (atN (placesN p m fs) i) (atN (placesN p m fs) j) = true := by
  unfold reachN at hr ⊢
  rw [decide_eq_true_eq] at hr ⊢
  by_cases c : i ≤ j
  · have d := dist_mono hp he hm h (j - i) i (by omega)
    rw [show i + (j - i) = j by omega] at d
    split <;> split at hr <;> omega
  · have d := dist_mono hp he hm h (i - j) j (by omega)
    rw [show j + (i - j) = i by omega] at d
    split <;> split at hr <;> omega
theorem misP_false {p : Pt} {m : Mc} {fs : List Int} {k : Nat} {r : Rw} (h : p[k]? = some r) : misP p m fs (k : Int) = !reachN m (atN (placesN p m fs) k) (atN (placesN p m fs) r.goal) := by
  unfold misP
  rw [Int.toNat_natCast, h]
/-- what fits with fewer short rows fits with more -/
theorem mis_mono {p : Pt} {m : Mc} (hp : PtOk p) (he : evenN p = true) (hm : m.ok) {fs gs : List Int} (hj : JsOk p fs) (h : ∀ x, x ∈ gs → x ∈ fs) (hg : misfitsN p m gs = []) {b : Int} (hb : b ∈ misfitsN p m fs) : b ∉ gs := by
  intro q
  obtain ⟨hbf, hbm⟩ := List.mem_filter.mp hb
  obtain ⟨k, r, rfl, hk, hrj⟩ := hj b hbf
  obtain ⟨r2, hr2, _⟩ := hp.goal k r hk hrj
  have lk := (List.getElem?_eq_some_iff.mp hk).1
  have lg := (List.getElem?_eq_some_iff.mp hr2).1
  have : misP p m gs (k : Int) = false := by
    cases z : misP p m gs (k : Int) with
    | false => rfl
    | true =>
      have : (k : Int) ∈ misfitsN p m gs := List.mem_filter.mpr ⟨q, z⟩
      rw [hg] at this
      cases this
  rw [misP_false hk] at this hbm
  have r1 := reach_mono hp he hm h (i := k) (j := r.goal) (by omega) (by omega) (by simpa using this)
  rw [r1] at hbm
  cases hbm
theorem grownL_fit (p : Pt) (m : Mc) : ∀ (n : Nat) (fs ch : List Int), fs.length ≤ n → misfitsN p m (grownL p m n fs ch).1 = []
  | 0, fs, ch, h => by
    have : fs = [] := List.length_eq_zero_iff.mp (by omega)
    subst this
    rfl
  | n + 1, fs, ch, h => by
    rw [grownL]
    cases e : misfitsN p m fs with
    | nil => exact e
    | cons b r =>
      have := filter_ne_len (misfits_sub (p := p) (m := m) (by rw [e]; exact .head r) : b ∈ fs)
      exact grownL_fit p m n _ _ (by omega)
theorem grownL_len (p : Pt) (m : Mc) : ∀ (n : Nat) (fs ch : List Int), (grownL p m n fs ch).2.length ≤ ch.length + n
  | 0, fs, ch => Nat.le_refl _
  | n + 1, fs, ch => by
    rw [grownL]
    cases e : misfitsN p m fs with
    | nil => show ch.length ≤ _; omega
    | cons b r =>
      have := grownL_len p m n (fs.filter fun x => !decide (x = b)) (ch ++ [b])
      rw [List.length_append, List.length_singleton] at this
      show (grownL p m n (fs.filter fun x => !decide (x = b)) (ch ++ [b])).2.length ≤ _
      omega
theorem grownL_sub (p : Pt) (m : Mc) : ∀ (n : Nat) (fs ch : List Int), (grownL p m n fs ch).1.Sublist fs
  | 0, fs, ch => List.Sublist.refl _
  | n + 1, fs, ch => by
    rw [grownL]
    cases e : misfitsN p m fs with
    | nil => exact List.Sublist.refl _
    | cons b r => exact (grownL_sub p m n _ _).trans List.filter_sublist
theorem grownL_great {p : Pt} {m : Mc} (hp : PtOk p) (he : evenN p = true) (hm : m.ok) {gs : List Int} (hg : misfitsN p m gs = []) : ∀ (n : Nat) (fs ch : List Int), JsOk p fs → (∀ x, x ∈ gs → x ∈ fs) → ∀ x, x ∈ gs → x ∈ (grownL p m n fs ch).1
  | 0, fs, ch, hj, h => h
  | n + 1, fs, ch, hj, h => by
    rw [grownL]
    cases e : misfitsN p m fs with
    | nil => exact h
    | cons b r =>
      refine grownL_great hp he hm hg n _ _ (hj.filter _) fun x hx => ?_
      rw [List.mem_filter]
      refine ⟨h x hx, ?_⟩
      have := mis_mono hp he hm hj h hg (b := b) (by rw [e]; exact .head _)
      simp
      rintro rfl
      exact this hx
theorem jumpsF_ge : ∀ (rs : Pt) (i : Nat), ∀ x ∈ jumpsF rs i, (i : Int) ≤ x
  | [], _, _, h => by cases h
  | r :: rs, i, x, h => by
    rw [jumpsF] at h
    split at h
    · rcases List.mem_cons.mp h with rfl | h
      · exact Int.le_refl _
      · have := jumpsF_ge rs (i + 1) x h; omega
    · have := jumpsF_ge rs (i + 1) x h; omega
theorem jumpsF_asc : ∀ (rs : Pt) (i : Nat), Asc (jumpsF rs i)
  | [], _ => List.Pairwise.nil
  | r :: rs, i => by
    rw [jumpsF]
    split
    · refine List.pairwise_cons.mpr ⟨fun x h => ?_, jumpsF_asc rs (i + 1)⟩
      have := jumpsF_ge rs (i + 1) x h; omega
    · exact jumpsF_asc rs (i + 1)
theorem jumpsN_asc (p : Pt) : Asc (jumpsN p) := jumpsF_asc p 0
theorem asc_nodup {xs : List Int} (h : Asc xs) : xs.Nodup := List.Pairwise.imp (fun h => by omega) h
def subsN (js : List Int) (ls : List (List Int)) : List (List Int) := js.foldl (fun ls j => ls ++ ls.map (· ++ [j])) ls
theorem mem_subs : ∀ (js : List Int) (ls : List (List Int)) (f : List Int), f ∈ subsN js ls ↔ ∃ g ∈ ls, ∃ s, s.Sublist js ∧ f = g ++ s
  | [], ls, f => by
    show f ∈ ls ↔ _
    constructor
    · intro h; exact ⟨f, h, [], List.Sublist.refl _, by simp⟩
    · rintro ⟨g, hg, s, hs, rfl⟩
      have := List.sublist_nil.mp hs
      subst this
      simpa using hg
  | j :: js, ls, f => by
    show f ∈ subsN js (ls ++ ls.map (· ++ [j])) ↔ _
    rw [mem_subs js]
    constructor
    · rintro ⟨g, hg, s, hs, rfl⟩
      rcases List.mem_append.mp hg with hg | hg
      · exact ⟨g, hg, s, hs.cons j, rfl⟩
      · obtain ⟨g2, hg2, rfl⟩ := List.mem_map.mp hg
        exact ⟨g2, hg2, j :: s, hs.cons_cons j, by simp⟩
    · rintro ⟨g, hg, s, hs, rfl⟩
      cases hs with
      | cons _ h => exact ⟨g, List.mem_append_left _ hg, s, h, rfl⟩
      | cons_cons _ h => exact ⟨g ++ [j], List.mem_append_right _ (List.mem_map.mpr ⟨g, hg, rfl⟩), _, h, by simp⟩
def foundN (p : Pt) (m : Mc) : List (List Int) → List Int → List Int
  | [], fd => fd
  | f :: ls, fd => if misfitsN p m f = [] then foundN p m ls (fd ++ f.filter fun x => !decide (x ∈ fd)) else foundN p m ls fd
theorem mem_found (p : Pt) (m : Mc) (x : Int) : ∀ (ls : List (List Int)) (fd : List Int), x ∈ foundN p m ls fd ↔ x ∈ fd ∨ ∃ f ∈ ls, misfitsN p m f = [] ∧ x ∈ f
  | [], fd => by simp [foundN]
  | f :: ls, fd => by
    rw [foundN]
    split
    · rename_i e
      rw [mem_found p m x ls, List.mem_append, List.mem_filter]
      constructor
      · rintro ((h | ⟨h, _⟩) | ⟨g, hg, h⟩)
        · exact .inl h
        · exact .inr ⟨f, .head _, e, h⟩
        · exact .inr ⟨g, .tail _ hg, h⟩
      · rintro (h | ⟨g, hg, h1, h2⟩)
        · exact .inl (.inl h)
        · rcases List.mem_cons.mp hg with rfl | hg
          · by_cases q : x ∈ fd
            · exact .inl (.inl q)
            · exact .inl (.inr ⟨h2, by simpa using q⟩)
          · exact .inr ⟨g, hg, h1, h2⟩
    · rename_i e
      rw [mem_found p m x ls]
      constructor
      · rintro (h | ⟨g, hg, h⟩)
        · exact .inl h
        · exact .inr ⟨g, .tail _ hg, h⟩
      · rintro (h | ⟨g, hg, h1, h2⟩)
        · exact .inl h
        · rcases List.mem_cons.mp hg with rfl | hg
          · exact absurd h1 e
          · exact .inr ⟨g, hg, h1, h2⟩
theorem found_nodup (p : Pt) (m : Mc) : ∀ (ls : List (List Int)) (fd : List Int), (∀ f ∈ ls, f.Nodup) → fd.Nodup → (foundN p m ls fd).Nodup
  | [], fd, _, h => h
  | f :: ls, fd, hf, h => by
    rw [foundN]
    split
    · refine found_nodup p m ls _ (fun g q => hf g (.tail _ q)) ?_
      refine List.nodup_append.mpr ⟨h, (hf f (.head _)).filter _, fun x hx y hy => ?_⟩
      rintro rfl
      have := (List.mem_filter.mp hy).2
      simp at this
      exact this hx
    · exact found_nodup p m ls fd (fun g q => hf g (.tail _ q)) h
theorem great_eq {p : Pt} {m : Mc} (hp : PtOk p) (he : evenN p = true) (hm : m.ok) : sortI (foundN p m (subsN (jumpsN p) [[]]) []) = (grownN p m).1 := by
  have sub : (grownN p m).1.Sublist (jumpsN p) := grownL_sub p m _ _ _
  have as : Asc (grownN p m).1 := List.Pairwise.sublist sub (jumpsN_asc p)
  refine asc_extI (sortI_asc (found_nodup p m _ _ (fun f hf => ?_) List.nodup_nil)) as fun x => ?_
  · obtain ⟨g, hg, s, hs, rfl⟩ := (mem_subs _ _ _).mp hf
    rw [List.mem_singleton] at hg
    subst hg
    rw [List.nil_append]
    exact List.Sublist.nodup hs (asc_nodup (jumpsN_asc p))
  · rw [sortI_mem, mem_found]
    constructor
    · rintro (h | ⟨f, hf, h1, h2⟩)
      · cases h
      · obtain ⟨g, hg, s, hs, rfl⟩ := (mem_subs _ _ _).mp hf
        rw [List.mem_singleton] at hg
        subst hg
        rw [List.nil_append] at h1 h2
        exact grownL_great hp he hm h1 _ _ _ (jumpsN_js p) (fun y hy => hs.subset hy) x h2
    · intro h
      refine .inr ⟨(grownN p m).1, (mem_subs _ _ _).mpr ⟨[], .head _, _, sub, rfl⟩, grownL_fit p m _ _ _ (Nat.le_refl _), h⟩
end Ga
end EV

namespace k10
open PySem PySem.Spec PyProof.Rows L2 EV
def top (i : Nat) : Stmt := PySem.Challenge.pw_reachrows_k10_greatest_forms.main.body.getD i (.Pass ⟨0, 0, 0, 0⟩)
abbrev s_is_integer : Stmt := top 10
abbrev s_is_machine : Stmt := top 11
abbrev s_need_machine : Stmt := top 12
abbrev s_is_row : Stmt := top 13
abbrev s_goes_on : Stmt := top 14
abbrev s_is_jump : Stmt := top 15
abbrev s_jumps_of : Stmt := top 16
abbrev s_is_even : Stmt := top 17
abbrev s_is_part : Stmt := top 18
abbrev s_need_part : Stmt := top 19
abbrev s_need_even : Stmt := top 20
abbrev s_size_of : Stmt := top 22
abbrev s_places_of : Stmt := top 23
abbrev s_does_reach : Stmt := top 24
abbrev s_misfits_of : Stmt := top 25
abbrev s_grown_of : Stmt := top 27
abbrev s_need_all : Stmt := top 28
abbrev s_grown : Stmt := top 29
abbrev s__law_open : Stmt := top 31
abbrev s__law_spread : Stmt := top 32
abbrev s__law_take : Stmt := top 33
abbrev s__law_same : Stmt := top 34
abbrev s__law_one_of : Stmt := top 35
abbrev s__law_draw_row : Stmt := top 36
abbrev s__law_draw_part : Stmt := top 37
abbrev s__law_draw_machine : Stmt := top 38
abbrev s__law_size : Stmt := top 39
abbrev s__law_places : Stmt := top 40
abbrev s__law_misfits : Stmt := top 41
abbrev s__law_jumps : Stmt := top 42
abbrev s__law_greatest : Stmt := top 43
abbrev s__law_chain : Stmt := top 44
abbrev s_law : Stmt := top 45
def fa0 : List He.Fa := [.free "isinstance", .free "int", .free "bool", .glo "is_integer", .free "tuple", .free "len", .glo "is_machine", .exc "NoMachine", .glo "NoMachine", .glo "need_machine", .free "str", .int "MOST_PARTS" 5, .int "MOST_NUMBER" 65535, .glo "is_row", .glo "goes_on", .glo "is_jump", .free "enumerate", .glo "jumps_of", .free "any", .glo "is_even", .int "MOST_ROWS" 20, .free "all", .int "MOST_FORMS" 6, .glo "is_part", .exc "NoPart", .glo "NoPart", .glo "need_part", .exc "NoEven", .glo "NoEven", .glo "need_even"]
def fa1 : List He.Fa := [.glo "size_of", .glo "places_of", .free "abs", .glo "does_reach", .glo "misfits_of", .glo "grown_of", .glo "need_all", .glo "grown", .free "list", .glo "_law_open", .glo "_law_spread", .glo "_law_take", .free "zip", .glo "_law_same", .glo "_law_one_of", .glo "_law_draw_row", .free "range", .glo "_law_draw_part", .glo "_law_draw_machine", .glo "_law_size", .glo "_law_places", .glo "_law_misfits", .glo "_law_jumps", .free "sorted", .glo "_law_greatest", .glo "_law_chain", .free "repr", .glo "law"]
def fa : List He.Fa := fa0 ++ fa1
def fn0 : List He.DefD := [⟨("is_integer", none), "is_integer", "is_integer", defArgs s_is_integer, defBody s_is_integer, defScope s_is_integer, [], []⟩, ⟨("is_machine", none), "is_machine", "is_machine", defArgs s_is_machine, defBody s_is_machine, defScope s_is_machine, [], []⟩, ⟨("need_machine", none), "need_machine", "need_machine", defArgs s_need_machine, defBody s_need_machine, defScope s_need_machine, [], []⟩, ⟨("is_row", none), "is_row", "is_row", defArgs s_is_row, defBody s_is_row, defScope s_is_row, [], []⟩, ⟨("goes_on", none), "goes_on", "goes_on", defArgs s_goes_on, defBody s_goes_on, defScope s_goes_on, [], []⟩, ⟨("is_jump", none), "is_jump", "is_jump", defArgs s_is_jump, defBody s_is_jump, defScope s_is_jump, [], []⟩, ⟨("jumps_of", none), "jumps_of", "jumps_of", defArgs s_jumps_of, defBody s_jumps_of, defScope s_jumps_of, [], []⟩, ⟨("is_even", none), "is_even", "is_even", defArgs s_is_even, defBody s_is_even, defScope s_is_even, [], []⟩, ⟨("is_part", none), "is_part", "is_part", defArgs s_is_part, defBody s_is_part, defScope s_is_part, [], []⟩, ⟨("need_part", none), "need_part", "need_part", defArgs s_need_part, defBody s_need_part, defScope s_need_part, [], []⟩, ⟨("need_even", none), "need_even", "need_even", defArgs s_need_even, defBody s_need_even, defScope s_need_even, [], []⟩, ⟨("size_of", none), "size_of", "size_of", defArgs s_size_of, defBody s_size_of, defScope s_size_of, [], []⟩, ⟨("places_of", none), "places_of", "places_of", defArgs s_places_of, defBody s_places_of, defScope s_places_of, [], []⟩, ⟨("does_reach", none), "does_reach", "does_reach", defArgs s_does_reach, defBody s_does_reach, defScope s_does_reach, [], []⟩, ⟨("misfits_of", none), "misfits_of", "misfits_of", defArgs s_misfits_of, defBody s_misfits_of, defScope s_misfits_of, [], []⟩, ⟨("grown_of", none), "grown_of", "grown_of", defArgs s_grown_of, defBody s_grown_of, defScope s_grown_of, [], []⟩, ⟨("need_all", none), "need_all", "need_all", defArgs s_need_all, defBody s_need_all, defScope s_need_all, [], []⟩, ⟨("grown", none), "grown", "grown", defArgs s_grown, defBody s_grown, defScope s_grown, [], []⟩, ⟨("_law_open", none), "_law_open", "_law_open", defArgs s__law_open, defBody s__law_open, defScope s__law_open, [], []⟩, ⟨("_law_spread", none), "_law_spread", "_law_spread", defArgs s__law_spread, defBody s__law_spread, defScope s__law_spread, [], []⟩, ⟨("_law_take", none), "_law_take", "_law_take", defArgs s__law_take, defBody s__law_take, defScope s__law_take, [], []⟩, ⟨("_law_same", none), "_law_same", "_law_same", defArgs s__law_same, defBody s__law_same, defScope s__law_same, [], []⟩, ⟨("_law_one_of", none), "_law_one_of", "_law_one_of", defArgs s__law_one_of, defBody s__law_one_of, defScope s__law_one_of, [], []⟩, ⟨("_law_draw_row", none), "_law_draw_row", "_law_draw_row", defArgs s__law_draw_row, defBody s__law_draw_row, defScope s__law_draw_row, [], []⟩, ⟨("_law_draw_part", none), "_law_draw_part", "_law_draw_part", defArgs s__law_draw_part, defBody s__law_draw_part, defScope s__law_draw_part, [], []⟩, ⟨("_law_draw_machine", none), "_law_draw_machine", "_law_draw_machine", defArgs s__law_draw_machine, defBody s__law_draw_machine, defScope s__law_draw_machine, [], []⟩, ⟨("_law_size", none), "_law_size", "_law_size", defArgs s__law_size, defBody s__law_size, defScope s__law_size, [], []⟩, ⟨("_law_places", none), "_law_places", "_law_places", defArgs s__law_places, defBody s__law_places, defScope s__law_places, [], []⟩, ⟨("_law_misfits", none), "_law_misfits", "_law_misfits", defArgs s__law_misfits, defBody s__law_misfits, defScope s__law_misfits, [], []⟩, ⟨("_law_jumps", none), "_law_jumps", "_law_jumps", defArgs s__law_jumps, defBody s__law_jumps, defScope s__law_jumps, [], []⟩]
def fn1 : List He.DefD := [⟨("_law_greatest", none), "_law_greatest", "_law_greatest", defArgs s__law_greatest, defBody s__law_greatest, defScope s__law_greatest, [], []⟩, ⟨("_law_chain", none), "_law_chain", "_law_chain", defArgs s__law_chain, defBody s__law_chain, defScope s__law_chain, [], []⟩, ⟨("law", none), "law", "law", defArgs s_law, defBody s_law, defScope s_law, [], []⟩]
def fn : List He.DefD := fn0 ++ fn1
def ts : Tb := ⟨[], []⟩
section
variable {P : Program} {w : World} {K : PySem.W.Frag} {mg : Str → Option Value} {base : Heap}
theorem sc_is_integer : FnScope ["thing", "least", "most"] ["thing", "least", "most"] (defScope s_is_integer) := ⟨rfl, rfl, rfl, by decide +kernel, rfl, by decide +kernel, by decide +kernel⟩
def b_is_integer : M Fl := (S.ret (E.view (Vw.and (Vw.op1 (isi "int") (Vw.var 0)) (Vw.and (Vw.not (Vw.op1 (isi "bool") (Vw.var 0))) (Vw.chain o_le o_le (Vw.var 1) (Vw.var 0) (Vw.var 2))))))
def is_integer : List O → FRes := runF [] 3 b_is_integer
theorem fn_is_integer (Y : Ya fa fn ts K mg) : Fn P w K mg base "is_integer" 1 ["thing", "least", "most"] [] is_integer :=
  Fn.of (st := s_is_integer) (N := ["thing", "least", "most"]) Y 0 3 rfl rfl sc_is_integer (by decide) (by decide) (fun _ _ _ _ _ _ us hl => match us, hl with | [_, _, _], _ => rfl) fun f cdv A outer s H E hr hgd tk => (eb_one (es_ret (ee_view (ve_and (ve_isi (ve_var 0) (Y.free 0) (Y.free 1) (hv := bt_int)) (ve_and (ve_not (ve_isi (ve_var 0) (Y.free 0) (Y.free 2) (hv := bt_bool))) (ve_one (ve_chain op_le vw_le op_le vw_le (ve_var 1) (ve_var 0) (ve_var 2))))))))
theorem sc_is_machine : FnScope ["thing", "short", "reach", "long", "far", "leap", "load", "span", "word"] ["thing"] (defScope s_is_machine) := ⟨rfl, rfl, rfl, by decide +kernel, rfl, by decide +kernel, by decide +kernel⟩
def b_is_machine : M Fl := (S.seq (S.ifS (T.view (Vw.or (Vw.not (Vw.op1 (isi "tuple") (Vw.var 0))) (Vw.op2 o_ne (Vw.opN o_len (Vw.cons (Vw.var 0) Vw.nil)) (Vw.c (.int 8))))) (S.ret (E.view (Vw.c (.bool false)))) S.nx)
  (S.seq (S.asg (E.var 0) (G.tup 8 (G.cons (G.nm 1) (G.cons (G.nm 2) (G.cons (G.nm 3) (G.cons (G.nm 4) (G.cons (G.nm 5) (G.cons (G.nm 6) (G.cons (G.nm 7) (G.cons (G.nm 8) G.nil))))))))))
  (S.seq (S.ifS (T.view (Vw.or (Vw.not (Vw.callP 3 is_integer (Vw.cons (Vw.pl (.slot 1)) (Vw.cons (Vw.dat (Vw.c (.int 1))) (Vw.cons (Vw.dat (Vw.c (.int 9))) Vw.nil))))) (Vw.or (Vw.not (Vw.callP 3 is_integer (Vw.cons (Vw.pl (.slot 2)) (Vw.cons (Vw.dat (Vw.c (.int 0))) (Vw.cons (Vw.dat (Vw.c (.int 999))) Vw.nil))))) (Vw.not (Vw.callP 3 is_integer (Vw.cons (Vw.pl (.slot 3)) (Vw.cons (Vw.dat (Vw.op2 v_add (Vw.var 1) (Vw.c (.int 1)))) (Vw.cons (Vw.dat (Vw.c (.int 20))) Vw.nil)))))))) (S.ret (E.view (Vw.c (.bool false)))) S.nx)
  (S.seq (S.ifS (T.view (Vw.or (Vw.not (Vw.callP 3 is_integer (Vw.cons (Vw.pl (.slot 4)) (Vw.cons (Vw.dat (Vw.c (.int 1))) (Vw.cons (Vw.dat (Vw.c (.int 20))) Vw.nil))))) (Vw.or (Vw.not (Vw.callP 3 is_integer (Vw.cons (Vw.pl (.slot 5)) (Vw.cons (Vw.dat (Vw.c (.int 0))) (Vw.cons (Vw.dat (Vw.c (.int 9999))) Vw.nil))))) (Vw.not (Vw.callP 3 is_integer (Vw.cons (Vw.pl (.slot 6)) (Vw.cons (Vw.dat (Vw.c (.int 1))) (Vw.cons (Vw.dat (Vw.c (.int 9))) Vw.nil)))))))) (S.ret (E.view (Vw.c (.bool false)))) S.nx)
  (S.ret (E.view (Vw.and (Vw.callP 3 is_integer (Vw.cons (Vw.pl (.slot 7)) (Vw.cons (Vw.dat (Vw.c (.int 0))) (Vw.cons (Vw.dat (Vw.c (.int 999))) Vw.nil)))) (Vw.callP 3 is_integer (Vw.cons (Vw.pl (.slot 8)) (Vw.cons (Vw.dat (Vw.c (.int 1))) (Vw.cons (Vw.dat (Vw.c (.int 16))) Vw.nil)))))))))))
def is_machine : List O → FRes := runF [] 9 b_is_machine
theorem fn_is_machine (Y : Ya fa fn ts K mg) : Fn P w K mg base "is_machine" 2 ["thing"] [] is_machine :=
  Fn.of (st := s_is_machine) (N := ["thing", "short", "reach", "long", "far", "leap", "load", "span", "word"]) Y 1 6 rfl rfl sc_is_machine (by decide) (by decide) (fun _ _ _ _ _ _ us hl => match us, hl with | [_], _ => rfl) fun f cdv A outer s H E hr hgd tk => (eb_cons (es_if (et_view (vt_of (vtw_or (vt_not (vt_val (ve_isi (ve_var 0) (Y.free 0) (Y.free 4) (hv := bt_tuple)))) (vtw_or1 (vt_cmp (op_neA (hu100 hr)) vw_ne (ve_callB call_lenA vw_len (va_cons (ve_var 0) va_nil) (Y.free 5) (hv := bt_len)) ve_int))))) (eb_one (es_ret (ee_view ve_bl))) eb_nil)
  (eb_cons (es_asg (ee_var 0) (eg_tup rfl (egs_cons (eg_nm 1 sc_is_machine.nd) (egs_cons (eg_nm 2 sc_is_machine.nd) (egs_cons (eg_nm 3 sc_is_machine.nd) (egs_cons (eg_nm 4 sc_is_machine.nd) (egs_cons (eg_nm 5 sc_is_machine.nd) (egs_cons (eg_nm 6 sc_is_machine.nd) (egs_cons (eg_nm 7 sc_is_machine.nd) (egs_cons (eg_nm 8 sc_is_machine.nd) egs_nil))))))))))
  (eb_cons (es_if (et_view (vt_of (vtw_or (vt_not (vt_val (ve_fn (fn_is_integer Y) hr hgd (vb_pl (pl_slot 1) (vb_d ve_int (vb_d ve_int vb_nil)))))) (vtw_or (vt_not (vt_val (ve_fn (fn_is_integer Y) hr hgd (vb_pl (pl_slot 2) (vb_d ve_int (vb_d ve_int vb_nil)))))) (vtw_or1 (vt_not (vt_val (ve_fn (fn_is_integer Y) hr hgd (vb_pl (pl_slot 3) (vb_d (ve_op op_add2 vw_add (ve_var 1) ve_int) (vb_d ve_int vb_nil))))))))))) (eb_one (es_ret (ee_view ve_bl))) eb_nil)
  (eb_cons (es_if (et_view (vt_of (vtw_or (vt_not (vt_val (ve_fn (fn_is_integer Y) hr hgd (vb_pl (pl_slot 4) (vb_d ve_int (vb_d ve_int vb_nil)))))) (vtw_or (vt_not (vt_val (ve_fn (fn_is_integer Y) hr hgd (vb_pl (pl_slot 5) (vb_d ve_int (vb_d ve_int vb_nil)))))) (vtw_or1 (vt_not (vt_val (ve_fn (fn_is_integer Y) hr hgd (vb_pl (pl_slot 6) (vb_d ve_int (vb_d ve_int vb_nil))))))))))) (eb_one (es_ret (ee_view ve_bl))) eb_nil)
  (eb_one (es_ret (ee_view (ve_and (ve_fn (fn_is_integer Y) hr hgd (vb_pl (pl_slot 7) (vb_d ve_int (vb_d ve_int vb_nil)))) (ve_one (ve_fn (fn_is_integer Y) hr hgd (vb_pl (pl_slot 8) (vb_d ve_int (vb_d ve_int vb_nil)))))))))))))
theorem sc_need_machine : FnScope ["machine"] ["machine"] (defScope s_need_machine) := ⟨rfl, rfl, rfl, by decide +kernel, rfl, by decide +kernel, by decide +kernel⟩
def b_need_machine : M Fl := (S.ifS (T.view (Vw.not (Vw.callP 1 is_machine (Vw.cons (Vw.pl (.slot 0)) Vw.nil)))) (S.raise "NoMachine") S.nx)
def need_machine : List O → FRes := runF [] 1 b_need_machine
theorem fn_need_machine (Y : Ya fa fn ts K mg) : Fn P w K mg base "need_machine" 3 ["machine"] [] need_machine :=
  Fn.of (st := s_need_machine) (N := ["machine"]) Y 2 9 rfl rfl sc_need_machine (by decide) (by decide) (fun _ _ _ _ _ _ us hl => match us, hl with | [_], _ => rfl) fun f cdv A outer s H E hr hgd tk => (eb_one (es_if (et_view (vt_not (vt_val (ve_fn (fn_is_machine Y) hr hgd (vb_pl (pl_slot 0) vb_nil))))) (eb_one (es_raiseY Y 7 8 tk)) eb_nil))
theorem sc_is_row : FnScope ["thing", "many"] ["thing", "many"] (defScope s_is_row) := ⟨rfl, rfl, rfl, by decide +kernel, rfl, by decide +kernel, by decide +kernel⟩
def b_is_row : M Fl := (S.seq (S.ifS (T.view (Vw.or (Vw.not (Vw.op1 (isi "tuple") (Vw.var 0))) (Vw.or (Vw.op2 o_eq (Vw.var 0) (Vw.tup Vw.nil)) (Vw.not (Vw.op1 (isi "str") (Vw.op2 o_ix (Vw.var 0) (Vw.c (.int 0)))))))) (S.ret (E.view (Vw.c (.bool false)))) S.nx)
  (S.seq (S.ifS (T.view (Vw.op2 o_eq (Vw.op2 o_ix (Vw.var 0) (Vw.c (.int 0))) (Vw.c (.str "plain")))) (S.ret (E.view (Vw.and (Vw.op2 o_eq (Vw.opN o_len (Vw.cons (Vw.var 0) Vw.nil)) (Vw.c (.int 3))) (Vw.and (Vw.callP 3 is_integer (Vw.cons (Vw.dat (Vw.op2 o_ix (Vw.var 0) (Vw.c (.int 1)))) (Vw.cons (Vw.dat (Vw.c (.int 1))) (Vw.cons (Vw.dat (Vw.c (.int 99))) Vw.nil)))) (Vw.callP 3 is_integer (Vw.cons (Vw.dat (Vw.op2 o_ix (Vw.var 0) (Vw.c (.int 2)))) (Vw.cons (Vw.dat (Vw.c (.int 0))) (Vw.cons (Vw.dat (Vw.c (.int 999))) Vw.nil)))))))) S.nx)
  (S.seq (S.ifS (T.view (Vw.op2 o_ne (Vw.opN o_len (Vw.cons (Vw.var 0) Vw.nil)) (Vw.c (.int 2)))) (S.ret (E.view (Vw.c (.bool false)))) S.nx)
  (S.seq (S.ifS (T.view (Vw.op2 o_eq (Vw.op2 o_ix (Vw.var 0) (Vw.c (.int 0))) (Vw.c (.str "stop")))) (S.ret (E.callP 3 is_integer (Vw.cons (Vw.dat (Vw.op2 o_ix (Vw.var 0) (Vw.c (.int 1)))) (Vw.cons (Vw.dat (Vw.c (.int 1))) (Vw.cons (Vw.dat (Vw.c (.int 99))) Vw.nil))))) S.nx)
  (S.seq (S.ifS (T.view (Vw.op2 o_in (Vw.op2 o_ix (Vw.var 0) (Vw.c (.int 0))) (Vw.tup (Vw.cons (Vw.c (.str "jump")) (Vw.cons (Vw.c (.str "branch")) Vw.nil))))) (S.ret (E.callP 3 is_integer (Vw.cons (Vw.dat (Vw.op2 o_ix (Vw.var 0) (Vw.c (.int 1)))) (Vw.cons (Vw.dat (Vw.c (.int 0))) (Vw.cons (Vw.dat (Vw.op2 o_sub (Vw.var 1) (Vw.c (.int 1)))) Vw.nil))))) S.nx)
  (S.seq (S.ifS (T.view (Vw.op2 o_eq (Vw.op2 o_ix (Vw.var 0) (Vw.c (.int 0))) (Vw.c (.str "far")))) (S.ret (E.callP 3 is_integer (Vw.cons (Vw.dat (Vw.op2 o_ix (Vw.var 0) (Vw.c (.int 1)))) (Vw.cons (Vw.dat (Vw.c (.int 0))) (Vw.cons (Vw.dat (Vw.op2 o_sub (Vw.c (.int 5)) (Vw.c (.int 1)))) Vw.nil))))) S.nx)
  (S.seq (S.ifS (T.view (Vw.op2 o_in (Vw.op2 o_ix (Vw.var 0) (Vw.c (.int 0))) (Vw.tup (Vw.cons (Vw.c (.str "load")) (Vw.cons (Vw.c (.str "word")) Vw.nil))))) (S.ret (E.callP 3 is_integer (Vw.cons (Vw.dat (Vw.op2 o_ix (Vw.var 0) (Vw.c (.int 1)))) (Vw.cons (Vw.dat (Vw.c (.int 0))) (Vw.cons (Vw.dat (Vw.c (.int 65535))) Vw.nil))))) S.nx)
  (S.ret (E.view (Vw.and (Vw.op2 o_eq (Vw.op2 o_ix (Vw.var 0) (Vw.c (.int 0))) (Vw.c (.str "align"))) (Vw.and (Vw.callP 3 is_integer (Vw.cons (Vw.dat (Vw.op2 o_ix (Vw.var 0) (Vw.c (.int 1)))) (Vw.cons (Vw.dat (Vw.c (.int 2))) (Vw.cons (Vw.dat (Vw.c (.int 16))) Vw.nil)))) (Vw.op2 o_in (Vw.op2 o_ix (Vw.var 0) (Vw.c (.int 1))) (Vw.tup (Vw.cons (Vw.c (.int 2)) (Vw.cons (Vw.c (.int 4)) (Vw.cons (Vw.c (.int 8)) (Vw.cons (Vw.c (.int 16)) Vw.nil)))))))))))))))))
def is_row : List O → FRes := runF [] 2 b_is_row
theorem fn_is_row (Y : Ya fa fn ts K mg) : Fn P w K mg base "is_row" 2 ["thing", "many"] [] is_row :=
  Fn.of (st := s_is_row) (N := ["thing", "many"]) Y 3 13 rfl rfl sc_is_row (by decide) (by decide) (fun _ _ _ _ _ _ us hl => match us, hl with | [_, _], _ => rfl) fun f cdv A outer s H E hr hgd tk => (eb_cons (es_if (et_view (vt_of (vtw_or (vt_not (vt_val (ve_isi (ve_var 0) (Y.free 0) (Y.free 4) (hv := bt_tuple)))) (vtw_or (vt_cmp (op_eqA (hu100 hr)) vw_eq (ve_var 0) (ve_tup va_nil)) (vtw_or1 (vt_not (vt_val (ve_isi (ve_ix (ix_any (hu100 hr)) vw_ix (ve_var 0) ve_int) (Y.free 0) (Y.free 10) (hv := bt_str))))))))) (eb_one (es_ret (ee_view ve_bl))) eb_nil)
  (eb_cons (es_if (et_view (vt_cmp (op_eqA (hu100 hr)) vw_eq (ve_ix (ix_any (hu100 hr)) vw_ix (ve_var 0) ve_int) ve_str)) (eb_one (es_ret (ee_view (ve_and (ve_cmp (op_eqA (hu100 hr)) vw_eq (ve_callB call_lenA vw_len (va_cons (ve_var 0) va_nil) (Y.free 5) (hv := bt_len)) ve_int) (ve_and (ve_fn (fn_is_integer Y) hr hgd (vb_d (ve_ix (ix_any (hu100 hr)) vw_ix (ve_var 0) ve_int) (vb_d ve_int (vb_d ve_int vb_nil)))) (ve_one (ve_fn (fn_is_integer Y) hr hgd (vb_d (ve_ix (ix_any (hu100 hr)) vw_ix (ve_var 0) ve_int) (vb_d ve_int (vb_d ve_int vb_nil)))))))))) eb_nil)
  (eb_cons (es_if (et_view (vt_cmp (op_neA (hu100 hr)) vw_ne (ve_callB call_lenA vw_len (va_cons (ve_var 0) va_nil) (Y.free 5) (hv := bt_len)) ve_int)) (eb_one (es_ret (ee_view ve_bl))) eb_nil)
  (eb_cons (es_if (et_view (vt_cmp (op_eqA (hu100 hr)) vw_eq (ve_ix (ix_any (hu100 hr)) vw_ix (ve_var 0) ve_int) ve_str)) (eb_one (es_ret (ee_fnP (fn_is_integer Y) hr hgd tk (vb_d (ve_ix (ix_any (hu100 hr)) vw_ix (ve_var 0) ve_int) (vb_d ve_int (vb_d ve_int vb_nil)))))) eb_nil)
  (eb_cons (es_if (et_view (vt_cmp (op_inA (hu100 hr)) vw_in (ve_ix (ix_any (hu100 hr)) vw_ix (ve_var 0) ve_int) (ve_tup (va_cons ve_str (va_cons ve_str va_nil))))) (eb_one (es_ret (ee_fnP (fn_is_integer Y) hr hgd tk (vb_d (ve_ix (ix_any (hu100 hr)) vw_ix (ve_var 0) ve_int) (vb_d ve_int (vb_d (ve_op op_sub vw_sub (ve_var 1) ve_int) vb_nil)))))) eb_nil)
  (eb_cons (es_if (et_view (vt_cmp (op_eqA (hu100 hr)) vw_eq (ve_ix (ix_any (hu100 hr)) vw_ix (ve_var 0) ve_int) ve_str)) (eb_one (es_ret (ee_fnP (fn_is_integer Y) hr hgd tk (vb_d (ve_ix (ix_any (hu100 hr)) vw_ix (ve_var 0) ve_int) (vb_d ve_int (vb_d (ve_op op_sub vw_sub (ve_gint (Y.int 11)) ve_int) vb_nil)))))) eb_nil)
  (eb_cons (es_if (et_view (vt_cmp (op_inA (hu100 hr)) vw_in (ve_ix (ix_any (hu100 hr)) vw_ix (ve_var 0) ve_int) (ve_tup (va_cons ve_str (va_cons ve_str va_nil))))) (eb_one (es_ret (ee_fnP (fn_is_integer Y) hr hgd tk (vb_d (ve_ix (ix_any (hu100 hr)) vw_ix (ve_var 0) ve_int) (vb_d ve_int (vb_d (ve_gint (Y.int 12)) vb_nil)))))) eb_nil)
  (eb_one (es_ret (ee_view (ve_and (ve_cmp (op_eqA (hu100 hr)) vw_eq (ve_ix (ix_any (hu100 hr)) vw_ix (ve_var 0) ve_int) ve_str) (ve_and (ve_fn (fn_is_integer Y) hr hgd (vb_d (ve_ix (ix_any (hu100 hr)) vw_ix (ve_var 0) ve_int) (vb_d ve_int (vb_d ve_int vb_nil)))) (ve_one (ve_cmp (op_inA (hu100 hr)) vw_in (ve_ix (ix_any (hu100 hr)) vw_ix (ve_var 0) ve_int) (ve_tup (va_cons ve_int (va_cons ve_int (va_cons ve_int (va_cons ve_int va_nil)))))))))))))))))))
theorem sc_goes_on : FnScope ["row"] ["row"] (defScope s_goes_on) := ⟨rfl, rfl, rfl, by decide +kernel, rfl, by decide +kernel, by decide +kernel⟩
def b_goes_on : M Fl := (S.ret (E.view (Vw.op2 o_in (Vw.op2 o_ix (Vw.var 0) (Vw.c (.int 0))) (Vw.tup (Vw.cons (Vw.c (.str "plain")) (Vw.cons (Vw.c (.str "branch")) (Vw.cons (Vw.c (.str "load")) (Vw.cons (Vw.c (.str "align")) Vw.nil))))))))
def goes_on : List O → FRes := runF [] 1 b_goes_on
theorem fn_goes_on (Y : Ya fa fn ts K mg) : Fn P w K mg base "goes_on" 1 ["row"] [] goes_on :=
  Fn.of (st := s_goes_on) (N := ["row"]) Y 4 14 rfl rfl sc_goes_on (by decide) (by decide) (fun _ _ _ _ _ _ us hl => match us, hl with | [_], _ => rfl) fun f cdv A outer s H E hr hgd tk => (eb_one (es_ret (ee_view (ve_cmp (op_inA (hu100 hr)) vw_in (ve_ix (ix_any (hu100 hr)) vw_ix (ve_var 0) ve_int) (ve_tup (va_cons ve_str (va_cons ve_str (va_cons ve_str (va_cons ve_str va_nil)))))))))
theorem sc_is_jump : FnScope ["row"] ["row"] (defScope s_is_jump) := ⟨rfl, rfl, rfl, by decide +kernel, rfl, by decide +kernel, by decide +kernel⟩
def b_is_jump : M Fl := (S.ret (E.view (Vw.op2 o_in (Vw.op2 o_ix (Vw.var 0) (Vw.c (.int 0))) (Vw.tup (Vw.cons (Vw.c (.str "jump")) (Vw.cons (Vw.c (.str "branch")) Vw.nil))))))
def is_jump : List O → FRes := runF [] 1 b_is_jump
theorem fn_is_jump (Y : Ya fa fn ts K mg) : Fn P w K mg base "is_jump" 1 ["row"] [] is_jump :=
  Fn.of (st := s_is_jump) (N := ["row"]) Y 5 15 rfl rfl sc_is_jump (by decide) (by decide) (fun _ _ _ _ _ _ us hl => match us, hl with | [_], _ => rfl) fun f cdv A outer s H E hr hgd tk => (eb_one (es_ret (ee_view (ve_cmp (op_inA (hu100 hr)) vw_in (ve_ix (ix_any (hu100 hr)) vw_ix (ve_var 0) ve_int) (ve_tup (va_cons ve_str (va_cons ve_str va_nil)))))))
theorem sc_jumps_of : FnScope ["part", "number", "row"] ["part"] (defScope s_jumps_of) := ⟨rfl, rfl, rfl, by decide +kernel, rfl, by decide +kernel, by decide +kernel⟩
def b_jumps_of : M Fl := (S.ret (E.lc [1, 2] (Wk.enum (A.cons (E.var 0) A.nil)) (G.tup 2 (G.cons (G.nm 1) (G.cons (G.nm 2) G.nil))) (T.view (Vw.callP 1 is_jump (Vw.cons (Vw.pl (.slot 2)) Vw.nil))) (E.var 1)))
def jumps_of : List O → FRes := runF [] 3 b_jumps_of
theorem fn_jumps_of (Y : Ya fa fn ts K mg) : Fn P w K mg base "jumps_of" 2 ["part"] [] jumps_of :=
  Fn.of (st := s_jumps_of) (N := ["part", "number", "row"]) Y 6 17 rfl rfl sc_jumps_of (by decide) (by decide) (fun _ _ _ _ _ _ us hl => match us, hl with | [_], _ => rfl) fun f cdv A outer s H E hr hgd tk => (eb_one (es_ret (ee_lc (own := [("number", 1), ("row", 2)]) rfl sc_jumps_of.nd (ei_enum rfl (Y.free 16) (ea_cons (ee_var 0) ea_nil)) (blkOk_by (N := ["part", "number", "row"]) (sc := defScope s_jumps_of) (by decide +kernel)) (fun _ _ _ _ _ => (eg_tup rfl (egs_cons (eg_nm 1 sc_jumps_of.nd) (egs_cons (eg_nm 2 sc_jumps_of.nd) egs_nil)))) (fun _ _ _ _ _ => (ets_one (et_view (vt_val (ve_fn (fn_is_jump Y) hr hgd (vb_pl (pl_slot 2) vb_nil)))))) (fun _ _ _ _ _ => (ee_var 1)))))
theorem sc_is_even : FnScope ["part", "row"] ["part"] (defScope s_is_even) := ⟨rfl, rfl, rfl, by decide +kernel, rfl, by decide +kernel, by decide +kernel⟩
def b_is_even : M Fl := (S.ret (E.not (E.opN b_any (A.cons (E.lc [1] (Wk.seq (E.var 0)) (G.nm 1) T.yes (E.view (Vw.op2 o_eq (Vw.op2 o_ix (Vw.var 1) (Vw.c (.int 0))) (Vw.c (.str "align"))))) A.nil))))
def is_even : List O → FRes := runF [] 2 b_is_even
theorem fn_is_even (Y : Ya fa fn ts K mg) : Fn P w K mg base "is_even" 1 ["part"] [] is_even :=
  Fn.of (st := s_is_even) (N := ["part", "row"]) Y 7 19 rfl rfl sc_is_even (by decide) (by decide) (fun _ _ _ _ _ _ us hl => match us, hl with | [_], _ => rfl) fun f cdv A outer s H E hr hgd tk => (eb_one (es_ret (ee_not (ee_callBE (cr_any rfl) vw_any isd_any (ea_cons (ee_lc (own := [("row", 1)]) rfl sc_is_even.nd (ei_seq (ee_var 0)) (blkOk_by (N := ["part", "row"]) (sc := defScope s_is_even) (by decide +kernel)) (fun _ _ _ _ _ => (eg_nm 1 sc_is_even.nd)) (fun _ _ _ _ _ => ets_nil) (fun _ _ _ _ _ => (ee_view (ve_cmp (op_eqA (hu100 hr)) vw_eq (ve_ix (ix_any (hu100 hr)) vw_ix (ve_var 1) ve_int) ve_str)))) ea_nil) (Y.free 18) (hv := bt_any)))))
theorem sc_is_part : FnScope ["thing", "number", "row"] ["thing"] (defScope s_is_part) := ⟨rfl, rfl, rfl, by decide +kernel, rfl, by decide +kernel, by decide +kernel⟩
def b_is_part : M Fl := (S.seq (S.ifS (T.view (Vw.or (Vw.not (Vw.op1 (isi "tuple") (Vw.var 0))) (Vw.not (Vw.chain o_le o_le (Vw.c (.int 1)) (Vw.opN o_len (Vw.cons (Vw.var 0) Vw.nil)) (Vw.c (.int 20)))))) (S.ret (E.view (Vw.c (.bool false)))) S.nx)
  (S.seq (S.ifS (T.or (T.not (T.val (E.opN b_all (A.cons (E.lc [2] (Wk.seq (E.var 0)) (G.nm 2) T.yes (E.callP 2 is_row (Vw.cons (Vw.pl (.slot 2)) (Vw.cons (Vw.dat (Vw.opN o_len (Vw.cons (Vw.var 0) Vw.nil))) Vw.nil)))) A.nil)))) (T.view (Vw.op2 o_eq (Vw.op2 o_ix (Vw.op2 o_ix (Vw.var 0) (Vw.c (.int 0))) (Vw.c (.int 0))) (Vw.c (.str "word"))))) (S.ret (E.view (Vw.c (.bool false)))) S.nx)
  (S.seq (S.for (Wk.enum (A.cons (E.var 0) A.nil)) (G.tup 2 (G.cons (G.nm 1) (G.cons (G.nm 2) G.nil))) (S.seq (S.ifS (T.view (Vw.and (Vw.callP 1 goes_on (Vw.cons (Vw.pl (.slot 2)) Vw.nil)) (Vw.or (Vw.op2 o_eq (Vw.op2 v_add (Vw.var 1) (Vw.c (.int 1))) (Vw.opN o_len (Vw.cons (Vw.var 0) Vw.nil))) (Vw.op2 o_eq (Vw.op2 o_ix (Vw.op2 o_ix (Vw.var 0) (Vw.op2 v_add (Vw.var 1) (Vw.c (.int 1)))) (Vw.c (.int 0))) (Vw.c (.str "word")))))) (S.ret (E.view (Vw.c (.bool false)))) S.nx)
  (S.ifS (T.view (Vw.and (Vw.callP 1 is_jump (Vw.cons (Vw.pl (.slot 2)) Vw.nil)) (Vw.op2 o_eq (Vw.op2 o_ix (Vw.op2 o_ix (Vw.var 0) (Vw.op2 o_ix (Vw.var 2) (Vw.c (.int 1)))) (Vw.c (.int 0))) (Vw.c (.str "word"))))) (S.ret (E.view (Vw.c (.bool false)))) S.nx)))
  (S.ret (E.view (Vw.or (Vw.callP 1 is_even (Vw.cons (Vw.pl (.slot 0)) Vw.nil)) (Vw.op2 o_le (Vw.opN o_len (Vw.cons (Vw.callP 1 jumps_of (Vw.cons (Vw.pl (.slot 0)) Vw.nil)) Vw.nil)) (Vw.c (.int 6)))))))))
def is_part : List O → FRes := runF [] 3 b_is_part
theorem fn_is_part (Y : Ya fa fn ts K mg) : Fn P w K mg base "is_part" 3 ["thing"] [] is_part :=
  Fn.of (st := s_is_part) (N := ["thing", "number", "row"]) Y 8 23 rfl rfl sc_is_part (by decide) (by decide) (fun _ _ _ _ _ _ us hl => match us, hl with | [_], _ => rfl) fun f cdv A outer s H E hr hgd tk => (eb_cons (es_if (et_view (vt_of (vtw_or (vt_not (vt_val (ve_isi (ve_var 0) (Y.free 0) (Y.free 4) (hv := bt_tuple)))) (vtw_or1 (vt_not (vt_chain op_le vw_le op_le vw_le ve_int (ve_callB call_lenA vw_len (va_cons (ve_var 0) va_nil) (Y.free 5) (hv := bt_len)) (ve_gint (Y.int 20)))))))) (eb_one (es_ret (ee_view ve_bl))) eb_nil)
  (eb_cons (es_if (EW.et (ew_or (et_not (et_val (ee_callBE (cr_all rfl) vw_all isd_all (ea_cons (ee_lc (own := [("row", 2)]) rfl sc_is_part.nd (ei_seq (ee_var 0)) (blkOk_by (N := ["thing", "number", "row"]) (sc := defScope s_is_part) (by decide +kernel)) (fun _ _ _ _ _ => (eg_nm 2 sc_is_part.nd)) (fun _ _ _ _ _ => ets_nil) (fun _ _ _ _ _ => (ee_fnP (fn_is_row Y) hr hgd takesW0 (vb_pl (pl_slot 2) (vb_d (ve_callB call_lenA vw_len (va_cons (ve_var 0) va_nil) (Y.free 5) (hv := bt_len)) vb_nil))))) ea_nil) (Y.free 21) (hv := bt_all)))) (ew_or1 (et_view (vt_cmp (op_eqA (hu100 hr)) vw_eq (ve_ix (ix_any (hu100 hr)) vw_ix (ve_ix (ix_any (hu100 hr)) vw_ix (ve_var 0) ve_int) ve_int) ve_str))))) (eb_one (es_ret (ee_view ve_bl))) eb_nil)
  (eb_cons (es_for (passes_of rfl) rfl (ei_enum rfl (Y.free 16) (ea_cons (ee_var 0) ea_nil)) (eg_tup rfl (egs_cons (eg_nm 1 sc_is_part.nd) (egs_cons (eg_nm 2 sc_is_part.nd) egs_nil))) (eb_cons (es_if (et_view (vt_of (vtw_and (vt_val (ve_fn (fn_goes_on Y) hr hgd (vb_pl (pl_slot 2) vb_nil))) (vtw_and1 (vt_of (vtw_or (vt_cmp (op_eqA (hu100 hr)) vw_eq (ve_op op_add2 vw_add (ve_var 1) ve_int) (ve_callB call_lenA vw_len (va_cons (ve_var 0) va_nil) (Y.free 5) (hv := bt_len))) (vtw_or1 (vt_cmp (op_eqA (hu100 hr)) vw_eq (ve_ix (ix_any (hu100 hr)) vw_ix (ve_ix (ix_any (hu100 hr)) vw_ix (ve_var 0) (ve_op op_add2 vw_add (ve_var 1) ve_int)) ve_int) ve_str)))))))) (eb_one (es_ret (ee_view ve_bl))) eb_nil)
  (eb_one (es_if (et_view (vt_of (vtw_and (vt_val (ve_fn (fn_is_jump Y) hr hgd (vb_pl (pl_slot 2) vb_nil))) (vtw_and1 (vt_cmp (op_eqA (hu100 hr)) vw_eq (ve_ix (ix_any (hu100 hr)) vw_ix (ve_ix (ix_any (hu100 hr)) vw_ix (ve_var 0) (ve_ix (ix_any (hu100 hr)) vw_ix (ve_var 2) ve_int)) ve_int) ve_str))))) (eb_one (es_ret (ee_view ve_bl))) eb_nil))))
  (eb_one (es_ret (ee_view (ve_or (ve_fn (fn_is_even Y) hr hgd (vb_pl (pl_slot 0) vb_nil)) (ve_one (ve_cmp op_le vw_le (ve_callB call_lenA vw_len (va_cons (ve_fn (fn_jumps_of Y) hr hgd (vb_pl (pl_slot 0) vb_nil)) va_nil) (Y.free 5) (hv := bt_len)) (ve_gint (Y.int 22)))))))))))
theorem sc_need_part : FnScope ["part"] ["part"] (defScope s_need_part) := ⟨rfl, rfl, rfl, by decide +kernel, rfl, by decide +kernel, by decide +kernel⟩
def b_need_part : M Fl := (S.ifS (T.view (Vw.not (Vw.callP 1 is_part (Vw.cons (Vw.pl (.slot 0)) Vw.nil)))) (S.raise "NoPart") S.nx)
def need_part : List O → FRes := runF [] 1 b_need_part
theorem fn_need_part (Y : Ya fa fn ts K mg) : Fn P w K mg base "need_part" 4 ["part"] [] need_part :=
  Fn.of (st := s_need_part) (N := ["part"]) Y 9 26 rfl rfl sc_need_part (by decide) (by decide) (fun _ _ _ _ _ _ us hl => match us, hl with | [_], _ => rfl) fun f cdv A outer s H E hr hgd tk => (eb_one (es_if (et_view (vt_not (vt_val (ve_fn (fn_is_part Y) hr hgd (vb_pl (pl_slot 0) vb_nil))))) (eb_one (es_raiseY Y 24 25 tk)) eb_nil))
theorem sc_need_even : FnScope ["part"] ["part"] (defScope s_need_even) := ⟨rfl, rfl, rfl, by decide +kernel, rfl, by decide +kernel, by decide +kernel⟩
def b_need_even : M Fl := (S.ifS (T.view (Vw.not (Vw.callP 1 is_even (Vw.cons (Vw.pl (.slot 0)) Vw.nil)))) (S.raise "NoEven") S.nx)
def need_even : List O → FRes := runF [] 1 b_need_even
theorem fn_need_even (Y : Ya fa fn ts K mg) : Fn P w K mg base "need_even" 2 ["part"] [] need_even :=
  Fn.of (st := s_need_even) (N := ["part"]) Y 10 29 rfl rfl sc_need_even (by decide) (by decide) (fun _ _ _ _ _ _ us hl => match us, hl with | [_], _ => rfl) fun f cdv A outer s H E hr hgd tk => (eb_one (es_if (et_view (vt_not (vt_val (ve_fn (fn_is_even Y) hr hgd (vb_pl (pl_slot 0) vb_nil))))) (eb_one (es_raiseY Y 27 28 tk)) eb_nil))
theorem sc_size_of : FnScope ["row", "machine", "is_short", "address", "short", "reach", "long", "far", "leap", "load", "span", "word"] ["row", "machine", "is_short", "address"] (defScope s_size_of) := ⟨rfl, rfl, rfl, by decide +kernel, rfl, by decide +kernel, by decide +kernel⟩
def b_size_of : M Fl := (S.seq (S.asg (E.var 1) (G.tup 8 (G.cons (G.nm 4) (G.cons (G.nm 5) (G.cons (G.nm 6) (G.cons (G.nm 7) (G.cons (G.nm 8) (G.cons (G.nm 9) (G.cons (G.nm 10) (G.cons (G.nm 11) G.nil))))))))))
  (S.seq (S.ifS (T.view (Vw.op2 o_in (Vw.op2 o_ix (Vw.var 0) (Vw.c (.int 0))) (Vw.tup (Vw.cons (Vw.c (.str "plain")) (Vw.cons (Vw.c (.str "stop")) Vw.nil))))) (S.ret (E.view (Vw.op2 o_ix (Vw.var 0) (Vw.c (.int 1))))) S.nx)
  (S.seq (S.ifS (T.view (Vw.op2 o_in (Vw.op2 o_ix (Vw.var 0) (Vw.c (.int 0))) (Vw.tup (Vw.cons (Vw.c (.str "jump")) (Vw.cons (Vw.c (.str "branch")) Vw.nil))))) (S.ret (E.view (Vw.ifE (Vw.var 2) (Vw.var 4) (Vw.var 6)))) S.nx)
  (S.seq (S.ifS (T.view (Vw.op2 o_eq (Vw.op2 o_ix (Vw.var 0) (Vw.c (.int 0))) (Vw.c (.str "align")))) (S.ret (E.view (Vw.op2 o_mod (Vw.op2 o_sub (Vw.op2 o_ix (Vw.var 0) (Vw.c (.int 1))) (Vw.op2 o_mod (Vw.var 3) (Vw.op2 o_ix (Vw.var 0) (Vw.c (.int 1))))) (Vw.op2 o_ix (Vw.var 0) (Vw.c (.int 1)))))) S.nx)
  (S.seq (S.ifS (T.view (Vw.op2 o_eq (Vw.op2 o_ix (Vw.var 0) (Vw.c (.int 0))) (Vw.c (.str "far")))) (S.ret (E.move 7)) S.nx)
  (S.ret (E.view (Vw.ifE (Vw.op2 o_eq (Vw.op2 o_ix (Vw.var 0) (Vw.c (.int 0))) (Vw.c (.str "load"))) (Vw.var 9) (Vw.var 11)))))))))
def size_of : List O → FRes := runF [] 12 b_size_of
theorem fn_size_of (Y : Ya fa fn ts K mg) : Fn P w K mg base "size_of" 1 ["row", "machine", "is_short", "address"] [] size_of :=
  Fn.of (st := s_size_of) (N := ["row", "machine", "is_short", "address", "short", "reach", "long", "far", "leap", "load", "span", "word"]) Y 11 30 rfl rfl sc_size_of (by decide) (by decide) (fun _ _ _ _ _ _ us hl => match us, hl with | [_, _, _, _], _ => rfl) fun f cdv A outer s H E hr hgd tk => (eb_cons (es_asg (ee_var 1) (eg_tup rfl (egs_cons (eg_nm 4 sc_size_of.nd) (egs_cons (eg_nm 5 sc_size_of.nd) (egs_cons (eg_nm 6 sc_size_of.nd) (egs_cons (eg_nm 7 sc_size_of.nd) (egs_cons (eg_nm 8 sc_size_of.nd) (egs_cons (eg_nm 9 sc_size_of.nd) (egs_cons (eg_nm 10 sc_size_of.nd) (egs_cons (eg_nm 11 sc_size_of.nd) egs_nil))))))))))
  (eb_cons (es_if (et_view (vt_cmp (op_inA (hu100 hr)) vw_in (ve_ix (ix_any (hu100 hr)) vw_ix (ve_var 0) ve_int) (ve_tup (va_cons ve_str (va_cons ve_str va_nil))))) (eb_one (es_ret (ee_view (ve_ix (ix_any (hu100 hr)) vw_ix (ve_var 0) ve_int)))) eb_nil)
  (eb_cons (es_if (et_view (vt_cmp (op_inA (hu100 hr)) vw_in (ve_ix (ix_any (hu100 hr)) vw_ix (ve_var 0) ve_int) (ve_tup (va_cons ve_str (va_cons ve_str va_nil))))) (eb_one (es_ret (ee_view (ve_if (vt_val (ve_var 2)) (ve_var 4) (ve_var 6))))) eb_nil)
  (eb_cons (es_if (et_view (vt_cmp (op_eqA (hu100 hr)) vw_eq (ve_ix (ix_any (hu100 hr)) vw_ix (ve_var 0) ve_int) ve_str)) (eb_one (es_ret (ee_view (ve_op op_mod vw_mod (ve_op op_sub vw_sub (ve_ix (ix_any (hu100 hr)) vw_ix (ve_var 0) ve_int) (ve_op op_mod vw_mod (ve_var 3) (ve_ix (ix_any (hu100 hr)) vw_ix (ve_var 0) ve_int))) (ve_ix (ix_any (hu100 hr)) vw_ix (ve_var 0) ve_int))))) eb_nil)
  (eb_cons (es_if (et_view (vt_cmp (op_eqA (hu100 hr)) vw_eq (ve_ix (ix_any (hu100 hr)) vw_ix (ve_var 0) ve_int) ve_str)) (eb_one (es_ret (ee_move 7))) eb_nil)
  (eb_one (es_ret (ee_view (ve_if (vt_cmp (op_eqA (hu100 hr)) vw_eq (ve_ix (ix_any (hu100 hr)) vw_ix (ve_var 0) ve_int) ve_str) (ve_var 9) (ve_var 11))))))))))
theorem sc_places_of : FnScope ["part", "machine", "forms", "found", "number", "row"] ["part", "machine", "forms"] (defScope s_places_of) := ⟨rfl, rfl, rfl, by decide +kernel, rfl, by decide +kernel, by decide +kernel⟩
def b_places_of : M Fl := (S.seq (S.asg (E.lst (A.cons (E.view (Vw.c (.int 0))) A.nil)) (G.nm 3))
  (S.seq (S.for (Wk.enum (A.cons (E.var 0) A.nil)) (G.tup 2 (G.cons (G.nm 4) (G.cons (G.nm 5) G.nil))) (S.expr (E.mut 3 "list" m_append (A.cons (E.view (Vw.op2 v_add (Vw.op2 o_ix (Vw.var 3) (Vw.op1 o_neg (Vw.c (.int 1)))) (Vw.callP 4 size_of (Vw.cons (Vw.pl (.slot 5)) (Vw.cons (Vw.pl (.slot 1)) (Vw.cons (Vw.dat (Vw.op2 o_in (Vw.var 4) (Vw.var 2))) (Vw.cons (Vw.dat (Vw.op2 o_ix (Vw.var 3) (Vw.op1 o_neg (Vw.c (.int 1))))) Vw.nil))))))) A.nil))))
  (S.ret (E.move 3))))
def places_of : List O → FRes := runF [] 6 b_places_of
theorem fn_places_of (Y : Ya fa fn ts K mg) : Fn P w K mg base "places_of" 2 ["part", "machine", "forms"] [] places_of :=
  Fn.of (st := s_places_of) (N := ["part", "machine", "forms", "found", "number", "row"]) Y 12 31 rfl rfl sc_places_of (by decide) (by decide) (fun _ _ _ _ _ _ us hl => match us, hl with | [_, _, _], _ => rfl) fun f cdv A outer s H E hr hgd tk => (eb_cons (es_asg (ee_lst (ea_cons (ee_view ve_int) ea_nil)) (eg_nm 3 sc_places_of.nd))
  (eb_cons (es_for (passes_of rfl) rfl (ei_enum rfl (Y.free 16) (ea_cons (ee_var 0) ea_nil)) (eg_tup rfl (egs_cons (eg_nm 4 sc_places_of.nd) (egs_cons (eg_nm 5 sc_places_of.nd) egs_nil))) (eb_one (es_expr (ee_mut 3 PySem.F.plainAttrs_list PySem.F.slot_list_append PySem.F.type_list_append mt_append ms_append (pl_slot 3) (ea_cons (ee_view (ve_op op_add2 vw_add (ve_ix (ix_any (hu100 hr)) vw_ix (ve_var 3) (ve_un un_neg vw_neg ve_int)) (ve_fn (fn_size_of Y) hr hgd (vb_pl (pl_slot 5) (vb_pl (pl_slot 1) (vb_d (ve_cmp (op_inA (hu100 hr)) vw_in (ve_var 4) (ve_var 2)) (vb_d (ve_ix (ix_any (hu100 hr)) vw_ix (ve_var 3) (ve_un un_neg vw_neg ve_int)) vb_nil))))))) ea_nil)))))
  (eb_one (es_ret (ee_move 3)))))
theorem sc_does_reach : FnScope ["part", "machine", "found", "number"] ["part", "machine", "found", "number"] (defScope s_does_reach) := ⟨rfl, rfl, rfl, by decide +kernel, rfl, by decide +kernel, by decide +kernel⟩
def b_does_reach : M Fl := (S.ret (E.view (Vw.op2 o_le (Vw.opN b_abs (Vw.cons (Vw.op2 o_sub (Vw.op2 o_ix (Vw.var 2) (Vw.op2 o_ix (Vw.op2 o_ix (Vw.var 0) (Vw.var 3)) (Vw.c (.int 1)))) (Vw.op2 o_ix (Vw.var 2) (Vw.var 3))) Vw.nil)) (Vw.op2 o_ix (Vw.var 1) (Vw.c (.int 1))))))
def does_reach : List O → FRes := runF [] 4 b_does_reach
theorem fn_does_reach (Y : Ya fa fn ts K mg) : Fn P w K mg base "does_reach" 1 ["part", "machine", "found", "number"] [] does_reach :=
  Fn.of (st := s_does_reach) (N := ["part", "machine", "found", "number"]) Y 13 33 rfl rfl sc_does_reach (by decide) (by decide) (fun _ _ _ _ _ _ us hl => match us, hl with | [_, _, _, _], _ => rfl) fun f cdv A outer s H E hr hgd tk => (eb_one (es_ret (ee_view (ve_cmp op_le vw_le (ve_callB call_abs vw_abs (va_cons (ve_op op_sub vw_sub (ve_ix (ix_any (hu100 hr)) vw_ix (ve_var 2) (ve_ix (ix_any (hu100 hr)) vw_ix (ve_ix (ix_any (hu100 hr)) vw_ix (ve_var 0) (ve_var 3)) ve_int)) (ve_ix (ix_any (hu100 hr)) vw_ix (ve_var 2) (ve_var 3))) va_nil) (Y.free 32) (hv := bt_abs)) (ve_ix (ix_any (hu100 hr)) vw_ix (ve_var 1) ve_int)))))
theorem sc_misfits_of : FnScope ["part", "machine", "forms", "found", "number"] ["part", "machine", "forms"] (defScope s_misfits_of) := ⟨rfl, rfl, rfl, by decide +kernel, rfl, by decide +kernel, by decide +kernel⟩
def b_misfits_of : M Fl := (S.seq (S.asg (E.callP 3 places_of (Vw.cons (Vw.pl (.slot 0)) (Vw.cons (Vw.pl (.slot 1)) (Vw.cons (Vw.pl (.slot 2)) Vw.nil)))) (G.nm 3))
  (S.ret (E.lc [4] (Wk.seq (E.var 2)) (G.nm 4) (T.view (Vw.not (Vw.callP 4 does_reach (Vw.cons (Vw.pl (.slot 0)) (Vw.cons (Vw.pl (.slot 1)) (Vw.cons (Vw.pl (.slot 3)) (Vw.cons (Vw.pl (.slot 4)) Vw.nil))))))) (E.var 4))))
def misfits_of : List O → FRes := runF [] 5 b_misfits_of
theorem fn_misfits_of (Y : Ya fa fn ts K mg) : Fn P w K mg base "misfits_of" 3 ["part", "machine", "forms"] [] misfits_of :=
  Fn.of (st := s_misfits_of) (N := ["part", "machine", "forms", "found", "number"]) Y 14 34 rfl rfl sc_misfits_of (by decide) (by decide) (fun _ _ _ _ _ _ us hl => match us, hl with | [_, _, _], _ => rfl) fun f cdv A outer s H E hr hgd tk => (eb_cons (es_asg (ee_fnP (fn_places_of Y) hr hgd tk (vb_pl (pl_slot 0) (vb_pl (pl_slot 1) (vb_pl (pl_slot 2) vb_nil)))) (eg_nm 3 sc_misfits_of.nd))
  (eb_one (es_ret (ee_lc (own := [("number", 4)]) rfl sc_misfits_of.nd (ei_seq (ee_var 2)) (blkOk_by (N := ["part", "machine", "forms", "found", "number"]) (sc := defScope s_misfits_of) (by decide +kernel)) (fun _ _ _ _ _ => (eg_nm 4 sc_misfits_of.nd)) (fun _ _ _ _ _ => (ets_one (et_view (vt_not (vt_val (ve_fn (fn_does_reach Y) hr hgd (vb_pl (pl_slot 0) (vb_pl (pl_slot 1) (vb_pl (pl_slot 3) (vb_pl (pl_slot 4) vb_nil)))))))))) (fun _ _ _ _ _ => (ee_var 4))))))
theorem sc_grown_of : FnScope ["part", "machine", "forms", "chain", "bad", "number"] ["part", "machine"] (defScope s_grown_of) := ⟨rfl, rfl, rfl, by decide +kernel, rfl, by decide +kernel, by decide +kernel⟩
def b_grown_of : M Fl := (S.seq (S.par2 2 3 (A.cons (E.callP 1 jumps_of (Vw.cons (Vw.pl (.slot 0)) Vw.nil)) (A.cons (E.lst A.nil) A.nil)))
  (S.seq (S.asg (E.callP 3 misfits_of (Vw.cons (Vw.pl (.slot 0)) (Vw.cons (Vw.pl (.slot 1)) (Vw.cons (Vw.pl (.slot 2)) Vw.nil)))) (G.nm 4))
  (S.seq (S.while (T.view (Vw.op2 o_ne (Vw.var 4) (Vw.lst Vw.nil))) (S.seq (S.expr (E.mut 3 "list" m_append (A.cons (E.view (Vw.op2 o_ix (Vw.var 4) (Vw.c (.int 0)))) A.nil)))
  (S.seq (S.asg (E.lc [5] (Wk.seq (E.var 2)) (G.nm 5) (T.view (Vw.op2 o_ne (Vw.var 5) (Vw.op2 o_ix (Vw.var 4) (Vw.c (.int 0))))) (E.var 5)) (G.nm 2))
  (S.asg (E.callP 3 misfits_of (Vw.cons (Vw.pl (.slot 0)) (Vw.cons (Vw.pl (.slot 1)) (Vw.cons (Vw.pl (.slot 2)) Vw.nil)))) (G.nm 4)))) 100000)
  (S.ret (E.tup (A.cons (E.move 2) (A.cons (E.move 3) A.nil)))))))
def grown_of : List O → FRes := runF [] 6 b_grown_of
theorem fn_grown_of (Y : Ya fa fn ts K mg) : Fn P w K mg base "grown_of" 4 ["part", "machine"] [] grown_of :=
  Fn.of (st := s_grown_of) (N := ["part", "machine", "forms", "chain", "bad", "number"]) Y 15 35 rfl rfl sc_grown_of (by decide) (by decide) (fun _ _ _ _ _ _ us hl => match us, hl with | [_, _], _ => rfl) fun f cdv A outer s H E hr hgd tk => (eb_cons (es_par2 2 3 sc_grown_of.nd (ea_cons (ee_fnP (fn_jumps_of Y) hr hgd tk (vb_pl (pl_slot 0) vb_nil)) (ea_cons (ee_lst ea_nil) ea_nil)))
  (eb_cons (es_asg (ee_fnP (fn_misfits_of Y) hr hgd tk (vb_pl (pl_slot 0) (vb_pl (pl_slot 1) (vb_pl (pl_slot 2) vb_nil)))) (eg_nm 4 sc_grown_of.nd))
  (eb_cons (es_while 100000 (passes_of rfl) (et_view (vt_cmp (op_neA (hu100 hr)) vw_ne (ve_var 4) (ve_lst va_nil))) (eb_cons (es_expr (ee_mut 3 PySem.F.plainAttrs_list PySem.F.slot_list_append PySem.F.type_list_append mt_append ms_append (pl_slot 3) (ea_cons (ee_view (ve_ix (ix_any (hu100 hr)) vw_ix (ve_var 4) ve_int)) ea_nil)))
  (eb_cons (es_setLc 2 (own := [("number", 5)]) rfl sc_grown_of.nd rfl rfl (by decide) (sw_true rfl rfl rfl (by decide +kernel)) (ei_seq (ee_var 2)) (blkOk_by (N := ["part", "machine", "forms", "chain", "bad", "number"]) (sc := defScope s_grown_of) (by decide +kernel)) (fun _ _ _ _ _ => (eg_nm 5 sc_grown_of.nd)) (fun _ _ _ _ _ => (ets_one (et_view (vt_cmp (op_neA (hu100 hr)) vw_ne (ve_var 5) (ve_ix (ix_any (hu100 hr)) vw_ix (ve_var 4) ve_int))))) (fun _ _ _ _ _ => (ee_var 5)))
  (eb_one (es_asg (ee_fnP (fn_misfits_of Y) hr hgd tk (vb_pl (pl_slot 0) (vb_pl (pl_slot 1) (vb_pl (pl_slot 2) vb_nil)))) (eg_nm 4 sc_grown_of.nd))))))
  (eb_one (es_ret (ee_tup (ea_cons (ee_move 2) (ea_cons (ee_move 3) ea_nil))))))))
theorem sc_need_all : FnScope ["part", "machine"] ["part", "machine"] (defScope s_need_all) := ⟨rfl, rfl, rfl, by decide +kernel, rfl, by decide +kernel, by decide +kernel⟩
def b_need_all : M Fl := (S.seq (S.expr (E.callP 1 need_part (Vw.cons (Vw.pl (.slot 0)) Vw.nil)))
  (S.seq (S.expr (E.callP 1 need_even (Vw.cons (Vw.pl (.slot 0)) Vw.nil)))
  (S.expr (E.callP 1 need_machine (Vw.cons (Vw.pl (.slot 1)) Vw.nil)))))
def need_all : List O → FRes := runF [] 2 b_need_all
theorem fn_need_all (Y : Ya fa fn ts K mg) : Fn P w K mg base "need_all" 5 ["part", "machine"] [] need_all :=
  Fn.of (st := s_need_all) (N := ["part", "machine"]) Y 16 36 rfl rfl sc_need_all (by decide) (by decide) (fun _ _ _ _ _ _ us hl => match us, hl with | [_, _], _ => rfl) fun f cdv A outer s H E hr hgd tk => (eb_cons (es_expr (ee_fnP (fn_need_part Y) hr hgd tk (vb_pl (pl_slot 0) vb_nil)))
  (eb_cons (es_expr (ee_fnP (fn_need_even Y) hr hgd tk (vb_pl (pl_slot 0) vb_nil)))
  (eb_one (es_expr (ee_fnP (fn_need_machine Y) hr hgd tk (vb_pl (pl_slot 1) vb_nil))))))
theorem sc_grown : FnScope ["part", "machine"] ["part", "machine"] (defScope s_grown) := ⟨rfl, rfl, rfl, by decide +kernel, rfl, by decide +kernel, by decide +kernel⟩
def b_grown : M Fl := (S.seq (S.expr (E.callP 2 need_all (Vw.cons (Vw.pl (.slot 0)) (Vw.cons (Vw.pl (.slot 1)) Vw.nil))))
  (S.ret (E.callP 2 grown_of (Vw.cons (Vw.pl (.slot 0)) (Vw.cons (Vw.pl (.slot 1)) Vw.nil)))))
def grown : List O → FRes := runF [] 2 b_grown
theorem fn_grown (Y : Ya fa fn ts K mg) : Fn P w K mg base "grown" 6 ["part", "machine"] [] grown :=
  Fn.of (st := s_grown) (N := ["part", "machine"]) Y 17 37 rfl rfl sc_grown (by decide) (by decide) (fun _ _ _ _ _ _ us hl => match us, hl with | [_, _], _ => rfl) fun f cdv A outer s H E hr hgd tk => (eb_cons (es_expr (ee_fnP (fn_need_all Y) hr hgd tk (vb_pl (pl_slot 0) (vb_pl (pl_slot 1) vb_nil))))
  (eb_one (es_ret (ee_fnP (fn_grown_of Y) hr hgd tk (vb_pl (pl_slot 0) (vb_pl (pl_slot 1) vb_nil))))))
theorem sc__law_open : FnScope ["script", "drawn", "k", "cell"] ["script"] (defScope s__law_open) := ⟨rfl, rfl, rfl, by decide +kernel, rfl, by decide +kernel, by decide +kernel⟩
def b__law_open : M Fl := (S.seq (S.asg (E.fr (Vw.opN (fun xs => (l_list xs).map ol) (Vw.cons (Vw.sl (Vw.var 0) Vw.noPart (Vw.part (Vw.c (.int 12))) s_view) Vw.nil))) (G.nm 1))
  (S.seq (S.for (Wk.enum (A.cons (E.fr (Vw.sl (Vw.var 0) (Vw.part (Vw.c (.int 12))) (Vw.part (Vw.c (.int 63))) s_new)) A.nil)) (G.tup 2 (G.cons (G.nm 2) (G.cons (G.nm 3) G.nil))) (S.asg (E.view (Vw.op2 v_add (Vw.op2 o_ix (Vw.var 1) (Vw.op2 o_mod (Vw.opN b_int (Vw.cons (Vw.var 2) Vw.nil)) (Vw.c (.int 12)))) (Vw.var 3))) (G.subV (.slot 1) st_any (Vw.op2 o_mod (Vw.opN b_int (Vw.cons (Vw.var 2) Vw.nil)) (Vw.c (.int 12))))))
  (S.ret (E.lst (A.cons (E.move 1) (A.cons (E.view (Vw.c (.int 0))) (A.cons (E.view (Vw.c (.int 0))) A.nil)))))))
def f_law_open : List O → FRes := runF [] 4 b__law_open
theorem fn__law_open (Y : Ya fa fn ts K mg) : Fn P w K mg base "_law_open" 1 ["script"] [] f_law_open :=
  Fn.of (st := s__law_open) (N := ["script", "drawn", "k", "cell"]) Y 18 39 rfl rfl sc__law_open (by decide) (by decide) (fun _ _ _ _ _ _ us hl => match us, hl with | [_], _ => rfl) fun f cdv A outer s H E hr hgd tk => (eb_cons (es_asg (ee_frTy call_list_of ls_list.fr (va_cons (ve_sl (ve_var 0) vo_none (vo_some ve_int)) va_nil) (Y.free 38) (hv := bt_list)) (eg_nm 1 sc__law_open.nd))
  (eb_cons (es_for (passes_of rfl) rfl (ei_enum rfl (Y.free 16) (ea_cons (ee_slF (ve_var 0) (vo_some ve_int) (vo_some ve_int)) ea_nil)) (eg_tup rfl (egs_cons (eg_nm 2 sc__law_open.nd) (egs_cons (eg_nm 3 sc__law_open.nd) egs_nil))) (eb_one (es_asg (ee_view (ve_op op_add2 vw_add (ve_ix (ix_any (hu100 hr)) vw_ix (ve_var 1) (ve_op op_mod vw_mod (ve_callTy call_int1 vw_int (va_cons (ve_var 2) va_nil) (Y.free 1) (hv := bt_int)) ve_int)) (ve_var 3))) (eg_subV (.slot 1) (set_any (hu100 hr)) ss_any (pl_slot 1) (ve_op op_mod vw_mod (ve_callTy call_int1 vw_int (va_cons (ve_var 2) va_nil) (Y.free 1) (hv := bt_int)) ve_int)))))
  (eb_one (es_ret (ee_lst (ea_cons (ee_move 1) (ea_cons (ee_view ve_int) (ea_cons (ee_view ve_int) ea_nil))))))))
theorem sc__law_spread : FnScope ["cell", "where", "primes", "u", "v", "w"] ["cell", "where"] (defScope s__law_spread) := ⟨rfl, rfl, rfl, by decide +kernel, rfl, by decide +kernel, by decide +kernel⟩
def b__law_spread : M Fl := (S.seq (S.ifS (T.view (Vw.op2 o_ge (Vw.var 0) (Vw.op2 o_pow (Vw.c (.int 10)) (Vw.c (.int 18))))) (S.ret (E.move 0)) S.nx)
  (S.seq (S.asg (E.lst (A.cons (E.view (Vw.c (.int 2147483629))) (A.cons (E.view (Vw.c (.int 2147483587))) (A.cons (E.view (Vw.c (.int 2147483579))) (A.cons (E.view (Vw.c (.int 2147483563))) (A.cons (E.view (Vw.c (.int 2147483549))) (A.cons (E.view (Vw.c (.int 2147483543))) (A.cons (E.view (Vw.c (.int 2147483497))) (A.cons (E.view (Vw.c (.int 2147483489))) A.nil))))))))) (G.nm 2))
  (S.seq (S.asg (E.fr (Vw.op2 (fun x y => (l_add x y).map ol) (Vw.var 2) (Vw.lst (Vw.cons (Vw.c (.int 2147483477)) (Vw.cons (Vw.c (.int 2147483423)) (Vw.cons (Vw.c (.int 2147483399)) (Vw.cons (Vw.c (.int 2147483353)) (Vw.cons (Vw.c (.int 2147483323)) Vw.nil)))))))) (G.nm 2))
  (S.seq (S.asg (E.view (Vw.op2 v_add (Vw.op2 v_add (Vw.op2 v_mulA (Vw.op2 o_mod (Vw.opN b_int (Vw.cons (Vw.var 0) Vw.nil)) (Vw.c (.int 1000000007))) (Vw.op2 v_add (Vw.op2 v_mulA (Vw.c (.int 2)) (Vw.var 1)) (Vw.c (.int 69069)))) (Vw.op2 v_mulA (Vw.var 1) (Vw.c (.int 40503)))) (Vw.c (.int 977)))) (G.nm 3))
  (S.seq (S.asg (E.view (Vw.op2 o_mod (Vw.opN b_int (Vw.cons (Vw.op2 o_pow (Vw.var 3) (Vw.c (.int 3))) Vw.nil)) (Vw.op2 o_ix (Vw.var 2) (Vw.op2 o_mod (Vw.opN b_int (Vw.cons (Vw.var 1) Vw.nil)) (Vw.c (.int 13)))))) (G.nm 3))
  (S.seq (S.asg (E.view (Vw.op2 o_mod (Vw.opN b_int (Vw.cons (Vw.op2 o_pow (Vw.op2 v_add (Vw.op2 v_add (Vw.op2 v_mulA (Vw.var 3) (Vw.op2 v_add (Vw.var 1) (Vw.c (.int 3)))) (Vw.op2 o_mod (Vw.opN b_int (Vw.cons (Vw.var 0) Vw.nil)) (Vw.c (.int 65537)))) (Vw.c (.int 5))) (Vw.c (.int 5))) Vw.nil)) (Vw.op2 o_ix (Vw.var 2) (Vw.op2 o_mod (Vw.opN b_int (Vw.cons (Vw.op2 v_add (Vw.var 1) (Vw.c (.int 5))) Vw.nil)) (Vw.c (.int 13)))))) (G.nm 4))
  (S.seq (S.asg (E.view (Vw.op2 o_mod (Vw.opN b_int (Vw.cons (Vw.op2 o_pow (Vw.op2 v_add (Vw.op2 v_add (Vw.var 4) (Vw.op2 o_mod (Vw.opN b_int (Vw.cons (Vw.var 3) Vw.nil)) (Vw.c (.int 1009)))) (Vw.var 1)) (Vw.c (.int 3))) Vw.nil)) (Vw.op2 o_ix (Vw.var 2) (Vw.op2 o_mod (Vw.opN b_int (Vw.cons (Vw.op2 v_add (Vw.var 1) (Vw.c (.int 7))) Vw.nil)) (Vw.c (.int 13)))))) (G.nm 5))
  (S.ret (E.view (Vw.op2 v_add (Vw.op2 v_mulA (Vw.op2 v_add (Vw.op2 v_mulA (Vw.var 3) (Vw.c (.int 2147483647))) (Vw.var 4)) (Vw.c (.int 2147483647))) (Vw.var 5)))))))))))
def f_law_spread : List O → FRes := runF [] 6 b__law_spread
theorem fn__law_spread (Y : Ya fa fn ts K mg) : Fn P w K mg base "_law_spread" 1 ["cell", "where"] [] f_law_spread :=
  Fn.of (st := s__law_spread) (N := ["cell", "where", "primes", "u", "v", "w"]) Y 19 40 rfl rfl sc__law_spread (by decide) (by decide) (fun _ _ _ _ _ _ us hl => match us, hl with | [_, _], _ => rfl) fun f cdv A outer s H E hr hgd tk => (eb_cons (es_if (et_view (vt_cmp op_ge vw_ge (ve_var 0) (ve_op op_pow vw_pow ve_int ve_int))) (eb_one (es_ret (ee_move 0))) eb_nil)
  (eb_cons (es_asg (ee_lst (ea_cons (ee_view ve_int) (ea_cons (ee_view ve_int) (ea_cons (ee_view ve_int) (ea_cons (ee_view ve_int) (ea_cons (ee_view ve_int) (ea_cons (ee_view ve_int) (ea_cons (ee_view ve_int) (ea_cons (ee_view ve_int) ea_nil))))))))) (eg_nm 2 sc__law_spread.nd))
  (eb_cons (es_asg (ee_frOp op_add2 fr_add (ve_var 2) (ve_lst (va_cons ve_int (va_cons ve_int (va_cons ve_int (va_cons ve_int (va_cons ve_int va_nil))))))) (eg_nm 2 sc__law_spread.nd))
  (eb_cons (es_asg (ee_view (ve_op op_add2 vw_add (ve_op op_add2 vw_add (ve_op op_mul2 vw_mulA (ve_op op_mod vw_mod (ve_callTy call_int1 vw_int (va_cons (ve_var 0) va_nil) (Y.free 1) (hv := bt_int)) ve_int) (ve_op op_add2 vw_add (ve_op op_mul2 vw_mulA ve_int (ve_var 1)) ve_int)) (ve_op op_mul2 vw_mulA (ve_var 1) ve_int)) ve_int)) (eg_nm 3 sc__law_spread.nd))
  (eb_cons (es_asg (ee_view (ve_op op_mod vw_mod (ve_callTy call_int1 vw_int (va_cons (ve_op op_pow vw_pow (ve_var 3) ve_int) va_nil) (Y.free 1) (hv := bt_int)) (ve_ix (ix_any (hu100 hr)) vw_ix (ve_var 2) (ve_op op_mod vw_mod (ve_callTy call_int1 vw_int (va_cons (ve_var 1) va_nil) (Y.free 1) (hv := bt_int)) ve_int)))) (eg_nm 3 sc__law_spread.nd))
  (eb_cons (es_asg (ee_view (ve_op op_mod vw_mod (ve_callTy call_int1 vw_int (va_cons (ve_op op_pow vw_pow (ve_op op_add2 vw_add (ve_op op_add2 vw_add (ve_op op_mul2 vw_mulA (ve_var 3) (ve_op op_add2 vw_add (ve_var 1) ve_int)) (ve_op op_mod vw_mod (ve_callTy call_int1 vw_int (va_cons (ve_var 0) va_nil) (Y.free 1) (hv := bt_int)) ve_int)) ve_int) ve_int) va_nil) (Y.free 1) (hv := bt_int)) (ve_ix (ix_any (hu100 hr)) vw_ix (ve_var 2) (ve_op op_mod vw_mod (ve_callTy call_int1 vw_int (va_cons (ve_op op_add2 vw_add (ve_var 1) ve_int) va_nil) (Y.free 1) (hv := bt_int)) ve_int)))) (eg_nm 4 sc__law_spread.nd))
  (eb_cons (es_asg (ee_view (ve_op op_mod vw_mod (ve_callTy call_int1 vw_int (va_cons (ve_op op_pow vw_pow (ve_op op_add2 vw_add (ve_op op_add2 vw_add (ve_var 4) (ve_op op_mod vw_mod (ve_callTy call_int1 vw_int (va_cons (ve_var 3) va_nil) (Y.free 1) (hv := bt_int)) ve_int)) (ve_var 1)) ve_int) va_nil) (Y.free 1) (hv := bt_int)) (ve_ix (ix_any (hu100 hr)) vw_ix (ve_var 2) (ve_op op_mod vw_mod (ve_callTy call_int1 vw_int (va_cons (ve_op op_add2 vw_add (ve_var 1) ve_int) va_nil) (Y.free 1) (hv := bt_int)) ve_int)))) (eg_nm 5 sc__law_spread.nd))
  (eb_one (es_ret (ee_view (ve_op op_add2 vw_add (ve_op op_mul2 vw_mulA (ve_op op_add2 vw_add (ve_op op_mul2 vw_mulA (ve_var 3) ve_int) (ve_var 4)) ve_int) (ve_var 5))))))))))))
theorem sc__law_take : FnScope ["pen", "amount", "where", "cell", "found"] ["pen", "amount"] (defScope s__law_take) := ⟨rfl, rfl, rfl, by decide +kernel, rfl, by decide +kernel, by decide +kernel⟩
def b__law_take : M Fl := (S.seq (S.ifS (T.view (Vw.op2 o_lt (Vw.op2 o_ix (Vw.var 0) (Vw.c (.int 2))) (Vw.var 1))) (S.seq (S.asg (E.view (Vw.op2 o_ix (Vw.var 0) (Vw.c (.int 1)))) (G.nm 2))
  (S.seq (S.asg (E.view (Vw.c (.int 0))) (G.nm 3))
  (S.seq (S.ifS (T.view (Vw.op2 o_lt (Vw.var 2) (Vw.opN o_len (Vw.cons (Vw.op2 o_ix (Vw.var 0) (Vw.c (.int 0))) Vw.nil)))) (S.asg (E.view (Vw.op2 o_ix (Vw.op2 o_ix (Vw.var 0) (Vw.c (.int 0))) (Vw.var 2))) (G.nm 3)) (S.ifS (T.view (Vw.op2 o_gt (Vw.opN o_len (Vw.cons (Vw.op2 o_ix (Vw.var 0) (Vw.c (.int 0))) Vw.nil)) (Vw.c (.int 0)))) (S.asg (E.view (Vw.op2 o_mod (Vw.opN b_int (Vw.cons (Vw.op2 o_ix (Vw.op2 o_ix (Vw.var 0) (Vw.c (.int 0))) (Vw.op2 o_mod (Vw.opN b_int (Vw.cons (Vw.op2 v_add (Vw.op2 v_mulA (Vw.var 2) (Vw.c (.int 5))) (Vw.c (.int 3))) Vw.nil)) (Vw.opN o_len (Vw.cons (Vw.op2 o_ix (Vw.var 0) (Vw.c (.int 0))) Vw.nil)))) Vw.nil)) (Vw.op2 v_add (Vw.op2 o_pow (Vw.c (.int 10)) (Vw.c (.int 17))) (Vw.var 2)))) (G.nm 3)) S.nx))
  (S.seq (S.asg (E.view (Vw.op2 v_add (Vw.var 2) (Vw.c (.int 1)))) (G.subV (.slot 0) st_any (Vw.c (.int 1))))
  (S.asg (E.callP 2 f_law_spread (Vw.cons (Vw.pl (.slot 3)) (Vw.cons (Vw.pl (.slot 2)) Vw.nil))) (G.subV (.slot 0) st_any (Vw.c (.int 2)))))))) S.nx)
  (S.seq (S.asg (E.view (Vw.op2 o_mod (Vw.opN b_int (Vw.cons (Vw.op2 o_ix (Vw.var 0) (Vw.c (.int 2))) Vw.nil)) (Vw.var 1))) (G.nm 4))
  (S.seq (S.asg (E.view (Vw.op2 o_fdiv (Vw.op2 o_ix (Vw.var 0) (Vw.c (.int 2))) (Vw.var 1))) (G.subV (.slot 0) st_any (Vw.c (.int 2))))
  (S.ret (E.move 4)))))
def f_law_take : List O → FRes := runF [0] 5 b__law_take
theorem fn__law_take (Y : Ya fa fn ts K mg) : Fn P w K mg base "_law_take" 2 ["pen", "amount"] [0] f_law_take :=
  Fn.of (st := s__law_take) (N := ["pen", "amount", "where", "cell", "found"]) Y 20 41 rfl rfl sc__law_take (by decide) (by decide) (fun _ _ _ _ _ _ us hl => match us, hl with | [_, _], _ => rfl) fun f cdv A outer s H E hr hgd tk => (eb_cons (es_if (et_view (vt_cmp op_lt vw_lt (ve_ix (ix_any (hu100 hr)) vw_ix (ve_var 0) ve_int) (ve_var 1))) (eb_cons (es_asg (ee_view (ve_ix (ix_any (hu100 hr)) vw_ix (ve_var 0) ve_int)) (eg_nm 2 sc__law_take.nd))
  (eb_cons (es_asg (ee_view ve_int) (eg_nm 3 sc__law_take.nd))
  (eb_cons (es_if (et_view (vt_cmp op_lt vw_lt (ve_var 2) (ve_callB call_lenA vw_len (va_cons (ve_ix (ix_any (hu100 hr)) vw_ix (ve_var 0) ve_int) va_nil) (Y.free 5) (hv := bt_len)))) (eb_one (es_asg (ee_view (ve_ix (ix_any (hu100 hr)) vw_ix (ve_ix (ix_any (hu100 hr)) vw_ix (ve_var 0) ve_int) (ve_var 2))) (eg_nm 3 sc__law_take.nd))) (eb_one (es_if (et_view (vt_cmp op_gt vw_gt (ve_callB call_lenA vw_len (va_cons (ve_ix (ix_any (hu100 hr)) vw_ix (ve_var 0) ve_int) va_nil) (Y.free 5) (hv := bt_len)) ve_int)) (eb_one (es_asg (ee_view (ve_op op_mod vw_mod (ve_callTy call_int1 vw_int (va_cons (ve_ix (ix_any (hu100 hr)) vw_ix (ve_ix (ix_any (hu100 hr)) vw_ix (ve_var 0) ve_int) (ve_op op_mod vw_mod (ve_callTy call_int1 vw_int (va_cons (ve_op op_add2 vw_add (ve_op op_mul2 vw_mulA (ve_var 2) ve_int) ve_int) va_nil) (Y.free 1) (hv := bt_int)) (ve_callB call_lenA vw_len (va_cons (ve_ix (ix_any (hu100 hr)) vw_ix (ve_var 0) ve_int) va_nil) (Y.free 5) (hv := bt_len)))) va_nil) (Y.free 1) (hv := bt_int)) (ve_op op_add2 vw_add (ve_op op_pow vw_pow ve_int ve_int) (ve_var 2)))) (eg_nm 3 sc__law_take.nd))) eb_nil)))
  (eb_cons (es_asg (ee_view (ve_op op_add2 vw_add (ve_var 2) ve_int)) (eg_subV (.slot 0) (set_any (hu100 hr)) ss_any (pl_slot 0) ve_int))
  (eb_one (es_asg (ee_fnP (fn__law_spread Y) hr hgd tk (vb_pl (pl_slot 3) (vb_pl (pl_slot 2) vb_nil))) (eg_subV (.slot 0) (set_any (hu100 hr)) ss_any (pl_slot 0) ve_int))))))) eb_nil)
  (eb_cons (es_asg (ee_view (ve_op op_mod vw_mod (ve_callTy call_int1 vw_int (va_cons (ve_ix (ix_any (hu100 hr)) vw_ix (ve_var 0) ve_int) va_nil) (Y.free 1) (hv := bt_int)) (ve_var 1))) (eg_nm 4 sc__law_take.nd))
  (eb_cons (es_asg (ee_view (ve_op op_fdiv vw_fdiv (ve_ix (ix_any (hu100 hr)) vw_ix (ve_var 0) ve_int) (ve_var 1))) (eg_subV (.slot 0) (set_any (hu100 hr)) ss_any (pl_slot 0) ve_int))
  (eb_one (es_ret (ee_move 4))))))
theorem sc__law_same : FnScope ["found", "due", "one", "other"] ["found", "due"] (defScope s__law_same) := ⟨rfl, rfl, rfl, by decide +kernel, rfl, by decide +kernel, by decide +kernel⟩
def b__law_same (f_law_same : Nat → List O → FRes) (n : Nat) : M Fl := (S.seq (S.ifS (T.view (Vw.or (Vw.op2 o_is (Vw.var 1) (Vw.c .none)) (Vw.op2 o_is (Vw.var 0) (Vw.c .none)))) (S.ret (E.view (Vw.and (Vw.op2 o_is (Vw.var 1) (Vw.c .none)) (Vw.op2 o_is (Vw.var 0) (Vw.c .none))))) S.nx)
  (S.seq (S.ifS (T.view (Vw.or (Vw.op1 (isi "bool") (Vw.var 1)) (Vw.op1 (isi "bool") (Vw.var 0)))) (S.ret (E.view (Vw.and (Vw.op1 (isi "bool") (Vw.var 1)) (Vw.and (Vw.op1 (isi "bool") (Vw.var 0)) (Vw.op2 o_eq (Vw.var 0) (Vw.var 1)))))) S.nx)
  (S.seq (S.ifS (T.view (Vw.op1 (isiT ["int", "str"]) (Vw.var 1))) (S.seq (S.ifS (T.view (Vw.op2 o_ne (Vw.op1 (isi "int") (Vw.var 0)) (Vw.op1 (isi "int") (Vw.var 1)))) (S.ret (E.view (Vw.c (.bool false)))) S.nx)
  (S.ret (E.view (Vw.and (Vw.op1 (isiT ["int", "str"]) (Vw.var 0)) (Vw.op2 o_eq (Vw.var 0) (Vw.var 1)))))) S.nx)
  (S.seq (S.ifS (T.view (Vw.or (Vw.op2 o_ne (Vw.op1 (isi "tuple") (Vw.var 1)) (Vw.op1 (isi "tuple") (Vw.var 0))) (Vw.op2 o_ne (Vw.op1 (isi "list") (Vw.var 1)) (Vw.op1 (isi "list") (Vw.var 0))))) (S.ret (E.view (Vw.c (.bool false)))) S.nx)
  (S.seq (S.ifS (T.view (Vw.op2 o_ne (Vw.opN o_len (Vw.cons (Vw.var 0) Vw.nil)) (Vw.opN o_len (Vw.cons (Vw.var 1) Vw.nil)))) (S.ret (E.view (Vw.c (.bool false)))) S.nx)
  (S.ret (E.op2 o_nin (E.view (Vw.c (.bool false))) (E.lc [2, 3] (Wk.zip (A.cons (E.var 0) (A.cons (E.var 1) A.nil))) (G.tup 2 (G.cons (G.nm 2) (G.cons (G.nm 3) G.nil))) T.yes (E.callP 2 (f_law_same n) (Vw.cons (Vw.pl (.slot 2)) (Vw.cons (Vw.pl (.slot 3)) Vw.nil)))))))))))
def f_law_same : Nat → List O → FRes
  | 0 => fun _ => .stuck
  | n + 1 => runF [] 4 (b__law_same (fun _ => f_law_same n) n)
theorem fn__law_same : ∀ (n : Nat) {P : Program} {w : World} {K : PySem.W.Frag} {mg : Str → Option Value} {base : Heap} (Y : Ya fa fn ts K mg), Fn P w K mg base "_law_same" (0 + n + 1) ["found", "due"] [] (f_law_same n)
  | 0, _, _, _, _, _, Y => Fn.stuck (st := s__law_same) Y 21 43 rfl rfl (fun _ _ _ _ _ _ us hl => match us, hl with | [_, _], _ => rfl)
  | n + 1, _, _, _, _, _, Y => Fn.of (st := s__law_same) (N := ["found", "due", "one", "other"]) Y 21 43 rfl rfl sc__law_same (by decide) (by decide) (fun _ _ _ _ _ _ us hl => match us, hl with | [_, _], _ => rfl) fun f cdv A outer s H E hr hgd tk => (eb_cons (es_if (et_view (vt_of (vtw_or (vt_cmp op_isA vw_is (ve_var 1) ve_non) (vtw_or1 (vt_cmp op_isA vw_is (ve_var 0) ve_non))))) (eb_one (es_ret (ee_view (ve_and (ve_cmp op_isA vw_is (ve_var 1) ve_non) (ve_one (ve_cmp op_isA vw_is (ve_var 0) ve_non)))))) eb_nil)
  (eb_cons (es_if (et_view (vt_of (vtw_or (vt_val (ve_isi (ve_var 1) (Y.free 0) (Y.free 2) (hv := bt_bool))) (vtw_or1 (vt_val (ve_isi (ve_var 0) (Y.free 0) (Y.free 2) (hv := bt_bool))))))) (eb_one (es_ret (ee_view (ve_and (ve_isi (ve_var 1) (Y.free 0) (Y.free 2) (hv := bt_bool)) (ve_and (ve_isi (ve_var 0) (Y.free 0) (Y.free 2) (hv := bt_bool)) (ve_one (ve_cmp (op_eqA (hu100 hr)) vw_eq (ve_var 0) (ve_var 1)))))))) eb_nil)
  (eb_cons (es_if (et_view (vt_val (ve_isiT (ve_var 1) (Y.free 0) (.cons (Y.free 1) (.cons (Y.free 10) .nil (hv := bt_str)) (hv := bt_int))))) (eb_cons (es_if (et_view (vt_cmp (op_neA (hu100 hr)) vw_ne (ve_isi (ve_var 0) (Y.free 0) (Y.free 1) (hv := bt_int)) (ve_isi (ve_var 1) (Y.free 0) (Y.free 1) (hv := bt_int)))) (eb_one (es_ret (ee_view ve_bl))) eb_nil)
  (eb_one (es_ret (ee_view (ve_and (ve_isiT (ve_var 0) (Y.free 0) (.cons (Y.free 1) (.cons (Y.free 10) .nil (hv := bt_str)) (hv := bt_int))) (ve_one (ve_cmp (op_eqA (hu100 hr)) vw_eq (ve_var 0) (ve_var 1)))))))) eb_nil)
  (eb_cons (es_if (et_view (vt_of (vtw_or (vt_cmp (op_neA (hu100 hr)) vw_ne (ve_isi (ve_var 1) (Y.free 0) (Y.free 4) (hv := bt_tuple)) (ve_isi (ve_var 0) (Y.free 0) (Y.free 4) (hv := bt_tuple))) (vtw_or1 (vt_cmp (op_neA (hu100 hr)) vw_ne (ve_isi (ve_var 1) (Y.free 0) (Y.free 38) (hv := bt_list)) (ve_isi (ve_var 0) (Y.free 0) (Y.free 38) (hv := bt_list))))))) (eb_one (es_ret (ee_view ve_bl))) eb_nil)
  (eb_cons (es_if (et_view (vt_cmp (op_neA (hu100 hr)) vw_ne (ve_callB call_lenA vw_len (va_cons (ve_var 0) va_nil) (Y.free 5) (hv := bt_len)) (ve_callB call_lenA vw_len (va_cons (ve_var 1) va_nil) (Y.free 5) (hv := bt_len)))) (eb_one (es_ret (ee_view ve_bl))) eb_nil)
  (eb_one (es_ret (ee_cmp (op_ninA (hu100 hr)) ok_nin (ee_view ve_bl) (ee_lc (own := [("one", 2), ("other", 3)]) rfl sc__law_same.nd (ei_zip rfl (Y.free 42) (ea_cons (ee_var 0) (ea_cons (ee_var 1) ea_nil))) (blkOk_by (N := ["found", "due", "one", "other"]) (sc := defScope s__law_same) (by decide +kernel)) (fun _ _ _ _ _ => (eg_tup rfl (egs_cons (eg_nm 2 sc__law_same.nd) (egs_cons (eg_nm 3 sc__law_same.nd) egs_nil)))) (fun _ _ _ _ _ => ets_nil) (fun _ _ _ _ _ => (ee_fnP (fn__law_same n Y) hr hgd takesW0 (vb_pl (pl_slot 2) (vb_pl (pl_slot 3) vb_nil))))) rfl))))))))
theorem sc__law_one_of : FnScope ["pen", "some"] ["pen", "some"] (defScope s__law_one_of) := ⟨rfl, rfl, rfl, by decide +kernel, rfl, by decide +kernel, by decide +kernel⟩
def b__law_one_of : M Fl := (S.ret (E.op2 o_ixd (E.var 1) (E.callIO 2 f_law_take 0 (A.cons (E.view (Vw.opN o_len (Vw.cons (Vw.var 1) Vw.nil))) A.nil))))
def f_law_one_of : List O → FRes := runF [0] 2 b__law_one_of
theorem fn__law_one_of (Y : Ya fa fn ts K mg) : Fn P w K mg base "_law_one_of" 3 ["pen", "some"] [0] f_law_one_of :=
  Fn.of (st := s__law_one_of) (N := ["pen", "some"]) Y 22 44 rfl rfl sc__law_one_of (by decide) (by decide) (fun _ _ _ _ _ _ us hl => match us, hl with | [_, _], _ => rfl) fun f cdv A outer s H E hr hgd tk => (eb_one (es_ret (ee_ix (ix_any (hu100 hr)) ok_ix (ee_var 1) (ee_fnIO 0 (fn__law_take Y) hr hgd tk (pl_slot 0) (ea_cons (ee_view (ve_callB call_lenA vw_len (va_cons (ve_var 1) va_nil) (Y.free 5) (hv := bt_len))) ea_nil)))))
theorem sc__law_draw_row : FnScope ["pen", "is_free", "is_last", "aligns", "many", "way", "some"] ["pen", "is_free", "is_last", "aligns", "many"] (defScope s__law_draw_row) := ⟨rfl, rfl, rfl, by decide +kernel, rfl, by decide +kernel, by decide +kernel⟩
def b__law_draw_row : M Fl := (S.seq (S.asg (E.callIO 2 f_law_take 0 (A.cons (E.view (Vw.c (.int 20))) A.nil)) (G.nm 5))
  (S.seq (S.ifS (T.view (Vw.and (Vw.var 1) (Vw.op2 o_lt (Vw.var 5) (Vw.c (.int 5))))) (S.ret (E.tup (A.cons (E.view (Vw.c (.str "word"))) (A.cons (E.callIO 2 f_law_take 0 (A.cons (E.view (Vw.c (.int 4))) A.nil)) A.nil)))) S.nx)
  (S.seq (S.ifS (T.view (Vw.or (Vw.var 2) (Vw.op2 o_lt (Vw.var 5) (Vw.c (.int 3))))) (S.seq (S.asg (E.lst (A.cons (E.tup (A.cons (E.view (Vw.c (.str "stop"))) (A.cons (E.callIO 2 f_law_one_of 0 (A.cons (E.lst (A.cons (E.view (Vw.c (.int 1))) (A.cons (E.view (Vw.c (.int 2))) (A.cons (E.view (Vw.c (.int 99))) A.nil)))) A.nil)) A.nil))) (A.cons (E.view (Vw.tup (Vw.cons (Vw.c (.str "jump")) (Vw.cons (Vw.c (.int 0)) Vw.nil)))) (A.cons (E.view (Vw.tup (Vw.cons (Vw.c (.str "jump")) (Vw.cons (Vw.c (.int 0)) Vw.nil)))) (A.cons (E.tup (A.cons (E.view (Vw.c (.str "far"))) (A.cons (E.callIO 2 f_law_take 0 (A.cons (E.var 4) A.nil)) A.nil))) A.nil))))) (G.nm 6))
  (S.ret (E.callIO 2 f_law_one_of 0 (A.cons (E.var 6) A.nil)))) S.nx)
  (S.seq (S.ifS (T.view (Vw.op2 o_lt (Vw.var 5) (Vw.c (.int 8)))) (S.ret (E.tup (A.cons (E.view (Vw.c (.str "branch"))) (A.cons (E.view (Vw.c (.int 0))) A.nil)))) S.nx)
  (S.seq (S.ifS (T.view (Vw.op2 o_lt (Vw.var 5) (Vw.c (.int 11)))) (S.ret (E.tup (A.cons (E.view (Vw.c (.str "load"))) (A.cons (E.callIO 2 f_law_take 0 (A.cons (E.view (Vw.c (.int 4))) A.nil)) A.nil)))) S.nx)
  (S.seq (S.ifS (T.view (Vw.and (Vw.op2 o_lt (Vw.var 5) (Vw.c (.int 14))) (Vw.op2 o_gt (Vw.var 3) (Vw.c (.int 0))))) (S.ret (E.tup (A.cons (E.view (Vw.c (.str "align"))) (A.cons (E.callIO 2 f_law_one_of 0 (A.cons (E.lst (A.cons (E.view (Vw.c (.int 2))) (A.cons (E.view (Vw.c (.int 4))) (A.cons (E.view (Vw.c (.int 8))) (A.cons (E.view (Vw.c (.int 16))) A.nil))))) A.nil)) A.nil)))) S.nx)
  (S.ret (E.tup (A.cons (E.view (Vw.c (.str "plain"))) (A.cons (E.callIO 2 f_law_one_of 0 (A.cons (E.lst (A.cons (E.view (Vw.c (.int 1))) (A.cons (E.view (Vw.c (.int 2))) (A.cons (E.view (Vw.c (.int 3))) (A.cons (E.view (Vw.c (.int 20))) (A.cons (E.view (Vw.c (.int 99))) (A.cons (E.op2 o_add (E.view (Vw.c (.int 1))) (E.callIO 2 f_law_take 0 (A.cons (E.view (Vw.c (.int 99))) A.nil))) A.nil))))))) A.nil)) (A.cons (E.callIO 2 f_law_one_of 0 (A.cons (E.lst (A.cons (E.view (Vw.c (.int 0))) (A.cons (E.view (Vw.c (.int 1))) (A.cons (E.view (Vw.c (.int 2))) (A.cons (E.view (Vw.c (.int 999))) A.nil))))) A.nil)) A.nil)))))))))))
def f_law_draw_row : List O → FRes := runF [0] 7 b__law_draw_row
theorem fn__law_draw_row (Y : Ya fa fn ts K mg) : Fn P w K mg base "_law_draw_row" 4 ["pen", "is_free", "is_last", "aligns", "many"] [0] f_law_draw_row :=
  Fn.of (st := s__law_draw_row) (N := ["pen", "is_free", "is_last", "aligns", "many", "way", "some"]) Y 23 45 rfl rfl sc__law_draw_row (by decide) (by decide) (fun _ _ _ _ _ _ us hl => match us, hl with | [_, _, _, _, _], _ => rfl) fun f cdv A outer s H E hr hgd tk => (eb_cons (es_asg (ee_fnIO 0 (fn__law_take Y) hr hgd tk (pl_slot 0) (ea_cons (ee_view ve_int) ea_nil)) (eg_nm 5 sc__law_draw_row.nd))
  (eb_cons (es_if (et_view (vt_of (vtw_and (vt_val (ve_var 1)) (vtw_and1 (vt_cmp op_lt vw_lt (ve_var 5) ve_int))))) (eb_one (es_ret (ee_tup (ea_cons (ee_view ve_str) (ea_cons (ee_fnIO 0 (fn__law_take Y) hr hgd tk (pl_slot 0) (ea_cons (ee_view ve_int) ea_nil)) ea_nil))))) eb_nil)
  (eb_cons (es_if (et_view (vt_of (vtw_or (vt_val (ve_var 2)) (vtw_or1 (vt_cmp op_lt vw_lt (ve_var 5) ve_int))))) (eb_cons (es_asg (ee_lst (ea_cons (ee_tup (ea_cons (ee_view ve_str) (ea_cons (ee_fnIO 0 (fn__law_one_of Y) hr hgd tk (pl_slot 0) (ea_cons (ee_lst (ea_cons (ee_view ve_int) (ea_cons (ee_view ve_int) (ea_cons (ee_view ve_int) ea_nil)))) ea_nil)) ea_nil))) (ea_cons (ee_view (ve_tup (va_cons ve_str (va_cons ve_int va_nil)))) (ea_cons (ee_view (ve_tup (va_cons ve_str (va_cons ve_int va_nil)))) (ea_cons (ee_tup (ea_cons (ee_view ve_str) (ea_cons (ee_fnIO 0 (fn__law_take Y) hr hgd tk (pl_slot 0) (ea_cons (ee_var 4) ea_nil)) ea_nil))) ea_nil))))) (eg_nm 6 sc__law_draw_row.nd))
  (eb_one (es_ret (ee_fnIO 0 (fn__law_one_of Y) hr hgd tk (pl_slot 0) (ea_cons (ee_var 6) ea_nil))))) eb_nil)
  (eb_cons (es_if (et_view (vt_cmp op_lt vw_lt (ve_var 5) ve_int)) (eb_one (es_ret (ee_tup (ea_cons (ee_view ve_str) (ea_cons (ee_view ve_int) ea_nil))))) eb_nil)
  (eb_cons (es_if (et_view (vt_cmp op_lt vw_lt (ve_var 5) ve_int)) (eb_one (es_ret (ee_tup (ea_cons (ee_view ve_str) (ea_cons (ee_fnIO 0 (fn__law_take Y) hr hgd tk (pl_slot 0) (ea_cons (ee_view ve_int) ea_nil)) ea_nil))))) eb_nil)
  (eb_cons (es_if (et_view (vt_of (vtw_and (vt_cmp op_lt vw_lt (ve_var 5) ve_int) (vtw_and1 (vt_cmp op_gt vw_gt (ve_var 3) ve_int))))) (eb_one (es_ret (ee_tup (ea_cons (ee_view ve_str) (ea_cons (ee_fnIO 0 (fn__law_one_of Y) hr hgd tk (pl_slot 0) (ea_cons (ee_lst (ea_cons (ee_view ve_int) (ea_cons (ee_view ve_int) (ea_cons (ee_view ve_int) (ea_cons (ee_view ve_int) ea_nil))))) ea_nil)) ea_nil))))) eb_nil)
  (eb_one (es_ret (ee_tup (ea_cons (ee_view ve_str) (ea_cons (ee_fnIO 0 (fn__law_one_of Y) hr hgd tk (pl_slot 0) (ea_cons (ee_lst (ea_cons (ee_view ve_int) (ea_cons (ee_view ve_int) (ea_cons (ee_view ve_int) (ea_cons (ee_view ve_int) (ea_cons (ee_view ve_int) (ea_cons (ee_op op_add2 ok_add (ee_view ve_int) (ee_fnIO 0 (fn__law_take Y) hr hgd tk (pl_slot 0) (ea_cons (ee_view ve_int) ea_nil))) ea_nil))))))) ea_nil)) (ea_cons (ee_fnIO 0 (fn__law_one_of Y) hr hgd tk (pl_slot 0) (ea_cons (ee_lst (ea_cons (ee_view ve_int) (ea_cons (ee_view ve_int) (ea_cons (ee_view ve_int) (ea_cons (ee_view ve_int) ea_nil))))) ea_nil)) ea_nil))))))))))))
theorem sc__law_draw_part : FnScope ["pen", "most", "aligns", "many", "rows", "found", "size", "k", "ahead", "goals", "jumps", "row", "goal"] ["pen", "most", "aligns", "many"] (defScope s__law_draw_part) := ⟨rfl, rfl, rfl, by decide +kernel, rfl, by decide +kernel, by decide +kernel⟩
def b__law_draw_part : M Fl := (S.seq (S.asg (E.tup (A.cons (E.lst A.nil) (A.cons (E.lst A.nil) (A.cons (E.op2 o_add (E.view (Vw.c (.int 1))) (E.callIO 2 f_law_take 0 (A.cons (E.var 1) A.nil))) A.nil)))) (G.tup 3 (G.cons (G.nm 4) (G.cons (G.nm 5) (G.cons (G.nm 6) G.nil)))))
  (S.seq (S.for (Wk.range1 (A.cons (E.var 6) A.nil)) (G.nm 7) (S.seq (S.asg (E.view (Vw.ifE (Vw.op2 o_ne (Vw.var 4) (Vw.lst Vw.nil)) (Vw.op2 o_ix (Vw.op2 o_ix (Vw.var 4) (Vw.op1 o_neg (Vw.c (.int 1)))) (Vw.c (.int 0))) (Vw.c (.str "plain")))) (G.nm 8))
  (S.expr (E.mut 4 "list" m_append (A.cons (E.callIO 5 f_law_draw_row 0 (A.cons (E.view (Vw.op2 o_in (Vw.var 8) (Vw.tup (Vw.cons (Vw.c (.str "stop")) (Vw.cons (Vw.c (.str "jump")) (Vw.cons (Vw.c (.str "far")) (Vw.cons (Vw.c (.str "word")) Vw.nil))))))) (A.cons (E.view (Vw.op2 o_eq (Vw.var 7) (Vw.op2 o_sub (Vw.var 6) (Vw.c (.int 1))))) (A.cons (E.var 2) (A.cons (E.var 3) A.nil))))) A.nil)))))
  (S.seq (S.par2 9 10 (A.cons (E.lc [7] (Wk.range1 (A.cons (E.var 6) A.nil)) (G.nm 7) (T.view (Vw.op2 o_ne (Vw.op2 o_ix (Vw.op2 o_ix (Vw.var 4) (Vw.var 7)) (Vw.c (.int 0))) (Vw.c (.str "word")))) (E.var 7)) (A.cons (E.view (Vw.c (.int 0))) A.nil)))
  (S.seq (S.for (Wk.seq (E.var 4)) (G.nm 11) (S.seq (S.ifS (T.view (Vw.op2 o_in (Vw.op2 o_ix (Vw.var 11) (Vw.c (.int 0))) (Vw.tup (Vw.cons (Vw.c (.str "jump")) (Vw.cons (Vw.c (.str "branch")) Vw.nil))))) (S.seq (S.asg (E.view (Vw.op2 v_add (Vw.var 10) (Vw.c (.int 1)))) (G.nm 10))
  (S.seq (S.asg (E.tup (A.cons (E.view (Vw.op2 o_ix (Vw.var 11) (Vw.c (.int 0)))) (A.cons (E.callIO 2 f_law_one_of 0 (A.cons (E.var 9) A.nil)) A.nil))) (G.nm 12))
  (S.asg (E.view (Vw.ifE (Vw.or (Vw.op2 o_eq (Vw.var 2) (Vw.c (.int 0))) (Vw.op2 o_le (Vw.var 10) (Vw.var 2))) (Vw.var 12) (Vw.ifE (Vw.op2 o_eq (Vw.op2 o_ix (Vw.var 11) (Vw.c (.int 0))) (Vw.c (.str "jump"))) (Vw.tup (Vw.cons (Vw.c (.str "stop")) (Vw.cons (Vw.c (.int 2)) Vw.nil))) (Vw.tup (Vw.cons (Vw.c (.str "plain")) (Vw.cons (Vw.c (.int 2)) (Vw.cons (Vw.c (.int 1)) Vw.nil))))))) (G.nm 11)))) S.nx)
  (S.expr (E.mut 5 "list" m_append (A.cons (E.var 11) A.nil)))))
  (S.ret (E.view (Vw.opN b_tuple (Vw.cons (Vw.var 5) Vw.nil))))))))
def f_law_draw_part : List O → FRes := runF [0] 13 b__law_draw_part
theorem fn__law_draw_part (Y : Ya fa fn ts K mg) : Fn P w K mg base "_law_draw_part" 5 ["pen", "most", "aligns", "many"] [0] f_law_draw_part :=
  Fn.of (st := s__law_draw_part) (N := ["pen", "most", "aligns", "many", "rows", "found", "size", "k", "ahead", "goals", "jumps", "row", "goal"]) Y 24 47 rfl rfl sc__law_draw_part (by decide) (by decide) (fun _ _ _ _ _ _ us hl => match us, hl with | [_, _, _, _], _ => rfl) fun f cdv A outer s H E hr hgd tk => (eb_cons (es_asg (ee_tup (ea_cons (ee_lst ea_nil) (ea_cons (ee_lst ea_nil) (ea_cons (ee_op op_add2 ok_add (ee_view ve_int) (ee_fnIO 0 (fn__law_take Y) hr hgd tk (pl_slot 0) (ea_cons (ee_var 1) ea_nil))) ea_nil)))) (eg_tup rfl (egs_cons (eg_nm 4 sc__law_draw_part.nd) (egs_cons (eg_nm 5 sc__law_draw_part.nd) (egs_cons (eg_nm 6 sc__law_draw_part.nd) egs_nil)))))
  (eb_cons (es_for (passes_of rfl) rfl (ei_range1 rfl (Y.free 46) (ea_cons (ee_var 6) ea_nil)) (eg_nm 7 sc__law_draw_part.nd) (eb_cons (es_asg (ee_view (ve_if (vt_cmp (op_neA (hu100 hr)) vw_ne (ve_var 4) (ve_lst va_nil)) (ve_ix (ix_any (hu100 hr)) vw_ix (ve_ix (ix_any (hu100 hr)) vw_ix (ve_var 4) (ve_un un_neg vw_neg ve_int)) ve_int) ve_str)) (eg_nm 8 sc__law_draw_part.nd))
  (eb_one (es_expr (ee_mut 4 PySem.F.plainAttrs_list PySem.F.slot_list_append PySem.F.type_list_append mt_append ms_append (pl_slot 4) (ea_cons (ee_fnIO 0 (fn__law_draw_row Y) hr hgd tk (pl_slot 0) (ea_cons (ee_view (ve_cmp (op_inA (hu100 hr)) vw_in (ve_var 8) (ve_tup (va_cons ve_str (va_cons ve_str (va_cons ve_str (va_cons ve_str va_nil))))))) (ea_cons (ee_view (ve_cmp (op_eqA (hu100 hr)) vw_eq (ve_var 7) (ve_op op_sub vw_sub (ve_var 6) ve_int))) (ea_cons (ee_var 2) (ea_cons (ee_var 3) ea_nil))))) ea_nil))))))
  (eb_cons (es_par2 9 10 sc__law_draw_part.nd (ea_cons (ee_lc (own := [("k", 7)]) rfl sc__law_draw_part.nd (ei_range1 rfl (Y.free 46) (ea_cons (ee_var 6) ea_nil)) (blkOk_by (N := ["pen", "most", "aligns", "many", "rows", "found", "size", "k", "ahead", "goals", "jumps", "row", "goal"]) (sc := defScope s__law_draw_part) (by decide +kernel)) (fun _ _ _ _ _ => (eg_nm 7 sc__law_draw_part.nd)) (fun _ _ _ _ _ => (ets_one (et_view (vt_cmp (op_neA (hu100 hr)) vw_ne (ve_ix (ix_any (hu100 hr)) vw_ix (ve_ix (ix_any (hu100 hr)) vw_ix (ve_var 4) (ve_var 7)) ve_int) ve_str)))) (fun _ _ _ _ _ => (ee_var 7))) (ea_cons (ee_view ve_int) ea_nil)))
  (eb_cons (es_for (passes_of rfl) rfl (ei_seq (ee_var 4)) (eg_nm 11 sc__law_draw_part.nd) (eb_cons (es_if (et_view (vt_cmp (op_inA (hu100 hr)) vw_in (ve_ix (ix_any (hu100 hr)) vw_ix (ve_var 11) ve_int) (ve_tup (va_cons ve_str (va_cons ve_str va_nil))))) (eb_cons (es_asg (ee_view (ve_op op_add2 vw_add (ve_var 10) ve_int)) (eg_nm 10 sc__law_draw_part.nd))
  (eb_cons (es_asg (ee_tup (ea_cons (ee_view (ve_ix (ix_any (hu100 hr)) vw_ix (ve_var 11) ve_int)) (ea_cons (ee_fnIO 0 (fn__law_one_of Y) hr hgd tk (pl_slot 0) (ea_cons (ee_var 9) ea_nil)) ea_nil))) (eg_nm 12 sc__law_draw_part.nd))
  (eb_one (es_asg (ee_view (ve_if (vt_of (vtw_or (vt_cmp (op_eqA (hu100 hr)) vw_eq (ve_var 2) ve_int) (vtw_or1 (vt_cmp op_le vw_le (ve_var 10) (ve_var 2))))) (ve_var 12) (ve_if (vt_cmp (op_eqA (hu100 hr)) vw_eq (ve_ix (ix_any (hu100 hr)) vw_ix (ve_var 11) ve_int) ve_str) (ve_tup (va_cons ve_str (va_cons ve_int va_nil))) (ve_tup (va_cons ve_str (va_cons ve_int (va_cons ve_int va_nil))))))) (eg_nm 11 sc__law_draw_part.nd))))) eb_nil)
  (eb_one (es_expr (ee_mut 5 PySem.F.plainAttrs_list PySem.F.slot_list_append PySem.F.type_list_append mt_append ms_append (pl_slot 5) (ea_cons (ee_var 11) ea_nil))))))
  (eb_one (es_ret (ee_view (ve_callTy call_tuple_of vw_tuple (va_cons (ve_var 5) va_nil) (Y.free 4) (hv := bt_tuple)))))))))
theorem sc__law_draw_machine : FnScope ["pen", "short", "far", "leap", "span", "word", "reach", "long"] ["pen"] (defScope s__law_draw_machine) := ⟨rfl, rfl, rfl, by decide +kernel, rfl, by decide +kernel, by decide +kernel⟩
def b__law_draw_machine : M Fl := (S.seq (S.asg (E.callIO 2 f_law_one_of 0 (A.cons (E.lst (A.cons (E.view (Vw.c (.int 1))) (A.cons (E.view (Vw.c (.int 2))) (A.cons (E.view (Vw.c (.int 3))) (A.cons (E.view (Vw.c (.int 9))) A.nil))))) A.nil)) (G.nm 1))
  (S.seq (S.par2 2 3 (A.cons (E.op2 o_add (E.view (Vw.c (.int 1))) (E.callIO 2 f_law_one_of 0 (A.cons (E.lst (A.cons (E.view (Vw.c (.int 0))) (A.cons (E.view (Vw.c (.int 1))) (A.cons (E.view (Vw.c (.int 2))) (A.cons (E.view (Vw.c (.int 5))) (A.cons (E.view (Vw.c (.int 19))) A.nil)))))) A.nil))) (A.cons (E.callIO 2 f_law_one_of 0 (A.cons (E.lst (A.cons (E.view (Vw.c (.int 0))) (A.cons (E.view (Vw.c (.int 16))) (A.cons (E.view (Vw.c (.int 40))) (A.cons (E.view (Vw.c (.int 100))) (A.cons (E.view (Vw.c (.int 400))) (A.cons (E.view (Vw.c (.int 9999))) A.nil))))))) A.nil)) A.nil)))
  (S.seq (S.par2 4 5 (A.cons (E.callIO 2 f_law_one_of 0 (A.cons (E.lst (A.cons (E.view (Vw.c (.int 0))) (A.cons (E.view (Vw.c (.int 4))) (A.cons (E.view (Vw.c (.int 9))) (A.cons (E.view (Vw.c (.int 30))) (A.cons (E.view (Vw.c (.int 100))) (A.cons (E.view (Vw.c (.int 999))) A.nil))))))) A.nil)) (A.cons (E.op2 o_add (E.view (Vw.c (.int 1))) (E.callIO 2 f_law_take 0 (A.cons (E.view (Vw.c (.int 16))) A.nil))) A.nil)))
  (S.seq (S.asg (E.callIO 2 f_law_one_of 0 (A.cons (E.lst (A.cons (E.view (Vw.c (.int 0))) (A.cons (E.view (Vw.c (.int 1))) (A.cons (E.view (Vw.c (.int 3))) (A.cons (E.view (Vw.c (.int 8))) (A.cons (E.view (Vw.c (.int 20))) (A.cons (E.view (Vw.c (.int 60))) (A.cons (E.view (Vw.c (.int 100))) (A.cons (E.view (Vw.c (.int 999))) A.nil))))))))) A.nil)) (G.nm 6))
  (S.seq (S.asg (E.callIO 2 f_law_one_of 0 (A.cons (E.lst (A.cons (E.view (Vw.op2 v_add (Vw.var 1) (Vw.c (.int 1)))) (A.cons (E.view (Vw.op2 v_add (Vw.var 1) (Vw.c (.int 2)))) (A.cons (E.view (Vw.op2 v_add (Vw.var 1) (Vw.c (.int 5)))) (A.cons (E.view (Vw.c (.int 20))) A.nil))))) A.nil)) (G.nm 7))
  (S.ret (E.tup (A.cons (E.move 1) (A.cons (E.move 6) (A.cons (E.move 7) (A.cons (E.move 2) (A.cons (E.move 3) (A.cons (E.op2 o_add (E.view (Vw.c (.int 1))) (E.callIO 2 f_law_take 0 (A.cons (E.view (Vw.c (.int 9))) A.nil))) (A.cons (E.move 4) (A.cons (E.move 5) A.nil)))))))))))))))
def f_law_draw_machine : List O → FRes := runF [0] 8 b__law_draw_machine
theorem fn__law_draw_machine (Y : Ya fa fn ts K mg) : Fn P w K mg base "_law_draw_machine" 4 ["pen"] [0] f_law_draw_machine :=
  Fn.of (st := s__law_draw_machine) (N := ["pen", "short", "far", "leap", "span", "word", "reach", "long"]) Y 25 48 rfl rfl sc__law_draw_machine (by decide) (by decide) (fun _ _ _ _ _ _ us hl => match us, hl with | [_], _ => rfl) fun f cdv A outer s H E hr hgd tk => (eb_cons (es_asg (ee_fnIO 0 (fn__law_one_of Y) hr hgd tk (pl_slot 0) (ea_cons (ee_lst (ea_cons (ee_view ve_int) (ea_cons (ee_view ve_int) (ea_cons (ee_view ve_int) (ea_cons (ee_view ve_int) ea_nil))))) ea_nil)) (eg_nm 1 sc__law_draw_machine.nd))
  (eb_cons (es_par2 2 3 sc__law_draw_machine.nd (ea_cons (ee_op op_add2 ok_add (ee_view ve_int) (ee_fnIO 0 (fn__law_one_of Y) hr hgd tk (pl_slot 0) (ea_cons (ee_lst (ea_cons (ee_view ve_int) (ea_cons (ee_view ve_int) (ea_cons (ee_view ve_int) (ea_cons (ee_view ve_int) (ea_cons (ee_view ve_int) ea_nil)))))) ea_nil))) (ea_cons (ee_fnIO 0 (fn__law_one_of Y) hr hgd tk (pl_slot 0) (ea_cons (ee_lst (ea_cons (ee_view ve_int) (ea_cons (ee_view ve_int) (ea_cons (ee_view ve_int) (ea_cons (ee_view ve_int) (ea_cons (ee_view ve_int) (ea_cons (ee_view ve_int) ea_nil))))))) ea_nil)) ea_nil)))
  (eb_cons (es_par2 4 5 sc__law_draw_machine.nd (ea_cons (ee_fnIO 0 (fn__law_one_of Y) hr hgd tk (pl_slot 0) (ea_cons (ee_lst (ea_cons (ee_view ve_int) (ea_cons (ee_view ve_int) (ea_cons (ee_view ve_int) (ea_cons (ee_view ve_int) (ea_cons (ee_view ve_int) (ea_cons (ee_view ve_int) ea_nil))))))) ea_nil)) (ea_cons (ee_op op_add2 ok_add (ee_view ve_int) (ee_fnIO 0 (fn__law_take Y) hr hgd tk (pl_slot 0) (ea_cons (ee_view ve_int) ea_nil))) ea_nil)))
  (eb_cons (es_asg (ee_fnIO 0 (fn__law_one_of Y) hr hgd tk (pl_slot 0) (ea_cons (ee_lst (ea_cons (ee_view ve_int) (ea_cons (ee_view ve_int) (ea_cons (ee_view ve_int) (ea_cons (ee_view ve_int) (ea_cons (ee_view ve_int) (ea_cons (ee_view ve_int) (ea_cons (ee_view ve_int) (ea_cons (ee_view ve_int) ea_nil))))))))) ea_nil)) (eg_nm 6 sc__law_draw_machine.nd))
  (eb_cons (es_asg (ee_fnIO 0 (fn__law_one_of Y) hr hgd tk (pl_slot 0) (ea_cons (ee_lst (ea_cons (ee_view (ve_op op_add2 vw_add (ve_var 1) ve_int)) (ea_cons (ee_view (ve_op op_add2 vw_add (ve_var 1) ve_int)) (ea_cons (ee_view (ve_op op_add2 vw_add (ve_var 1) ve_int)) (ea_cons (ee_view ve_int) ea_nil))))) ea_nil)) (eg_nm 7 sc__law_draw_machine.nd))
  (eb_one (es_ret (ee_tup (ea_cons (ee_move 1) (ea_cons (ee_move 6) (ea_cons (ee_move 7) (ea_cons (ee_move 2) (ea_cons (ee_move 3) (ea_cons (ee_op op_add2 ok_add (ee_view ve_int) (ee_fnIO 0 (fn__law_take Y) hr hgd tk (pl_slot 0) (ea_cons (ee_view ve_int) ea_nil))) (ea_cons (ee_move 4) (ea_cons (ee_move 5) ea_nil))))))))))))))))
theorem sc__law_size : FnScope ["row", "machine", "is_short", "at"] ["row", "machine", "is_short", "at"] (defScope s__law_size) := ⟨rfl, rfl, rfl, by decide +kernel, rfl, by decide +kernel, by decide +kernel⟩
def b__law_size : M Fl := (S.seq (S.ifS (T.view (Vw.op2 o_in (Vw.op2 o_ix (Vw.var 0) (Vw.c (.int 0))) (Vw.tup (Vw.cons (Vw.c (.str "plain")) (Vw.cons (Vw.c (.str "stop")) Vw.nil))))) (S.ret (E.view (Vw.op2 o_ix (Vw.var 0) (Vw.c (.int 1))))) S.nx)
  (S.seq (S.ifS (T.view (Vw.op2 o_in (Vw.op2 o_ix (Vw.var 0) (Vw.c (.int 0))) (Vw.tup (Vw.cons (Vw.c (.str "jump")) (Vw.cons (Vw.c (.str "branch")) Vw.nil))))) (S.ret (E.view (Vw.ifE (Vw.var 2) (Vw.op2 o_ix (Vw.var 1) (Vw.c (.int 0))) (Vw.op2 o_ix (Vw.var 1) (Vw.c (.int 2)))))) S.nx)
  (S.seq (S.ifS (T.view (Vw.op2 o_eq (Vw.op2 o_ix (Vw.var 0) (Vw.c (.int 0))) (Vw.c (.str "align")))) (S.ret (E.view (Vw.op2 o_mod (Vw.opN b_int (Vw.cons (Vw.op2 o_sub (Vw.c (.int 0)) (Vw.var 3)) Vw.nil)) (Vw.op2 o_ix (Vw.var 0) (Vw.c (.int 1)))))) S.nx)
  (S.ret (E.op2 o_ixd (E.var 1) (E.op2 o_ixd (E.fr (Vw.disp (((Vw.c (.str "far")), (Vw.c (.int 3))) :: (((Vw.c (.str "load")), (Vw.c (.int 5))) :: (((Vw.c (.str "word")), (Vw.c (.int 7))) :: []))))) (E.view (Vw.op2 o_ix (Vw.var 0) (Vw.c (.int 0))))))))))
def f_law_size : List O → FRes := runF [] 4 b__law_size
theorem fn__law_size (Y : Ya fa fn ts K mg) : Fn P w K mg base "_law_size" 1 ["row", "machine", "is_short", "at"] [] f_law_size :=
  Fn.of (st := s__law_size) (N := ["row", "machine", "is_short", "at"]) Y 26 49 rfl rfl sc__law_size (by decide) (by decide) (fun _ _ _ _ _ _ us hl => match us, hl with | [_, _, _, _], _ => rfl) fun f cdv A outer s H E hr hgd tk => (eb_cons (es_if (et_view (vt_cmp (op_inA (hu100 hr)) vw_in (ve_ix (ix_any (hu100 hr)) vw_ix (ve_var 0) ve_int) (ve_tup (va_cons ve_str (va_cons ve_str va_nil))))) (eb_one (es_ret (ee_view (ve_ix (ix_any (hu100 hr)) vw_ix (ve_var 0) ve_int)))) eb_nil)
  (eb_cons (es_if (et_view (vt_cmp (op_inA (hu100 hr)) vw_in (ve_ix (ix_any (hu100 hr)) vw_ix (ve_var 0) ve_int) (ve_tup (va_cons ve_str (va_cons ve_str va_nil))))) (eb_one (es_ret (ee_view (ve_if (vt_val (ve_var 2)) (ve_ix (ix_any (hu100 hr)) vw_ix (ve_var 1) ve_int) (ve_ix (ix_any (hu100 hr)) vw_ix (ve_var 1) ve_int))))) eb_nil)
  (eb_cons (es_if (et_view (vt_cmp (op_eqA (hu100 hr)) vw_eq (ve_ix (ix_any (hu100 hr)) vw_ix (ve_var 0) ve_int) ve_str)) (eb_one (es_ret (ee_view (ve_op op_mod vw_mod (ve_callTy call_int1 vw_int (va_cons (ve_op op_sub vw_sub ve_int (ve_var 3)) va_nil) (Y.free 1) (hv := bt_int)) (ve_ix (ix_any (hu100 hr)) vw_ix (ve_var 0) ve_int))))) eb_nil)
  (eb_one (es_ret (ee_ix (ix_any (hu100 hr)) ok_ix (ee_var 1) (ee_ix (ix_any (hu100 hr)) ok_ix (ee_disp (.cons ve_str ve_int (.cons ve_str ve_int (.cons ve_str ve_int .nil)))) (ee_view (ve_ix (ix_any (hu100 hr)) vw_ix (ve_var 0) ve_int)))))))))
theorem sc__law_places : FnScope ["part", "machine", "forms", "found", "at", "number", "row"] ["part", "machine", "forms"] (defScope s__law_places) := ⟨rfl, rfl, rfl, by decide +kernel, rfl, by decide +kernel, by decide +kernel⟩
def b__law_places : M Fl := (S.seq (S.par2 3 4 (A.cons (E.lst A.nil) (A.cons (E.view (Vw.c (.int 0))) A.nil)))
  (S.seq (S.for (Wk.enum (A.cons (E.var 0) A.nil)) (G.tup 2 (G.cons (G.nm 5) (G.cons (G.nm 6) G.nil))) (S.seq (S.expr (E.mut 3 "list" m_append (A.cons (E.var 4) A.nil)))
  (S.asg (E.view (Vw.op2 v_add (Vw.var 4) (Vw.callP 4 f_law_size (Vw.cons (Vw.pl (.slot 6)) (Vw.cons (Vw.pl (.slot 1)) (Vw.cons (Vw.dat (Vw.op2 o_in (Vw.var 5) (Vw.var 2))) (Vw.cons (Vw.pl (.slot 4)) Vw.nil))))))) (G.nm 4))))
  (S.ret (E.fr (Vw.op2 (fun x y => (l_add x y).map ol) (Vw.var 3) (Vw.lst (Vw.cons (Vw.var 4) Vw.nil)))))))
def f_law_places : List O → FRes := runF [] 7 b__law_places
theorem fn__law_places (Y : Ya fa fn ts K mg) : Fn P w K mg base "_law_places" 2 ["part", "machine", "forms"] [] f_law_places :=
  Fn.of (st := s__law_places) (N := ["part", "machine", "forms", "found", "at", "number", "row"]) Y 27 50 rfl rfl sc__law_places (by decide) (by decide) (fun _ _ _ _ _ _ us hl => match us, hl with | [_, _, _], _ => rfl) fun f cdv A outer s H E hr hgd tk => (eb_cons (es_par2 3 4 sc__law_places.nd (ea_cons (ee_lst ea_nil) (ea_cons (ee_view ve_int) ea_nil)))
  (eb_cons (es_for (passes_of rfl) rfl (ei_enum rfl (Y.free 16) (ea_cons (ee_var 0) ea_nil)) (eg_tup rfl (egs_cons (eg_nm 5 sc__law_places.nd) (egs_cons (eg_nm 6 sc__law_places.nd) egs_nil))) (eb_cons (es_expr (ee_mut 3 PySem.F.plainAttrs_list PySem.F.slot_list_append PySem.F.type_list_append mt_append ms_append (pl_slot 3) (ea_cons (ee_var 4) ea_nil)))
  (eb_one (es_asg (ee_view (ve_op op_add2 vw_add (ve_var 4) (ve_fn (fn__law_size Y) hr hgd (vb_pl (pl_slot 6) (vb_pl (pl_slot 1) (vb_d (ve_cmp (op_inA (hu100 hr)) vw_in (ve_var 5) (ve_var 2)) (vb_pl (pl_slot 4) vb_nil))))))) (eg_nm 4 sc__law_places.nd)))))
  (eb_one (es_ret (ee_frOp op_add2 fr_add (ve_var 3) (ve_lst (va_cons (ve_var 4) va_nil)))))))
theorem sc__law_misfits : FnScope ["part", "machine", "forms", "found", "row"] ["part", "machine", "forms"] (defScope s__law_misfits) := ⟨rfl, rfl, rfl, by decide +kernel, rfl, by decide +kernel, by decide +kernel⟩
def b__law_misfits : M Fl := (S.seq (S.asg (E.callP 3 f_law_places (Vw.cons (Vw.pl (.slot 0)) (Vw.cons (Vw.pl (.slot 1)) (Vw.cons (Vw.pl (.slot 2)) Vw.nil)))) (G.nm 3))
  (S.ret (E.lc [4] (Wk.seq (E.var 2)) (G.nm 4) (T.view (Vw.op2 o_gt (Vw.opN b_abs (Vw.cons (Vw.op2 o_sub (Vw.op2 o_ix (Vw.var 3) (Vw.op2 o_ix (Vw.op2 o_ix (Vw.var 0) (Vw.var 4)) (Vw.c (.int 1)))) (Vw.op2 o_ix (Vw.var 3) (Vw.var 4))) Vw.nil)) (Vw.op2 o_ix (Vw.var 1) (Vw.c (.int 1))))) (E.var 4))))
def f_law_misfits : List O → FRes := runF [] 5 b__law_misfits
theorem fn__law_misfits (Y : Ya fa fn ts K mg) : Fn P w K mg base "_law_misfits" 3 ["part", "machine", "forms"] [] f_law_misfits :=
  Fn.of (st := s__law_misfits) (N := ["part", "machine", "forms", "found", "row"]) Y 28 51 rfl rfl sc__law_misfits (by decide) (by decide) (fun _ _ _ _ _ _ us hl => match us, hl with | [_, _, _], _ => rfl) fun f cdv A outer s H E hr hgd tk => (eb_cons (es_asg (ee_fnP (fn__law_places Y) hr hgd tk (vb_pl (pl_slot 0) (vb_pl (pl_slot 1) (vb_pl (pl_slot 2) vb_nil)))) (eg_nm 3 sc__law_misfits.nd))
  (eb_one (es_ret (ee_lc (own := [("row", 4)]) rfl sc__law_misfits.nd (ei_seq (ee_var 2)) (blkOk_by (N := ["part", "machine", "forms", "found", "row"]) (sc := defScope s__law_misfits) (by decide +kernel)) (fun _ _ _ _ _ => (eg_nm 4 sc__law_misfits.nd)) (fun _ _ _ _ _ => (ets_one (et_view (vt_cmp op_gt vw_gt (ve_callB call_abs vw_abs (va_cons (ve_op op_sub vw_sub (ve_ix (ix_any (hu100 hr)) vw_ix (ve_var 3) (ve_ix (ix_any (hu100 hr)) vw_ix (ve_ix (ix_any (hu100 hr)) vw_ix (ve_var 0) (ve_var 4)) ve_int)) (ve_ix (ix_any (hu100 hr)) vw_ix (ve_var 3) (ve_var 4))) va_nil) (Y.free 32) (hv := bt_abs)) (ve_ix (ix_any (hu100 hr)) vw_ix (ve_var 1) ve_int))))) (fun _ _ _ _ _ => (ee_var 4))))))
theorem sc__law_jumps : FnScope ["part", "number", "row"] ["part"] (defScope s__law_jumps) := ⟨rfl, rfl, rfl, by decide +kernel, rfl, by decide +kernel, by decide +kernel⟩
def b__law_jumps : M Fl := (S.ret (E.lc [1, 2] (Wk.enum (A.cons (E.var 0) A.nil)) (G.tup 2 (G.cons (G.nm 1) (G.cons (G.nm 2) G.nil))) (T.view (Vw.op2 o_in (Vw.op2 o_ix (Vw.var 2) (Vw.c (.int 0))) (Vw.tup (Vw.cons (Vw.c (.str "jump")) (Vw.cons (Vw.c (.str "branch")) Vw.nil))))) (E.var 1)))
def f_law_jumps : List O → FRes := runF [] 3 b__law_jumps
theorem fn__law_jumps (Y : Ya fa fn ts K mg) : Fn P w K mg base "_law_jumps" 1 ["part"] [] f_law_jumps :=
  Fn.of (st := s__law_jumps) (N := ["part", "number", "row"]) Y 29 52 rfl rfl sc__law_jumps (by decide) (by decide) (fun _ _ _ _ _ _ us hl => match us, hl with | [_], _ => rfl) fun f cdv A outer s H E hr hgd tk => (eb_one (es_ret (ee_lc (own := [("number", 1), ("row", 2)]) rfl sc__law_jumps.nd (ei_enum rfl (Y.free 16) (ea_cons (ee_var 0) ea_nil)) (blkOk_by (N := ["part", "number", "row"]) (sc := defScope s__law_jumps) (by decide +kernel)) (fun _ _ _ _ _ => (eg_tup rfl (egs_cons (eg_nm 1 sc__law_jumps.nd) (egs_cons (eg_nm 2 sc__law_jumps.nd) egs_nil)))) (fun _ _ _ _ _ => (ets_one (et_view (vt_cmp (op_inA (hu100 hr)) vw_in (ve_ix (ix_any (hu100 hr)) vw_ix (ve_var 2) ve_int) (ve_tup (va_cons ve_str (va_cons ve_str va_nil))))))) (fun _ _ _ _ _ => (ee_var 1)))))
theorem sc__law_greatest : FnScope ["part", "machine", "lists", "found", "row", "forms", "some"] ["part", "machine"] (defScope s__law_greatest) := ⟨rfl, rfl, rfl, by decide +kernel, rfl, by decide +kernel, by decide +kernel⟩
def b__law_greatest : M Fl := (S.seq (S.asg (E.tup (A.cons (E.lst (A.cons (E.lst A.nil) A.nil)) (A.cons (E.lst A.nil) A.nil))) (G.tup 2 (G.cons (G.nm 2) (G.cons (G.nm 3) G.nil))))
  (S.seq (S.for (Wk.seq (E.callP 1 f_law_jumps (Vw.cons (Vw.pl (.slot 0)) Vw.nil))) (G.nm 4) (S.asg (E.op2 o_add (E.var 2) (E.lc [6] (Wk.seq (E.var 2)) (G.nm 6) T.yes (E.fr (Vw.op2 (fun x y => (l_add x y).map ol) (Vw.var 6) (Vw.lst (Vw.cons (Vw.var 4) Vw.nil)))))) (G.nm 2)))
  (S.seq (S.for (Wk.seq (E.var 2)) (G.nm 5) (S.ifS (T.view (Vw.op2 o_eq (Vw.callP 3 f_law_misfits (Vw.cons (Vw.pl (.slot 0)) (Vw.cons (Vw.pl (.slot 1)) (Vw.cons (Vw.pl (.slot 5)) Vw.nil)))) (Vw.lst Vw.nil))) (S.asg (E.op2 o_add (E.var 3) (E.lc [4] (Wk.seq (E.var 5)) (G.nm 4) (T.view (Vw.op2 o_nin (Vw.var 4) (Vw.var 3))) (E.var 4))) (G.nm 3)) S.nx))
  (S.ret (E.fr (Vw.opN (fun xs => (l_sorted xs).map ol) (Vw.cons (Vw.var 3) Vw.nil)))))))
def f_law_greatest : List O → FRes := runF [] 7 b__law_greatest
theorem fn__law_greatest (Y : Ya fa fn ts K mg) : Fn P w K mg base "_law_greatest" 4 ["part", "machine"] [] f_law_greatest :=
  Fn.of (st := s__law_greatest) (N := ["part", "machine", "lists", "found", "row", "forms", "some"]) Y 30 54 rfl rfl sc__law_greatest (by decide) (by decide) (fun _ _ _ _ _ _ us hl => match us, hl with | [_, _], _ => rfl) fun f cdv A outer s H E hr hgd tk => (eb_cons (es_asg (ee_tup (ea_cons (ee_lst (ea_cons (ee_lst ea_nil) ea_nil)) (ea_cons (ee_lst ea_nil) ea_nil))) (eg_tup rfl (egs_cons (eg_nm 2 sc__law_greatest.nd) (egs_cons (eg_nm 3 sc__law_greatest.nd) egs_nil))))
  (eb_cons (es_for (passes_of rfl) rfl (ei_seq (ee_fnP (fn__law_jumps Y) hr hgd tk (vb_pl (pl_slot 0) vb_nil))) (eg_nm 4 sc__law_greatest.nd) (eb_one (es_asg (ee_op op_add2 ok_add (ee_var 2) (ee_lc (own := [("some", 6)]) rfl sc__law_greatest.nd (ei_seq (ee_var 2)) (blkOk_by (N := ["part", "machine", "lists", "found", "row", "forms", "some"]) (sc := defScope s__law_greatest) (by decide +kernel)) (fun _ _ _ _ _ => (eg_nm 6 sc__law_greatest.nd)) (fun _ _ _ _ _ => ets_nil) (fun _ _ _ _ _ => (ee_frOp op_add2 fr_add (ve_var 6) (ve_lst (va_cons (ve_var 4) va_nil)))))) (eg_nm 2 sc__law_greatest.nd))))
  (eb_cons (es_for (passes_of rfl) rfl (ei_seq (ee_var 2)) (eg_nm 5 sc__law_greatest.nd) (eb_one (es_if (et_view (vt_cmp (op_eqA (hu100 hr)) vw_eq (ve_fn (fn__law_misfits Y) hr hgd (vb_pl (pl_slot 0) (vb_pl (pl_slot 1) (vb_pl (pl_slot 5) vb_nil)))) (ve_lst va_nil))) (eb_one (es_asg (ee_op op_add2 ok_add (ee_var 3) (ee_lc (own := [("row", 4)]) rfl sc__law_greatest.nd (ei_seq (ee_var 5)) (blkOk_by (N := ["part", "machine", "lists", "found", "row", "forms", "some"]) (sc := defScope s__law_greatest) (by decide +kernel)) (fun _ _ _ _ _ => (eg_nm 4 sc__law_greatest.nd)) (fun _ _ _ _ _ => (ets_one (et_view (vt_cmp (op_ninA (hu100 hr)) vw_nin (ve_var 4) (ve_var 3))))) (fun _ _ _ _ _ => (ee_var 4)))) (eg_nm 3 sc__law_greatest.nd))) eb_nil)))
  (eb_one (es_ret (ee_frB (cr_sortD (hu100 hr)) ls_sorted.fr (va_cons (ve_var 3) va_nil) (Y.free 53) (hv := bt_sorted)))))))
theorem sc__law_chain : FnScope ["part", "machine", "forms", "chain", "row"] ["part", "machine"] (defScope s__law_chain) := ⟨rfl, rfl, rfl, by decide +kernel, rfl, by decide +kernel, by decide +kernel⟩
def b__law_chain : M Fl := (S.seq (S.asg (E.tup (A.cons (E.callP 1 f_law_jumps (Vw.cons (Vw.pl (.slot 0)) Vw.nil)) (A.cons (E.lst A.nil) A.nil))) (G.tup 2 (G.cons (G.nm 2) (G.cons (G.nm 3) G.nil))))
  (S.seq (S.while (T.view (Vw.op2 o_ne (Vw.callP 3 f_law_misfits (Vw.cons (Vw.pl (.slot 0)) (Vw.cons (Vw.pl (.slot 1)) (Vw.cons (Vw.pl (.slot 2)) Vw.nil)))) (Vw.lst Vw.nil))) (S.seq (S.expr (E.mut 3 "list" m_append (A.cons (E.view (Vw.op2 o_ix (Vw.callP 3 f_law_misfits (Vw.cons (Vw.pl (.slot 0)) (Vw.cons (Vw.pl (.slot 1)) (Vw.cons (Vw.pl (.slot 2)) Vw.nil)))) (Vw.c (.int 0)))) A.nil)))
  (S.asg (E.lc [4] (Wk.seq (E.var 2)) (G.nm 4) (T.view (Vw.op2 o_ne (Vw.var 4) (Vw.op2 o_ix (Vw.var 3) (Vw.op1 o_neg (Vw.c (.int 1)))))) (E.var 4)) (G.nm 2))) 100000)
  (S.ret (E.move 3))))
def f_law_chain : List O → FRes := runF [] 5 b__law_chain
theorem fn__law_chain (Y : Ya fa fn ts K mg) : Fn P w K mg base "_law_chain" 4 ["part", "machine"] [] f_law_chain :=
  Fn.of (st := s__law_chain) (N := ["part", "machine", "forms", "chain", "row"]) Y 31 55 rfl rfl sc__law_chain (by decide) (by decide) (fun _ _ _ _ _ _ us hl => match us, hl with | [_, _], _ => rfl) fun f cdv A outer s H E hr hgd tk => (eb_cons (es_asg (ee_tup (ea_cons (ee_fnP (fn__law_jumps Y) hr hgd tk (vb_pl (pl_slot 0) vb_nil)) (ea_cons (ee_lst ea_nil) ea_nil))) (eg_tup rfl (egs_cons (eg_nm 2 sc__law_chain.nd) (egs_cons (eg_nm 3 sc__law_chain.nd) egs_nil))))
  (eb_cons (es_while 100000 (passes_of rfl) (et_view (vt_cmp (op_neA (hu100 hr)) vw_ne (ve_fn (fn__law_misfits Y) hr hgd (vb_pl (pl_slot 0) (vb_pl (pl_slot 1) (vb_pl (pl_slot 2) vb_nil)))) (ve_lst va_nil))) (eb_cons (es_expr (ee_mut 3 PySem.F.plainAttrs_list PySem.F.slot_list_append PySem.F.type_list_append mt_append ms_append (pl_slot 3) (ea_cons (ee_view (ve_ix (ix_any (hu100 hr)) vw_ix (ve_fn (fn__law_misfits Y) hr hgd (vb_pl (pl_slot 0) (vb_pl (pl_slot 1) (vb_pl (pl_slot 2) vb_nil)))) ve_int)) ea_nil)))
  (eb_one (es_setLc 2 (own := [("row", 4)]) rfl sc__law_chain.nd rfl rfl (by decide) (sw_true rfl rfl rfl (by decide +kernel)) (ei_seq (ee_var 2)) (blkOk_by (N := ["part", "machine", "forms", "chain", "row"]) (sc := defScope s__law_chain) (by decide +kernel)) (fun _ _ _ _ _ => (eg_nm 4 sc__law_chain.nd)) (fun _ _ _ _ _ => (ets_one (et_view (vt_cmp (op_neA (hu100 hr)) vw_ne (ve_var 4) (ve_ix (ix_any (hu100 hr)) vw_ix (ve_var 3) (ve_un un_neg vw_neg ve_int)))))) (fun _ _ _ _ _ => (ee_var 4))))))
  (eb_one (es_ret (ee_move 3)))))
theorem sc_law : FnScope ["script", "pen", "turn", "part", "machine", "other", "tool", "text", "told", "due"] ["script"] (defScope s_law) := ⟨rfl, rfl, rfl, by decide +kernel, rfl, by decide +kernel, by decide +kernel⟩
def b_law : M Fl := (S.seq (S.asg (E.callP 1 f_law_open (Vw.cons (Vw.pl (.slot 0)) Vw.nil)) (G.nm 1))
  (S.seq (S.for (Wk.range1 (A.cons (E.view (Vw.c (.int 3))) A.nil)) (G.nm 2) (S.seq (S.par2 3 4 (A.cons (E.callIO 4 f_law_draw_part 1 (A.cons (E.callIO 2 f_law_one_of 1 (A.cons (E.lst (A.cons (E.view (Vw.c (.int 5))) (A.cons (E.view (Vw.c (.int 12))) (A.cons (E.view (Vw.c (.int 20))) A.nil)))) A.nil)) (A.cons (E.view (Vw.c (.int 0))) (A.cons (E.view (Vw.c (.int 3))) A.nil)))) (A.cons (E.callIO 1 f_law_draw_machine 1 A.nil) A.nil)))
  (S.seq (S.ifS (T.view (Vw.op2 o_gt (Vw.opN o_len (Vw.cons (Vw.callP 1 f_law_jumps (Vw.cons (Vw.pl (.slot 3)) Vw.nil)) Vw.nil)) (Vw.c (.int 8)))) S.cnt S.nx)
  (S.seq (S.asg (E.callIO 1 f_law_draw_machine 1 A.nil) (G.nm 5))
  (S.for (Wk.seq (E.lst (A.cons (E.var 4) (A.cons (E.var 5) (A.cons (E.var 4) A.nil))))) (G.nm 6) (S.seq (S.par2 7 8 (A.cons (E.view (Vw.opN g_repr (Vw.cons (Vw.tup (Vw.cons (Vw.var 3) (Vw.cons (Vw.var 6) Vw.nil))) Vw.nil))) (A.cons (E.callP 2 grown (Vw.cons (Vw.pl (.slot 3)) (Vw.cons (Vw.pl (.slot 6)) Vw.nil))) A.nil)))
  (S.seq (S.asg (E.view (Vw.tup (Vw.cons (Vw.callP 2 f_law_greatest (Vw.cons (Vw.pl (.slot 3)) (Vw.cons (Vw.pl (.slot 6)) Vw.nil))) (Vw.cons (Vw.callP 2 f_law_chain (Vw.cons (Vw.pl (.slot 3)) (Vw.cons (Vw.pl (.slot 6)) Vw.nil))) Vw.nil)))) (G.nm 9))
  (S.seq (S.ifS (T.view (Vw.or (Vw.not (Vw.callP 2 (f_law_same 12) (Vw.cons (Vw.pl (.slot 8)) (Vw.cons (Vw.pl (.slot 9)) Vw.nil)))) (Vw.op2 o_ne (Vw.opN g_repr (Vw.cons (Vw.tup (Vw.cons (Vw.var 3) (Vw.cons (Vw.var 6) Vw.nil))) Vw.nil)) (Vw.var 7)))) (S.ret (E.view (Vw.c (.bool false)))) S.nx)
  (S.seq (S.expr (E.mutV (.item 8 0) "list" m_append (Vw.cons (Vw.c .none) Vw.nil)))
  (S.seq (S.ifS (T.view (Vw.op2 o_eq (Vw.sl (Vw.op2 o_ix (Vw.var 8) (Vw.c (.int 1))) (Vw.part (Vw.op1 o_neg (Vw.c (.int 1)))) Vw.noPart s_view) (Vw.lst (Vw.cons (Vw.c .none) Vw.nil)))) (S.ret (E.view (Vw.c (.bool false)))) S.nx)
  (S.expr (E.mutV (.item 8 1) "list" m_append (Vw.cons (Vw.c .none) Vw.nil)))))))))))))
  (S.ret (E.view (Vw.c (.bool true))))))
def law : List O → FRes := runF [] 10 b_law
theorem fn_law (Y : Ya fa fn ts K mg) : Fn P w K mg base "law" 14 ["script"] [] law :=
  Fn.of (st := s_law) (N := ["script", "pen", "turn", "part", "machine", "other", "tool", "text", "told", "due"]) Y 32 57 rfl rfl sc_law (by decide) (by decide) (fun _ _ _ _ _ _ us hl => match us, hl with | [_], _ => rfl) fun f cdv A outer s H E hr hgd tk => (eb_cons (es_asg (ee_fnP (fn__law_open Y) hr hgd tk (vb_pl (pl_slot 0) vb_nil)) (eg_nm 1 sc_law.nd))
  (eb_cons (es_for (passes_of rfl) rfl (ei_range1 rfl (Y.free 46) (ea_cons (ee_view ve_int) ea_nil)) (eg_nm 2 sc_law.nd) (eb_cons (es_par2 3 4 sc_law.nd (ea_cons (ee_fnIO 1 (fn__law_draw_part Y) hr hgd tk (pl_slot 1) (ea_cons (ee_fnIO 1 (fn__law_one_of Y) hr hgd tk (pl_slot 1) (ea_cons (ee_lst (ea_cons (ee_view ve_int) (ea_cons (ee_view ve_int) (ea_cons (ee_view ve_int) ea_nil)))) ea_nil)) (ea_cons (ee_view ve_int) (ea_cons (ee_view ve_int) ea_nil)))) (ea_cons (ee_fnIO 1 (fn__law_draw_machine Y) hr hgd tk (pl_slot 1) ea_nil) ea_nil)))
  (eb_cons (es_if (et_view (vt_cmp op_gt vw_gt (ve_callB call_lenA vw_len (va_cons (ve_fn (fn__law_jumps Y) hr hgd (vb_pl (pl_slot 3) vb_nil)) va_nil) (Y.free 5) (hv := bt_len)) ve_int)) (eb_one es_cnt) eb_nil)
  (eb_cons (es_asg (ee_fnIO 1 (fn__law_draw_machine Y) hr hgd tk (pl_slot 1) ea_nil) (eg_nm 5 sc_law.nd))
  (eb_one (es_for (passes_of rfl) rfl (ei_seq (ee_lst (ea_cons (ee_var 4) (ea_cons (ee_var 5) (ea_cons (ee_var 4) ea_nil))))) (eg_nm 6 sc_law.nd) (eb_cons (es_par2 7 8 sc_law.nd (ea_cons (ee_view (ve_callB (cr_repr (hu100 hr) hgd) vw_repr (va_cons (ve_tup (va_cons (ve_var 3) (va_cons (ve_var 6) va_nil))) va_nil) (Y.free 56) (hv := bt_repr))) (ea_cons (ee_fnP (fn_grown Y) hr hgd tk (vb_pl (pl_slot 3) (vb_pl (pl_slot 6) vb_nil))) ea_nil)))
  (eb_cons (es_asg (ee_view (ve_tup (va_cons (ve_fn (fn__law_greatest Y) hr hgd (vb_pl (pl_slot 3) (vb_pl (pl_slot 6) vb_nil))) (va_cons (ve_fn (fn__law_chain Y) hr hgd (vb_pl (pl_slot 3) (vb_pl (pl_slot 6) vb_nil))) va_nil)))) (eg_nm 9 sc_law.nd))
  (eb_cons (es_if (et_view (vt_of (vtw_or (vt_not (vt_val (ve_fn (fn__law_same 12 Y) hr hgd (vb_pl (pl_slot 8) (vb_pl (pl_slot 9) vb_nil))))) (vtw_or1 (vt_cmp (op_neA (hu100 hr)) vw_ne (ve_callB (cr_repr (hu100 hr) hgd) vw_repr (va_cons (ve_tup (va_cons (ve_var 3) (va_cons (ve_var 6) va_nil))) va_nil) (Y.free 56) (hv := bt_repr)) (ve_var 7)))))) (eb_one (es_ret (ee_view ve_bl))) eb_nil)
  (eb_cons (es_expr (ee_mutV (.item 8 0) PySem.F.plainAttrs_list PySem.F.slot_list_append PySem.F.type_list_append mt_append ms_append (pl_item 8 0) (va_cons ve_non va_nil)))
  (eb_cons (es_if (et_view (vt_cmp (op_eqA (hu100 hr)) vw_eq (ve_sl (ve_ix (ix_any (hu100 hr)) vw_ix (ve_var 8) ve_int) (vo_some (ve_un un_neg vw_neg ve_int)) vo_none) (ve_lst (va_cons ve_non va_nil)))) (eb_one (es_ret (ee_view ve_bl))) eb_nil)
  (eb_one (es_expr (ee_mutV (.item 8 1) PySem.F.plainAttrs_list PySem.F.slot_list_append PySem.F.type_list_append mt_append ms_append (pl_item 8 1) (va_cons ve_non va_nil)))))))))))))))
  (eb_one (es_ret (ee_view ve_bl)))))
end
def names0 : List PySem.Str := ["ReachError", "NoPart", "NoMachine", "NoEven", "MOST_NUMBER", "MOST_ROWS", "MOST_PARTS", "MOST_FORMS", "is_integer", "is_machine", "need_machine", "is_row", "goes_on", "is_jump", "jumps_of", "is_even", "is_part", "need_part", "need_even", "size_of", "places_of", "does_reach", "misfits_of", "grown_of", "need_all", "grown", "_law_open", "_law_spread", "_law_take", "_law_same"]
def names1 : List PySem.Str := ["_law_one_of", "_law_draw_row", "_law_draw_part", "_law_draw_machine", "_law_size", "_law_places", "_law_misfits", "_law_jumps", "_law_greatest", "_law_chain"]
def names : List PySem.Str := names0 ++ names1
abbrev rowR : PySem.W.OpenRow := PySem.W.OpenLaw.row PySem.Challenge.rw_reachrows_k10_greatest_forms
abbrev hk : PySem.W.Hook := hookT 5 fa fn ts
def ob (s : PySem.W.SharedT) : He.AlD × Bool := obsTG 5 fa fn ts (HandSHeadRun.getT s)
theorem ob_eq (s : PySem.W.SharedT) : ob s = hk.obs s.abs := obsTG_eq (HandSHeadRun.getT_eq s)
theorem run (w : World) : HandSHeadRun.RunEq rowR (PySem.W.view rowR.prog [45]) hk ob 20000 names w := by
  intro os
  kernel_rfl
end k10
namespace k10
open PySem PySem.Spec PyProof.Rows L2 EV
def jumps_of_CG1 : O → M Unit := (G.tup 2 (G.cons (G.nm 1) (G.cons (G.nm 2) G.nil)))
@[simp] theorem jumps_of_CG1_ap (o : O) (ρ : EV.Env) : jumps_of_CG1 o ρ = (G.tup 2 (G.cons (G.nm 1) (G.cons (G.nm 2) G.nil))) o ρ := rfl
def jumps_of_CT1 : M Bool := (T.view (Vw.callP 1 is_jump (Vw.cons (Vw.pl (.slot 2)) Vw.nil)))
@[simp] theorem jumps_of_CT1_ap (ρ : EV.Env) : jumps_of_CT1 ρ = (T.view (Vw.callP 1 is_jump (Vw.cons (Vw.pl (.slot 2)) Vw.nil))) ρ := rfl
def jumps_of_CF1 : M O := (E.var 1)
@[simp] theorem jumps_of_CF1_ap (ρ : EV.Env) : jumps_of_CF1 ρ = (E.var 1) ρ := rfl
def jumps_of_C1 : M O := (E.lc [1, 2] (Wk.enum (A.cons (E.var 0) A.nil)) jumps_of_CG1 jumps_of_CT1 jumps_of_CF1)
theorem jumps_of_C1_ap (ρ : EV.Env) : jumps_of_C1 ρ = (E.lc [1, 2] (Wk.enum (A.cons (E.var 0) A.nil)) jumps_of_CG1 jumps_of_CT1 jumps_of_CF1) ρ := rfl
theorem b_jumps_of_eq : b_jumps_of = (S.ret jumps_of_C1) := rfl
def is_even_CG1 : O → M Unit := (G.nm 1)
@[simp] theorem is_even_CG1_ap (o : O) (ρ : EV.Env) : is_even_CG1 o ρ = (G.nm 1) o ρ := rfl
def is_even_CT1 : M Bool := T.yes
@[simp] theorem is_even_CT1_ap (ρ : EV.Env) : is_even_CT1 ρ = T.yes ρ := rfl
def is_even_CF1 : M O := (E.view (Vw.op2 o_eq (Vw.op2 o_ix (Vw.var 1) (Vw.c (.int 0))) (Vw.c (.str "align"))))
@[simp] theorem is_even_CF1_ap (ρ : EV.Env) : is_even_CF1 ρ = (E.view (Vw.op2 o_eq (Vw.op2 o_ix (Vw.var 1) (Vw.c (.int 0))) (Vw.c (.str "align")))) ρ := rfl
def is_even_C1 : M O := (E.lc [1] (Wk.seq (E.var 0)) is_even_CG1 is_even_CT1 is_even_CF1)
theorem is_even_C1_ap (ρ : EV.Env) : is_even_C1 ρ = (E.lc [1] (Wk.seq (E.var 0)) is_even_CG1 is_even_CT1 is_even_CF1) ρ := rfl
theorem b_is_even_eq : b_is_even = (S.ret (E.not (E.opN b_any (A.cons is_even_C1 A.nil)))) := rfl
def is_part_CG1 : O → M Unit := (G.nm 2)
@[simp] theorem is_part_CG1_ap (o : O) (ρ : EV.Env) : is_part_CG1 o ρ = (G.nm 2) o ρ := rfl
def is_part_CT1 : M Bool := T.yes
@[simp] theorem is_part_CT1_ap (ρ : EV.Env) : is_part_CT1 ρ = T.yes ρ := rfl
def is_part_CF1 : M O := (E.callP 2 is_row (Vw.cons (Vw.pl (.slot 2)) (Vw.cons (Vw.dat (Vw.opN o_len (Vw.cons (Vw.var 0) Vw.nil))) Vw.nil)))
@[simp] theorem is_part_CF1_ap (ρ : EV.Env) : is_part_CF1 ρ = (E.callP 2 is_row (Vw.cons (Vw.pl (.slot 2)) (Vw.cons (Vw.dat (Vw.opN o_len (Vw.cons (Vw.var 0) Vw.nil))) Vw.nil))) ρ := rfl
def is_part_C1 : M O := (E.lc [2] (Wk.seq (E.var 0)) is_part_CG1 is_part_CT1 is_part_CF1)
theorem is_part_C1_ap (ρ : EV.Env) : is_part_C1 ρ = (E.lc [2] (Wk.seq (E.var 0)) is_part_CG1 is_part_CT1 is_part_CF1) ρ := rfl
def is_part_G1 : O → M Unit := (G.tup 2 (G.cons (G.nm 1) (G.cons (G.nm 2) G.nil)))
@[simp] theorem is_part_G1_ap (o : O) (ρ : EV.Env) : is_part_G1 o ρ = (G.tup 2 (G.cons (G.nm 1) (G.cons (G.nm 2) G.nil))) o ρ := rfl
def is_part_B1 : M Fl := (S.seq (S.ifS (T.view (Vw.and (Vw.callP 1 goes_on (Vw.cons (Vw.pl (.slot 2)) Vw.nil)) (Vw.or (Vw.op2 o_eq (Vw.op2 v_add (Vw.var 1) (Vw.c (.int 1))) (Vw.opN o_len (Vw.cons (Vw.var 0) Vw.nil))) (Vw.op2 o_eq (Vw.op2 o_ix (Vw.op2 o_ix (Vw.var 0) (Vw.op2 v_add (Vw.var 1) (Vw.c (.int 1)))) (Vw.c (.int 0))) (Vw.c (.str "word")))))) (S.ret (E.view (Vw.c (.bool false)))) S.nx) (S.ifS (T.view (Vw.and (Vw.callP 1 is_jump (Vw.cons (Vw.pl (.slot 2)) Vw.nil)) (Vw.op2 o_eq (Vw.op2 o_ix (Vw.op2 o_ix (Vw.var 0) (Vw.op2 o_ix (Vw.var 2) (Vw.c (.int 1)))) (Vw.c (.int 0))) (Vw.c (.str "word"))))) (S.ret (E.view (Vw.c (.bool false)))) S.nx))
@[simp] theorem is_part_B1_ap (ρ : EV.Env) : is_part_B1 ρ = (S.seq (S.ifS (T.view (Vw.and (Vw.callP 1 goes_on (Vw.cons (Vw.pl (.slot 2)) Vw.nil)) (Vw.or (Vw.op2 o_eq (Vw.op2 v_add (Vw.var 1) (Vw.c (.int 1))) (Vw.opN o_len (Vw.cons (Vw.var 0) Vw.nil))) (Vw.op2 o_eq (Vw.op2 o_ix (Vw.op2 o_ix (Vw.var 0) (Vw.op2 v_add (Vw.var 1) (Vw.c (.int 1)))) (Vw.c (.int 0))) (Vw.c (.str "word")))))) (S.ret (E.view (Vw.c (.bool false)))) S.nx) (S.ifS (T.view (Vw.and (Vw.callP 1 is_jump (Vw.cons (Vw.pl (.slot 2)) Vw.nil)) (Vw.op2 o_eq (Vw.op2 o_ix (Vw.op2 o_ix (Vw.var 0) (Vw.op2 o_ix (Vw.var 2) (Vw.c (.int 1)))) (Vw.c (.int 0))) (Vw.c (.str "word"))))) (S.ret (E.view (Vw.c (.bool false)))) S.nx)) ρ := rfl
def is_part_L1 : M Fl := (S.for (Wk.enum (A.cons (E.var 0) A.nil)) is_part_G1 is_part_B1)
theorem is_part_L1_ap (ρ : EV.Env) : is_part_L1 ρ = (S.for (Wk.enum (A.cons (E.var 0) A.nil)) is_part_G1 is_part_B1) ρ := rfl
theorem b_is_part_eq : b_is_part = (S.seq (S.ifS (T.view (Vw.or (Vw.not (Vw.op1 (isi "tuple") (Vw.var 0))) (Vw.not (Vw.chain o_le o_le (Vw.c (.int 1)) (Vw.opN o_len (Vw.cons (Vw.var 0) Vw.nil)) (Vw.c (.int 20)))))) (S.ret (E.view (Vw.c (.bool false)))) S.nx) (S.seq (S.ifS (T.or (T.not (T.val (E.opN b_all (A.cons is_part_C1 A.nil)))) (T.view (Vw.op2 o_eq (Vw.op2 o_ix (Vw.op2 o_ix (Vw.var 0) (Vw.c (.int 0))) (Vw.c (.int 0))) (Vw.c (.str "word"))))) (S.ret (E.view (Vw.c (.bool false)))) S.nx) (S.seq is_part_L1 (S.ret (E.view (Vw.or (Vw.callP 1 is_even (Vw.cons (Vw.pl (.slot 0)) Vw.nil)) (Vw.op2 o_le (Vw.opN o_len (Vw.cons (Vw.callP 1 jumps_of (Vw.cons (Vw.pl (.slot 0)) Vw.nil)) Vw.nil)) (Vw.c (.int 6))))))))) := rfl
def places_of_G1 : O → M Unit := (G.tup 2 (G.cons (G.nm 4) (G.cons (G.nm 5) G.nil)))
@[simp] theorem places_of_G1_ap (o : O) (ρ : EV.Env) : places_of_G1 o ρ = (G.tup 2 (G.cons (G.nm 4) (G.cons (G.nm 5) G.nil))) o ρ := rfl
def places_of_B1 : M Fl := (S.expr (E.mut 3 "list" m_append (A.cons (E.view (Vw.op2 v_add (Vw.op2 o_ix (Vw.var 3) (Vw.op1 o_neg (Vw.c (.int 1)))) (Vw.callP 4 size_of (Vw.cons (Vw.pl (.slot 5)) (Vw.cons (Vw.pl (.slot 1)) (Vw.cons (Vw.dat (Vw.op2 o_in (Vw.var 4) (Vw.var 2))) (Vw.cons (Vw.dat (Vw.op2 o_ix (Vw.var 3) (Vw.op1 o_neg (Vw.c (.int 1))))) Vw.nil))))))) A.nil)))
@[simp] theorem places_of_B1_ap (ρ : EV.Env) : places_of_B1 ρ = (S.expr (E.mut 3 "list" m_append (A.cons (E.view (Vw.op2 v_add (Vw.op2 o_ix (Vw.var 3) (Vw.op1 o_neg (Vw.c (.int 1)))) (Vw.callP 4 size_of (Vw.cons (Vw.pl (.slot 5)) (Vw.cons (Vw.pl (.slot 1)) (Vw.cons (Vw.dat (Vw.op2 o_in (Vw.var 4) (Vw.var 2))) (Vw.cons (Vw.dat (Vw.op2 o_ix (Vw.var 3) (Vw.op1 o_neg (Vw.c (.int 1))))) Vw.nil))))))) A.nil))) ρ := rfl
def places_of_L1 : M Fl := (S.for (Wk.enum (A.cons (E.var 0) A.nil)) places_of_G1 places_of_B1)
theorem places_of_L1_ap (ρ : EV.Env) : places_of_L1 ρ = (S.for (Wk.enum (A.cons (E.var 0) A.nil)) places_of_G1 places_of_B1) ρ := rfl
theorem b_places_of_eq : b_places_of = (S.seq (S.asg (E.lst (A.cons (E.view (Vw.c (.int 0))) A.nil)) (G.nm 3)) (S.seq places_of_L1 (S.ret (E.move 3)))) := rfl
def misfits_of_CG1 : O → M Unit := (G.nm 4)
@[simp] theorem misfits_of_CG1_ap (o : O) (ρ : EV.Env) : misfits_of_CG1 o ρ = (G.nm 4) o ρ := rfl
def misfits_of_CT1 : M Bool := (T.view (Vw.not (Vw.callP 4 does_reach (Vw.cons (Vw.pl (.slot 0)) (Vw.cons (Vw.pl (.slot 1)) (Vw.cons (Vw.pl (.slot 3)) (Vw.cons (Vw.pl (.slot 4)) Vw.nil)))))))
@[simp] theorem misfits_of_CT1_ap (ρ : EV.Env) : misfits_of_CT1 ρ = (T.view (Vw.not (Vw.callP 4 does_reach (Vw.cons (Vw.pl (.slot 0)) (Vw.cons (Vw.pl (.slot 1)) (Vw.cons (Vw.pl (.slot 3)) (Vw.cons (Vw.pl (.slot 4)) Vw.nil))))))) ρ := rfl
def misfits_of_CF1 : M O := (E.var 4)
@[simp] theorem misfits_of_CF1_ap (ρ : EV.Env) : misfits_of_CF1 ρ = (E.var 4) ρ := rfl
def misfits_of_C1 : M O := (E.lc [4] (Wk.seq (E.var 2)) misfits_of_CG1 misfits_of_CT1 misfits_of_CF1)
theorem misfits_of_C1_ap (ρ : EV.Env) : misfits_of_C1 ρ = (E.lc [4] (Wk.seq (E.var 2)) misfits_of_CG1 misfits_of_CT1 misfits_of_CF1) ρ := rfl
theorem b_misfits_of_eq : b_misfits_of = (S.seq (S.asg (E.callP 3 places_of (Vw.cons (Vw.pl (.slot 0)) (Vw.cons (Vw.pl (.slot 1)) (Vw.cons (Vw.pl (.slot 2)) Vw.nil)))) (G.nm 3)) (S.ret misfits_of_C1)) := rfl
def grown_of_CG1 : O → M Unit := (G.nm 5)
@[simp] theorem grown_of_CG1_ap (o : O) (ρ : EV.Env) : grown_of_CG1 o ρ = (G.nm 5) o ρ := rfl
def grown_of_CT1 : M Bool := (T.view (Vw.op2 o_ne (Vw.var 5) (Vw.op2 o_ix (Vw.var 4) (Vw.c (.int 0)))))
@[simp] theorem grown_of_CT1_ap (ρ : EV.Env) : grown_of_CT1 ρ = (T.view (Vw.op2 o_ne (Vw.var 5) (Vw.op2 o_ix (Vw.var 4) (Vw.c (.int 0))))) ρ := rfl
def grown_of_CF1 : M O := (E.var 5)
@[simp] theorem grown_of_CF1_ap (ρ : EV.Env) : grown_of_CF1 ρ = (E.var 5) ρ := rfl
def grown_of_C1 : M O := (E.lc [5] (Wk.seq (E.var 2)) grown_of_CG1 grown_of_CT1 grown_of_CF1)
theorem grown_of_C1_ap (ρ : EV.Env) : grown_of_C1 ρ = (E.lc [5] (Wk.seq (E.var 2)) grown_of_CG1 grown_of_CT1 grown_of_CF1) ρ := rfl
def grown_of_WT1 : M Bool := (T.view (Vw.op2 o_ne (Vw.var 4) (Vw.lst Vw.nil)))
@[simp] theorem grown_of_WT1_ap (ρ : EV.Env) : grown_of_WT1 ρ = (T.view (Vw.op2 o_ne (Vw.var 4) (Vw.lst Vw.nil))) ρ := rfl
def grown_of_WB1 : M Fl := (S.seq (S.expr (E.mut 3 "list" m_append (A.cons (E.view (Vw.op2 o_ix (Vw.var 4) (Vw.c (.int 0)))) A.nil))) (S.seq (S.asg grown_of_C1 (G.nm 2)) (S.asg (E.callP 3 misfits_of (Vw.cons (Vw.pl (.slot 0)) (Vw.cons (Vw.pl (.slot 1)) (Vw.cons (Vw.pl (.slot 2)) Vw.nil)))) (G.nm 4))))
@[simp] theorem grown_of_WB1_ap (ρ : EV.Env) : grown_of_WB1 ρ = (S.seq (S.expr (E.mut 3 "list" m_append (A.cons (E.view (Vw.op2 o_ix (Vw.var 4) (Vw.c (.int 0)))) A.nil))) (S.seq (S.asg grown_of_C1 (G.nm 2)) (S.asg (E.callP 3 misfits_of (Vw.cons (Vw.pl (.slot 0)) (Vw.cons (Vw.pl (.slot 1)) (Vw.cons (Vw.pl (.slot 2)) Vw.nil)))) (G.nm 4)))) ρ := rfl
def grown_of_W1 : M Fl := (S.while grown_of_WT1 grown_of_WB1 100000)
theorem grown_of_W1_ap (ρ : EV.Env) : grown_of_W1 ρ = (S.while grown_of_WT1 grown_of_WB1 100000) ρ := rfl
theorem b_grown_of_eq : b_grown_of = (S.seq (S.par2 2 3 (A.cons (E.callP 1 jumps_of (Vw.cons (Vw.pl (.slot 0)) Vw.nil)) (A.cons (E.lst A.nil) A.nil))) (S.seq (S.asg (E.callP 3 misfits_of (Vw.cons (Vw.pl (.slot 0)) (Vw.cons (Vw.pl (.slot 1)) (Vw.cons (Vw.pl (.slot 2)) Vw.nil)))) (G.nm 4)) (S.seq grown_of_W1 (S.ret (E.tup (A.cons (E.move 2) (A.cons (E.move 3) A.nil))))))) := rfl
def _law_open_G1 : O → M Unit := (G.tup 2 (G.cons (G.nm 2) (G.cons (G.nm 3) G.nil)))
@[simp] theorem _law_open_G1_ap (o : O) (ρ : EV.Env) : _law_open_G1 o ρ = (G.tup 2 (G.cons (G.nm 2) (G.cons (G.nm 3) G.nil))) o ρ := rfl
def _law_open_B1 : M Fl := (S.asg (E.view (Vw.op2 v_add (Vw.op2 o_ix (Vw.var 1) (Vw.op2 o_mod (Vw.opN b_int (Vw.cons (Vw.var 2) Vw.nil)) (Vw.c (.int 12)))) (Vw.var 3))) (G.subV (.slot 1) st_any (Vw.op2 o_mod (Vw.opN b_int (Vw.cons (Vw.var 2) Vw.nil)) (Vw.c (.int 12)))))
@[simp] theorem _law_open_B1_ap (ρ : EV.Env) : _law_open_B1 ρ = (S.asg (E.view (Vw.op2 v_add (Vw.op2 o_ix (Vw.var 1) (Vw.op2 o_mod (Vw.opN b_int (Vw.cons (Vw.var 2) Vw.nil)) (Vw.c (.int 12)))) (Vw.var 3))) (G.subV (.slot 1) st_any (Vw.op2 o_mod (Vw.opN b_int (Vw.cons (Vw.var 2) Vw.nil)) (Vw.c (.int 12))))) ρ := rfl
def _law_open_L1 : M Fl := (S.for (Wk.enum (A.cons (E.fr (Vw.sl (Vw.var 0) (Vw.part (Vw.c (.int 12))) (Vw.part (Vw.c (.int 63))) s_new)) A.nil)) _law_open_G1 _law_open_B1)
theorem _law_open_L1_ap (ρ : EV.Env) : _law_open_L1 ρ = (S.for (Wk.enum (A.cons (E.fr (Vw.sl (Vw.var 0) (Vw.part (Vw.c (.int 12))) (Vw.part (Vw.c (.int 63))) s_new)) A.nil)) _law_open_G1 _law_open_B1) ρ := rfl
theorem b__law_open_eq : b__law_open = (S.seq (S.asg (E.fr (Vw.opN (fun xs => (l_list xs).map ol) (Vw.cons (Vw.sl (Vw.var 0) Vw.noPart (Vw.part (Vw.c (.int 12))) s_view) Vw.nil))) (G.nm 1)) (S.seq _law_open_L1 (S.ret (E.lst (A.cons (E.move 1) (A.cons (E.view (Vw.c (.int 0))) (A.cons (E.view (Vw.c (.int 0))) A.nil))))))) := rfl
def _law_draw_part_G1 : O → M Unit := (G.nm 7)
@[simp] theorem _law_draw_part_G1_ap (o : O) (ρ : EV.Env) : _law_draw_part_G1 o ρ = (G.nm 7) o ρ := rfl
def _law_draw_part_B1 : M Fl := (S.seq (S.asg (E.view (Vw.ifE (Vw.op2 o_ne (Vw.var 4) (Vw.lst Vw.nil)) (Vw.op2 o_ix (Vw.op2 o_ix (Vw.var 4) (Vw.op1 o_neg (Vw.c (.int 1)))) (Vw.c (.int 0))) (Vw.c (.str "plain")))) (G.nm 8)) (S.expr (E.mut 4 "list" m_append (A.cons (E.callIO 5 f_law_draw_row 0 (A.cons (E.view (Vw.op2 o_in (Vw.var 8) (Vw.tup (Vw.cons (Vw.c (.str "stop")) (Vw.cons (Vw.c (.str "jump")) (Vw.cons (Vw.c (.str "far")) (Vw.cons (Vw.c (.str "word")) Vw.nil))))))) (A.cons (E.view (Vw.op2 o_eq (Vw.var 7) (Vw.op2 o_sub (Vw.var 6) (Vw.c (.int 1))))) (A.cons (E.var 2) (A.cons (E.var 3) A.nil))))) A.nil))))
@[simp] theorem _law_draw_part_B1_ap (ρ : EV.Env) : _law_draw_part_B1 ρ = (S.seq (S.asg (E.view (Vw.ifE (Vw.op2 o_ne (Vw.var 4) (Vw.lst Vw.nil)) (Vw.op2 o_ix (Vw.op2 o_ix (Vw.var 4) (Vw.op1 o_neg (Vw.c (.int 1)))) (Vw.c (.int 0))) (Vw.c (.str "plain")))) (G.nm 8)) (S.expr (E.mut 4 "list" m_append (A.cons (E.callIO 5 f_law_draw_row 0 (A.cons (E.view (Vw.op2 o_in (Vw.var 8) (Vw.tup (Vw.cons (Vw.c (.str "stop")) (Vw.cons (Vw.c (.str "jump")) (Vw.cons (Vw.c (.str "far")) (Vw.cons (Vw.c (.str "word")) Vw.nil))))))) (A.cons (E.view (Vw.op2 o_eq (Vw.var 7) (Vw.op2 o_sub (Vw.var 6) (Vw.c (.int 1))))) (A.cons (E.var 2) (A.cons (E.var 3) A.nil))))) A.nil)))) ρ := rfl
def _law_draw_part_L1 : M Fl := (S.for (Wk.range1 (A.cons (E.var 6) A.nil)) _law_draw_part_G1 _law_draw_part_B1)
theorem _law_draw_part_L1_ap (ρ : EV.Env) : _law_draw_part_L1 ρ = (S.for (Wk.range1 (A.cons (E.var 6) A.nil)) _law_draw_part_G1 _law_draw_part_B1) ρ := rfl
def _law_draw_part_CG1 : O → M Unit := (G.nm 7)
@[simp] theorem _law_draw_part_CG1_ap (o : O) (ρ : EV.Env) : _law_draw_part_CG1 o ρ = (G.nm 7) o ρ := rfl
def _law_draw_part_CT1 : M Bool := (T.view (Vw.op2 o_ne (Vw.op2 o_ix (Vw.op2 o_ix (Vw.var 4) (Vw.var 7)) (Vw.c (.int 0))) (Vw.c (.str "word"))))
@[simp] theorem _law_draw_part_CT1_ap (ρ : EV.Env) : _law_draw_part_CT1 ρ = (T.view (Vw.op2 o_ne (Vw.op2 o_ix (Vw.op2 o_ix (Vw.var 4) (Vw.var 7)) (Vw.c (.int 0))) (Vw.c (.str "word")))) ρ := rfl
def _law_draw_part_CF1 : M O := (E.var 7)
@[simp] theorem _law_draw_part_CF1_ap (ρ : EV.Env) : _law_draw_part_CF1 ρ = (E.var 7) ρ := rfl
def _law_draw_part_C1 : M O := (E.lc [7] (Wk.range1 (A.cons (E.var 6) A.nil)) _law_draw_part_CG1 _law_draw_part_CT1 _law_draw_part_CF1)
theorem _law_draw_part_C1_ap (ρ : EV.Env) : _law_draw_part_C1 ρ = (E.lc [7] (Wk.range1 (A.cons (E.var 6) A.nil)) _law_draw_part_CG1 _law_draw_part_CT1 _law_draw_part_CF1) ρ := rfl
def _law_draw_part_G2 : O → M Unit := (G.nm 11)
@[simp] theorem _law_draw_part_G2_ap (o : O) (ρ : EV.Env) : _law_draw_part_G2 o ρ = (G.nm 11) o ρ := rfl
def _law_draw_part_B2 : M Fl := (S.seq (S.ifS (T.view (Vw.op2 o_in (Vw.op2 o_ix (Vw.var 11) (Vw.c (.int 0))) (Vw.tup (Vw.cons (Vw.c (.str "jump")) (Vw.cons (Vw.c (.str "branch")) Vw.nil))))) (S.seq (S.asg (E.view (Vw.op2 v_add (Vw.var 10) (Vw.c (.int 1)))) (G.nm 10)) (S.seq (S.asg (E.tup (A.cons (E.view (Vw.op2 o_ix (Vw.var 11) (Vw.c (.int 0)))) (A.cons (E.callIO 2 f_law_one_of 0 (A.cons (E.var 9) A.nil)) A.nil))) (G.nm 12)) (S.asg (E.view (Vw.ifE (Vw.or (Vw.op2 o_eq (Vw.var 2) (Vw.c (.int 0))) (Vw.op2 o_le (Vw.var 10) (Vw.var 2))) (Vw.var 12) (Vw.ifE (Vw.op2 o_eq (Vw.op2 o_ix (Vw.var 11) (Vw.c (.int 0))) (Vw.c (.str "jump"))) (Vw.tup (Vw.cons (Vw.c (.str "stop")) (Vw.cons (Vw.c (.int 2)) Vw.nil))) (Vw.tup (Vw.cons (Vw.c (.str "plain")) (Vw.cons (Vw.c (.int 2)) (Vw.cons (Vw.c (.int 1)) Vw.nil))))))) (G.nm 11)))) S.nx) (S.expr (E.mut 5 "list" m_append (A.cons (E.var 11) A.nil))))
@[simp] theorem _law_draw_part_B2_ap (ρ : EV.Env) : _law_draw_part_B2 ρ = (S.seq (S.ifS (T.view (Vw.op2 o_in (Vw.op2 o_ix (Vw.var 11) (Vw.c (.int 0))) (Vw.tup (Vw.cons (Vw.c (.str "jump")) (Vw.cons (Vw.c (.str "branch")) Vw.nil))))) (S.seq (S.asg (E.view (Vw.op2 v_add (Vw.var 10) (Vw.c (.int 1)))) (G.nm 10)) (S.seq (S.asg (E.tup (A.cons (E.view (Vw.op2 o_ix (Vw.var 11) (Vw.c (.int 0)))) (A.cons (E.callIO 2 f_law_one_of 0 (A.cons (E.var 9) A.nil)) A.nil))) (G.nm 12)) (S.asg (E.view (Vw.ifE (Vw.or (Vw.op2 o_eq (Vw.var 2) (Vw.c (.int 0))) (Vw.op2 o_le (Vw.var 10) (Vw.var 2))) (Vw.var 12) (Vw.ifE (Vw.op2 o_eq (Vw.op2 o_ix (Vw.var 11) (Vw.c (.int 0))) (Vw.c (.str "jump"))) (Vw.tup (Vw.cons (Vw.c (.str "stop")) (Vw.cons (Vw.c (.int 2)) Vw.nil))) (Vw.tup (Vw.cons (Vw.c (.str "plain")) (Vw.cons (Vw.c (.int 2)) (Vw.cons (Vw.c (.int 1)) Vw.nil))))))) (G.nm 11)))) S.nx) (S.expr (E.mut 5 "list" m_append (A.cons (E.var 11) A.nil)))) ρ := rfl
def _law_draw_part_L2 : M Fl := (S.for (Wk.seq (E.var 4)) _law_draw_part_G2 _law_draw_part_B2)
theorem _law_draw_part_L2_ap (ρ : EV.Env) : _law_draw_part_L2 ρ = (S.for (Wk.seq (E.var 4)) _law_draw_part_G2 _law_draw_part_B2) ρ := rfl
theorem b__law_draw_part_eq : b__law_draw_part = (S.seq (S.asg (E.tup (A.cons (E.lst A.nil) (A.cons (E.lst A.nil) (A.cons (E.op2 o_add (E.view (Vw.c (.int 1))) (E.callIO 2 f_law_take 0 (A.cons (E.var 1) A.nil))) A.nil)))) (G.tup 3 (G.cons (G.nm 4) (G.cons (G.nm 5) (G.cons (G.nm 6) G.nil))))) (S.seq _law_draw_part_L1 (S.seq (S.par2 9 10 (A.cons _law_draw_part_C1 (A.cons (E.view (Vw.c (.int 0))) A.nil))) (S.seq _law_draw_part_L2 (S.ret (E.view (Vw.opN b_tuple (Vw.cons (Vw.var 5) Vw.nil)))))))) := rfl
def _law_places_G1 : O → M Unit := (G.tup 2 (G.cons (G.nm 5) (G.cons (G.nm 6) G.nil)))
@[simp] theorem _law_places_G1_ap (o : O) (ρ : EV.Env) : _law_places_G1 o ρ = (G.tup 2 (G.cons (G.nm 5) (G.cons (G.nm 6) G.nil))) o ρ := rfl
def _law_places_B1 : M Fl := (S.seq (S.expr (E.mut 3 "list" m_append (A.cons (E.var 4) A.nil))) (S.asg (E.view (Vw.op2 v_add (Vw.var 4) (Vw.callP 4 f_law_size (Vw.cons (Vw.pl (.slot 6)) (Vw.cons (Vw.pl (.slot 1)) (Vw.cons (Vw.dat (Vw.op2 o_in (Vw.var 5) (Vw.var 2))) (Vw.cons (Vw.pl (.slot 4)) Vw.nil))))))) (G.nm 4)))
@[simp] theorem _law_places_B1_ap (ρ : EV.Env) : _law_places_B1 ρ = (S.seq (S.expr (E.mut 3 "list" m_append (A.cons (E.var 4) A.nil))) (S.asg (E.view (Vw.op2 v_add (Vw.var 4) (Vw.callP 4 f_law_size (Vw.cons (Vw.pl (.slot 6)) (Vw.cons (Vw.pl (.slot 1)) (Vw.cons (Vw.dat (Vw.op2 o_in (Vw.var 5) (Vw.var 2))) (Vw.cons (Vw.pl (.slot 4)) Vw.nil))))))) (G.nm 4))) ρ := rfl
def _law_places_L1 : M Fl := (S.for (Wk.enum (A.cons (E.var 0) A.nil)) _law_places_G1 _law_places_B1)
theorem _law_places_L1_ap (ρ : EV.Env) : _law_places_L1 ρ = (S.for (Wk.enum (A.cons (E.var 0) A.nil)) _law_places_G1 _law_places_B1) ρ := rfl
theorem b__law_places_eq : b__law_places = (S.seq (S.par2 3 4 (A.cons (E.lst A.nil) (A.cons (E.view (Vw.c (.int 0))) A.nil))) (S.seq _law_places_L1 (S.ret (E.fr (Vw.op2 (fun x y => (l_add x y).map ol) (Vw.var 3) (Vw.lst (Vw.cons (Vw.var 4) Vw.nil))))))) := rfl
def _law_misfits_CG1 : O → M Unit := (G.nm 4)
@[simp] theorem _law_misfits_CG1_ap (o : O) (ρ : EV.Env) : _law_misfits_CG1 o ρ = (G.nm 4) o ρ := rfl
def _law_misfits_CT1 : M Bool := (T.view (Vw.op2 o_gt (Vw.opN b_abs (Vw.cons (Vw.op2 o_sub (Vw.op2 o_ix (Vw.var 3) (Vw.op2 o_ix (Vw.op2 o_ix (Vw.var 0) (Vw.var 4)) (Vw.c (.int 1)))) (Vw.op2 o_ix (Vw.var 3) (Vw.var 4))) Vw.nil)) (Vw.op2 o_ix (Vw.var 1) (Vw.c (.int 1)))))
@[simp] theorem _law_misfits_CT1_ap (ρ : EV.Env) : _law_misfits_CT1 ρ = (T.view (Vw.op2 o_gt (Vw.opN b_abs (Vw.cons (Vw.op2 o_sub (Vw.op2 o_ix (Vw.var 3) (Vw.op2 o_ix (Vw.op2 o_ix (Vw.var 0) (Vw.var 4)) (Vw.c (.int 1)))) (Vw.op2 o_ix (Vw.var 3) (Vw.var 4))) Vw.nil)) (Vw.op2 o_ix (Vw.var 1) (Vw.c (.int 1))))) ρ := rfl
def _law_misfits_CF1 : M O := (E.var 4)
@[simp] theorem _law_misfits_CF1_ap (ρ : EV.Env) : _law_misfits_CF1 ρ = (E.var 4) ρ := rfl
def _law_misfits_C1 : M O := (E.lc [4] (Wk.seq (E.var 2)) _law_misfits_CG1 _law_misfits_CT1 _law_misfits_CF1)
theorem _law_misfits_C1_ap (ρ : EV.Env) : _law_misfits_C1 ρ = (E.lc [4] (Wk.seq (E.var 2)) _law_misfits_CG1 _law_misfits_CT1 _law_misfits_CF1) ρ := rfl
theorem b__law_misfits_eq : b__law_misfits = (S.seq (S.asg (E.callP 3 f_law_places (Vw.cons (Vw.pl (.slot 0)) (Vw.cons (Vw.pl (.slot 1)) (Vw.cons (Vw.pl (.slot 2)) Vw.nil)))) (G.nm 3)) (S.ret _law_misfits_C1)) := rfl
def _law_jumps_CG1 : O → M Unit := (G.tup 2 (G.cons (G.nm 1) (G.cons (G.nm 2) G.nil)))
@[simp] theorem _law_jumps_CG1_ap (o : O) (ρ : EV.Env) : _law_jumps_CG1 o ρ = (G.tup 2 (G.cons (G.nm 1) (G.cons (G.nm 2) G.nil))) o ρ := rfl
def _law_jumps_CT1 : M Bool := (T.view (Vw.op2 o_in (Vw.op2 o_ix (Vw.var 2) (Vw.c (.int 0))) (Vw.tup (Vw.cons (Vw.c (.str "jump")) (Vw.cons (Vw.c (.str "branch")) Vw.nil)))))
@[simp] theorem _law_jumps_CT1_ap (ρ : EV.Env) : _law_jumps_CT1 ρ = (T.view (Vw.op2 o_in (Vw.op2 o_ix (Vw.var 2) (Vw.c (.int 0))) (Vw.tup (Vw.cons (Vw.c (.str "jump")) (Vw.cons (Vw.c (.str "branch")) Vw.nil))))) ρ := rfl
def _law_jumps_CF1 : M O := (E.var 1)
@[simp] theorem _law_jumps_CF1_ap (ρ : EV.Env) : _law_jumps_CF1 ρ = (E.var 1) ρ := rfl
def _law_jumps_C1 : M O := (E.lc [1, 2] (Wk.enum (A.cons (E.var 0) A.nil)) _law_jumps_CG1 _law_jumps_CT1 _law_jumps_CF1)
theorem _law_jumps_C1_ap (ρ : EV.Env) : _law_jumps_C1 ρ = (E.lc [1, 2] (Wk.enum (A.cons (E.var 0) A.nil)) _law_jumps_CG1 _law_jumps_CT1 _law_jumps_CF1) ρ := rfl
theorem b__law_jumps_eq : b__law_jumps = (S.ret _law_jumps_C1) := rfl
def _law_greatest_CG1 : O → M Unit := (G.nm 6)
@[simp] theorem _law_greatest_CG1_ap (o : O) (ρ : EV.Env) : _law_greatest_CG1 o ρ = (G.nm 6) o ρ := rfl
def _law_greatest_CT1 : M Bool := T.yes
@[simp] theorem _law_greatest_CT1_ap (ρ : EV.Env) : _law_greatest_CT1 ρ = T.yes ρ := rfl
def _law_greatest_CF1 : M O := (E.fr (Vw.op2 (fun x y => (l_add x y).map ol) (Vw.var 6) (Vw.lst (Vw.cons (Vw.var 4) Vw.nil))))
@[simp] theorem _law_greatest_CF1_ap (ρ : EV.Env) : _law_greatest_CF1 ρ = (E.fr (Vw.op2 (fun x y => (l_add x y).map ol) (Vw.var 6) (Vw.lst (Vw.cons (Vw.var 4) Vw.nil)))) ρ := rfl
def _law_greatest_C1 : M O := (E.lc [6] (Wk.seq (E.var 2)) _law_greatest_CG1 _law_greatest_CT1 _law_greatest_CF1)
theorem _law_greatest_C1_ap (ρ : EV.Env) : _law_greatest_C1 ρ = (E.lc [6] (Wk.seq (E.var 2)) _law_greatest_CG1 _law_greatest_CT1 _law_greatest_CF1) ρ := rfl
def _law_greatest_G1 : O → M Unit := (G.nm 4)
@[simp] theorem _law_greatest_G1_ap (o : O) (ρ : EV.Env) : _law_greatest_G1 o ρ = (G.nm 4) o ρ := rfl
def _law_greatest_B1 : M Fl := (S.asg (E.op2 o_add (E.var 2) _law_greatest_C1) (G.nm 2))
@[simp] theorem _law_greatest_B1_ap (ρ : EV.Env) : _law_greatest_B1 ρ = (S.asg (E.op2 o_add (E.var 2) _law_greatest_C1) (G.nm 2)) ρ := rfl
def _law_greatest_L1 : M Fl := (S.for (Wk.seq (E.callP 1 f_law_jumps (Vw.cons (Vw.pl (.slot 0)) Vw.nil))) _law_greatest_G1 _law_greatest_B1)
theorem _law_greatest_L1_ap (ρ : EV.Env) : _law_greatest_L1 ρ = (S.for (Wk.seq (E.callP 1 f_law_jumps (Vw.cons (Vw.pl (.slot 0)) Vw.nil))) _law_greatest_G1 _law_greatest_B1) ρ := rfl
def _law_greatest_CG2 : O → M Unit := (G.nm 4)
@[simp] theorem _law_greatest_CG2_ap (o : O) (ρ : EV.Env) : _law_greatest_CG2 o ρ = (G.nm 4) o ρ := rfl
def _law_greatest_CT2 : M Bool := (T.view (Vw.op2 o_nin (Vw.var 4) (Vw.var 3)))
@[simp] theorem _law_greatest_CT2_ap (ρ : EV.Env) : _law_greatest_CT2 ρ = (T.view (Vw.op2 o_nin (Vw.var 4) (Vw.var 3))) ρ := rfl
def _law_greatest_CF2 : M O := (E.var 4)
@[simp] theorem _law_greatest_CF2_ap (ρ : EV.Env) : _law_greatest_CF2 ρ = (E.var 4) ρ := rfl
def _law_greatest_C2 : M O := (E.lc [4] (Wk.seq (E.var 5)) _law_greatest_CG2 _law_greatest_CT2 _law_greatest_CF2)
theorem _law_greatest_C2_ap (ρ : EV.Env) : _law_greatest_C2 ρ = (E.lc [4] (Wk.seq (E.var 5)) _law_greatest_CG2 _law_greatest_CT2 _law_greatest_CF2) ρ := rfl
def _law_greatest_G2 : O → M Unit := (G.nm 5)
@[simp] theorem _law_greatest_G2_ap (o : O) (ρ : EV.Env) : _law_greatest_G2 o ρ = (G.nm 5) o ρ := rfl
def _law_greatest_B2 : M Fl := (S.ifS (T.view (Vw.op2 o_eq (Vw.callP 3 f_law_misfits (Vw.cons (Vw.pl (.slot 0)) (Vw.cons (Vw.pl (.slot 1)) (Vw.cons (Vw.pl (.slot 5)) Vw.nil)))) (Vw.lst Vw.nil))) (S.asg (E.op2 o_add (E.var 3) _law_greatest_C2) (G.nm 3)) S.nx)
@[simp] theorem _law_greatest_B2_ap (ρ : EV.Env) : _law_greatest_B2 ρ = (S.ifS (T.view (Vw.op2 o_eq (Vw.callP 3 f_law_misfits (Vw.cons (Vw.pl (.slot 0)) (Vw.cons (Vw.pl (.slot 1)) (Vw.cons (Vw.pl (.slot 5)) Vw.nil)))) (Vw.lst Vw.nil))) (S.asg (E.op2 o_add (E.var 3) _law_greatest_C2) (G.nm 3)) S.nx) ρ := rfl
def _law_greatest_L2 : M Fl := (S.for (Wk.seq (E.var 2)) _law_greatest_G2 _law_greatest_B2)
theorem _law_greatest_L2_ap (ρ : EV.Env) : _law_greatest_L2 ρ = (S.for (Wk.seq (E.var 2)) _law_greatest_G2 _law_greatest_B2) ρ := rfl
theorem b__law_greatest_eq : b__law_greatest = (S.seq (S.asg (E.tup (A.cons (E.lst (A.cons (E.lst A.nil) A.nil)) (A.cons (E.lst A.nil) A.nil))) (G.tup 2 (G.cons (G.nm 2) (G.cons (G.nm 3) G.nil)))) (S.seq _law_greatest_L1 (S.seq _law_greatest_L2 (S.ret (E.fr (Vw.opN (fun xs => (l_sorted xs).map ol) (Vw.cons (Vw.var 3) Vw.nil))))))) := rfl
def _law_chain_CG1 : O → M Unit := (G.nm 4)
@[simp] theorem _law_chain_CG1_ap (o : O) (ρ : EV.Env) : _law_chain_CG1 o ρ = (G.nm 4) o ρ := rfl
def _law_chain_CT1 : M Bool := (T.view (Vw.op2 o_ne (Vw.var 4) (Vw.op2 o_ix (Vw.var 3) (Vw.op1 o_neg (Vw.c (.int 1))))))
@[simp] theorem _law_chain_CT1_ap (ρ : EV.Env) : _law_chain_CT1 ρ = (T.view (Vw.op2 o_ne (Vw.var 4) (Vw.op2 o_ix (Vw.var 3) (Vw.op1 o_neg (Vw.c (.int 1)))))) ρ := rfl
def _law_chain_CF1 : M O := (E.var 4)
@[simp] theorem _law_chain_CF1_ap (ρ : EV.Env) : _law_chain_CF1 ρ = (E.var 4) ρ := rfl
def _law_chain_C1 : M O := (E.lc [4] (Wk.seq (E.var 2)) _law_chain_CG1 _law_chain_CT1 _law_chain_CF1)
theorem _law_chain_C1_ap (ρ : EV.Env) : _law_chain_C1 ρ = (E.lc [4] (Wk.seq (E.var 2)) _law_chain_CG1 _law_chain_CT1 _law_chain_CF1) ρ := rfl
def _law_chain_WT1 : M Bool := (T.view (Vw.op2 o_ne (Vw.callP 3 f_law_misfits (Vw.cons (Vw.pl (.slot 0)) (Vw.cons (Vw.pl (.slot 1)) (Vw.cons (Vw.pl (.slot 2)) Vw.nil)))) (Vw.lst Vw.nil)))
@[simp] theorem _law_chain_WT1_ap (ρ : EV.Env) : _law_chain_WT1 ρ = (T.view (Vw.op2 o_ne (Vw.callP 3 f_law_misfits (Vw.cons (Vw.pl (.slot 0)) (Vw.cons (Vw.pl (.slot 1)) (Vw.cons (Vw.pl (.slot 2)) Vw.nil)))) (Vw.lst Vw.nil))) ρ := rfl
def _law_chain_WB1 : M Fl := (S.seq (S.expr (E.mut 3 "list" m_append (A.cons (E.view (Vw.op2 o_ix (Vw.callP 3 f_law_misfits (Vw.cons (Vw.pl (.slot 0)) (Vw.cons (Vw.pl (.slot 1)) (Vw.cons (Vw.pl (.slot 2)) Vw.nil)))) (Vw.c (.int 0)))) A.nil))) (S.asg _law_chain_C1 (G.nm 2)))
@[simp] theorem _law_chain_WB1_ap (ρ : EV.Env) : _law_chain_WB1 ρ = (S.seq (S.expr (E.mut 3 "list" m_append (A.cons (E.view (Vw.op2 o_ix (Vw.callP 3 f_law_misfits (Vw.cons (Vw.pl (.slot 0)) (Vw.cons (Vw.pl (.slot 1)) (Vw.cons (Vw.pl (.slot 2)) Vw.nil)))) (Vw.c (.int 0)))) A.nil))) (S.asg _law_chain_C1 (G.nm 2))) ρ := rfl
def _law_chain_W1 : M Fl := (S.while _law_chain_WT1 _law_chain_WB1 100000)
theorem _law_chain_W1_ap (ρ : EV.Env) : _law_chain_W1 ρ = (S.while _law_chain_WT1 _law_chain_WB1 100000) ρ := rfl
theorem b__law_chain_eq : b__law_chain = (S.seq (S.asg (E.tup (A.cons (E.callP 1 f_law_jumps (Vw.cons (Vw.pl (.slot 0)) Vw.nil)) (A.cons (E.lst A.nil) A.nil))) (G.tup 2 (G.cons (G.nm 2) (G.cons (G.nm 3) G.nil)))) (S.seq _law_chain_W1 (S.ret (E.move 3)))) := rfl
def law_G2 : O → M Unit := (G.nm 6)
@[simp] theorem law_G2_ap (o : O) (ρ : EV.Env) : law_G2 o ρ = (G.nm 6) o ρ := rfl
def law_B2 : M Fl := (S.seq (S.par2 7 8 (A.cons (E.view (Vw.opN g_repr (Vw.cons (Vw.tup (Vw.cons (Vw.var 3) (Vw.cons (Vw.var 6) Vw.nil))) Vw.nil))) (A.cons (E.callP 2 grown (Vw.cons (Vw.pl (.slot 3)) (Vw.cons (Vw.pl (.slot 6)) Vw.nil))) A.nil))) (S.seq (S.asg (E.view (Vw.tup (Vw.cons (Vw.callP 2 f_law_greatest (Vw.cons (Vw.pl (.slot 3)) (Vw.cons (Vw.pl (.slot 6)) Vw.nil))) (Vw.cons (Vw.callP 2 f_law_chain (Vw.cons (Vw.pl (.slot 3)) (Vw.cons (Vw.pl (.slot 6)) Vw.nil))) Vw.nil)))) (G.nm 9)) (S.seq (S.ifS (T.view (Vw.or (Vw.not (Vw.callP 2 (f_law_same 12) (Vw.cons (Vw.pl (.slot 8)) (Vw.cons (Vw.pl (.slot 9)) Vw.nil)))) (Vw.op2 o_ne (Vw.opN g_repr (Vw.cons (Vw.tup (Vw.cons (Vw.var 3) (Vw.cons (Vw.var 6) Vw.nil))) Vw.nil)) (Vw.var 7)))) (S.ret (E.view (Vw.c (.bool false)))) S.nx) (S.seq (S.expr (E.mutV (.item 8 0) "list" m_append (Vw.cons (Vw.c .none) Vw.nil))) (S.seq (S.ifS (T.view (Vw.op2 o_eq (Vw.sl (Vw.op2 o_ix (Vw.var 8) (Vw.c (.int 1))) (Vw.part (Vw.op1 o_neg (Vw.c (.int 1)))) Vw.noPart s_view) (Vw.lst (Vw.cons (Vw.c .none) Vw.nil)))) (S.ret (E.view (Vw.c (.bool false)))) S.nx) (S.expr (E.mutV (.item 8 1) "list" m_append (Vw.cons (Vw.c .none) Vw.nil))))))))
@[simp] theorem law_B2_ap (ρ : EV.Env) : law_B2 ρ = (S.seq (S.par2 7 8 (A.cons (E.view (Vw.opN g_repr (Vw.cons (Vw.tup (Vw.cons (Vw.var 3) (Vw.cons (Vw.var 6) Vw.nil))) Vw.nil))) (A.cons (E.callP 2 grown (Vw.cons (Vw.pl (.slot 3)) (Vw.cons (Vw.pl (.slot 6)) Vw.nil))) A.nil))) (S.seq (S.asg (E.view (Vw.tup (Vw.cons (Vw.callP 2 f_law_greatest (Vw.cons (Vw.pl (.slot 3)) (Vw.cons (Vw.pl (.slot 6)) Vw.nil))) (Vw.cons (Vw.callP 2 f_law_chain (Vw.cons (Vw.pl (.slot 3)) (Vw.cons (Vw.pl (.slot 6)) Vw.nil))) Vw.nil)))) (G.nm 9)) (S.seq (S.ifS (T.view (Vw.or (Vw.not (Vw.callP 2 (f_law_same 12) (Vw.cons (Vw.pl (.slot 8)) (Vw.cons (Vw.pl (.slot 9)) Vw.nil)))) (Vw.op2 o_ne (Vw.opN g_repr (Vw.cons (Vw.tup (Vw.cons (Vw.var 3) (Vw.cons (Vw.var 6) Vw.nil))) Vw.nil)) (Vw.var 7)))) (S.ret (E.view (Vw.c (.bool false)))) S.nx) (S.seq (S.expr (E.mutV (.item 8 0) "list" m_append (Vw.cons (Vw.c .none) Vw.nil))) (S.seq (S.ifS (T.view (Vw.op2 o_eq (Vw.sl (Vw.op2 o_ix (Vw.var 8) (Vw.c (.int 1))) (Vw.part (Vw.op1 o_neg (Vw.c (.int 1)))) Vw.noPart s_view) (Vw.lst (Vw.cons (Vw.c .none) Vw.nil)))) (S.ret (E.view (Vw.c (.bool false)))) S.nx) (S.expr (E.mutV (.item 8 1) "list" m_append (Vw.cons (Vw.c .none) Vw.nil)))))))) ρ := rfl
def law_L2 : M Fl := (S.for (Wk.seq (E.lst (A.cons (E.var 4) (A.cons (E.var 5) (A.cons (E.var 4) A.nil))))) law_G2 law_B2)
theorem law_L2_ap (ρ : EV.Env) : law_L2 ρ = (S.for (Wk.seq (E.lst (A.cons (E.var 4) (A.cons (E.var 5) (A.cons (E.var 4) A.nil))))) law_G2 law_B2) ρ := rfl
def law_G1 : O → M Unit := (G.nm 2)
@[simp] theorem law_G1_ap (o : O) (ρ : EV.Env) : law_G1 o ρ = (G.nm 2) o ρ := rfl
def law_B1 : M Fl := (S.seq (S.par2 3 4 (A.cons (E.callIO 4 f_law_draw_part 1 (A.cons (E.callIO 2 f_law_one_of 1 (A.cons (E.lst (A.cons (E.view (Vw.c (.int 5))) (A.cons (E.view (Vw.c (.int 12))) (A.cons (E.view (Vw.c (.int 20))) A.nil)))) A.nil)) (A.cons (E.view (Vw.c (.int 0))) (A.cons (E.view (Vw.c (.int 3))) A.nil)))) (A.cons (E.callIO 1 f_law_draw_machine 1 A.nil) A.nil))) (S.seq (S.ifS (T.view (Vw.op2 o_gt (Vw.opN o_len (Vw.cons (Vw.callP 1 f_law_jumps (Vw.cons (Vw.pl (.slot 3)) Vw.nil)) Vw.nil)) (Vw.c (.int 8)))) S.cnt S.nx) (S.seq (S.asg (E.callIO 1 f_law_draw_machine 1 A.nil) (G.nm 5)) law_L2)))
@[simp] theorem law_B1_ap (ρ : EV.Env) : law_B1 ρ = (S.seq (S.par2 3 4 (A.cons (E.callIO 4 f_law_draw_part 1 (A.cons (E.callIO 2 f_law_one_of 1 (A.cons (E.lst (A.cons (E.view (Vw.c (.int 5))) (A.cons (E.view (Vw.c (.int 12))) (A.cons (E.view (Vw.c (.int 20))) A.nil)))) A.nil)) (A.cons (E.view (Vw.c (.int 0))) (A.cons (E.view (Vw.c (.int 3))) A.nil)))) (A.cons (E.callIO 1 f_law_draw_machine 1 A.nil) A.nil))) (S.seq (S.ifS (T.view (Vw.op2 o_gt (Vw.opN o_len (Vw.cons (Vw.callP 1 f_law_jumps (Vw.cons (Vw.pl (.slot 3)) Vw.nil)) Vw.nil)) (Vw.c (.int 8)))) S.cnt S.nx) (S.seq (S.asg (E.callIO 1 f_law_draw_machine 1 A.nil) (G.nm 5)) law_L2))) ρ := rfl
def law_L1 : M Fl := (S.for (Wk.range1 (A.cons (E.view (Vw.c (.int 3))) A.nil)) law_G1 law_B1)
theorem law_L1_ap (ρ : EV.Env) : law_L1 ρ = (S.for (Wk.range1 (A.cons (E.view (Vw.c (.int 3))) A.nil)) law_G1 law_B1) ρ := rfl
theorem b_law_eq : b_law = (S.seq (S.asg (E.callP 1 f_law_open (Vw.cons (Vw.pl (.slot 0)) Vw.nil)) (G.nm 1)) (S.seq law_L1 (S.ret (E.view (Vw.c (.bool true)))))) := rfl
def _law_same_CG1 (f_law_same : Nat → List O → FRes) (n : Nat) : O → M Unit := (G.tup 2 (G.cons (G.nm 2) (G.cons (G.nm 3) G.nil)))
def _law_same_CT1 (f_law_same : Nat → List O → FRes) (n : Nat) : M Bool := T.yes
def _law_same_CF1 (f_law_same : Nat → List O → FRes) (n : Nat) : M O := (E.callP 2 (f_law_same n) (Vw.cons (Vw.pl (.slot 2)) (Vw.cons (Vw.pl (.slot 3)) Vw.nil)))
def _law_same_C1 (f_law_same : Nat → List O → FRes) (n : Nat) : M O := (E.lc [2, 3] (Wk.zip (A.cons (E.var 0) (A.cons (E.var 1) A.nil))) (_law_same_CG1 f_law_same n) (_law_same_CT1 f_law_same n) (_law_same_CF1 f_law_same n))
theorem b__law_same_eq (f_law_same : Nat → List O → FRes) (n : Nat) : b__law_same f_law_same n = (S.seq (S.ifS (T.view (Vw.or (Vw.op2 o_is (Vw.var 1) (Vw.c .none)) (Vw.op2 o_is (Vw.var 0) (Vw.c .none)))) (S.ret (E.view (Vw.and (Vw.op2 o_is (Vw.var 1) (Vw.c .none)) (Vw.op2 o_is (Vw.var 0) (Vw.c .none))))) S.nx) (S.seq (S.ifS (T.view (Vw.or (Vw.op1 (isi "bool") (Vw.var 1)) (Vw.op1 (isi "bool") (Vw.var 0)))) (S.ret (E.view (Vw.and (Vw.op1 (isi "bool") (Vw.var 1)) (Vw.and (Vw.op1 (isi "bool") (Vw.var 0)) (Vw.op2 o_eq (Vw.var 0) (Vw.var 1)))))) S.nx) (S.seq (S.ifS (T.view (Vw.op1 (isiT ["int", "str"]) (Vw.var 1))) (S.seq (S.ifS (T.view (Vw.op2 o_ne (Vw.op1 (isi "int") (Vw.var 0)) (Vw.op1 (isi "int") (Vw.var 1)))) (S.ret (E.view (Vw.c (.bool false)))) S.nx) (S.ret (E.view (Vw.and (Vw.op1 (isiT ["int", "str"]) (Vw.var 0)) (Vw.op2 o_eq (Vw.var 0) (Vw.var 1)))))) S.nx) (S.seq (S.ifS (T.view (Vw.or (Vw.op2 o_ne (Vw.op1 (isi "tuple") (Vw.var 1)) (Vw.op1 (isi "tuple") (Vw.var 0))) (Vw.op2 o_ne (Vw.op1 (isi "list") (Vw.var 1)) (Vw.op1 (isi "list") (Vw.var 0))))) (S.ret (E.view (Vw.c (.bool false)))) S.nx) (S.seq (S.ifS (T.view (Vw.op2 o_ne (Vw.opN o_len (Vw.cons (Vw.var 0) Vw.nil)) (Vw.opN o_len (Vw.cons (Vw.var 1) Vw.nil)))) (S.ret (E.view (Vw.c (.bool false)))) S.nx) (S.ret (E.op2 o_nin (E.view (Vw.c (.bool false))) (_law_same_C1 f_law_same n)))))))) := rfl

end k10
namespace k10
open PySem PySem.Spec PyProof.Rows L2 EV EV.Ev EV.Ga
theorem is_jump_ok (r : Rw) : is_jump [.d r.enc] = .ok (.d (.bool r.isJ)) [] := by
  cases r <;> simp [is_jump, b_is_jump, runF_ap, Rw.enc, Rw.isJ]
theorem goes_on_ok (r : Rw) : goes_on [.d r.enc] = .ok (.d (.bool r.goes)) [] := by
  cases r <;> simp [goes_on, b_goes_on, runF_ap, Rw.enc, Rw.goes]
theorem is_integer_ok (x lo hi : Int) : is_integer [.d (.int x), .d (.int lo), .d (.int hi)] = .ok (.d (.bool (decide (lo ≤ x) && decide (x ≤ hi)))) [] := by
  simp [is_integer, b_is_integer, runF_ap]
theorem size_of_ok (m : Mc) (r : Rw) (sh : Bool) (a : Int) {n : Nat} (h : r.ok n) : size_of [.d r.enc, .d m.enc, .d (.bool sh), .d (.int a)] = .ok (.d (.int (sizeN m r sh a))) [] := by
  cases r <;> simp [size_of, b_size_of, runF_ap, Mc.enc, Rw.enc, sizeN]
  case align z => 
    have hz : 0 < z := by simp [Rw.ok] at h; omega
    simp [mod_i hz]
theorem is_machine_ok {m : Mc} (h : m.ok) : is_machine [.d m.enc] = .ok (.d (.bool true)) [] := by
  obtain ⟨⟨a1, a2⟩, ⟨b1, b2⟩, ⟨c1, c2⟩, ⟨d1, d2⟩, ⟨e1, e2⟩, ⟨f1, f2⟩, ⟨g1, g2⟩, ⟨h1, h2⟩⟩ := h
  simp [is_machine, b_is_machine, runF_ap, is_integer_ok, Mc.enc, a1, a2, b1, b2, c1, c2, d1, d2, e1, e2, f1, f2, g1, g2, h1, h2]
theorem need_machine_ok {m : Mc} (h : m.ok) : need_machine [.d m.enc] = .ok (.d .none) [] := by
  simp [need_machine, b_need_machine, runF_ap, is_machine_ok h]
theorem does_reach_ok (p : Pt) (m : Mc) (at_ : List Int) (i : Nat) (r : Rw) (a b : Int) (h : p[i]? = some r) (hj : r.isJ = true) (ha : at_[i]? = some a) (hb : at_[r.goal]? = some b) :
    does_reach [.d (tpE p), .d m.enc, .d (dlE at_), .d (.int i)] = .ok (.d (.bool (reachN m a b))) [] := by
  cases r <;> simp [Rw.isJ] at hj <;> simp [Rw.goal] at hb <;> simp [does_reach, b_does_reach, runF_ap, Mc.enc, Rw.enc, h, ha, hb, reachN]
theorem places_loop (m : Mc) (fs : List Int) {n : Nat} (P : O) : ∀ (rs : Pt) (hr : ∀ r ∈ rs, r.ok n) (i : Nat) (acc : List Int) (a : Int) (x y : O) (hl : acc.length + rs.length < 1000), ∃ x' y',
    loopF places_of_G1 places_of_B1 (enE rs i) [P, .d m.enc, .d (dlE fs), olE (acc ++ [a]), x, y] = .ok .nx [P, .d m.enc, .d (dlE fs), olE (acc ++ placesF m fs rs i a), x', y']
  | [], _, i, acc, a, x, y, _ => ⟨x, y, rfl⟩
  | r :: rs, hr, i, acc, a, x, y, hl => by
    rw [List.length_cons] at hl
    obtain ⟨x', y', ih⟩ := places_loop m fs P rs (fun z q => hr z (.tail _ q)) (i + 1) (acc ++ [a]) (a + sizeN m r (decide ((i : Int) ∈ fs)) a) (.d (.int i)) (.d r.enc) (by rw [List.length_append, List.length_singleton]; omega)
    refine ⟨x', y', ?_⟩
    rw [List.append_assoc] at ih
    rw [placesF, enE_cons, loopF_cons]
    have hl2 : acc.length + 1 < 1000000 := by omega
    simp [size_of_ok m r _ a (hr r (.head _)), hl2]
    simpa using ih
theorem places_of_ok {p : Pt} (hp : PtOk p) (m : Mc) (fs : List Int) : places_of [.d (tpE p), .d m.enc, .d (dlE fs)] = .ok (olE (placesN p m fs)) [] := by
  obtain ⟨x', y', h⟩ := places_loop m fs (.d (tpE p)) p hp.rows 0 [] 0 .un .un (by have := hp.len; simp; omega)
  have h0 : (O.lst [O.d (.int 0)]) = olE ([] ++ [(0 : Int)]) := rfl
  simp [places_of, runF_ap, b_places_of_eq, places_of_L1_ap]
  rw [h0, h]
  simp [placesN]
theorem misfits_of_ok {p : Pt} (hp : PtOk p) (m : Mc) (fs : List Int) (hf : JsOk p fs) (hl : fs.length < 1000) : misfits_of [.d (tpE p), .d m.enc, .d (dlE fs)] = .ok (olE (misfitsN p m fs)) [] := by
  simp [misfits_of, runF_ap, b_misfits_of_eq, misfits_of_C1_ap, lc_ap, places_of_ok hp]
  rw [lcF_filE (misP p m fs) id fs]
  · simp [misfitsN]
  · intro i hi acc k hb
    obtain ⟨k, r, rfl, hk, hj⟩ := hf i hi
    obtain ⟨r2, hg, _⟩ := hp.goal k r hk hj
    have lk := (List.getElem?_eq_some_iff.mp hk).1
    have lg := (List.getElem?_eq_some_iff.mp hg).1
    have hl := placesN_len p m fs
    have e := does_reach_ok p m (placesN p m fs) k r _ _ hk hj (atN_some (by omega)) (atN_some (by omega))
    simp [lcS, e, hk, hb, misP]
  · omega
theorem jumps_of_ok (p : Pt) (hl : p.length < 1000) : jumps_of [.d (tpE p)] = .ok (olE (jumpsN p)) [] := by
  simp [jumps_of, runF_ap, b_jumps_of_eq, jumps_of_C1_ap, lc_ap]
  rw [lcF_enumE (fun _ (r : Rw) => r.isJ) (fun i _ => (i : Int)) p]
  · rw [fmE_jumps]
    simp [jumpsN]
  · intro j r hj acc k hb
    simp [lcS, is_jump_ok, hb]
  · omega
theorem is_even_ok (p : Pt) (hl : p.length < 1000) : is_even [.d (tpE p)] = .ok (.d (.bool (evenN p))) [] := by
  simp [is_even, runF_ap, b_is_even_eq, is_even_C1_ap, lc_ap]
  rw [lcF_mapE Rw.isA p]
  · simp [evenN]
  · intro r _ acc k hb
    cases r <;> simp [lcS, Rw.enc, Rw.isA, hb]
  · omega
theorem is_row_ok (r : Rw) (n : Nat) (h : r.ok n) : is_row [.d r.enc, .d (.int n)] = .ok (.d (.bool true)) [] := by
  cases r <;> simp [Rw.ok] at h
  case jump k => have h2 : (k : Int) ≤ n - 1 := by omega
                 simp [is_row, b_is_row, runF_ap, Rw.enc, is_integer_ok, h2, eq_tup0, PyData.plainAll, PyData.plain]
  case branch k => have h2 : (k : Int) ≤ n - 1 := by omega
                   simp [is_row, b_is_row, runF_ap, Rw.enc, is_integer_ok, h2, eq_tup0, PyData.plainAll, PyData.plain]
  case align => rcases h with rfl | rfl | rfl | rfl <;> simp [is_row, b_is_row, runF_ap, Rw.enc, is_integer_ok, eq_tup0, PyData.plainAll, PyData.plain]
  all_goals simp [is_row, b_is_row, runF_ap, Rw.enc, is_integer_ok, h, eq_tup0, PyData.plainAll, PyData.plain]

theorem is_part_loop {p : Pt} (hp : PtOk p) : ∀ (rs : Pt) (i : Nat) (hs : ∀ (j : Nat) (r : Rw), rs[j]? = some r → p[i + j]? = some r) (x y : O), ∃ x' y',
    loopF is_part_G1 is_part_B1 (enE rs i) [.d (tpE p), x, y] = .ok .nx [.d (tpE p), x', y']
  | [], _, _, x, y => ⟨x, y, rfl⟩
  | r :: rs, i, hs, x, y => by
    obtain ⟨x', y', ih⟩ := is_part_loop hp rs (i + 1) (fun j z q => by
      have := hs (j + 1) z (by simpa using q)
      rwa [show i + (j + 1) = i + 1 + j by omega] at this) (.d (.int i)) (.d r.enc)
    refine ⟨x', y', ?_⟩
    have h0 : p[i]? = some r := hs 0 r rfl
    rw [enE_cons, loopF_cons]
    have hgo : r.goes = true → ∃ r2, p[i + 1]? = some r2 ∧ r2.isW = false := hp.next i r h0
    have hj : r.isJ = true → ∃ r2, p[r.goal]? = some r2 ∧ r2.isW = false := hp.goal i r h0
    cases g : r.goes with
    | false =>
      cases j : r.isJ with
      | false => simp [goes_on_ok, is_jump_ok, g, j, ih]
      | true =>
        obtain ⟨r3, h3, w3⟩ := hj j
        simp [goes_on_ok, is_jump_ok, g, j, ix_goal j, h3, w3, ih]
    | true =>
      obtain ⟨r2, h2, w2⟩ := hgo g
      have ne : ¬ ((i : Int) + 1 = p.length) := by have := (List.getElem?_eq_some_iff.mp h2).1; omega
      cases j : r.isJ with
      | false => simp [goes_on_ok, is_jump_ok, g, j, h2, w2, ne, ih]
      | true =>
        obtain ⟨r3, h3, w3⟩ := hj j
        simp [goes_on_ok, is_jump_ok, g, j, ix_goal j, h2, w2, h3, w3, ne, ih]
theorem is_part_ok {p : Pt} (hp : PtOk p) (hf : fewN p) : is_part [.d (tpE p)] = .ok (.d (.bool true)) [] := by
  have ⟨l1, l2⟩ := hp.len
  have l1' : (1 : Int) ≤ p.length := by omega
  have l2' : (p.length : Int) ≤ 20 := by omega
  obtain ⟨x', y', h⟩ := is_part_loop hp p 0 (fun j r q => by rwa [Nat.zero_add]) .un .un
  obtain ⟨r0, e0⟩ : ∃ r0, p[0]? = some r0 := ⟨p[0], List.getElem?_eq_getElem (by omega)⟩
  have w0 := hp.zero r0 e0
  have rows : is_part_C1 [.d (tpE p), .un, .un] = .ok (olE (p.map fun _ => true)) [.d (tpE p), .un, .un] := by
    simp [is_part_C1_ap, lc_ap]
    rw [lcF_mapE (fun _ => true) p]
    · simp
    · intro r hr acc k hb
      simp [lcS, is_row_ok r p.length (hp.rows r hr), hb]
    · omega
  simp [is_part, runF_ap, b_is_part_eq, rows, l1', l2', e0, w0, is_part_L1_ap, h, is_even_ok p (by omega), jumps_of_ok p (by omega)]
  rcases hf with h | h
  · exact .inl h
  · exact .inr (by omega)
theorem need_part_ok {p : Pt} (hp : PtOk p) (hf : fewN p) : need_part [.d (tpE p)] = .ok (.d .none) [] := by
  simp [need_part, b_need_part, runF_ap, is_part_ok hp hf]
theorem need_even_ok {p : Pt} (hp : PtOk p) (hf : evenN p = true) : need_even [.d (tpE p)] = .ok (.d .none) [] := by
  have := hp.len
  simp [need_even, b_need_even, runF_ap, is_even_ok p (by omega), hf]
theorem need_all_ok {p : Pt} {m : Mc} (hp : PtOk p) (hf : evenN p = true) (hm : m.ok) : need_all [.d (tpE p), .d m.enc] = .ok (.d .none) [] := by
  simp [need_all, b_need_all, runF_ap, need_part_ok hp (.inl hf), need_even_ok hp hf, need_machine_ok hm]
theorem grown_loop {p : Pt} (hp : PtOk p) (m : Mc) : ∀ (n N : Nat) (fs ch : List Int) (x : O) (hf : JsOk p fs) (h1 : fs.length ≤ n) (h2 : n < N) (h3 : fs.length < 1000) (h4 : ch.length + n < 1000), ∃ x',
    loopW grown_of_WT1 grown_of_WB1 N [.d (tpE p), .d m.enc, olE fs, olE ch, olE (misfitsN p m fs), .un] = .ok .nx [.d (tpE p), .d m.enc, olE (grownL p m n fs ch).1, olE (grownL p m n fs ch).2, x', .un]
  | n, N + 1, fs, ch, x, hf, h1, h2, h3, h4 => by
    rw [loopW_succ]
    cases e : misfitsN p m fs with
    | nil =>
      refine ⟨olE ([] : List Int), ?_⟩
      have : grownL p m n fs ch = (fs, ch) := by
        cases n with
        | zero => rfl
        | succ k => rw [grownL, e]
      rw [this]
      simp
    | cons b r =>
      have hb : b ∈ fs := misfits_sub (by rw [e]; exact .head _)
      have hl := filter_ne_len hb
      cases n with
      | zero => omega
      | succ k =>
        obtain ⟨x', ih⟩ := grown_loop hp m k N (fs.filter fun x => !decide (x = b)) (ch ++ [b]) .un (hf.filter _) (by omega) (by omega) (by omega) (by rw [List.length_append, List.length_singleton]; omega)
        refine ⟨x', ?_⟩
        rw [grownL, e]
        have hc : ch.length < 1000000 := by omega
        have lc : grown_of_C1 [.d (tpE p), .d m.enc, olE fs, olE (ch ++ [b]), olE (b :: r), .un] = .ok (olE (fs.filter fun x => !decide (x = b))) [.d (tpE p), .d m.enc, .d (dlE fs), olE (ch ++ [b]), olE (b :: r), .un] := by
          simp [grown_of_C1_ap, lc_ap]
          rw [lcF_filE (fun x : Int => !decide (x = b)) id fs]
          · simp
          · intro i hi acc k hb
            simp [lcS, hb]
          · omega
        simp [hc, lc, misfits_of_ok hp m _ (hf.filter _) (show (fs.filter fun x => !decide (x = b)).length < 1000 by omega)]
        simpa using ih

theorem grown_of_ok {p : Pt} (hp : PtOk p) (m : Mc) : grown_of [.d (tpE p), .d m.enc] = .ok (.tup [olE (grownN p m).1, olE (grownN p m).2]) [] := by
  have ⟨l1, l2⟩ := hp.len
  have jl := jumpsF_len p 0
  have jl2 : (jumpsN p).length ≤ 20 := by unfold jumpsN; omega
  obtain ⟨x', h⟩ := grown_loop hp m (jumpsN p).length 100000 (jumpsN p) [] .un (jumpsN_js p) (Nat.le_refl _) (by omega) (by omega) (by simp; omega)
  rw [olE_nil] at h
  simp [grown_of, runF_ap, b_grown_of_eq, grown_of_W1_ap, while_ap, jumps_of_ok p (by omega), misfits_of_ok hp m _ (jumpsN_js p) (show (jumpsN p).length < 1000 by omega), h]
  simp [mkTup, grownN]
theorem grown_ok {p : Pt} {m : Mc} (hp : PtOk p) (hf : evenN p = true) (hm : m.ok) : grown [.d (tpE p), .d m.enc] = .ok (.tup [olE (grownN p m).1, olE (grownN p m).2]) [] := by
  simp [grown, b_grown, runF_ap, need_all_ok hp hf hm, grown_of_ok hp m]
end k10

namespace k10
open PySem PySem.Spec PyProof.Rows L2 EV EV.Ev EV.Ga
theorem e_take : f_law_take = Pen.take Pen.spread := rfl
theorem e_one : f_law_one_of = Pen.one (Pen.take Pen.spread) := rfl
theorem draw_machine_ok {b : Nat} {s : Pn} (h : s.ok (b + 8)) : ∃ (m : Mc) (s' : Pn), f_law_draw_machine [pn s] = .ok (.d m.enc) [pn s'] ∧ s'.ok b ∧ m.ok := by
  obtain ⟨short, s1, e1, h1, m1⟩ := oneI_sp (b := b + 7) [1, 2, 3, 9] h (by decide) (by decide)
  obtain ⟨far, s2, e2, h2, m2⟩ := oneI_sp (b := b + 6) [0, 1, 2, 5, 19] h1 (by decide) (by decide)
  obtain ⟨leap, s3, e3, h3, m3⟩ := oneI_sp (b := b + 5) [0, 16, 40, 100, 400, 9999] h2 (by decide) (by decide)
  obtain ⟨span, s4, e4, h4, m4⟩ := oneI_sp (b := b + 4) [0, 4, 9, 30, 100, 999] h3 (by decide) (by decide)
  obtain ⟨word, s5, e5, h5, w0, w1⟩ := take_sp (b := b + 3) (many := 16) h4 (by decide) (by decide)
  obtain ⟨reach, s6, e6, h6, m6⟩ := oneI_sp (b := b + 2) [0, 1, 3, 8, 20, 60, 100, 999] h5 (by decide) (by decide)
  obtain ⟨long, s7, e7, h7, m7⟩ := oneI_sp (b := b + 1) [short + 1, short + 2, short + 5, 20] h6 (by simp) (by simp)
  obtain ⟨load, s8, e8, h8, l0, l1⟩ := take_sp (b := b) (many := 9) h7 (by decide) (by decide)
  rw [← e_take] at e5 e8
  rw [← e_one] at e1 e2 e3 e4 e6 e7
  simp only [List.map_cons, List.map_nil] at e1 e2 e3 e4 e6 e7
  refine ⟨⟨short, reach, long, 1 + far, leap, 1 + load, span, 1 + word⟩, s8, ?_, h8, ?_⟩
  · simp [f_law_draw_machine, runF_ap, b__law_draw_machine, e1, e2, e3, e4, e5, e6, e7, e8, Mc.enc]
  · simp at m1 m2 m3 m4 m6 m7
    have a1 : 1 ≤ short ∧ short ≤ 9 := by rcases m1 with rfl | rfl | rfl | rfl <;> decide
    have a2 : 1 ≤ 1 + far ∧ 1 + far ≤ 20 := by rcases m2 with rfl | rfl | rfl | rfl | rfl <;> decide
    have a3 : 0 ≤ leap ∧ leap ≤ 9999 := by rcases m3 with rfl | rfl | rfl | rfl | rfl | rfl <;> decide
    have a4 : 0 ≤ span ∧ span ≤ 999 := by rcases m4 with rfl | rfl | rfl | rfl | rfl | rfl <;> decide
    have a6 : 0 ≤ reach ∧ reach ≤ 999 := by rcases m6 with rfl | rfl | rfl | rfl | rfl | rfl | rfl | rfl <;> decide
    clear m2 m3 m4 m6
    have a7 : short + 1 ≤ long ∧ long ≤ 20 := by clear m1; rcases m7 with h | h | h | h <;> omega
    clear m1 m7
    exact ⟨a1, a6, a7, a2, a3, by show 1 ≤ 1 + load ∧ 1 + load ≤ 9; omega, a4, by show 1 ≤ 1 + word ∧ 1 + word ≤ 16; omega⟩

theorem draw_row_ok {b : Nat} {s : Pn} (h : s.ok (b + 6)) (free last : Bool) (al many : Int) (h1 : 1 ≤ many) (h2 : many ≤ 5) :
    ∃ (r : Rw) (s' : Pn), f_law_draw_row [pn s, .d (.bool free), .d (.bool last), .d (.int al), .d (.int many)] = .ok (.d r.enc) [pn s'] ∧ s'.ok b ∧ r.ok 1 ∧ (r.isW = true → free = true) ∧ (last = true → r.goes = false) ∧ (r.isA = true → 0 < al) := by
  obtain ⟨way, s1, e1, k1, w0, w1⟩ := take_sp (b := b + 5) (many := 20) h (by decide) (by decide)
  rw [← e_take] at e1
  by_cases c1 : free = true ∧ way < 5
  · obtain ⟨v, s2, e2, k2, v0, v1⟩ := take_sp (b := b + 4) (many := 4) k1 (by decide) (by decide)
    rw [← e_take] at e2
    refine ⟨.word v, s2, ?_, k2.le (by omega), ⟨v0, by omega⟩, fun _ => c1.1, fun _ => rfl, (fun z => by cases z)⟩
    simp [f_law_draw_row, runF_ap, b__law_draw_row, e1, e2, c1, Rw.enc]
  by_cases c2 : last = true ∨ way < 3
  · obtain ⟨sz, s2, e2, k2, m2⟩ := oneI_sp (b := b + 4) [1, 2, 99] k1 (by decide) (by decide)
    obtain ⟨to, s3, e3, k3, t0, t1⟩ := take_sp (b := b + 3) (many := many) k2 (by omega) (by omega)
    obtain ⟨d, s4, e4, k4, hd⟩ := one_sp (b := b + 2) (ds := [(Rw.stop sz).enc, (Rw.jump 0).enc, (Rw.jump 0).enc, (Rw.far to).enc]) k3 (by simp) (by simp)
    rw [← e_take] at e3
    rw [← e_one] at e2 e4
    simp only [List.map_cons, List.map_nil, Rw.enc, show ((0 : Nat) : Int) = 0 from rfl] at e2 e4
    have sz1 : 1 ≤ sz ∧ sz ≤ 99 := by simp at m2; rcases m2 with rfl | rfl | rfl <;> decide
    have run : f_law_draw_row [pn s, .d (.bool free), .d (.bool last), .d (.int al), .d (.int many)] = .ok (.d d) [pn s4] := by
      simp [f_law_draw_row, runF_ap, b__law_draw_row, e1, e2, e3, c1, c2, e4]
    simp only [List.mem_cons, List.mem_nil_iff, or_false] at hd
    rcases hd with rfl | rfl | rfl | rfl
    · exact ⟨_, s4, run, k4.le (by omega), sz1, (fun z => by cases z), fun _ => rfl, (fun z => by cases z)⟩
    · exact ⟨_, s4, run, k4.le (by omega), Nat.zero_lt_one, (fun z => by cases z), fun _ => rfl, (fun z => by cases z)⟩
    · exact ⟨_, s4, run, k4.le (by omega), Nat.zero_lt_one, (fun z => by cases z), fun _ => rfl, (fun z => by cases z)⟩
    · exact ⟨_, s4, run, k4.le (by omega), ⟨t0, by omega⟩, (fun z => by cases z), fun _ => rfl, (fun z => by cases z)⟩
  have hl : last = false := by cases last <;> simp_all
  have c3 : ¬ way < 3 := fun z => c2 (.inr z)
  by_cases c4 : way < 8
  · refine ⟨.branch 0, s1, ?_, k1.le (by omega), Nat.zero_lt_one, (fun z => by cases z), fun z => (c2 (.inl z)).elim, (fun z => by cases z)⟩
    simp [f_law_draw_row, runF_ap, b__law_draw_row, e1, c1, hl, c3, c4, Rw.enc]
  by_cases c5 : way < 11
  · obtain ⟨v, s2, e2, k2, v0, v1⟩ := take_sp (b := b + 4) (many := 4) k1 (by decide) (by decide)
    rw [← e_take] at e2
    refine ⟨.load v, s2, ?_, k2.le (by omega), ⟨v0, by omega⟩, (fun z => by cases z), fun z => (c2 (.inl z)).elim, (fun z => by cases z)⟩
    simp [f_law_draw_row, runF_ap, b__law_draw_row, e1, e2, c1, hl, c3, c4, c5, Rw.enc]
  by_cases c6 : way < 14 ∧ 0 < al
  · obtain ⟨v, s2, e2, k2, m2⟩ := oneI_sp (b := b + 4) [2, 4, 8, 16] k1 (by decide) (by decide)
    rw [← e_one] at e2
    simp only [List.map_cons, List.map_nil] at e2
    refine ⟨.align v, s2, ?_, k2.le (by omega), by simpa [Rw.ok] using m2, (fun z => by cases z), fun z => (c2 (.inl z)).elim, fun _ => c6.2⟩
    simp [f_law_draw_row, runF_ap, b__law_draw_row, e1, e2, c1, hl, c3, c4, c5, c6, Rw.enc]
  · obtain ⟨v, s2, e2, k2, v0, v1⟩ := take_sp (b := b + 4) (many := 99) k1 (by decide) (by decide)
    obtain ⟨sz, s3, e3, k3, m3⟩ := oneI_sp (b := b + 3) [1, 2, 3, 20, 99, 1 + v] k2 (by simp) (by simp)
    obtain ⟨a, s4, e4, k4, m4⟩ := oneI_sp (b := b + 2) [0, 1, 2, 999] k3 (by simp) (by simp)
    rw [← e_take] at e2
    rw [← e_one] at e3 e4
    simp only [List.map_cons, List.map_nil] at e3 e4
    have sz1 : 1 ≤ sz ∧ sz ≤ 99 := by simp at m3; clear m4; omega
    have a1 : 0 ≤ a ∧ a ≤ 999 := by simp at m4; clear m3; omega
    refine ⟨.plain sz a, s4, ?_, k4.le (by omega), ⟨sz1.1, sz1.2, a1.1, a1.2⟩, (fun z => by cases z), fun z => (c2 (.inl z)).elim, (fun z => by cases z)⟩
    simp [f_law_draw_row, runF_ap, b__law_draw_row, e1, e2, e3, e4, c1, hl, c3, c4, c5, c6, Rw.enc]

theorem draw_loop1 {al many : Int} {N : Nat} (h1 : 1 ≤ many) (h2 : many ≤ 5) {mo F G J R L : O} : ∀ (n : Nat) (rs : Pt) (b : Nat) (s : Pn) (x y : O) (h : s.ok (b + 6 * n)) (hN : rs.length + n = N) (hN2 : N < 1000) (hr : Raw al N rs) (hx : calm1 x = true), ∃ (rs' : Pt) (s' : Pn) (x' y' : O),
    loopF _law_draw_part_G1 _law_draw_part_B1 (rgE (rs.length : Int) n) [pn s, mo, .d (.int al), .d (.int many), olE rs, F, .d (.int N), x, y, G, J, R, L] = .ok .nx [pn s', mo, .d (.int al), .d (.int many), olE rs', F, .d (.int N), x', y', G, J, R, L] ∧ s'.ok b ∧ Raw al N rs' ∧ rs'.length = N ∧ calm1 x' = true
  | 0, rs, b, s, x, y, h, hN, hN2, hr, hx => ⟨rs, s, x, y, rfl, h, hr, hN, hx⟩
  | n + 1, rs, b, s, x, y, h, hN, hN2, hr, hx => by
    rw [rgE_succ, loopF_cons]
    have hl : rs.length < 1000000 := by omega
    have hk : s.ok ((b + 6 * n) + 6) := h.le (by omega)
    have step : ∃ (r : Rw) (s1 : Pn) (y1 : O), _law_draw_part_B1 [pn s, mo, .d (.int al), .d (.int many), olE rs, F, .d (.int N), .d (.int rs.length), y, G, J, R, L] = .ok .nx [pn s1, mo, .d (.int al), .d (.int many), olE (rs ++ [r]), F, .d (.int N), .d (.int rs.length), y1, G, J, R, L] ∧ s1.ok (b + 6 * n) ∧ Raw al N (rs ++ [r]) := by
      rcases List.eq_nil_or_concat rs with rfl | ⟨l, q, rfl⟩
      · obtain ⟨r, s1, e1, k1, ok1, w1, l1, a1⟩ := draw_row_ok hk false (decide ((0 : Int) = N - 1)) al many h1 h2
        refine ⟨r, s1, .d (.str "plain"), ?_, k1, hr.snoc ok1 a1 (fun z => by cases (w1 z)) fun z => l1 ?_⟩
        · simp [e1]
        · simp at z
          simp; omega
      · obtain ⟨r, s1, e1, k1, ok1, w1, l1, a1⟩ := draw_row_ok hk (!q.goes) (decide (((l ++ [q]).length : Int) = N - 1)) al many h1 h2
        refine ⟨r, s1, .d (.str q.kind), ?_, k1, hr.snoc ok1 a1 (fun z => ⟨l, q, by simp, by simpa using w1 z⟩) fun z => l1 ?_⟩
        · simp at hl e1
          have hl2 : l.length + 1 < 1000000 := hl
          simp [e1, hl2]
        · simp at z
          simp; omega
    obtain ⟨r, s1, y1, e, k1, hr1⟩ := step
    obtain ⟨rs', s', x', y', ih, r1, r2, r3, r4⟩ := draw_loop1 h1 h2 (mo := mo) (F := F) (G := G) (J := J) (R := R) (L := L) n (rs ++ [r]) b s1 (.d (.int rs.length)) y1 k1 (by rw [List.length_append, List.length_singleton]; omega) hN2 hr1 rfl
    refine ⟨rs', s', x', y', ?_, r1, r2, r3, r4⟩
    have c : (((rs ++ [r]).length : Nat) : Int) = (rs.length : Int) + 1 := by simp
    rw [c] at ih
    simp only [_law_draw_part_G1_ap, gnm_ap, unK_ok, List.set_cons_succ, List.set_cons_zero]
    rw [e, lpK_nx, ih]

theorem draw_loop2 {al : Int} {gs : List Int} (hal : 0 ≤ al) (hg : gs ≠ []) (hg2 : gs.length < 1000) (hg3 : ∀ g ∈ gs, 0 ≤ g) {mo ma P4 P6 P7 P8 : O} : ∀ (rs fs : Pt) (j : Int) (b : Nat) (s : Pn) (o9 x y : O) (h : s.ok (b + rs.length)) (h9 : o9 = olE gs ∨ o9 = .d (dlE gs)) (hl : fs.length + rs.length < 1000) (hj : 0 ≤ j), ∃ (fs' : Pt) (j' : Int) (s' : Pn) (o9' x' y' : O),
    loopF _law_draw_part_G2 _law_draw_part_B2 (rs.map Enc.enc) [pn s, mo, .d (.int al), ma, P4, olE fs, P6, P7, P8, o9, .d (.int j), x, y] = .ok .nx [pn s', mo, .d (.int al), ma, P4, olE (fs ++ fs'), P6, P7, P8, o9', .d (.int j'), x', y'] ∧ s'.ok b ∧ All2 (Upd al gs) rs fs' ∧ (0 < al → (fs'.countP Rw.isJ : Int) + j ≤ max al j)
  | [], fs, j, b, s, o9, x, y, h, h9, hl, hj => ⟨[], j, s, o9, x, y, by simp, h, .nil, fun _ => by simp; omega⟩
  | r :: rs, fs, j, b, s, o9, x, y, h, h9, hl, hj => by
    rw [List.length_cons] at hl h
    have hfl : fs.length < 1000000 := by omega
    rw [List.map_cons, loopF_cons]
    cases hrj : r.isJ with
    | false =>
      obtain ⟨fs', j', s', o9', x', y', ih, k', u, c⟩ := draw_loop2 hal hg hg2 hg3 (mo := mo) (ma := ma) (P4 := P4) (P6 := P6) (P7 := P7) (P8 := P8) rs (fs ++ [r]) j b s o9 (.d r.enc) y (h.le (by omega)) h9 (by rw [List.length_append, List.length_singleton]; omega) hj
      refine ⟨r :: fs', j', s', o9', x', y', ?_, k', .cons (by cases r <;> simp [Rw.isJ] at hrj <;> rfl) u, fun z => by rw [List.countP_cons, hrj]; simpa using c z⟩
      rw [List.append_assoc] at ih
      simp [hrj, hfl]
      simpa using ih
    | true =>
      obtain ⟨g, s1, e1, k1, hgm⟩ := oneE_sp (b := b + rs.length) gs (h.le (by omega)) hg (by omega)
      rw [← e_one] at e1
      obtain ⟨gn, rfl⟩ := Int.eq_ofNat_of_zero_le (hg3 g hgm)
      have step : ∃ r2 y2, Upd al gs r r2 ∧ (r2.isJ = true → al = 0 ∨ j + 1 ≤ al) ∧ _law_draw_part_B2 [pn s, mo, .d (.int al), ma, P4, olE fs, P6, P7, P8, o9, .d (.int j), .d r.enc, y] = .ok .nx [pn s1, mo, .d (.int al), ma, P4, olE (fs ++ [r2]), P6, P7, P8, .d (dlE gs), .d (.int (j + 1)), .d r2.enc, y2] := by
        cases r with
        | jump k =>
          by_cases c : al = 0 ∨ j + 1 ≤ al
          · have ap := append_rw fs (.jump gn)
            simp only [Rw.enc] at ap
            refine ⟨.jump gn, .d (.tuple [.str "jump", .int gn]), .inl ⟨gn, hgm, rfl⟩, fun _ => c, ?_⟩
            rcases h9 with rfl | rfl <;> simp [e1, Rw.enc, c, ap, hfl]
          · have ap := append_rw fs (.stop 2)
            simp only [Rw.enc] at ap
            refine ⟨.stop 2, .d (.tuple [.str "jump", .int gn]), .inr rfl, (fun z => by cases z), ?_⟩
            rcases h9 with rfl | rfl <;> simp [e1, Rw.enc, c, ap, hfl]
        | branch k =>
          by_cases c : al = 0 ∨ j + 1 ≤ al
          · have ap := append_rw fs (.branch gn)
            simp only [Rw.enc] at ap
            refine ⟨.branch gn, .d (.tuple [.str "branch", .int gn]), .inl ⟨gn, hgm, rfl⟩, fun _ => c, ?_⟩
            rcases h9 with rfl | rfl <;> simp [e1, Rw.enc, c, ap, hfl]
          · have ap := append_rw fs (.plain 2 1)
            simp only [Rw.enc] at ap
            refine ⟨.plain 2 1, .d (.tuple [.str "branch", .int gn]), .inr rfl, (fun z => by cases z), ?_⟩
            rcases h9 with rfl | rfl <;> simp [e1, Rw.enc, c, ap, hfl]
        | _ => cases hrj
      obtain ⟨r2, y2, hu, hc, e⟩ := step
      obtain ⟨fs', j', s', o9', x', y', ih, k', u, c⟩ := draw_loop2 hal hg hg2 hg3 (mo := mo) (ma := ma) (P4 := P4) (P6 := P6) (P7 := P7) (P8 := P8) rs (fs ++ [r2]) (j + 1) b s1 (.d (dlE gs)) (.d r2.enc) y2 k1 (.inr rfl) (by rw [List.length_append, List.length_singleton]; omega) (by omega)
      refine ⟨r2 :: fs', j', s', o9', x', y', ?_, k', .cons hu u, fun z => ?_⟩
      · rw [List.append_assoc] at ih
        simp only [_law_draw_part_G2_ap, gnm_ap, unK_ok, List.set_cons_succ, List.set_cons_zero, enc_rw]
        rw [e, lpK_nx]
        simpa using ih
      · have c := c z
        rw [List.countP_cons]
        cases q : r2.isJ with
        | true =>
          have := hc q
          simp
          omega
        | false =>
          simp
          omega

theorem draw_part_ok {b : Nat} {s : Pn} {mo al many : Int} (h : s.ok (b + 141)) (h1 : 1 ≤ many) (h2 : many ≤ 5) (m1 : 1 ≤ mo) (m2 : mo ≤ 20) (ha : al = 0 ∨ al = 6) :
    ∃ (p : Pt) (s' : Pn), f_law_draw_part [pn s, .d (.int mo), .d (.int al), .d (.int many)] = .ok (.d (tpE p)) [pn s'] ∧ s'.ok b ∧ PtOk p ∧ fewN p ∧ (al = 0 → evenN p = true) ∧ (p.length : Int) ≤ mo := by
  obtain ⟨z, s1, e1, k1, z0, z1⟩ := take_sp (b := b + 140) (many := mo) h (by omega) (by omega)
  rw [← e_take] at e1
  obtain ⟨n, hn⟩ : ∃ n : Nat, 1 + z = (n : Int) := ⟨(1 + z).toNat, by omega⟩
  have n1 : 1 ≤ n := by omega
  have n2 : n ≤ 20 := by omega
  obtain ⟨rs, s2, x7, y8, l1, k2, raw, len, cx⟩ := draw_loop1 (al := al) (N := n) h1 h2 (mo := .d (.int mo)) (F := .lst []) (G := .un) (J := .un) (R := .un) (L := .un) n [] (b + 20) s1 .un .un (k1.le (by omega)) (by simp) (by omega) (Raw.nil al n) rfl
  subst len
  have hal : 0 ≤ al := by omega
  have nl : ((rs.length : Nat) : Int) ≤ 1000000000000 := by omega
  have nl0 : -1000000000000 ≤ ((rs.length : Nat) : Int) := by omega
  have cg : _law_draw_part_C1 [pn s2, .d (.int mo), .d (.int al), .d (.int many), olE rs, .lst [], .d (.int rs.length), x7, y8, .un, .un, .un, .un] = .ok (olE ((upI 0 rs.length).filter fun k => match rs[k.toNat]? with | some r => !r.isW | none => false)) [pn s2, .d (.int mo), .d (.int al), .d (.int many), olE rs, .lst [], .d (.int rs.length), x7, y8, .un, .un, .un, .un] := by
    simp [_law_draw_part_C1_ap, lc_ap, nl, nl0, cx, rgE_up]
    rw [lcF_filE (fun k : Int => match rs[k.toNat]? with | some r => !r.isW | none => false) id (upI 0 rs.length)]
    · simp
    · intro k hk acc kk hb
      have ⟨k0, k1⟩ := mem_up.mp hk
      obtain ⟨i, rfl⟩ := Int.eq_ofNat_of_zero_le k0
      have hi : i < rs.length := by omega
      simp [lcS, List.getElem?_eq_getElem hi, hb]
    · rw [up_len]; omega
  have r0 : ∃ q, rs[0]? = some q ∧ q.isW = false := by
    refine ⟨rs[0], List.getElem?_eq_getElem (by omega), ?_⟩
    cases q : (rs[0]).isW with
    | false => rfl
    | true =>
      obtain ⟨j, _, e, _⟩ := raw.word 0 rs[0] (List.getElem?_eq_getElem (by omega)) q
      omega
  have gm : ∀ g : Int, g ∈ ((upI 0 rs.length).filter fun k => match rs[k.toNat]? with | some r => !r.isW | none => false) → 0 ≤ g ∧ ∃ q, rs[g.toNat]? = some q ∧ q.isW = false := by
    intro g hg
    rw [List.mem_filter] at hg
    refine ⟨(mem_up.mp hg.1).1, ?_⟩
    have := hg.2
    cases e : rs[g.toNat]? with
    | none => rw [e] at this; cases this
    | some q => rw [e] at this; exact ⟨q, rfl, by simpa using this⟩
  have g0 : (0 : Int) ∈ ((upI 0 rs.length).filter fun k => match rs[k.toNat]? with | some r => !r.isW | none => false) := by
    rw [List.mem_filter]
    obtain ⟨q, e, w⟩ := r0
    refine ⟨mem_up.mpr ⟨by omega, by omega⟩, ?_⟩
    show (match rs[(0 : Int).toNat]? with | some r => !r.isW | none => false) = true
    rw [show (0 : Int).toNat = 0 from rfl, e]
    simp [w]
  generalize hgs : ((upI 0 rs.length).filter fun k => match rs[k.toNat]? with | some r => !r.isW | none => false) = gs at cg gm g0
  have gl : gs.length < 1000 := by
    rw [← hgs]
    have := List.length_filter_le (fun k : Int => match rs[k.toNat]? with | some r => !r.isW | none => false) (upI 0 rs.length)
    rw [up_len] at this
    omega
  obtain ⟨fs, j', s3, o9, x', y', l2, k3, u, c⟩ := draw_loop2 hal (fun z => by rw [z] at g0; cases g0) gl (fun g q => (gm g q).1) (mo := .d (.int mo)) (ma := .d (.int many)) (P4 := .d (dlE rs)) (P6 := .d (.int rs.length)) (P7 := x7) (P8 := y8) rs [] 0 b s2 (olE gs) .un .un (k2.le (by omega)) (.inl rfl) (by simp; omega) (by omega)
  have hp : PtOk fs := raw.pt u ⟨by omega, by omega⟩ fun g q => by simpa using (gm g q).2
  have hev : al = 0 → evenN fs = true := fun z => by
    unfold evenN
    rw [Bool.not_eq_true', List.any_eq_false]
    intro v hv
    obtain ⟨r, hr, rfl⟩ := List.mem_map.mp hv
    obtain ⟨i, hi⟩ := List.getElem?_of_mem hr
    obtain ⟨r1, h1', hu⟩ := u.r hi
    intro q
    have q2 : r.isA = true := q
    rw [hu.isA] at q2
    have := raw.al r1 (List.mem_of_getElem? h1') q2
    omega
  rw [olE_nil] at l1 l2
  have ln := u.len
  refine ⟨fs, s3, ?_, k3, hp, ?_, hev, by omega⟩
  · simp [f_law_draw_part, runF_ap, b__law_draw_part_eq, e1, hn, _law_draw_part_L1_ap, nl, nl0]
    simp at l1
    simp [l1, cg, _law_draw_part_L2_ap]
    simp at l2
    simp [l2]
  · rcases ha with z | z
    · exact .inl (hev z)
    · refine .inr ?_
      unfold jumpsN
      rw [countP_jumps]
      have := c (by omega)
      omega
end k10

namespace k10
open PySem PySem.Spec PyProof.Rows L2 EV EV.Ev EV.Ga
theorem law_jumps_ok (p : Pt) (hl : p.length < 1000) : f_law_jumps [.d (tpE p)] = .ok (olE (jumpsN p)) [] := by
  simp [f_law_jumps, runF_ap, b__law_jumps_eq, _law_jumps_C1_ap, lc_ap]
  rw [lcF_enumE (fun _ (r : Rw) => r.isJ) (fun i _ => (i : Int)) p]
  · rw [fmE_jumps]
    simp [jumpsN]
  · intro j r hj acc k hb
    simp [lcS, hb]
  · omega
abbrev kvF : List (D × D) := [(.str "far", .int 3), (.str "load", .int 5), (.str "word", .int 7)]
theorem disp_F (ρ : EV.Env) : Vw.disp (((Vw.c (.str "far")), (Vw.c (.int 3))) :: (((Vw.c (.str "load")), (Vw.c (.int 5))) :: (((Vw.c (.str "word")), (Vw.c (.int 7))) :: []))) ρ = some (.dic kvF) := by kernel_rfl
theorem kvF_far : o_ixd (.dic kvF) (.d (.str "far")) = some (.d (.int 3)) := by kernel_rfl
theorem kvF_load : o_ixd (.dic kvF) (.d (.str "load")) = some (.d (.int 5)) := by kernel_rfl
theorem kvF_word : o_ixd (.dic kvF) (.d (.str "word")) = some (.d (.int 7)) := by kernel_rfl
theorem law_size_ok (m : Mc) (r : Rw) (sh : Bool) (a : Int) {n : Nat} (h : r.ok n) : f_law_size [.d r.enc, .d m.enc, .d (.bool sh), .d (.int a)] = .ok (.d (.int (sizeN m r sh a))) [] := by
  cases r <;> simp [f_law_size, runF_ap, b__law_size, Mc.enc, Rw.enc, sizeN, disp_F, kvF_far, kvF_load, kvF_word]
  case align z =>
    have hz : 0 < z := by simp [Rw.ok] at h; omega
    simp [mod_i hz]
    rcases h with rfl | rfl | rfl | rfl <;> omega
theorem law_places_loop (m : Mc) (fs : List Int) {n : Nat} (P : O) (o2 : O) (h2 : o2 = .d (dlE fs)) : ∀ (rs : Pt) (hr : ∀ r ∈ rs, r.ok n) (i : Nat) (acc : List Int) (a : Int) (x y : O) (hl : acc.length + rs.length < 1000), ∃ x' y' z',
    loopF _law_places_G1 _law_places_B1 (enE rs i) [P, .d m.enc, .d (dlE fs), olE acc, .d (.int a), x, y] = .ok .nx [P, .d m.enc, .d (dlE fs), olE (acc ++ (placesF m fs rs i a).dropLast), .d (.int z'), x', y'] ∧ placesF m fs rs i a = (placesF m fs rs i a).dropLast ++ [z']
  | [], _, i, acc, a, x, y, _ => ⟨x, y, a, by simp [placesF], rfl⟩
  | r :: rs, hr, i, acc, a, x, y, hl => by
    rw [List.length_cons] at hl
    obtain ⟨x', y', z', ih, hz⟩ := law_places_loop m fs P o2 h2 rs (fun z q => hr z (.tail _ q)) (i + 1) (acc ++ [a]) (a + sizeN m r (decide ((i : Int) ∈ fs)) a) (.d (.int i)) (.d r.enc) (by rw [List.length_append, List.length_singleton]; omega)
    have hne : placesF m fs rs (i + 1) (a + sizeN m r (decide ((i : Int) ∈ fs)) a) ≠ [] := fun q => by
      have := placesF_len m fs rs (i + 1) (a + sizeN m r (decide ((i : Int) ∈ fs)) a)
      rw [q] at this
      simp at this
    refine ⟨x', y', z', ?_, ?_⟩
    · rw [List.append_assoc] at ih
      rw [placesF, enE_cons, loopF_cons, List.dropLast_cons_of_ne_nil hne]
      have hl2 : acc.length < 1000000 := by omega
      simp [law_size_ok m r _ a (hr r (.head _)), hl2]
      simpa using ih
    · rw [placesF, List.dropLast_cons_of_ne_nil hne, List.cons_append, ← hz]
theorem law_places_ok {p : Pt} (hp : PtOk p) (m : Mc) (fs : List Int) : f_law_places [.d (tpE p), .d m.enc, .d (dlE fs)] = .ok (olE (placesN p m fs)) [] := by
  have := hp.len
  obtain ⟨x', y', z', h, hz⟩ := law_places_loop m fs (.d (tpE p)) _ rfl p hp.rows 0 [] 0 .un .un (by simp; omega)
  rw [olE_nil] at h
  have hz2 : placesN p m fs = (placesF m fs p 0 0).dropLast ++ [z'] := hz
  simp [f_law_places, runF_ap, b__law_places_eq, _law_places_L1_ap, h]
  have hl : (placesF m fs p 0 0).dropLast.length + 1 ≤ 1000000 := by rw [List.length_dropLast, placesF_len]; omega
  have hl0 := placesF_len m fs p 0 0
  have hl1 : p.length + 1 ≤ 1000000 := by omega
  generalize (placesF m fs p 0 0).dropLast = dl at *
  simp [hl, hz2, hl0, hl1]
theorem law_misfits_ok {p : Pt} (hp : PtOk p) (m : Mc) (fs : List Int) (hf : JsOk p fs) (hl : fs.length < 1000) : f_law_misfits [.d (tpE p), .d m.enc, .d (dlE fs)] = .ok (olE (misfitsN p m fs)) [] := by
  simp [f_law_misfits, runF_ap, b__law_misfits_eq, _law_misfits_C1_ap, lc_ap, law_places_ok hp]
  rw [lcF_filE (misP p m fs) id fs]
  · simp [misfitsN]
  · intro i hi acc k hb
    obtain ⟨k, r, rfl, hk, hj⟩ := hf i hi
    obtain ⟨r2, hg, _⟩ := hp.goal k r hk hj
    have lk := (List.getElem?_eq_some_iff.mp hk).1
    have lg := (List.getElem?_eq_some_iff.mp hg).1
    have hl := placesN_len p m fs
    have ek : (placesN p m fs)[k]? = some (atN (placesN p m fs) k) := atN_some (by omega)
    have eg : (placesN p m fs)[r.goal]? = some (atN (placesN p m fs) r.goal) := atN_some (by omega)
    simp [lcS, hk, hb, ix_goal hj, ek, eg, misP, reachN, Mc.enc]
  · omega
end k10

namespace k10
open PySem PySem.Spec PyProof.Rows L2 EV EV.Ev EV.Ga
theorem law_chain_loop {p : Pt} (hp : PtOk p) (m : Mc) : ∀ (n N : Nat) (fs ch : List Int) (hf : JsOk p fs) (h1 : fs.length ≤ n) (h2 : n < N) (h3 : fs.length < 1000) (h4 : ch.length + n < 1000), ∃ o2',
    loopW _law_chain_WT1 _law_chain_WB1 N [.d (tpE p), .d m.enc, olE fs, olE ch, .un] = .ok .nx [.d (tpE p), .d m.enc, o2', olE (grownL p m n fs ch).2, .un]
  | n, N + 1, fs, ch, hf, h1, h2, h3, h4 => by
    rw [loopW_succ]
    cases e : misfitsN p m fs with
    | nil =>
      refine ⟨olE fs, ?_⟩
      have : grownL p m n fs ch = (fs, ch) := by
        cases n with
        | zero => rfl
        | succ k => rw [grownL, e]
      rw [this]
      simp [law_misfits_ok hp m fs hf h3, e]
    | cons b r =>
      have hb : b ∈ fs := misfits_sub (by rw [e]; exact .head _)
      have hl := filter_ne_len hb
      cases n with
      | zero => omega
      | succ k =>
        obtain ⟨o2', ih⟩ := law_chain_loop hp m k N (fs.filter fun x => !decide (x = b)) (ch ++ [b]) (hf.filter _) (by omega) (by omega) (by omega) (by rw [List.length_append, List.length_singleton]; omega)
        refine ⟨o2', ?_⟩
        rw [grownL, e]
        have hc : ch.length < 1000000 := by omega
        have lc : _law_chain_C1 [.d (tpE p), .d m.enc, olE fs, olE (ch ++ [b]), .un] = .ok (olE (fs.filter fun x => !decide (x = b))) [.d (tpE p), .d m.enc, .d (dlE fs), olE (ch ++ [b]), .un] := by
          simp [_law_chain_C1_ap, lc_ap]
          rw [lcF_filE (fun x : Int => !decide (x = b)) id fs]
          · simp
          · intro i hi acc k hb
            simp [lcS, hb]
          · omega
        simp [law_misfits_ok hp m fs hf h3, e, hc, lc]
        simpa using ih
theorem law_chain_ok {p : Pt} (hp : PtOk p) (m : Mc) : f_law_chain [.d (tpE p), .d m.enc] = .ok (olE (grownN p m).2) [] := by
  have ⟨l1, l2⟩ := hp.len
  have jl := jumpsF_len p 0
  have jl2 : (jumpsN p).length ≤ 20 := by unfold jumpsN; omega
  obtain ⟨o2', h⟩ := law_chain_loop hp m (jumpsN p).length 100000 (jumpsN p) [] (jumpsN_js p) (Nat.le_refl _) (by omega) (by omega) (by simp; omega)
  rw [olE_nil] at h
  simp [f_law_chain, runF_ap, b__law_chain_eq, _law_chain_W1_ap, while_ap, law_jumps_ok p (by omega), h, grownN]
theorem great_loop1 {P M o3 x5 : O} : ∀ (js : List Int) (ls : List (List Int)) (o2 x4 : O) (h2 : ∀ ρ : EV.Env, evK 2 ρ (some o2) = .ok (.d (dlE ls)) (ρ.set 2 (.d (dlE ls)))) (hc : calm1 x4 = true) (hl : ls.length * 2 ^ js.length ≤ 1000) (hf : ∀ f ∈ ls, f.length + js.length < 1000), ∃ o2' x4',
    loopF _law_greatest_G1 _law_greatest_B1 (js.map Enc.enc) [P, M, o2, o3, x4, x5, .un] = .ok .nx [P, M, o2', o3, x4', x5, .un] ∧ (∀ ρ : EV.Env, evK 2 ρ (some o2') = .ok (.d (dlE (subsN js ls))) (ρ.set 2 (.d (dlE (subsN js ls))))) ∧ calm1 x4' = true
  | [], ls, o2, x4, h2, hc, hl, hf => ⟨o2, x4, rfl, h2, hc⟩
  | j :: js, ls, o2, x4, h2, hc, hl, hf => by
    rw [List.length_cons, Nat.pow_succ] at hl
    have hp := Nat.one_le_two_pow (n := js.length)
    have hl1 : ls.length ≤ 1000 := by
      have : ls.length * 1 ≤ ls.length * (2 ^ js.length * 2) := Nat.mul_le_mul_left _ (by omega)
      omega
    have q1 : (ls ++ ls.map (· ++ [j])).length * 2 ^ js.length ≤ 1000 := by
      rw [List.length_append, List.length_map]
      have : (ls.length + ls.length) * 2 ^ js.length = ls.length * (2 ^ js.length * 2) := by rw [← Nat.mul_two, Nat.mul_assoc, Nat.mul_comm 2]
      omega
    have q2 : ∀ f ∈ ls ++ ls.map (· ++ [j]), f.length + js.length < 1000 := fun f q => by
      rw [List.mem_append] at q
      rcases q with q | q
      · have := hf f q; rw [List.length_cons] at this; omega
      · obtain ⟨g, hg, rfl⟩ := List.mem_map.mp q
        have := hf g hg
        rw [List.length_cons] at this
        rw [List.length_append, List.length_singleton]; omega
    have e2 : ∀ ρ : EV.Env, evK 2 ρ (some (.lst (osE ls ++ ls.map fun f => olE (f ++ [j])))) = .ok (.d (dlE (ls ++ ls.map (· ++ [j])))) (ρ.set 2 (.d (dlE (ls ++ ls.map (· ++ [j]))))) := fun ρ => by
      rw [evK_lst, frzL_app (frzL_osE ls) (frzL_mapO (G := fun f => dlE (f ++ [j])) fun x _ => frz_olE _), vfK_some]
      simp [dlE, List.map_append, Function.comp_def]
    obtain ⟨o2', x4', ih, r1, r2⟩ := great_loop1 (P := P) (M := M) (o3 := o3) (x5 := x5) js (ls ++ ls.map (· ++ [j])) (.lst (osE ls ++ ls.map fun f => olE (f ++ [j]))) (.d (.int j)) e2 rfl q1 q2
    refine ⟨o2', x4', ?_, r1, r2⟩
    rw [List.map_cons, loopF_cons]
    have lc : _law_greatest_C1 [P, M, .d (dlE ls), o3, .d (.int j), x5, .un] = .ok (.lst (ls.map fun f => olE (f ++ [j]))) [P, M, .d (dlE ls), o3, .d (.int j), x5, .un] := by
      simp [_law_greatest_C1_ap, lc_ap]
      rw [lcF_mapO (fun f : List Int => olE (f ++ [j])) ls]
      · simp
      · intro f hf2 acc k hb
        have := hf f hf2
        rw [List.length_cons] at this
        have h3 : f.length + 1 ≤ 1000000 := by omega
        simp [lcS, hb, h3]
      · omega
    have hl2 : ls.length + ls.length ≤ 1000000 := by omega
    simp [h2, lc, oadd_dl_lst, hl2]
    exact ih
end k10

namespace k10
open PySem PySem.Spec PyProof.Rows L2 EV EV.Ev EV.Ga
theorem great_loop2 {p : Pt} (hp : PtOk p) (m : Mc) {P2 : O} : ∀ (ls : List (List Int)) (fd : List Int) (x4 x5 : O) (hf : ∀ f ∈ ls, JsOk p f ∧ f.length ≤ 20) (hc : calm1 x4 = true) (hl : fd.length + 20 * ls.length ≤ 100000), ∃ x4' x5',
    loopF _law_greatest_G2 _law_greatest_B2 (ls.map Enc.enc) [.d (tpE p), .d m.enc, P2, olE fd, x4, x5, .un] = .ok .nx [.d (tpE p), .d m.enc, P2, olE (foundN p m ls fd), x4', x5', .un]
  | [], fd, x4, x5, hf, hc, hl => ⟨x4, x5, rfl⟩
  | f :: ls, fd, x4, x5, hf, hc, hl => by
    rw [List.length_cons] at hl
    obtain ⟨hj, hfl⟩ := hf f (.head _)
    rw [List.map_cons, loopF_cons, foundN]
    by_cases e : misfitsN p m f = []
    · have hlen := List.length_filter_le (fun x => !decide (x ∈ fd)) f
      obtain ⟨x4', x5', ih⟩ := great_loop2 hp m (P2 := P2) ls (fd ++ f.filter fun x => !decide (x ∈ fd)) x4 (.d (dlE f)) (fun g q => hf g (.tail _ q)) hc (by rw [List.length_append]; omega)
      refine ⟨x4', x5', ?_⟩
      have lc : _law_greatest_C2 [.d (tpE p), .d m.enc, P2, .d (dlE fd), x4, .d (dlE f), .un] = .ok (olE (f.filter fun x => !decide (x ∈ fd))) [.d (tpE p), .d m.enc, P2, .d (dlE fd), x4, .d (dlE f), .un] := by
        simp [_law_greatest_C2_ap, lc_ap, hc]
        rw [lcF_filE (fun x : Int => !decide (x ∈ fd)) id f]
        · simp
        · intro i hi acc k hb
          simp [lcS, hb]
        · omega
      have hl2 : fd.length + (f.filter fun x => !decide (x ∈ fd)).length ≤ 1000000 := by omega
      rw [if_pos e]
      simp [law_misfits_ok hp m f hj (show f.length < 1000 by omega), e, lc]
      rw [if_pos (by simpa using hl2)]
      simpa using ih
    · obtain ⟨x4', x5', ih⟩ := great_loop2 hp m (P2 := P2) ls fd x4 (.d (dlE f)) (fun g q => hf g (.tail _ q)) hc (by omega)
      refine ⟨x4', x5', ?_⟩
      rw [if_neg e]
      simp [law_misfits_ok hp m f hj (show f.length < 1000 by omega), e]
      exact ih

theorem law_same_ok : ∀ (n : Nat) (a : D), Sm n a → f_law_same n [.d a, .d a] = .ok (.d (.bool true)) []
  | _, _, .none n => by simp [f_law_same, runF_ap, b__law_same]
  | _, _, .bool n b => by simp [f_law_same, runF_ap, b__law_same]
  | _, _, .int n i => by simp [f_law_same, runF_ap, b__law_same]
  | _, _, .str n s => by simp [f_law_same, runF_ap, b__law_same]
  | _, .list xs, .list (n := n) h hl => by
    have lc : _law_same_C1 (fun _ => f_law_same n) n [.d (.list xs), .d (.list xs), .un, .un] = .ok (olE (xs.map fun _ => true)) [.d (.list xs), .d (.list xs), .un, .un] := by
      simp [_law_same_C1, lc_ap, zips_self]
      rw [lcF_mapG (fun x => PyData.tuple [x, x]) (fun _ => true) xs]
      · simp
      · intro x hx acc k hb
        simp [lcS, _law_same_CG1, _law_same_CT1, _law_same_CF1, law_same_ok n x (h x hx), hb]
      · exact hl
    simp [f_law_same, runF_ap, b__law_same_eq, lc]
  | _, .tuple xs, .tuple (n := n) h hl => by
    have lc : _law_same_C1 (fun _ => f_law_same n) n [.d (.tuple xs), .d (.tuple xs), .un, .un] = .ok (olE (xs.map fun _ => true)) [.d (.tuple xs), .d (.tuple xs), .un, .un] := by
      simp [_law_same_C1, lc_ap, zips_self]
      rw [lcF_mapG (fun x => PyData.tuple [x, x]) (fun _ => true) xs]
      · simp
      · intro x hx acc k hb
        simp [lcS, _law_same_CG1, _law_same_CT1, _law_same_CF1, law_same_ok n x (h x hx), hb]
      · exact hl
    simp [f_law_same, runF_ap, b__law_same_eq, lc]

theorem found_len (p : Pt) (m : Mc) : ∀ (ls : List (List Int)) (fd : List Int), (∀ f ∈ ls, f.length ≤ 20) → (foundN p m ls fd).length ≤ fd.length + 20 * ls.length
  | [], fd, _ => by simp [foundN]
  | f :: ls, fd, h => by
    have h1 := h f (.head _)
    have h2 := List.length_filter_le (fun x => !decide (x ∈ fd)) f
    rw [foundN, List.length_cons]
    split
    · have := found_len p m ls (fd ++ f.filter fun x => !decide (x ∈ fd)) fun g q => h g (.tail _ q)
      rw [List.length_append] at this
      omega
    · have := found_len p m ls fd fun g q => h g (.tail _ q)
      omega
theorem subs_len : ∀ (js : List Int) (ls : List (List Int)), (subsN js ls).length = ls.length * 2 ^ js.length
  | [], ls => by simp [subsN]
  | j :: js, ls => by
    show (subsN js (ls ++ ls.map (· ++ [j]))).length = _
    rw [subs_len js, List.length_append, List.length_map, List.length_cons, Nat.pow_succ, ← Nat.mul_two, Nat.mul_assoc, Nat.mul_comm 2]
theorem law_greatest_ok {p : Pt} {m : Mc} (hp : PtOk p) (he : evenN p = true) (hm : m.ok) (h8 : (jumpsN p).length ≤ 8) : f_law_greatest [.d (tpE p), .d m.enc] = .ok (olE (grownN p m).1) [] := by
  have ⟨l1, l2⟩ := hp.len
  have pw : (2 : Nat) ^ (jumpsN p).length ≤ 2 ^ 8 := Nat.pow_le_pow_right (by decide) h8
  have sl := subs_len (jumpsN p) [[]]
  have sl2 : (subsN (jumpsN p) [[]]).length ≤ 256 := by rw [sl, List.length_singleton, Nat.one_mul]; exact pw
  obtain ⟨o2', x4', g1, r1, r2⟩ := great_loop1 (P := .d (tpE p)) (M := .d m.enc) (o3 := .lst []) (x5 := .un) (jumpsN p) [[]] (.lst [.lst []]) .un (fun ρ => by simp [dlE]) rfl (by rw [List.length_singleton, Nat.one_mul]; omega) (by intro f hf; rw [List.mem_singleton] at hf; subst hf; simp; omega)
  have hs : ∀ f ∈ subsN (jumpsN p) [[]], JsOk p f ∧ f.length ≤ 20 := fun f hf => by
    obtain ⟨g, hg, s, hs, rfl⟩ := (mem_subs _ _ _).mp hf
    rw [List.mem_singleton] at hg
    subst hg
    rw [List.nil_append]
    exact ⟨fun i hi => jumpsN_js p i (hs.subset hi), by have := hs.length_le; omega⟩
  obtain ⟨y4, y5, g2⟩ := great_loop2 hp m (P2 := .d (dlE (subsN (jumpsN p) [[]]))) (subsN (jumpsN p) [[]]) [] x4' .un hs r2 (by simp; omega)
  have fl := found_len p m (subsN (jumpsN p) [[]]) [] fun f hf => (hs f hf).2
  rw [List.length_nil] at fl
  have fl2 : (foundN p m (subsN (jumpsN p) [[]]) []).length ≤ 1000000 := by omega
  rw [olE_nil] at g2
  simp [f_law_greatest, runF_ap, b__law_greatest_eq, _law_greatest_L1_ap, _law_greatest_L2_ap, law_jumps_ok p (by omega), g1, r1, g2, fl2, great_eq hp he hm]
end k10

namespace k10
open PySem PySem.Spec PyProof.Rows L2 EV EV.Ev EV.Ga
theorem e_open : f_law_open = Pen.open_ := rfl
theorem rp_row {r : Rw} {n : Nat} (h : r.ok n) (hn : n ≤ 1000) : Rp 1 21 r.enc := by
  have st : ∀ (s : String), s.toList.length ≤ 6 → (∀ c ∈ s.toList, c.toNat < 16 ^ 8) → Rp 0 6 (.str s) := fun s h1 h2 => by
    refine Rp.str (fun c hc => ?_) ?_
    · rw [show (s : PySem.Str) = PySem.Str.ofString s from rfl, PySem.Str.ofString_eq_toList] at hc
      simp at hc
      obtain ⟨a, ha, rfl⟩ := hc
      exact h2 a ha
    · have := EV.ofString_len s
      exact Nat.le_trans (Nat.le_of_eq this) h1
  have it : ∀ i : Int, i.natAbs < 10 ^ 40 → Rp 0 6 (.int i) := fun i h => (Rp.int h).le (Nat.le_refl _) (by decide)
  have two : ∀ (a b : D), Rp 0 6 a → Rp 0 6 b → Rp 1 21 (.tuple [a, b]) := fun a b h1 h2 => (Rp.tuple (n := 3) (xs := [a, b]) (by
    intro x hx
    rcases List.mem_cons.mp hx with rfl | hx
    · exact h1
    · rw [List.mem_singleton] at hx; subst hx; exact h2) (by simp))
  have three : ∀ (a b c : D), Rp 0 6 a → Rp 0 6 b → Rp 0 6 c → Rp 1 21 (.tuple [a, b, c]) := fun a b c h1 h2 h3 => (Rp.tuple (n := 3) (xs := [a, b, c]) (by
    intro x hx
    rcases List.mem_cons.mp hx with rfl | hx
    · exact h1
    rcases List.mem_cons.mp hx with rfl | hx
    · exact h2
    · rw [List.mem_singleton] at hx; subst hx; exact h3) (by simp))
  cases r <;> simp only [Rw.ok] at h <;> simp only [Rw.enc]
  case plain => exact three _ _ _ (st "plain" (by decide) (by decide)) (it _ (by omega)) (it _ (by omega))
  case stop => exact two _ _ (st "stop" (by decide) (by decide)) (it _ (by omega))
  case jump => exact two _ _ (st "jump" (by decide) (by decide)) (it _ (by omega))
  case branch => exact two _ _ (st "branch" (by decide) (by decide)) (it _ (by omega))
  case far => exact two _ _ (st "far" (by decide) (by decide)) (it _ (by omega))
  case load => exact two _ _ (st "load" (by decide) (by decide)) (it _ (by omega))
  case word => exact two _ _ (st "word" (by decide) (by decide)) (it _ (by omega))
  case align => exact two _ _ (st "align" (by decide) (by decide)) (it _ (by omega))
theorem rp_part {p : Pt} (hp : PtOk p) : Rp 2 440 (tpE p) := by
  refine (Rp.tuple (k := 1) (w := 21) (n := 20) (fun x hx => ?_) ?_).le (by decide) (by decide)
  · obtain ⟨r, hr, rfl⟩ := List.mem_map.mp hx
    exact rp_row (hp.rows r hr) (by have := hp.len; omega)
  · rw [List.length_map]; exact hp.len.2
theorem rp_mach {m : Mc} (hm : m.ok) : Rp 1 8 m.enc := by
  obtain ⟨⟨a1, a2⟩, ⟨b1, b2⟩, ⟨c1, c2⟩, ⟨d1, d2⟩, ⟨e1, e2⟩, ⟨f1, f2⟩, ⟨g1, g2⟩, ⟨h1, h2⟩⟩ := hm
  refine (Rp.tuple (k := 0) (w := 0) (n := 8) (fun x hx => ?_) (by simp)).le (by decide) (by decide)
  simp only [List.mem_cons, List.mem_nil_iff, or_false] at hx
  rcases hx with rfl | rfl | rfl | rfl | rfl | rfl | rfl | rfl <;> exact Rp.int (by omega)
theorem rp_pm {p : Pt} {m : Mc} (hp : PtOk p) (hm : m.ok) : Rp 3 882 (.tuple [tpE p, m.enc]) := by
  refine Rp.tuple (k := 2) (w := 440) (n := 2) (fun x hx => ?_) (by simp)
  rcases List.mem_cons.mp hx with rfl | hx
  · exact rp_part hp
  · rw [List.mem_singleton] at hx; subst hx; exact (rp_mach hm).le (by decide) (by decide)
theorem sm_pair (a b : List Int) (h1 : a.length < 1000000) (h2 : b.length < 1000000) : Sm 12 (.tuple [dlE a, dlE b]) := by
  refine .tuple (fun x hx => ?_) (by simp)
  have one : ∀ l : List Int, l.length < 1000000 → Sm 11 (dlE l) := fun l hl => .list (fun y hy => by
    obtain ⟨i, _, rfl⟩ := List.mem_map.mp hy
    exact .int _ _) (by rw [List.length_map]; exact hl)
  rcases List.mem_cons.mp hx with rfl | hx
  · exact one a h1
  · rw [List.mem_singleton] at hx; subst hx; exact one b h2

theorem B2_ok {p : Pt} {m : Mc} (hp : PtOk p) (he : evenN p = true) (hm : m.ok) (h8 : (jumpsN p).length ≤ 8) (S PN T a b x y z : O) : ∃ x' y' z',
    law_B2 [S, PN, T, .d (tpE p), a, b, .d m.enc, x, y, z] = .ok .nx [S, PN, T, .d (tpE p), a, b, .d m.enc, x', y', z'] := by
  have ⟨l1, l2⟩ := hp.len
  have rp := repr_ok (o := .d (.tuple [tpE p, m.enc])) (rp_pm hp hm) (rdO_d _) (by decide) (by decide) rfl
  have sub : (grownN p m).1.Sublist (jumpsN p) := grownL_sub p m _ _ _
  have g1 : (grownN p m).1.length < 1000000 := by have := sub.length_le; omega
  have g2 : (grownN p m).2.length < 1000000 := by have := grownL_len p m (jumpsN p).length (jumpsN p) []; simp at this; unfold grownN; omega
  have sm := law_same_ok 12 _ (sm_pair _ _ g1 g2)
  simp [rp, grown_ok hp he hm, law_greatest_ok hp he hm h8, law_chain_ok hp m, sm, g1, g2]
theorem loop2_ok {p : Pt} {m m2 : Mc} (hp : PtOk p) (he : evenN p = true) (hm : m.ok) (hm2 : m2.ok) (h8 : (jumpsN p).length ≤ 8) (S PN T c x y z : O) : ∃ c' x' y' z',
    law_L2 [S, PN, T, .d (tpE p), .d m.enc, .d m2.enc, c, x, y, z] = .ok .nx [S, PN, T, .d (tpE p), .d m.enc, .d m2.enc, c', x', y', z'] := by
  obtain ⟨x1, y1, z1, e1⟩ := B2_ok hp he hm h8 S PN T (.d m.enc) (.d m2.enc) x y z
  obtain ⟨x2, y2, z2, e2⟩ := B2_ok hp he hm2 h8 S PN T (.d m.enc) (.d m2.enc) x1 y1 z1
  obtain ⟨x3, y3, z3, e3⟩ := B2_ok hp he hm h8 S PN T (.d m.enc) (.d m2.enc) x2 y2 z2
  refine ⟨.d m.enc, x3, y3, z3, ?_⟩
  rw [law_L2_ap, sfor_ap]
  have w : Wk.seq (E.lst (A.cons (E.var 4) (A.cons (E.var 5) (A.cons (E.var 4) A.nil)))) [S, PN, T, .d (tpE p), .d m.enc, .d m2.enc, c, x, y, z] = .ok [m.enc, m2.enc, m.enc] [S, PN, T, .d (tpE p), .d m.enc, .d m2.enc, c, x, y, z] := by
    simp [oseq, G.nm, dseq]
  rw [w, bnd_ok, loopF_cons, law_G2_ap, gnm_ap, unK_ok]
  simp only [List.set_cons_succ, List.set_cons_zero]
  rw [e1, lpK_nx, loopF_cons, law_G2_ap, gnm_ap, unK_ok]
  simp only [List.set_cons_succ, List.set_cons_zero]
  rw [e2, lpK_nx, loopF_cons, law_G2_ap, gnm_ap, unK_ok]
  simp only [List.set_cons_succ, List.set_cons_zero]
  rw [e3, lpK_nx, loopF_nil]
theorem B1_ok {b : Nat} {s : Pn} (h : s.ok (b + 200)) (S T a1 a2 a3 c x y z : O) : ∃ (f : Fl) (s' : Pn) (b1 b2 b3 c' x' y' z' : O), s'.ok b ∧ (f = .nx ∨ f = .cnt) ∧
    law_B1 [S, pn s, T, a1, a2, a3, c, x, y, z] = .ok f [S, pn s', T, b1, b2, b3, c', x', y', z'] := by
  obtain ⟨mo, s1, e1, k1, m1⟩ := oneI_sp (b := b + 199) [5, 12, 20] h (by decide) (by decide)
  have mo1 : 1 ≤ mo ∧ mo ≤ 20 := by simp at m1; rcases m1 with rfl | rfl | rfl <;> decide
  obtain ⟨p, s2, e2, k2, hp, hf, he, hl⟩ := draw_part_ok (b := b + 20) (mo := mo) (al := 0) (many := 3) (k1.le (by omega)) (by decide) (by decide) mo1.1 mo1.2 (.inl rfl)
  obtain ⟨m, s3, e3, k3, hm⟩ := draw_machine_ok (b := b + 10) (k2.le (by omega))
  have he := he rfl
  have ⟨l1, l2⟩ := hp.len
  rw [← e_one] at e1
  simp only [List.map_cons, List.map_nil] at e1
  by_cases h8 : (jumpsN p).length ≤ 8
  · obtain ⟨m2, s4, e4, k4, hm2⟩ := draw_machine_ok (b := b) (k3.le (by omega))
    obtain ⟨c', x', y', z', e5⟩ := loop2_ok hp he hm hm2 h8 S (pn s4) T c x y z
    refine ⟨.nx, s4, .d (tpE p), .d m.enc, .d m2.enc, c', x', y', z', k4, .inl rfl, ?_⟩
    have h8' : ¬ (8 : Int) < (jumpsN p).length := by omega
    simp [e1, e2, e3, e4, law_jumps_ok p (by omega), h8']
    exact e5
  · refine ⟨.cnt, s3, .d (tpE p), .d m.enc, a3, c, x, y, z, k3.le (by omega), .inr rfl, ?_⟩
    have h8' : (8 : Int) < (jumpsN p).length := by omega
    simp [e1, e2, e3, law_jumps_ok p (by omega), h8']
theorem loop1_ok : ∀ (n : Nat) (i : Int) (b : Nat) (s : Pn) (S T a1 a2 a3 c x y z : O), s.ok (b + 200 * n) → ∃ (s' : Pn) (T' b1 b2 b3 c' x' y' z' : O),
    loopF law_G1 law_B1 (rgE i n) [S, pn s, T, a1, a2, a3, c, x, y, z] = .ok .nx [S, pn s', T', b1, b2, b3, c', x', y', z']
  | 0, i, b, s, S, T, a1, a2, a3, c, x, y, z, h => ⟨s, T, a1, a2, a3, c, x, y, z, rfl⟩
  | n + 1, i, b, s, S, T, a1, a2, a3, c, x, y, z, h => by
    obtain ⟨f, s1, b1, b2, b3, c1, x1, y1, z1, k1, hf, e1⟩ := B1_ok (b := b + 200 * n) (h.le (by omega)) S (.d (.int i)) a1 a2 a3 c x y z
    obtain ⟨s2, T2, d1, d2, d3, c2, x2, y2, z2, e2⟩ := loop1_ok n (i + 1) b s1 S (.d (.int i)) b1 b2 b3 c1 x1 y1 z1 k1
    refine ⟨s2, T2, d1, d2, d3, c2, x2, y2, z2, ?_⟩
    rw [rgE_succ, loopF_cons, law_G1_ap, gnm_ap, unK_ok]
    simp only [List.set_cons_succ, List.set_cons_zero]
    rw [e1]
    rcases hf with rfl | rfl
    · rw [lpK_nx, e2]
    · rw [lpK_cnt, e2]
theorem law_true : ∀ ns : List Int, ns.length ≤ 63 → law [.scr ns] = .ok (.d (.bool true)) [] := by
  intro ns _
  obtain ⟨xs, ho⟩ := Pen.open_ok ns
  rw [← e_open] at ho
  have co := Pen.call_open (ρ := [.un, .un, .un, .un, .un, .un, .un, .un, .un]) ho
  obtain ⟨s', T', b1, b2, b3, c', x', y', z', e⟩ := loop1_ok 3 0 1000 ⟨xs, 0, 0⟩ (.scr ns) .un .un .un .un .un .un .un .un ⟨Int.le_refl _, by show (0 : Int) + (1000 + 200 * 3 : Nat) ≤ 100000; decide⟩
  have body : b_law [.scr ns, .un, .un, .un, .un, .un, .un, .un, .un, .un] = .ok (.ret (.d (.bool true))) [.scr ns, pn s', T', b1, b2, b3, c', x', y', z'] := by
    rw [b_law_eq, seq_ap, sasg_ap, co]
    have e2 : loopF law_G1 law_B1 (rgE 0 3) [.scr ns, Pen.pen xs 0 0, .un, .un, .un, .un, .un, .un, .un, .un] = _ := e
    simp [law_L1_ap, e2]
  show runK [] (b_law [.scr ns, .un, .un, .un, .un, .un, .un, .un, .un, .un]) = _
  rw [body]
  rfl
end k10

open PySem PySem.W PySem.Calls PyProof.Rows
theorem PySem.Challenge.cw_reachrows_k10_greatest_forms_holds : PySem.Challenge.rw_reachrows_k10_greatest_forms.Holds := by
  w_on; o_law
  refine HandSHeadRun.head_any (r := OpenLaw.row PySem.Challenge.rw_reachrows_k10_greatest_forms) (q := view (OpenLaw.row PySem.Challenge.rw_reachrows_k10_greatest_forms).prog [45]) (H := k10.hk) (ob := k10.ob) (M := 20000) (loose := k10.names) (d := HandSHeadRun.topDef (OpenLaw.row PySem.Challenge.rw_reachrows_k10_greatest_forms).prog 45) (kwd := []) k10.ob_eq
    (by kernel_rfl) (fun s => by kernel_rfl) k10.run (by kernel_rfl) (by kernel_rfl) (by kernel_rfl) (by rfl) (by first | assumption | decide +kernel) (by decide +kernel) ⟨rfl, rfl, rfl, rfl, rfl, by decide +kernel⟩ ?hw ?hc
  case hw => w_witness2
  case hc =>
    refine EV.walk_G (l := PySem.Challenge.rw_reachrows_k10_greatest_forms) (m := k10.law) (n := 63) (k := 14) (x := "script") rfl (by decide) (by kernel_rfl) ⟨rfl, by decide, by decide⟩ ?F ?hm
    case F =>
      intro w K mg base Y _ _
      have e : (HandSHeadRun.topDef (OpenLaw.row PySem.Challenge.rw_reachrows_k10_greatest_forms).prog 45).name = ("law" : PySem.Str) := by kernel_rfl
      rw [e]
      exact k10.fn_law Y
    case hm => exact k10.law_true

