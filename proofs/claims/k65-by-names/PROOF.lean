import PyProof.Rows.All
import Wide.All
import OpenK.AllK
import Wide.FinOn
import HandS.ForMost
import HandS.Exc
import HandS.TryOnly
import HandS.ExcOwn
import HandS.CallSlots
import HandS.WordsExc
import HandS.ExcValue
import HandS.HeadHook1
import KE.GoesEnum
import KE.GoesMore
import KE.GoesZip
import HandS.Iter
import HandS.Zip
import HandS.Walk
import HandS.TupAny
import HandS.TupMul
import HandS.IsInst
import HandS.Style
import HandS.Deep
import PyProof.ReprRoads
import KE.DataEq
import KE.KEqNest
import KE.SortData
import HandS.Conv
import HandS.Ends
import HandS.HeadEnd
import HandS.HeadHook2
import HandS.Head0
import HandS.Head1
import HandS.Head2
import HandS.ExcIs
import PyProof.ExcBaseAll.ValueError
import HandS.Dict
import PyProof.StrOps2
import HandS.TupSets
import KE.GoesEnumKw
import KE.DataMinMax
import HandS.DictComp
import PyProof.DictUpdate
import PySem.Challenge.RW_reachrows_k65_islands_and_orders_by_name
set_option Elab.async false
set_option linter.all false
set_option autoImplicit false
set_option maxRecDepth 100000
set_option maxHeartbeats 0
/-! The layer EV, part A: data, owned trees, worlds and steps. -/
namespace EV
open PySem PySem.Spec PyProof.Rows L2

abbrev D := PyData
abbrev St := L2.St

/-- a value as the layer sees it: frozen data, or a tree of mutable objects that this place alone holds -/
inductive O where
  | un
  | d (x : D)
  | lst (xs : List O)
  | tup (xs : List O)
  | dic (kvs : List (D × D))
  /-- a dict whose keys are tuples -/
  | dicT (kvs : List (D × D))
  | obj (c : Str) (fs : List (Str × O))
  | exn (c : Str)
  /-- the script: read, never changed -/
  | scr (xs : List Int)
  /-- a tuple of the module's top: looked into, never handed on -/
  | kst (xs : List D)

mutual
def frz : O → Option D
  | .un => none
  | .d x => some x
  | .lst xs => (frzL xs).map .list
  | .tup xs => (frzL xs).map .tuple
  | .dic kvs => some (.dict kvs)
  | .dicT [] => none
  | .dicT (p :: r) => some (.dict (p :: r))
  | .obj _ _ => none
  | .exn _ => none
  | .scr _ => none
  | .kst _ => none
def frzL : List O → Option (List D)
  | [] => some []
  | x :: xs => match frz x, frzL xs with
    | some y, some ys => some (y :: ys)
    | _, _ => none
end

abbrev Env := List O

def keyD : Key → D
  | .inl i => .int i
  | .inr s => .str s
def keyT (ks : List Key) : D := .tuple (ks.map keyD)
/-- an exception object of the module's class c, as data -/
abbrev exnD (c : Str) : D := .dict [(.none, .str c)]

section
mutual
inductive Den (K : PySem.W.Frag) (I : Hp) : D → V → Prop
  | non : Den K I .none .non
  | bl (b : Bool) : Den K I (.bool b) (.bl b)
  | int (i : Int) : Den K I (.int i) (.int i)
  | str (x : Str) : Den K I (.str x) (.str x)
  | list {a : Addr} {vs : List V} {xs : List D} : I a = some (.lst vs) → DenL K I xs vs → Den K I (.list xs) (.ref a)
  | tuple {a : Addr} {vs : List V} {xs : List D} : I a = some (.tup vs) → DenL K I xs vs → Den K I (.tuple xs) (.ref a)
  | dict {a : Addr} {kvs : List (Key × V)} {ds : List (D × D)} : Rd I a (.dK kvs) → DenK K I ds kvs → Den K I (.dict ds) (.ref a)
  | dictT {a : Addr} {kvs : List (List Key × V)} {ds : List (D × D)} : Rd I a (.dT kvs) → DenT K I ds kvs → ds ≠ [] → Den K I (.dict ds) (.ref a)
  | exn {a : Addr} {c : Str} : I a = some (ExO (.ref (He.ga K c)) a) → Den K I (exnD c) (.ref a)
inductive DenL (K : PySem.W.Frag) (I : Hp) : List D → List V → Prop
  | nil : DenL K I [] []
  | cons {x : D} {xs : List D} {v : V} {vs : List V} : Den K I x v → DenL K I xs vs → DenL K I (x :: xs) (v :: vs)
inductive DenK (K : PySem.W.Frag) (I : Hp) : List (D × D) → List (Key × V) → Prop
  | nil : DenK K I [] []
  | cons {k : Key} {x : D} {xs : List (D × D)} {v : V} {vs : List (Key × V)} : Den K I x v → DenK K I xs vs → DenK K I ((keyD k, x) :: xs) ((k, v) :: vs)
inductive DenT (K : PySem.W.Frag) (I : Hp) : List (D × D) → List (List Key × V) → Prop
  | nil : DenT K I [] []
  | cons {k : List Key} {x : D} {xs : List (D × D)} {v : V} {vs : List (List Key × V)} : Den K I x v → DenT K I xs vs → DenT K I ((keyT k, x) :: xs) ((k, v) :: vs)
end

variable (K : PySem.W.Frag) (mg : Str → Option Value)
structure RdLe (I I' : Hp) : Prop where
  rd : ∀ a u, Rd I a u → Rd I' a u
  ls : ∀ a xs, I a = some (.lst xs) → I' a = some (.lst xs)
  ts : ∀ a xs, I a = some (.tup xs) → I' a = some (.tup xs)
  ex : ∀ a C, I a = some (ExO C a) → I' a = some (ExO C a)
theorem RdLe.of {I I' : Hp} (h : Same I I') : RdLe I I' := ⟨fun a u r => r.elim (fun e => .inl (h _ _ e)) fun ⟨o, e⟩ => .inr ⟨o, h _ _ e⟩, fun a xs e => h _ _ e, fun a xs e => h _ _ e, fun a C e => h _ _ e⟩
theorem RdLe.sqL {K : PySem.W.Frag} {I I' : Hp} (h : RdLe I I') {a : Addr} {vs : List V} (q : SqL K I a vs) : SqL K I' a vs := q.elim (fun r => .inl (h.rd _ _ r)) .inr
theorem RdLe.sqT {K : PySem.W.Frag} {I I' : Hp} (h : RdLe I I') {a : Addr} {vs : List V} (q : SqT K I a vs) : SqT K I' a vs := q.elim (fun r => .inl (h.rd _ _ r)) .inr
variable {K mg}
mutual
theorem Den.mono {I I' : Hp} (h : RdLe I I') : ∀ {x : D} {v : V}, Den K I x v → Den K I' x v
  | _, _, .non => .non
  | _, _, .bl b => .bl b
  | _, _, .int i => .int i
  | _, _, .str x => .str x
  | _, _, .list s r => .list (h.ls _ _ s) (DenL.mono h r)
  | _, _, .tuple s r => .tuple (h.ts _ _ s) (DenL.mono h r)
  | _, _, .dict s r => .dict (h.rd _ _ s) (DenK.mono h r)
  | _, _, .dictT s r n => .dictT (h.rd _ _ s) (DenT.mono h r) n
  | _, _, .exn s => .exn (h.ex _ _ s)
theorem DenL.mono {I I' : Hp} (h : RdLe I I') : ∀ {x : List D} {v : List V}, DenL K I x v → DenL K I' x v
  | _, _, .nil => .nil
  | _, _, .cons a b => .cons (Den.mono h a) (DenL.mono h b)
theorem DenK.mono {I I' : Hp} (h : RdLe I I') : ∀ {x : List (D × D)} {v : List (Key × V)}, DenK K I x v → DenK K I' x v
  | _, _, .nil => .nil
  | _, _, .cons a b => .cons (Den.mono h a) (DenK.mono h b)
theorem DenT.mono {I I' : Hp} (h : RdLe I I') : ∀ {x : List (D × D)} {v : List (List Key × V)}, DenT K I x v → DenT K I' x v
  | _, _, .nil => .nil
  | _, _, .cons a b => .cons (Den.mono h a) (DenT.mono h b)
end

abbrev Pd := Addr → Prop
variable (K mg)
mutual
/-- o stands at v: its own objects lie within S and are as H says; what is frozen is read in I -/
inductive Own (I H : Hp) : O → V → Pd → Prop
  | un {v : V} {S : Pd} : Own I H .un v S
  | scr {a : Addr} {xs : List Int} {S : Pd} : SqL K I a (xs.map V.int) → Own I H (.scr xs) (.ref a) S
  | d {x : D} {v : V} {S : Pd} : Den K I x v → Own I H (.d x) v S
  | lst {a : Addr} {vs : List V} {xs : List O} {S S' : Pd} : H a = some (.lst vs) → S a → Owns I H xs vs S' → (∀ b, S' b → S b) → ¬ S' a → Own I H (.lst xs) (.ref a) S
  | kst {a : Addr} {vs : List V} {xs : List D} {S : Pd} : SqT K I a vs → DenL K I xs vs → Own I H (.kst xs) (.ref a) S
  | tup {a : Addr} {vs : List V} {xs : List O} {S : Pd} : I a = some (.tup vs) → Owns I H xs vs S → Own I H (.tup xs) (.ref a) S
  | dic {a : Addr} {kvs : List (Key × V)} {ds : List (D × D)} {S : Pd} : H a = some (.dK kvs) → S a → DenK K I ds kvs → Own I H (.dic ds) (.ref a) S
  | dicT {a : Addr} {kvs : List (List Key × V)} {ds : List (D × D)} {S : Pd} : H a = some (.dT kvs) → S a → DenT K I ds kvs → Own I H (.dicT ds) (.ref a) S
  | obj {a C dx : Addr} {c : Str} {fvs : List (Str × V)} {fs : List (Str × O)} {S S' : Pd} : H a = some (.ins C dx fvs) → mg c = some (.ref C) → S a → OwnF I H fs fvs S' → (∀ b, S' b → S b) → ¬ S' a → Own I H (.obj c fs) (.ref a) S
inductive Owns (I H : Hp) : List O → List V → Pd → Prop
  | nil {S : Pd} : Owns I H [] [] S
  | cons {x : O} {xs : List O} {v : V} {vs : List V} {S S1 S2 : Pd} : Own I H x v S1 → Owns I H xs vs S2 → (∀ b, S1 b → S b) → (∀ b, S2 b → S b) → (∀ b, S1 b → ¬ S2 b) → Owns I H (x :: xs) (v :: vs) S
inductive OwnF (I H : Hp) : List (Str × O) → List (Str × V) → Pd → Prop
  | nil {S : Pd} : OwnF I H [] [] S
  | cons {f : Str} {x : O} {xs : List (Str × O)} {v : V} {vs : List (Str × V)} {S S1 S2 : Pd} : Own I H x v S1 → OwnF I H xs vs S2 → (∀ b, S1 b → S b) → (∀ b, S2 b → S b) → (∀ b, S1 b → ¬ S2 b) → OwnF I H ((f, x) :: xs) ((f, v) :: vs) S
end
variable {K mg}
mutual
theorem Own.mono {I H : Hp} {S T : Pd} (h : ∀ b, S b → T b) : ∀ {x : O} {v : V}, Own K mg I H x v S → Own K mg I H x v T
  | _, _, .un => .un
  | _, _, .scr q => .scr q
  | _, _, .kst q r => .kst q r
  | _, _, .d q => .d q
  | _, _, .lst a b c d e => .lst a (h _ b) c (fun b q => h _ (d b q)) e
  | _, _, .tup a b => .tup a (Owns.mono h b)
  | _, _, .dic a b c => .dic a (h _ b) c
  | _, _, .dicT a b c => .dicT a (h _ b) c
  | _, _, .obj a b c d e f => .obj a b (h _ c) d (fun b q => h _ (e b q)) f
theorem Owns.mono {I H : Hp} {S T : Pd} (h : ∀ b, S b → T b) : ∀ {x : List O} {v : List V}, Owns K mg I H x v S → Owns K mg I H x v T
  | _, _, .nil => .nil
  | _, _, .cons a b c d e => .cons a b (fun b q => h _ (c b q)) (fun b q => h _ (d b q)) e
end
mutual
/-- what is owned stays as it is -/
theorem Own.step {I H I' H' : Hp} (hi : RdLe I I') : ∀ {x : O} {v : V} {S : Pd}, (∀ a o, S a → H a = some o → H' a = some o) → Own K mg I H x v S → Own K mg I' H' x v S
  | _, _, _, hh, .un => .un
  | _, _, _, hh, .scr q => .scr (hi.sqL q)
  | _, _, _, hh, .kst q r => .kst (hi.sqT q) (r.mono hi)
  | _, _, _, hh, .d q => .d (q.mono hi)
  | _, _, _, hh, .lst a b c d e => .lst (hh _ _ b a) b (Owns.step hi (fun a o s q => hh a o (d a s) q) c) d e
  | _, _, _, hh, .tup a b => .tup (hi.ts _ _ a) (Owns.step hi hh b)
  | _, _, _, hh, .dic a b c => .dic (hh _ _ b a) b (c.mono hi)
  | _, _, _, hh, .dicT a b c => .dicT (hh _ _ b a) b (c.mono hi)
  | _, _, _, hh, .obj a b c d e f => .obj (hh _ _ c a) b c (OwnF.step hi (fun a o s q => hh a o (e a s) q) d) e f
theorem Owns.step {I H I' H' : Hp} (hi : RdLe I I') : ∀ {x : List O} {v : List V} {S : Pd}, (∀ a o, S a → H a = some o → H' a = some o) → Owns K mg I H x v S → Owns K mg I' H' x v S
  | _, _, _, _, .nil => .nil
  | _, _, _, hh, .cons a b c d e => .cons (Own.step hi (fun x o s q => hh x o (c x s) q) a) (Owns.step hi (fun x o s q => hh x o (d x s) q) b) c d e
theorem OwnF.step {I H I' H' : Hp} (hi : RdLe I I') : ∀ {x : List (Str × O)} {v : List (Str × V)} {S : Pd}, (∀ a o, S a → H a = some o → H' a = some o) → OwnF K mg I H x v S → OwnF K mg I' H' x v S
  | _, _, _, _, .nil => .nil
  | _, _, _, hh, .cons a b c d e => .cons (Own.step hi (fun x o s q => hh x o (c x s) q) a) (OwnF.step hi (fun x o s q => hh x o (d x s) q) b) c d e
end

/-! ### freezing -/
open Classical in
/-- I and what H says at S -/
noncomputable def addI (I H : Hp) (S : Pd) : Hp := fun a => if S a then H a else I a
theorem addI_in {I H : Hp} {S : Pd} {a : Addr} (h : S a) : addI I H S a = H a := by unfold addI; rw [if_pos h]
theorem addI_out {I H : Hp} {S : Pd} {a : Addr} (h : ¬ S a) : addI I H S a = I a := by unfold addI; rw [if_neg h]
theorem addI_same {I H : Hp} {S : Pd} (hd : ∀ a, S a → I a = none) : Same I (addI I H S) := fun a o e => by
  rw [addI_out]
  · exact e
  · intro s; rw [hd a s] at e; cases e
theorem addI_le {I H : Hp} {S : Pd} (h : Same I H) : Same (addI I H S) H := fun a o e => by
  by_cases s : S a
  · rw [addI_in s] at e; exact e
  · rw [addI_out s] at e; exact h a o e
mutual
theorem Own.frz {I H J : Hp} (hi : RdLe I J) : ∀ {x : O} {v : V} {S : Pd} {y : D}, (∀ a o, S a → H a = some o → J a = some o) → Own K mg I H x v S → EV.frz x = some y → Den K J y v
  | _, _, _, _, hh, .un, e => by
    rw [EV.frz] at e; cases e
  | _, _, _, _, hh, .scr _, e => by
    rw [EV.frz] at e; cases e
  | _, _, _, _, hh, .kst _ _, e => by
    rw [EV.frz] at e; cases e
  | _, _, _, _, hh, .d q, e => by
    rw [EV.frz] at e; cases e
    exact q.mono hi
  | .lst xs, _, _, _, hh, .lst a b c d _, e => by
    rw [EV.frz, Option.map_eq_some_iff] at e
    obtain ⟨ys, e1, rfl⟩ := e
    exact .list (hh _ _ b a) (Owns.frz hi (fun a o s q => hh a o (d a s) q) c e1)
  | .tup xs, _, _, _, hh, .tup a b, e => by
    rw [EV.frz, Option.map_eq_some_iff] at e
    obtain ⟨ys, e1, rfl⟩ := e
    exact .tuple (hi.ts _ _ a) (Owns.frz hi hh b e1)
  | _, _, _, _, hh, .dic a b c, e => by
    rw [EV.frz] at e; cases e
    exact .dict (.inl (hh _ _ b a)) (c.mono hi)
  | .dicT [], _, _, _, hh, .dicT a b c, e => by
    rw [EV.frz] at e; cases e
  | .dicT (p :: r), _, _, _, hh, .dicT a b c, e => by
    rw [EV.frz] at e; cases e
    exact .dictT (.inl (hh _ _ b a)) (c.mono hi) (by simp)
  | _, _, _, _, _, .obj .., e => by
    rw [EV.frz] at e; cases e
theorem Owns.frz {I H J : Hp} (hi : RdLe I J) : ∀ {x : List O} {v : List V} {S : Pd} {y : List D}, (∀ a o, S a → H a = some o → J a = some o) → Owns K mg I H x v S → EV.frzL x = some y → DenL K J y v
  | _, _, _, _, _, .nil, e => by
    rw [EV.frzL] at e; cases e
    exact .nil
  | x :: xs, _, _, _, hh, .cons a b c d _, e => by
    rw [EV.frzL] at e
    split at e
    · rename_i y ys e1 e2
      cases e
      exact .cons (Own.frz hi (fun z o s q => hh z o (c z s) q) a e1) (Owns.frz hi (fun z o s q => hh z o (d z s) q) b e2)
    · cases e
end
end
end EV

/-! The layer EV, part B: worlds, steps, the readings rdE, rdA, rdT, rdS. -/
namespace EV
open PySem PySem.Spec PyProof.Rows L2

/-! ### pure results -/
inductive R (α : Type) where
  | ok (x : α) (ρ : Env)
  | exc (c : Str) (ρ : Env)
  | stuck
abbrev M (α : Type) := Env → R α
def M.bind {α β : Type} (f : M α) (g : α → M β) : M β := fun ρ => match f ρ with
  | .ok x ρ' => g x ρ'
  | .exc c ρ' => .exc c ρ'
  | .stuck => .stuck
def M.ret {α : Type} (x : α) : M α := fun ρ => .ok x ρ
def M.fail {α : Type} : M α := fun _ => .stuck
/-- a partial pure function behind -/
def M.opt {α : Type} : Option α → M α
  | some x => M.ret x
  | none => M.fail

/-! ### worlds -/
abbrev Ph := Nat → Pd
def al (φ : Ph) : Pd := fun a => ∃ i, φ i a
def noP : Pd := fun _ => False
def orP (S T : Pd) : Pd := fun a => S a ∨ T a

/-- the world: frozen I within H, the slots' owned parts apart -/
structure Gd (K : PySem.W.Frag) (mg : Str → Option Value) (I H : Hp) (φ : Ph) (ρ : Env) (σ : St) : Prop where
  le : Same I H
  dj : ∀ i a, φ i a → I a = none
  th : ∀ i a, φ i a → H a ≠ none
  sep : ∀ i j a, φ i a → φ j a → i = j
  sl : ∀ i o, ρ[i]? = some o → o ≠ .un → ∃ v, σ[i]? = some (some v) ∧ Own K mg I H o v (φ i)
/-- a value in hand -/
structure Tm (I H : Hp) (φ : Ph) (G : Pd) : Prop where
  dj : ∀ a, G a → I a = none
  th : ∀ a, G a → H a ≠ none
  sp : ∀ i a, G a → ¬ φ i a
/-- a step: what is not in F stays -/
structure Stp (I H : Hp) (F : Pd) (I' H' : Hp) (F' : Pd) : Prop where
  li : Same I I'
  kp : ∀ a o, H a = some o → ¬ F a → H' a = some o
  fr : ∀ a, F' a → F a ∨ H a = none
  fi : ∀ a o, I' a = some o → I a = some o ∨ F a ∨ H a = none

theorem Stp.refl {I H : Hp} {F F' : Pd} (h : ∀ a, F' a → F a) : Stp I H F I H F' := ⟨Same.refl _, fun _ _ e _ => e, fun a q => .inl (h a q), fun _ _ e => .inl e⟩
theorem Stp.trans {I H I1 H1 I2 H2 : Hp} {F F1 F2 : Pd} (a : Stp I H F I1 H1 F1) (b : Stp I1 H1 F1 I2 H2 F2) : Stp I H F I2 H2 F2 := by
  have back : ∀ x, H1 x = none → F x ∨ H x = none := fun x e => by
    by_cases f : F x
    · exact .inl f
    · cases q : H x with
      | none => exact .inr rfl
      | some o => rw [a.kp x o q f] at e; cases e
  refine ⟨a.li.trans b.li, fun x o e f => b.kp x o (a.kp x o e f) fun f1 => ?_, fun x f2 => ?_, fun x o e => ?_⟩
  · rcases a.fr x f1 with q | q
    · exact f q
    · rw [q] at e; cases e
  · rcases b.fr x f2 with q | q
    · exact a.fr x q
    · exact back x q
  · rcases b.fi x o e with q | q | q
    · exact a.fi x o q
    · exact .inr (a.fr x q)
    · exact .inr (back x q)
/-- a step that leaves a part aside -/
theorem Stp.frame {I H I' H' : Hp} {F F' G : Pd} (a : Stp I H F I' H' F') (hG : ∀ x, G x → H x ≠ none) : Stp I H (orP F G) I' H' (orP F' G) :=
  ⟨a.li, fun x o e f => a.kp x o e fun q => f (.inl q), fun x q => q.elim (fun q => (a.fr x q).elim (fun z => .inl (.inl z)) .inr) fun z => .inl (.inr z),
    fun x o e => (a.fi x o e).elim .inl fun q => q.elim (fun z => .inr (.inl (.inl z))) fun z => .inr (.inr z)⟩
theorem Stp.sub {I H I' H' : Hp} {F F' F2 : Pd} (a : Stp I H F I' H' F') (h : ∀ x, F2 x → F' x) : Stp I H F I' H' F2 := ⟨a.li, a.kp, fun x q => a.fr x (h x q), a.fi⟩
theorem Stp.from {I H I' H' : Hp} {F F' F2 : Pd} (a : Stp I H F I' H' F') (h : ∀ x, F x → F2 x) : Stp I H F2 I' H' F' :=
  ⟨a.li, fun x o e f => a.kp x o e fun q => f (h x q), fun x q => (a.fr x q).imp (h x) id, fun x o e => (a.fi x o e).imp id fun z => z.imp (h x) id⟩

section
variable {K : PySem.W.Frag} {mg : Str → Option Value}
/-- a value in hand stays through a step of the slots' -/
theorem Tm.own {I H I' H' : Hp} {φ : Ph} {G F' : Pd} {o : O} {v : V} (t : Tm I H φ G) (s : Stp I H (al φ) I' H' F') (w : Own K mg I H o v G) : Own K mg I' H' o v G :=
  w.step (RdLe.of s.li) fun a u g e => s.kp a u e fun ⟨i, q⟩ => t.sp i a g q
theorem Tm.owns {I H I' H' : Hp} {φ : Ph} {G F' : Pd} {o : List O} {v : List V} (t : Tm I H φ G) (s : Stp I H (al φ) I' H' F') (w : Owns K mg I H o v G) : Owns K mg I' H' o v G :=
  w.step (RdLe.of s.li) fun a u g e => s.kp a u e fun ⟨i, q⟩ => t.sp i a g q
theorem Tm.step {I H I' H' : Hp} {φ φ' : Ph} {G G' : Pd} (t : Tm I H φ G) (s : Stp I H (al φ) I' H' (orP (al φ') G')) (t' : Tm I' H' φ' G') : Tm I' H' φ' (orP G G') ∧ ∀ a, G a → ¬ G' a := by
  have old : ∀ a, G a → ¬ al φ a := fun a g ⟨i, q⟩ => t.sp i a g q
  have tk : ∀ a, G a → ∃ o, H a = some o := fun a g => Option.ne_none_iff_exists'.mp (t.th a g)
  have nf : ∀ a, G a → ¬ orP (al φ') G' a := fun a g q => by
    obtain ⟨o, e⟩ := tk a g
    rcases s.fr a q with z | z
    · exact old a g z
    · rw [e] at z; cases z
  refine ⟨⟨fun a q => q.elim (fun g => ?_) (t'.dj a), fun a q => q.elim (fun g => ?_) (t'.th a), fun i a q => q.elim (fun g z => nf a g (.inl ⟨i, z⟩)) (t'.sp i a)⟩, fun a g z => nf a g (.inr z)⟩
  · cases e : I' a with
    | none => rfl
    | some o =>
      obtain ⟨o', e'⟩ := tk a g
      rcases s.fi a o e with z | z | z
      · rw [t.dj a g] at z; cases z
      · exact absurd z (old a g)
      · rw [e'] at z; cases z
  · obtain ⟨o, e⟩ := tk a g
    rw [s.kp a o e (old a g)]
    exact Option.some_ne_none o
theorem Tm.none {I H : Hp} {φ : Ph} : Tm I H φ noP := ⟨fun _ q => q.elim, fun _ q => q.elim, fun _ _ q => q.elim⟩
theorem Tm.mono {I H : Hp} {φ : Ph} {G G' : Pd} (t : Tm I H φ G) (h : ∀ a, G' a → G a) : Tm I H φ G' := ⟨fun a q => t.dj a (h a q), fun a q => t.th a (h a q), fun i a q => t.sp i a (h a q)⟩
end

/-! ### readings -/
section
variable (K : PySem.W.Frag) (mg : Str → Option Value) (W : WX)
/-- an exception's end -/
def PostX (σ : St) (I H : Hp) (F : Pd) (c : Str) (ρ' : Env) : Prop :=
  ∀ (C : Addr) (H' I' : Hp) (φ' : Ph), mg c = some (.ref C) → Stp I H F I' H' (al φ') → Gd K mg I' H' φ' ρ' σ → W (.ref C) none σ H'
def PostE (σ : St) (I H : Hp) (F : Pd) (Q : VK) : R O → Prop
  | .ok r ρ' => ∀ (v : V) (H' I' : Hp) (φ' : Ph) (G : Pd), Stp I H F I' H' (orP (al φ') G) → Gd K mg I' H' φ' ρ' σ → Tm I' H' φ' G → Own K mg I' H' r v G → Q v H'
  | .exc c ρ' => PostX K mg W σ I H F c ρ'
  | .stuck => False
def PostA (σ : St) (I H : Hp) (F : Pd) (Q : List V → Hp → Prop) : R (List O) → Prop
  | .ok r ρ' => ∀ (v : List V) (H' I' : Hp) (φ' : Ph) (G : Pd), Stp I H F I' H' (orP (al φ') G) → Gd K mg I' H' φ' ρ' σ → Tm I' H' φ' G → Owns K mg I' H' r v G → Q v H'
  | .exc c ρ' => PostX K mg W σ I H F c ρ'
  | .stuck => False
def PostT (σ : St) (I H : Hp) (F : Pd) (Q : Bool → Hp → Prop) : R Bool → Prop
  | .ok r ρ' => ∀ (H' I' : Hp) (φ' : Ph), Stp I H F I' H' (al φ') → Gd K mg I' H' φ' ρ' σ → Q r H'
  | .exc c ρ' => PostX K mg W σ I H F c ρ'
  | .stuck => False
def rdE (f : M O) : TE := fun σ H Q => ∃ ρ I φ, Gd K mg I H φ ρ σ ∧ PostE K mg W σ I H (al φ) Q (f ρ)
def rdA (f : M (List O)) : TA := fun σ H Q => ∃ ρ I φ, Gd K mg I H φ ρ σ ∧ PostA K mg W σ I H (al φ) Q (f ρ)
def rdT (f : M Bool) : TT := fun σ H Q => ∃ ρ I φ, Gd K mg I H φ ρ σ ∧ PostT K mg W σ I H (al φ) Q (f ρ)
variable {K mg W}
theorem PostX.shift {σ : St} {I H I1 H1 : Hp} {F F1 : Pd} {c : Str} {ρ' : Env} (s : Stp I H F I1 H1 F1) (h : PostX K mg W σ I H F c ρ') : PostX K mg W σ I1 H1 F1 c ρ' := fun C H' I' φ' e t g => h C H' I' φ' e (s.trans t) g
theorem PostX.from {σ : St} {I H : Hp} {F F1 : Pd} {c : Str} {ρ' : Env} (hf : ∀ a, F1 a → F a) (h : PostX K mg W σ I H F c ρ') : PostX K mg W σ I H F1 c ρ' := fun C H' I' φ' e t g => h C H' I' φ' e (t.from hf) g
theorem PostE.shift {σ : St} {I H I1 H1 : Hp} {F F1 : Pd} {Q : VK} {r : R O} (s : Stp I H F I1 H1 F1) (h : PostE K mg W σ I H F Q r) : PostE K mg W σ I1 H1 F1 Q r := by
  cases r with
  | ok r ρ' => exact fun v H' I' φ' G t => h v H' I' φ' G (s.trans t)
  | exc c ρ' => exact PostX.shift s h
  | stuck => exact h
theorem PostE.from {σ : St} {I H : Hp} {F F1 : Pd} {Q : VK} {r : R O} (hf : ∀ a, F1 a → F a) (h : PostE K mg W σ I H F Q r) : PostE K mg W σ I H F1 Q r := by
  cases r with
  | ok r ρ' => exact fun v H' I' φ' G t => h v H' I' φ' G (t.from hf)
  | exc c ρ' => exact PostX.from hf h
  | stuck => exact h
theorem PostA.shift {σ : St} {I H I1 H1 : Hp} {F F1 : Pd} {Q : List V → Hp → Prop} {r : R (List O)} (s : Stp I H F I1 H1 F1) (h : PostA K mg W σ I H F Q r) : PostA K mg W σ I1 H1 F1 Q r := by
  cases r with
  | ok r ρ' => exact fun v H' I' φ' G t => h v H' I' φ' G (s.trans t)
  | exc c ρ' => exact PostX.shift s h
  | stuck => exact h
theorem PostT.shift {σ : St} {I H I1 H1 : Hp} {F F1 : Pd} {Q : Bool → Hp → Prop} {r : R Bool} (s : Stp I H F I1 H1 F1) (h : PostT K mg W σ I H F Q r) : PostT K mg W σ I1 H1 F1 Q r := by
  cases r with
  | ok r ρ' => exact fun H' I' φ' t => h H' I' φ' (s.trans t)
  | exc c ρ' => exact PostX.shift s h
  | stuck => exact h
end

/-! ### from one reading to another -/
section
variable {X : Cx}
theorem PE.weak {e : Expr} {t t' : TE} (h : PE X e t) (hw : ∀ σ H Q, t' σ H Q → t σ H Q) : PE X e t' := ⟨fun pins s σ H Q I q => h.run pins s σ H Q I (hw σ H Q q)⟩
theorem PT.weak {e : Expr} {t t' : TT} (h : PT X e t) (hw : ∀ σ H Q, t' σ H Q → t σ H Q) : PT X e t' := ⟨fun pins s σ H Q I q => h.run pins s σ H Q I (hw σ H Q q)⟩
theorem PW.weak {e : Expr} {t t' : TT} (h : PW X e t) (hw : ∀ σ H Q, t' σ H Q → t σ H Q) : PW X e t' := ⟨fun wh pins s σ H Q I q => h.run wh pins s σ H Q I (hw σ H Q q)⟩
theorem PA.weak {es : List Expr} {t t' : TA} (h : PA X es t) (hw : ∀ σ H Q, t' σ H Q → t σ H Q) : PA X es t' := ⟨fun pos pins s σ H Q I q => h.run pos pins s σ H Q I (hw σ H Q q)⟩
theorem PS.weak {st : Stmt} {t t' : TS} (h : PS X st t) (hw : ∀ D σ H, t' D σ H → t D σ H) : PS X st t' := ⟨fun pins s σ H D I q => h.run pins s σ H D I (hw D σ H q)⟩
theorem PSs.weak {st : List Stmt} {t t' : TS} (h : PSs X st t) (hw : ∀ D σ H, t' D σ H → t D σ H) : PSs X st t' := ⟨fun pins s σ H D I q => h.run pins s σ H D I (hw D σ H q)⟩
/-- e reads as f -/
abbrev EE (X : Cx) (W : WX) (e : Expr) (f : M O) : Prop := PE X e (rdE X.K X.mg W f)
abbrev EA (X : Cx) (W : WX) (es : List Expr) (f : M (List O)) : Prop := PA X es (rdA X.K X.mg W f)
abbrev ET (X : Cx) (W : WX) (e : Expr) (f : M Bool) : Prop := PT X e (rdT X.K X.mg W f)
abbrev EW (X : Cx) (W : WX) (e : Expr) (f : M Bool) : Prop := PW X e (rdT X.K X.mg W f)
end

section
variable {K : PySem.W.Frag} {mg : Str → Option Value} {W : WX}
/-- one value, then the rest -/
theorem bindE {α : Type} {f : M O} {g : O → M α} {σ : St} {I H : Hp} {φ : Ph} {ρ : Env} {P : R α → Prop} {T : V → Hp → Prop}
    (gd : Gd K mg I H φ ρ σ) (h : P ((f.bind g) ρ)) (hx : ∀ c ρ', P (.exc c ρ') → PostX K mg W σ I H (al φ) c ρ') (hs : ¬ P .stuck)
    (k : ∀ r ρ1, f ρ = .ok r ρ1 → P (g r ρ1) → ∀ (v : V) (H1 I1 : Hp) (φ1 : Ph) (G : Pd), Stp I H (al φ) I1 H1 (orP (al φ1) G) → Gd K mg I1 H1 φ1 ρ1 σ → Tm I1 H1 φ1 G → Own K mg I1 H1 r v G → T v H1) :
    rdE K mg W f σ H T := by
  refine ⟨ρ, I, φ, gd, ?_⟩
  unfold M.bind at h
  cases e : f ρ with
  | ok r ρ1 => rw [e] at h; exact fun v H1 I1 φ1 G s g1 t w => k r ρ1 e h v H1 I1 φ1 G s g1 t w
  | exc c ρ1 => rw [e] at h; exact hx c ρ1 h
  | stuck => rw [e] at h; exact (hs h).elim
theorem bindA {α : Type} {f : M (List O)} {g : List O → M α} {σ : St} {I H : Hp} {φ : Ph} {ρ : Env} {P : R α → Prop} {T : List V → Hp → Prop}
    (gd : Gd K mg I H φ ρ σ) (h : P ((f.bind g) ρ)) (hx : ∀ c ρ', P (.exc c ρ') → PostX K mg W σ I H (al φ) c ρ') (hs : ¬ P .stuck)
    (k : ∀ r ρ1, f ρ = .ok r ρ1 → P (g r ρ1) → ∀ (v : List V) (H1 I1 : Hp) (φ1 : Ph) (G : Pd), Stp I H (al φ) I1 H1 (orP (al φ1) G) → Gd K mg I1 H1 φ1 ρ1 σ → Tm I1 H1 φ1 G → Owns K mg I1 H1 r v G → T v H1) :
    rdA K mg W f σ H T := by
  refine ⟨ρ, I, φ, gd, ?_⟩
  unfold M.bind at h
  cases e : f ρ with
  | ok r ρ1 => rw [e] at h; exact fun v H1 I1 φ1 G s g1 t w => k r ρ1 e h v H1 I1 φ1 G s g1 t w
  | exc c ρ1 => rw [e] at h; exact hx c ρ1 h
  | stuck => rw [e] at h; exact (hs h).elim
theorem bindT {α : Type} {f : M Bool} {g : Bool → M α} {σ : St} {I H : Hp} {φ : Ph} {ρ : Env} {P : R α → Prop} {T : Bool → Hp → Prop}
    (gd : Gd K mg I H φ ρ σ) (h : P ((f.bind g) ρ)) (hx : ∀ c ρ', P (.exc c ρ') → PostX K mg W σ I H (al φ) c ρ') (hs : ¬ P .stuck)
    (k : ∀ r ρ1, f ρ = .ok r ρ1 → P (g r ρ1) → ∀ (H1 I1 : Hp) (φ1 : Ph), Stp I H (al φ) I1 H1 (al φ1) → Gd K mg I1 H1 φ1 ρ1 σ → T r H1) :
    rdT K mg W f σ H T := by
  refine ⟨ρ, I, φ, gd, ?_⟩
  unfold M.bind at h
  cases e : f ρ with
  | ok r ρ1 => rw [e] at h; exact fun H1 I1 φ1 s g1 => k r ρ1 e h H1 I1 φ1 s g1
  | exc c ρ1 => rw [e] at h; exact hx c ρ1 h
  | stuck => rw [e] at h; exact (hs h).elim
end
end EV

/-! The layer EV, part C: ends, names, displays, operators. -/
namespace EV
open PySem PySem.Spec PyProof.Rows L2

section
variable {K : PySem.W.Frag} {mg : Str → Option Value} {W : WX} {σ : St} {I H : Hp} {φ : Ph} {ρ : Env} {F G : Pd} {Q : VK}

theorem same_upd {I H : Hp} {p : Addr} {o : HO} (h : Same I H) (hp : H p = none) : Same I (upd H p o) := fun a u e => by
  rw [upd_ne (ne_of_none (h a u e) hp)]; exact h a u e
theorem same_updI {I : Hp} {p : Addr} {o : HO} (hp : I p = none) : Same I (upd I p o) := fun a u e => by
  rw [upd_ne (ne_of_none e hp)]; exact e
theorem Gd.free (gd : Gd K mg I H φ ρ σ) {p : Addr} (hp : H p = none) : I p = none := gd.le.free hp
theorem Gd.nfree (gd : Gd K mg I H φ ρ σ) {p : Addr} (hp : H p = none) : ¬ al φ p := fun ⟨i, q⟩ => gd.th i p q hp
/-- a new object that is nobody's yet -/
theorem Gd.new (gd : Gd K mg I H φ ρ σ) {p : Addr} {o : HO} (hp : H p = none) : Gd K mg I (upd H p o) φ ρ σ :=
  ⟨same_upd gd.le hp, gd.dj, fun i a q => by
      by_cases e : a = p
      · subst e; rw [upd_same]; exact Option.some_ne_none _
      · rw [upd_ne e]; exact gd.th i a q,
    gd.sep, fun i x e n => by
      obtain ⟨v, e1, w⟩ := gd.sl i x e n
      exact ⟨v, e1, w.step (RdLe.of (Same.refl _)) fun a u _ q => by rw [upd_ne (ne_of_none q hp)]; exact q⟩⟩
/-- .. that is frozen at once -/
theorem Gd.newI (gd : Gd K mg I H φ ρ σ) {p : Addr} {o : HO} (hp : H p = none) : Gd K mg (upd I p o) (upd H p o) φ ρ σ :=
  ⟨fun a u e => by
      by_cases z : a = p
      · subst z; rw [upd_same] at e ⊢; exact e
      · rw [upd_ne z] at e ⊢; exact gd.le a u e,
    fun i a q => by
      have z : a ≠ p := fun z => gd.th i a q (z ▸ hp)
      rw [upd_ne z]; exact gd.dj i a q,
    fun i a q => by
      have z : a ≠ p := fun z => gd.th i a q (z ▸ hp)
      rw [upd_ne z]; exact gd.th i a q,
    gd.sep, fun i x e n => by
      obtain ⟨v, e1, w⟩ := gd.sl i x e n
      exact ⟨v, e1, w.step (RdLe.of (same_updI (gd.free hp))) fun a u _ q => by rw [upd_ne (ne_of_none q hp)]; exact q⟩⟩
theorem Stp.new {p : Addr} {o : HO} {F' : Pd} (hp : H p = none) (h : ∀ a, F' a → F a ∨ a = p) : Stp I H F I (upd H p o) F' :=
  ⟨Same.refl _, fun a u e _ => by rw [upd_ne (ne_of_none e hp)]; exact e, fun a q => (h a q).imp id fun e => by rw [e]; exact hp, fun _ _ e => .inl e⟩
theorem Stp.newI {p : Addr} {o : HO} {F' : Pd} (hI : I p = none) (hp : H p = none) (h : ∀ a, F' a → F a) : Stp I H F (upd I p o) (upd H p o) F' :=
  ⟨same_updI hI, fun a u e _ => by rw [upd_ne (ne_of_none e hp)]; exact e, fun a q => .inl (h a q), fun a u e => by
    by_cases z : a = p
    · subst z; exact .inr (.inr hp)
    · rw [upd_ne z] at e; exact .inl e⟩

/-- frozen data comes out -/
theorem fin_d {x : D} {v : V} (h : PostE K mg W σ I H F Q (.ok (.d x) ρ)) (gd : Gd K mg I H φ ρ σ) (hf : ∀ a, al φ a → F a) (q : Den K I x v) : Q v H :=
  h v H I φ noP (Stp.refl fun a z => z.elim (hf a) False.elim) gd Tm.none (.d q)
/-- what is in hand comes out -/
theorem fin_o {o : O} {v : V} (h : PostE K mg W σ I H F Q (.ok o ρ)) (gd : Gd K mg I H φ ρ σ) (hf : ∀ a, orP (al φ) G a → F a) (t : Tm I H φ G) (q : Own K mg I H o v G) : Q v H :=
  h v H I φ G (Stp.refl hf) gd t q
/-- a new list comes out -/
theorem fin_lst {os : List O} {vs : List V} {p : Addr} (h : PostE K mg W σ I H F Q (.ok (.lst os) ρ)) (gd : Gd K mg I H φ ρ σ) (hf : ∀ a, orP (al φ) G a → F a) (t : Tm I H φ G) (q : Owns K mg I H os vs G) (hp : H p = none) : Q (.ref p) (upd H p (.lst vs)) := by
  have np : ¬ G p := fun g => t.th p g hp
  refine h (.ref p) (upd H p (.lst vs)) I φ (fun a => G a ∨ a = p) (Stp.new hp fun a z => ?_) (gd.new hp) ⟨fun a z => ?_, fun a z => ?_, fun i a z => ?_⟩ (.lst upd_same (.inr rfl) (q.step (RdLe.of (Same.refl _)) fun a u g e => ?_) (fun _ g => .inl g) np)
  · rcases z with z | z | z
    · exact .inl (hf a (.inl z))
    · exact .inl (hf a (.inr z))
    · exact .inr z
  · rcases z with z | z
    · exact t.dj a z
    · exact z ▸ gd.free hp
  · by_cases e : a = p
    · subst e; rw [upd_same]; exact Option.some_ne_none _
    · rw [upd_ne e]
      rcases z with z | z
      · exact t.th a z
      · exact absurd z e
  · rcases z with z | z
    · exact t.sp i a z
    · intro q2; exact gd.th i a q2 (z ▸ hp)
  · rw [upd_ne (ne_of_none e hp)]; exact e

/-- are all members frozen -/
def allD : List O → Option (List D)
  | [] => some []
  | .d x :: r => (allD r).map (x :: ·)
  | _ => none
def mkTup (os : List O) : O := match allD os with
  | some ds => .d (.tuple ds)
  | none => .tup os
theorem Owns.allD : ∀ {os : List O} {vs : List V} {S : Pd} {ds : List D}, Owns K mg I H os vs S → EV.allD os = some ds → DenL K I ds vs
  | _, _, _, _, .nil, e => by rw [EV.allD] at e; cases e; exact .nil
  | .d x :: r, _, _, _, .cons a b _ _ _, e => by
    rw [EV.allD, Option.map_eq_some_iff] at e
    obtain ⟨ys, e1, rfl⟩ := e
    cases a with
    | d q => exact .cons q (Owns.allD b e1)
  | .un :: _, _, _, _, .cons _ _ _ _ _, e => by simp [EV.allD] at e
  | .lst _ :: _, _, _, _, .cons _ _ _ _ _, e => by simp [EV.allD] at e
  | .tup _ :: _, _, _, _, .cons _ _ _ _ _, e => by simp [EV.allD] at e
  | .dic _ :: _, _, _, _, .cons _ _ _ _ _, e => by simp [EV.allD] at e
  | .obj _ _ :: _, _, _, _, .cons _ _ _ _ _, e => by simp [EV.allD] at e
  | .exn _ :: _, _, _, _, .cons _ _ _ _ _, e => by simp [EV.allD] at e
  | .scr _ :: _, _, _, _, .cons _ _ _ _ _, e => by simp [EV.allD] at e
  | .kst _ :: _, _, _, _, .cons _ _ _ _ _, e => by simp [EV.allD] at e
  | .dicT _ :: _, _, _, _, .cons _ _ _ _ _, e => by simp [EV.allD] at e
/-- a new tuple comes out -/
theorem fin_tup {os : List O} {vs : List V} {p : Addr} (h : PostE K mg W σ I H F Q (.ok (mkTup os) ρ)) (gd : Gd K mg I H φ ρ σ) (hf : ∀ a, orP (al φ) G a → F a) (t : Tm I H φ G) (q : Owns K mg I H os vs G) (hp : H p = none) : Q (.ref p) (upd H p (.tup vs)) := by
  have t' : Tm (upd I p (.tup vs)) (upd H p (.tup vs)) φ G := ⟨fun a g => by rw [upd_ne (fun e => t.th a g (by rw [e]; exact hp))]; exact t.dj a g, fun a g => by rw [upd_ne (fun e => t.th a g (by rw [e]; exact hp))]; exact t.th a g, t.sp⟩
  have q' : Owns K mg (upd I p (.tup vs)) (upd H p (.tup vs)) os vs G := q.step (RdLe.of (same_updI (gd.free hp))) fun a u g e => by rw [upd_ne (ne_of_none e hp)]; exact e
  refine h (.ref p) _ _ φ G (Stp.newI (gd.free hp) hp hf) (gd.newI hp) t' ?_
  unfold mkTup
  cases e : allD os with
  | some ds => exact .d (.tuple upd_same (Owns.allD q' e))
  | none => exact .tup upd_same q'
end

/-! ### the combinators -/
namespace E
def c (x : D) : M O := fun ρ => .ok (.d x) ρ
/-- a name read: what it holds is frozen from then on -/
def var (i : Nat) : M O := fun ρ => match ρ[i]? with
  | some (.d x) => .ok (.d x) ρ
  | some (.scr x) => .ok (.scr x) ρ
  | some o => (match frz o with
    | some x => .ok (.d x) (ρ.set i (.d x))
    | none => .stuck)
  | none => .stuck
/-- a name read for the last time -/
def move (i : Nat) : M O := fun ρ => match ρ[i]? with
  | some .un => .stuck
  | some o => .ok o (ρ.set i .un)
  | none => .stuck
def op2 (g : O → O → Option O) (f1 f2 : M O) : M O := f1.bind fun x => f2.bind fun y => M.opt (g x y)
def op1 (g : O → Option O) (f : M O) : M O := f.bind fun x => M.opt (g x)
def opN (g : List O → Option O) (f : M (List O)) : M O := f.bind fun xs => M.opt (g xs)
def tup (f : M (List O)) : M O := f.bind fun xs => if xs.length ≤ 1000000 then M.ret (mkTup xs) else M.fail
def lst (f : M (List O)) : M O := f.bind fun xs => if xs.length ≤ 1000000 then M.ret (.lst xs) else M.fail
def ifE (t : M Bool) (f g : M O) : M O := t.bind fun b => if b then f else g
def frzS : O → O
  | .d x => .d x
  | o => match frz o with
    | some x => .d x
    | none => .un
def isAtom : D → Bool
  | .none | .bool _ | .int _ | .str _ => true
  | _ => false
/-- a reckoning whose answer is an atom leaves all as it was -/
def borrow (f : M O) : M O := fun ρ => match f (ρ.map frzS) with
  | .ok (.d x) _ => if isAtom x then .ok (.d x) ρ else .stuck
  | .exc c _ => .exc c ρ
  | _ => .stuck
end E
namespace A
def nil : M (List O) := M.ret []
def cons (f : M O) (g : M (List O)) : M (List O) := f.bind fun x => g.bind fun xs => M.ret (x :: xs)
end A
namespace T
def val (f : M O) : M Bool := f.bind fun o => match o with
  | .d (.bool b) => M.ret b
  | _ => M.fail
def not (f : M Bool) : M Bool := f.bind fun b => M.ret (!b)
def and (f g : M Bool) : M Bool := f.bind fun b => if b then g else M.ret false
def or (f g : M Bool) : M Bool := f.bind fun b => if b then M.ret true else g
def borrow (f : M Bool) : M Bool := fun ρ => match f (ρ.map E.frzS) with
  | .ok b _ => .ok b ρ
  | .exc c _ => .exc c ρ
  | .stuck => .stuck
end T

section
variable {X : Cx} {W : WX} {a b : Expr} {fa fb : M O} {pos : Pos}
theorem ee_c {e : Expr} {v : V} {x : D} (h : PE X e (tC v)) (q : ∀ I, Den X.K I x v) : EE X W e (E.c x) :=
  PE.weak h fun σ H Q ⟨ρ, I, φ, gd, h⟩ => fin_d h gd (fun _ z => z) (q I)
theorem ee_int {i j pos} : EE X W (.Constant (.int i) j pos) (E.c (.int i)) := ee_c pe_int fun _ => .int i
theorem ee_bl {b j pos} : EE X W (.Constant (.bool b) j pos) (E.c (.bool b)) := ee_c pe_bl fun _ => .bl b
theorem ee_non {j pos} : EE X W (.Constant .none j pos) (E.c .none) := ee_c pe_non fun _ => .non
theorem ee_str {x j pos} : EE X W (.Constant (.str x) j pos) (E.c (.str x)) := ee_c pe_str fun _ => .str x

end
/-! ### slots changed -/
def setP (φ : Ph) (i : Nat) (S : Pd) : Ph := fun j => if j = i then S else φ j
theorem setP_same {φ : Ph} {i : Nat} {S : Pd} : setP φ i S i = S := if_pos rfl
theorem setP_ne {φ : Ph} {i j : Nat} {S : Pd} (h : j ≠ i) : setP φ i S j = φ j := if_neg h
section
variable {K : PySem.W.Frag} {mg : Str → Option Value} {σ σ' : St} {I H : Hp} {φ : Ph} {ρ : Env} {G : Pd} {i : Nat} {o : O}
theorem al_setP {S : Pd} {a : Addr} (h : al (setP φ i S) a) : S a ∨ al φ a := by
  obtain ⟨j, q⟩ := h
  by_cases z : j = i
  · subst z; rw [setP_same] at q; exact .inl q
  · rw [setP_ne z] at q; exact .inr ⟨j, q⟩
/-- slot i takes another value, with what it owns -/
theorem Gd.upd {S : Pd} (gd : Gd K mg I H φ ρ σ) (h1 : ∀ a, S a → I a = none) (h2 : ∀ a, S a → H a ≠ none) (h3 : ∀ j a, S a → j ≠ i → ¬ φ j a) (hs : ∀ j, j ≠ i → σ'[j]? = σ[j]?)
    (ho : i < ρ.length → o ≠ .un → ∃ v, σ'[i]? = some (some v) ∧ Own K mg I H o v S) : Gd K mg I H (setP φ i S) (ρ.set i o) σ' := by
  refine ⟨gd.le, fun j a q => ?_, fun j a q => ?_, fun j k a q r => ?_, fun j y ey ny => ?_⟩
  · by_cases z : j = i
    · subst z; rw [setP_same] at q; exact h1 a q
    · rw [setP_ne z] at q; exact gd.dj j a q
  · by_cases z : j = i
    · subst z; rw [setP_same] at q; exact h2 a q
    · rw [setP_ne z] at q; exact gd.th j a q
  · by_cases z : j = i
    · subst z
      rw [setP_same] at q
      by_cases z2 : k = j
      · exact z2.symm
      · rw [setP_ne z2] at r; exact (h3 k a q z2 r).elim
    · rw [setP_ne z] at q
      by_cases z2 : k = i
      · subst z2; rw [setP_same] at r; exact (h3 j a r z q).elim
      · rw [setP_ne z2] at r; exact gd.sep j k a q r
  · by_cases z : j = i
    · subst z
      have hl : j < ρ.length := by
        have := (List.getElem?_eq_some_iff.mp ey).1
        simpa using this
      rw [List.getElem?_set_self hl] at ey
      cases ey
      rw [setP_same]
      exact ho hl ny
    · rw [List.getElem?_set_ne (Ne.symm z)] at ey
      rw [setP_ne z, hs j z]
      exact gd.sl j y ey ny
/-- slot i is emptied, its value in hand -/
theorem Gd.move (gd : Gd K mg I H φ ρ σ) (e : ρ[i]? = some o) (ne : o ≠ .un) :
    ∃ v, σ[i]? = some (some v) ∧ (∀ a, orP (al (setP φ i noP)) (φ i) a → al φ a) ∧ Gd K mg I H (setP φ i noP) (ρ.set i .un) σ ∧ Tm I H (setP φ i noP) (φ i) ∧ Own K mg I H o v (φ i) := by
  obtain ⟨v, e1, w⟩ := gd.sl i o e ne
  refine ⟨v, e1, fun a q => ?_, gd.upd (fun _ q => q.elim) (fun _ q => q.elim) (fun _ _ q => q.elim) (fun _ _ => rfl) (fun _ z => (z rfl).elim), ⟨gd.dj i, gd.th i, fun j a q r => ?_⟩, w⟩
  · rcases q with q | q
    · exact (al_setP q).elim False.elim id
    · exact ⟨i, q⟩
  · by_cases z : j = i
    · subst z; rw [setP_same] at r; exact r.elim
    · rw [setP_ne z] at r; exact z (gd.sep j i a r q)
/-- what is in hand is frozen -/
theorem Gd.freeze (gd : Gd K mg I H φ ρ σ) (t : Tm I H φ G) : Gd K mg (addI I H G) H φ ρ σ ∧ Stp I H (orP (al φ) G) (addI I H G) H (al φ) := by
  have le' : Same I (addI I H G) := addI_same t.dj
  refine ⟨⟨addI_le gd.le, fun j a q => ?_, gd.th, gd.sep, fun j o e n => ?_⟩, ⟨le', fun _ _ e _ => e, fun _ q => .inl (.inl q), fun a u q => ?_⟩⟩
  · rw [addI_out fun s => t.sp j a s q]; exact gd.dj j a q
  · obtain ⟨v, e1, w⟩ := gd.sl j o e n
    exact ⟨v, e1, w.step (RdLe.of le') fun _ _ _ q => q⟩
  · by_cases s : G a
    · exact .inr (.inl (.inr s))
    · rw [addI_out s] at q; exact .inl q
theorem Own.den {x : D} {v : V} (w : Own K mg I H o v G) (f : EV.frz o = some x) (hd : ∀ a, G a → I a = none) : Den K (addI I H G) x v :=
  Own.frz (RdLe.of (addI_same hd)) (fun a u s q => by rw [addI_in s]; exact q) w f
/-- the slot i is frozen -/
theorem Gd.frz {x : D} (gd : Gd K mg I H φ ρ σ) (e : ρ[i]? = some o) (ne : o ≠ .un) (f : EV.frz o = some x) :
    ∃ v I' φ', σ[i]? = some (some v) ∧ Stp I H (al φ) I' H (al φ') ∧ Gd K mg I' H φ' (ρ.set i (.d x)) σ ∧ Den K I' x v := by
  obtain ⟨v, e1, hs, gd1, t, w⟩ := gd.move e ne
  obtain ⟨gd2, st⟩ := gd1.freeze t
  have den := w.den f t.dj
  have gd3 := gd2.upd (σ' := σ) (S := noP) (i := i) (o := .d x) (fun _ q => q.elim) (fun _ q => q.elim) (fun _ _ q => q.elim) (fun _ _ => rfl) (fun _ _ => ⟨v, e1, .d den⟩)
  rw [List.set_set] at gd3
  refine ⟨v, _, _, e1, (st.from hs).sub fun a q => ?_, gd3, den⟩
  rcases al_setP q with q | q
  · exact q.elim
  · exact q
end
section
variable {X : Cx} {W : WX} {a b : Expr} {fa fb : M O} {pos : Pos}
theorem ee_var (i : Nat) {x : Str} {pos : Pos} (hN : X.N[i]? = some x := by rfl) (hv : Vis X.env.scope x := by first | exact Or.inl rfl | exact Or.inr (Or.inl rfl) | exact Or.inr (Or.inr rfl)) (hd : (x == ("__debug__" : Str)) = false := by decide)
    (hcd : (x == ("__classdict__" : Str)) = false := by decide) : EE X W (.Name x pos) (E.var i) := by
  refine PE.weak (pe_var hN hv hd hcd) fun σ H Q ⟨ρ, I, φ, gd, h⟩ => ?_
  unfold E.var at h
  have froz : ∀ o x, ρ[i]? = some o → o ≠ .un → EV.frz o = some x → PostE X.K X.mg W σ I H (al φ) Q (.ok (.d x) (ρ.set i (.d x))) → tVar i σ H Q := by
    intro o x e ne f h
    obtain ⟨v, I', φ', e1, st, gd', den⟩ := gd.frz e ne f
    exact ⟨v, e1, h v H I' φ' noP (st.sub fun a z => z.elim id False.elim) gd' Tm.none (.d den)⟩
  cases e : ρ[i]? with
  | none => rw [e] at h; exact h.elim
  | some o =>
    rw [e] at h
    cases o with
    | d x =>
      obtain ⟨v, e1, w⟩ := gd.sl i _ e (by intro z; cases z)
      cases w with
      | d q => exact ⟨v, e1, fin_d h gd (fun _ z => z) q⟩
    | un => simp only [EV.frz] at h; exact h.elim
    | lst xs =>
      simp only at h
      split at h
      · rename_i x f; exact froz _ x e (by intro z; cases z) f h
      · exact h.elim
    | tup xs =>
      simp only at h
      split at h
      · rename_i x f; exact froz _ x e (by intro z; cases z) f h
      · exact h.elim
    | dic xs =>
      simp only at h
      split at h
      · rename_i x f; exact froz _ x e (by intro z; cases z) f h
      · exact h.elim
    | obj c xs => simp only [EV.frz] at h; exact h.elim
    | exn c => simp only [EV.frz] at h; exact h.elim
    | kst c => simp only [EV.frz] at h; exact h.elim
    | dicT xs =>
      simp only at h
      split at h
      · rename_i x f; exact froz _ x e (by intro z; cases z) f h
      · exact h.elim
    | scr xs =>
      obtain ⟨v, e1, w⟩ := gd.sl i _ e (by intro z; cases z)
      exact ⟨v, e1, h v H I φ noP (Stp.refl fun a z => z.elim id False.elim) gd Tm.none (by cases w with | scr q => exact .scr q)⟩
theorem ee_move (i : Nat) {x : Str} {pos : Pos} (hN : X.N[i]? = some x := by rfl) (hv : Vis X.env.scope x := by first | exact Or.inl rfl | exact Or.inr (Or.inl rfl) | exact Or.inr (Or.inr rfl)) (hd : (x == ("__debug__" : Str)) = false := by decide)
    (hcd : (x == ("__classdict__" : Str)) = false := by decide) : EE X W (.Name x pos) (E.move i) := by
  refine PE.weak (pe_var hN hv hd hcd) fun σ H Q ⟨ρ, I, φ, gd, h⟩ => ?_
  unfold E.move at h
  cases e : ρ[i]? with
  | none => rw [e] at h; exact h.elim
  | some o =>
    rw [e] at h
    have go : o ≠ .un → PostE X.K X.mg W σ I H (al φ) Q (.ok o (ρ.set i .un)) → tVar i σ H Q := fun ne h => by
      obtain ⟨v, e1, hs, gd', t, w⟩ := gd.move e ne
      exact ⟨v, e1, h v H I _ (φ i) (Stp.refl hs) gd' t w⟩
    cases o with
    | un => exact h.elim
    | d x => exact go (by intro z; cases z) h
    | lst x => exact go (by intro z; cases z) h
    | tup x => exact go (by intro z; cases z) h
    | dic x => exact go (by intro z; cases z) h
    | obj c x => exact go (by intro z; cases z) h
    | exn x => exact go (by intro z; cases z) h
    | scr x => exact go (by intro z; cases z) h
    | kst x => exact go (by intro z; cases z) h
    | dicT x => exact go (by intro z; cases z) h

/-! ### two operands, many operands -/
/-- by values: r is fulfilled where g gives something -/
def Op2Ok (X : Cx) (r : R2) (g : O → O → Option O) : Prop := ∀ (W : WX) (σ : St) (I H : Hp) (φ : Ph) (ρ : Env) (F G1 G2 : Pd) (Q : VK) (x y z : O) (a b : V), Gd X.K X.mg I H φ ρ σ → (∀ c, orP (al φ) (orP G1 G2) c → F c) →
  Tm I H φ (orP G1 G2) → Own X.K X.mg I H x a G1 → Own X.K X.mg I H y b G2 → (∀ c, G1 c → ¬ G2 c) → g x y = some z → PostE X.K X.mg W σ I H F Q (.ok z ρ) → r a b H Q
theorem op2_read {r : R2} {g : O → O → Option O} (ok : Op2Ok X r g) {σ : St} {H : Hp} {Q : VK} (h : rdE X.K X.mg W (E.op2 g fa fb) σ H Q) : tOp r (rdE X.K X.mg W fa) (rdE X.K X.mg W fb) σ H Q := by
  obtain ⟨ρ, I, φ, gd, h⟩ := h
  refine bindE (P := PostE X.K X.mg W σ I H (al φ) Q) gd h (fun _ _ z => z) (fun z => z) fun x ρ1 _ h v1 H1 I1 φ1 G1 s1 gd1 t1 w1 => ?_
  refine bindE (P := PostE X.K X.mg W σ I1 H1 (orP (al φ1) G1) Q) gd1 (h.shift s1) (fun _ _ z => PostX.from (fun _ => .inl) z) (fun z => z) fun y ρ2 _ h v2 H2 I2 φ2 G2 s2 gd2 t2 w2 => ?_
  obtain ⟨t, dis⟩ := t1.step s2 t2
  have h' := h.shift ((s2.frame (G := G1) t1.th))
  cases e : g x y with
  | none => simp only [e, M.opt, M.fail] at h'; exact h'.elim
  | some z =>
    simp only [e, M.opt, M.ret] at h'
    exact ok W σ I2 H2 φ2 ρ2 _ G1 G2 Q x y z v1 v2 gd2 (fun c q => by
      rcases q with q | q | q
      · exact .inl (.inl q)
      · exact .inr q
      · exact .inl (.inr q)) t (t1.own s2 w1) w2 dis e h'
theorem ee_op {op : Operator} {r : R2} {g : O → O → Option O} (ho : OpR X (binaryOp op) r) (ok : Op2Ok X r g) (ha : EE X W a fa) (hb : EE X W b fb) : EE X W (.BinOp a op b pos) (E.op2 g fa fb) :=
  PE.weak (pe_op ho ha hb) fun _ _ _ h => op2_read ok h
theorem ee_cmp {op : CmpOp} {r : R2} {g : O → O → Option O} (ho : OpR X (compareOp op) r) (ok : Op2Ok X r g) (ha : EE X W a fa) (hb : EE X W b fb) (hm : behindInMarks op b = false) : EE X W (.Compare a [op] [b] pos) (E.op2 g fa fb) :=
  PE.weak (pe_cmpR ho ha hb hm) fun _ _ _ h => op2_read ok h
theorem ee_ix {r : R2} {g : O → O → Option O} (hr : IxR X r) (ok : Op2Ok X r g) (ha : EE X W a fa) (hb : EE X W b fb) (hs : PlainIx b := by intro _ _; rfl) : EE X W (.Subscript a b pos) (E.op2 g fa fb) :=
  PE.weak (pe_ix hr ha hb hs) fun _ _ _ h => op2_read ok h
def Op1Ok (X : Cx) (r : V → Hp → VK → Prop) (g : O → Option O) : Prop := ∀ (W : WX) (σ : St) (I H : Hp) (φ : Ph) (ρ : Env) (F G : Pd) (Q : VK) (x z : O) (a : V), Gd X.K X.mg I H φ ρ σ → (∀ c, orP (al φ) G c → F c) →
  Tm I H φ G → Own X.K X.mg I H x a G → g x = some z → PostE X.K X.mg W σ I H F Q (.ok z ρ) → r a H Q
theorem op1_read {r : V → Hp → VK → Prop} {g : O → Option O} (ok : Op1Ok X r g) {σ : St} {H : Hp} {Q : VK} (h : rdE X.K X.mg W (E.op1 g fa) σ H Q) : tUn r (rdE X.K X.mg W fa) σ H Q := by
  obtain ⟨ρ, I, φ, gd, h⟩ := h
  refine bindE (P := PostE X.K X.mg W σ I H (al φ) Q) gd h (fun _ _ z => z) (fun z => z) fun x ρ1 _ h v1 H1 I1 φ1 G1 s1 gd1 t1 w1 => ?_
  have h' := h.shift s1
  cases e : g x with
  | none => simp only [e, M.opt, M.fail] at h'; exact h'.elim
  | some z =>
    simp only [e, M.opt, M.ret] at h'
    exact ok W σ I1 H1 φ1 ρ1 _ G1 Q x z v1 gd1 (fun c q => q) t1 w1 e h'
theorem ee_un {op : UnaryOp} {r : V → Hp → VK → Prop} {g : O → Option O} (ho : UnR X (unaryOp op) r) (ok : Op1Ok X r g) (ha : EE X W a fa) : EE X W (.UnaryOp op a pos) (E.op1 g fa) :=
  PE.weak (pe_un ho ha) fun _ _ _ h => op1_read ok h

theorem ea_nil : EA X W [] A.nil := PA.weak pa_nil fun σ H Q ⟨ρ, I, φ, gd, h⟩ => h [] H I φ noP (Stp.refl fun a z => z.elim id False.elim) gd Tm.none .nil
theorem ea_cons {e : Expr} {es : List Expr} {f : M O} {g : M (List O)} (ha : EE X W e f) (hr : EA X W es g) (hs : starEach (e :: es) X.env = (false, eval e X.env) :: starEach es X.env := by rfl) : EA X W (e :: es) (A.cons f g) := by
  refine PA.weak (pa_cons ha hr hs) fun σ H Q ⟨ρ, I, φ, gd, h⟩ => ?_
  refine bindE (P := PostA X.K X.mg W σ I H (al φ) Q) gd h (fun _ _ z => z) (fun z => z) fun x ρ1 _ h v1 H1 I1 φ1 G1 s1 gd1 t1 w1 => ?_
  refine bindA (P := PostA X.K X.mg W σ I1 H1 (orP (al φ1) G1) Q) gd1 (h.shift s1) (fun _ _ z => PostX.from (fun _ => .inl) z) (fun z => z) fun y ρ2 _ h v2 H2 I2 φ2 G2 s2 gd2 t2 w2 => ?_
  obtain ⟨t, dis⟩ := t1.step s2 t2
  refine h (v1 :: v2) H2 I2 φ2 (orP G1 G2) (((s2.frame (G := G1) t1.th)).sub fun c q => ?_) gd2 t (.cons (t1.own s2 w1) w2 (fun _ => .inl) (fun _ => .inr) dis)
  rcases q with q | q | q
  · exact .inl (.inl q)
  · exact .inr q
  · exact .inl (.inr q)
theorem Owns.len {K : PySem.W.Frag} {mg : Str → Option Value} {I H : Hp} : ∀ {os : List O} {vs : List V} {S : Pd}, Owns K mg I H os vs S → vs.length = os.length
  | _, _, _, .nil => rfl
  | _, _, _, .cons _ b _ _ _ => by rw [List.length_cons, List.length_cons, Owns.len b]
theorem mil {n : Nat} (h : n ≤ 1000000) : n ≤ sizeLine := by rw [sizeLine_eq]; omega
theorem ee_tup {es : List Expr} {f : M (List O)} {x1} (h : EA X W es f) : EE X W (.Tuple es x1 pos) (E.tup f) := by
  refine PE.weak (pe_tup h) fun σ H Q ⟨ρ, I, φ, gd, h⟩ => ?_
  refine bindA (P := PostE X.K X.mg W σ I H (al φ) Q) gd h (fun _ _ z => z) (fun z => z) fun x ρ1 _ h v1 H1 I1 φ1 G1 s1 gd1 t1 w1 => ?_
  by_cases z : x.length ≤ 1000000
  · rw [if_pos z] at h
    exact ⟨by rw [w1.len]; exact mil z, fun p hp => fin_tup (h.shift s1) gd1 (fun _ q => q) t1 w1 hp⟩
  · rw [if_neg z] at h; exact h.elim
theorem ee_lst {es : List Expr} {f : M (List O)} (h : EA X W es f) : EE X W (.List es pos) (E.lst f) := by
  refine PE.weak (pe_lst h) fun σ H Q ⟨ρ, I, φ, gd, h⟩ => ?_
  refine bindA (P := PostE X.K X.mg W σ I H (al φ) Q) gd h (fun _ _ z => z) (fun z => z) fun x ρ1 _ h v1 H1 I1 φ1 G1 s1 gd1 t1 w1 => ?_
  by_cases z : x.length ≤ 1000000
  · rw [if_pos z] at h
    exact ⟨by rw [w1.len]; exact mil z, fun p hp => fin_lst (h.shift s1) gd1 (fun _ q => q) t1 w1 hp⟩
  · rw [if_neg z] at h; exact h.elim
end
end EV

/-! The layer EV, part D: tests, statements, targets, loops. -/
namespace EV
open PySem PySem.Spec PyProof.Rows L2

section
variable {X : Cx} {W : WX} {a b c : Expr} {fa fb fc : M O} {ta tb : M Bool} {pos : Pos} {rest : List Expr}

/-! ### tests -/
theorem val_read {σ : St} {H : Hp} {Q : Bool → Hp → Prop} (h : rdT X.K X.mg W (T.val fa) σ H Q) : rdE X.K X.mg W fa σ H (fun x H1 => ∃ k, x = .bl k ∧ Q k H1) := by
  obtain ⟨ρ, I, φ, gd, h⟩ := h
  refine bindE (P := PostT X.K X.mg W σ I H (al φ) Q) gd h (fun _ _ z => z) (fun z => z) fun x ρ1 _ h v1 H1 I1 φ1 G1 s1 gd1 t1 w1 => ?_
  cases x with
  | d x =>
    cases x with
    | bool k =>
      cases w1 with
      | d q => cases q; exact ⟨k, rfl, h H1 I1 φ1 (s1.sub fun _ => .inl) gd1⟩
    | _ => exact h.elim
  | _ => exact h.elim
theorem et_val (ha : EE X W a fa) (he : ∀ whole, isTrue a X.env whole = (do let v ← whole; standAt a.pos; holding [v] (truthy v)) := by intro _; rfl) : ET X W a (T.val fa) :=
  PT.weak (pt_val ha he) fun _ _ _ h => val_read h
theorem et_cmp {op : CmpOp} {r : R2} {g : O → O → Option O} (ho : OpR X (compareOp op) r) (ok : Op2Ok X r g) (ha : EE X W a fa) (hb : EE X W b fb) (hm : behindInMarks op b = false) : ET X W (.Compare a [op] [b] pos) (T.val (E.op2 g fa fb)) := by
  refine PT.weak (pt_cmpR ho ha hb hm) fun σ H Q h => ?_
  have h2 := val_read h
  exact op2_read ok h2
theorem et_not (ha : ET X W a ta) : ET X W (.UnaryOp .Not a pos) (T.not ta) := by
  refine PT.weak (pt_not ha) fun σ H Q ⟨ρ, I, φ, gd, h⟩ => ?_
  exact bindT (P := PostT X.K X.mg W σ I H (al φ) Q) gd h (fun _ _ z => z) (fun z => z) fun x ρ1 _ h H1 I1 φ1 s1 gd1 => h H1 I1 φ1 s1 gd1
theorem EW.et (h : EW X W a ta) : ET X W a ta := PW.pt h
theorem ew_and1 (h : ET X W a ta) : EW X W (.BoolOp .And [a] pos) ta := pw_and1 h
theorem ew_or1 (h : ET X W a ta) : EW X W (.BoolOp .Or [a] pos) ta := pw_or1 h
theorem ew_and (ha : ET X W a ta) (hb : EW X W (.BoolOp .And (b :: rest) pos) tb) : EW X W (.BoolOp .And (a :: b :: rest) pos) (T.and ta tb) := by
  refine PW.weak (pw_and ha hb) fun σ H Q ⟨ρ, I, φ, gd, h⟩ => ?_
  refine bindT (P := PostT X.K X.mg W σ I H (al φ) Q) gd h (fun _ _ z => z) (fun z => z) fun x ρ1 _ h H1 I1 φ1 s1 gd1 => ?_
  cases x with
  | true => rw [if_pos rfl] at h ⊢; exact ⟨ρ1, I1, φ1, gd1, h.shift s1⟩
  | false => rw [if_neg Bool.false_ne_true] at h ⊢; exact h H1 I1 φ1 s1 gd1
theorem ew_or (ha : ET X W a ta) (hb : EW X W (.BoolOp .Or (b :: rest) pos) tb) : EW X W (.BoolOp .Or (a :: b :: rest) pos) (T.or ta tb) := by
  refine PW.weak (pw_or ha hb) fun σ H Q ⟨ρ, I, φ, gd, h⟩ => ?_
  refine bindT (P := PostT X.K X.mg W σ I H (al φ) Q) gd h (fun _ _ z => z) (fun z => z) fun x ρ1 _ h H1 I1 φ1 s1 gd1 => ?_
  cases x with
  | true => rw [if_pos rfl] at h ⊢; exact h H1 I1 φ1 s1 gd1
  | false => rw [if_neg Bool.false_ne_true] at h ⊢; exact ⟨ρ1, I1, φ1, gd1, h.shift s1⟩

/-! ### and, or, not, chains, if-else as values -/
def E.and (f g : M O) : M O := (T.val f).bind fun b => if b then g else M.ret (.d (.bool false))
def E.or (f g : M O) : M O := (T.val f).bind fun b => if b then M.ret (.d (.bool true)) else g
def E.not (f : M O) : M O := (T.val f).bind fun b => M.ret (.d (.bool (!b)))
def E.chain (g1 g2 : O → O → Option O) (f1 f2 f3 : M O) : M O := f1.bind fun x => f2.bind fun y => (T.val (M.opt (g1 x y))).bind fun b =>
  if b then f3.bind fun z => M.opt (g2 y z) else M.ret (.d (.bool false))
theorem boolE {α : Type} {f : M O} {g : Bool → M α} {σ : St} {I H : Hp} {φ : Ph} {ρ : Env} {P : R α → Prop} {T' : V → Hp → Prop} {K : PySem.W.Frag} {mg : Str → Option Value}
    (gd : Gd K mg I H φ ρ σ) (h : P (((T.val f).bind g) ρ)) (hx : ∀ c ρ', P (.exc c ρ') → PostX K mg W σ I H (al φ) c ρ') (hs : ¬ P .stuck)
    (k : ∀ r ρ1, P (g r ρ1) → ∀ (H1 I1 : Hp) (φ1 : Ph), Stp I H (al φ) I1 H1 (al φ1) → Gd K mg I1 H1 φ1 ρ1 σ → T' (.bl r) H1) : rdE K mg W f σ H T' := by
  have h' : P ((f.bind fun o => (T.val (M.ret o)).bind g) ρ) := by
    unfold M.bind T.val M.bind at h ⊢
    cases e : f ρ with
    | ok r ρ1 => rw [e] at h; exact h
    | exc c ρ1 => rw [e] at h; exact h
    | stuck => rw [e] at h; exact h
  refine bindE gd h' hx hs fun x ρ1 _ h v1 H1 I1 φ1 G1 s1 gd1 t1 w1 => ?_
  cases x with
  | d x =>
    cases x with
    | bool r =>
      cases w1 with
      | d q => cases q; exact k r ρ1 h H1 I1 φ1 (s1.sub fun _ => .inl) gd1
    | _ => exact (hs h).elim
  | _ => exact (hs h).elim
theorem ee_one {op} (h : EE X W a fa) : EE X W (.BoolOp op [a] pos) fa := pe_one h
theorem ee_and (ha : EE X W a fa) (hb : EE X W (.BoolOp .And (b :: rest) pos) fb) : EE X W (.BoolOp .And (a :: b :: rest) pos) (E.and fa fb) := by
  refine PE.weak (pe_and ha hb) fun σ H Q ⟨ρ, I, φ, gd, h⟩ => ?_
  refine boolE (P := PostE X.K X.mg W σ I H (al φ) Q) gd h (fun _ _ z => z) (fun z => z) fun x ρ1 h H1 I1 φ1 s1 gd1 => ⟨x, rfl, ?_⟩
  cases x with
  | true => rw [if_pos rfl] at h ⊢; exact ⟨ρ1, I1, φ1, gd1, h.shift s1⟩
  | false => rw [if_neg Bool.false_ne_true] at h ⊢; exact fin_d (h.shift s1) gd1 (fun _ z => z) (.bl _)
theorem ee_or (ha : EE X W a fa) (hb : EE X W (.BoolOp .Or (b :: rest) pos) fb) : EE X W (.BoolOp .Or (a :: b :: rest) pos) (E.or fa fb) := by
  refine PE.weak (pe_or ha hb) fun σ H Q ⟨ρ, I, φ, gd, h⟩ => ?_
  refine boolE (P := PostE X.K X.mg W σ I H (al φ) Q) gd h (fun _ _ z => z) (fun z => z) fun x ρ1 h H1 I1 φ1 s1 gd1 => ⟨x, rfl, ?_⟩
  cases x with
  | true => rw [if_pos rfl] at h ⊢; exact fin_d (h.shift s1) gd1 (fun _ z => z) (.bl _)
  | false => rw [if_neg Bool.false_ne_true] at h ⊢; exact ⟨ρ1, I1, φ1, gd1, h.shift s1⟩
theorem ee_not (ha : EE X W a fa) : EE X W (.UnaryOp .Not a pos) (E.not fa) := by
  refine PE.weak (pe_not ha) fun σ H Q ⟨ρ, I, φ, gd, h⟩ => ?_
  exact boolE (P := PostE X.K X.mg W σ I H (al φ) Q) gd h (fun _ _ z => z) (fun z => z) fun x ρ1 h H1 I1 φ1 s1 gd1 => ⟨x, rfl, fin_d (h.shift s1) gd1 (fun _ z => z) (.bl _)⟩
theorem ee_if {e : Expr} (hc : ET X W e ta) (ha : EE X W a fa) (hb : EE X W b fb) : EE X W (.IfExp e a b pos) (E.ifE ta fa fb) := by
  refine PE.weak (pe_ifExp hc ha hb) fun σ H Q ⟨ρ, I, φ, gd, h⟩ => ?_
  refine bindT (P := PostE X.K X.mg W σ I H (al φ) Q) gd h (fun _ _ z => z) (fun z => z) fun x ρ1 _ h H1 I1 φ1 s1 gd1 => ?_
  cases x with
  | true => rw [if_pos rfl] at h ⊢; exact ⟨ρ1, I1, φ1, gd1, h.shift s1⟩
  | false => rw [if_neg Bool.false_ne_true] at h ⊢; exact ⟨ρ1, I1, φ1, gd1, h.shift s1⟩

/-! ### a reckoning in a frozen world -/
theorem frzS_spec {o : O} {x : D} : E.frzS o = .d x → EV.frz o = some x := by
  intro h
  cases o with
  | d y => simp only [E.frzS] at h; cases h; rfl
  | un => simp [E.frzS, EV.frz] at h
  | _ =>
    simp only [E.frzS] at h
    split at h
    · cases h; assumption
    · cases h
theorem frzS_case (o : O) : E.frzS o = .un ∨ ∃ x, E.frzS o = .d x := by
  cases o with
  | d y => exact .inr ⟨y, rfl⟩
  | _ =>
    simp only [E.frzS]
    split
    · exact .inr ⟨_, rfl⟩
    · exact .inl rfl
theorem Gd.frzAll {K : PySem.W.Frag} {mg : Str → Option Value} {I H : Hp} {φ : Ph} {ρ : Env} {σ : St} (gd : Gd K mg I H φ ρ σ) : Gd K mg (addI I H (al φ)) H (fun _ => noP) (ρ.map E.frzS) σ := by
  have hd : ∀ a, al φ a → I a = none := fun a ⟨i, q⟩ => gd.dj i a q
  refine ⟨addI_le gd.le, fun _ _ q => q.elim, fun _ _ q => q.elim, fun _ _ _ q => q.elim, fun i o e n => ?_⟩
  rw [List.getElem?_map] at e
  cases e1 : ρ[i]? with
  | none => rw [e1] at e; cases e
  | some p =>
    rw [e1] at e
    have e' : E.frzS p = o := Option.some.inj e
    rcases frzS_case p with z | ⟨x, z⟩
    · exact (n (e' ▸ z)).elim
    · have ne : p ≠ .un := by intro q; subst q; simp [E.frzS, EV.frz] at z
      obtain ⟨v, e2, w⟩ := gd.sl i p e1 ne
      refine ⟨v, e2, ?_⟩
      rw [← e', z]
      exact .d (Own.frz (RdLe.of (addI_same hd)) (fun a u s q => by rw [addI_in ⟨i, s⟩]; exact q) w (frzS_spec z))
/-- nothing that stood has changed: back in the old world -/
theorem Gd.back {K : PySem.W.Frag} {mg : Str → Option Value} {I H H' : Hp} {φ : Ph} {ρ : Env} {σ : St} (gd : Gd K mg I H φ ρ σ) (s : Same H H') : Gd K mg I H' φ ρ σ ∧ Stp I H (al φ) I H' (al φ) :=
  ⟨⟨gd.le.trans s, gd.dj, (fun i a q e => by
      obtain ⟨o, h⟩ := Option.ne_none_iff_exists'.mp (gd.th i a q)
      rw [s a o h] at e; cases e),
    gd.sep, (fun i o e n => by
      obtain ⟨v, e1, w⟩ := gd.sl i o e n
      exact ⟨v, e1, w.step (RdLe.of (Same.refl _)) fun a u _ q => s a u q⟩)⟩, ⟨Same.refl _, fun a o e _ => s a o e, fun _ q => .inl q, fun _ _ e => .inl e⟩⟩
theorem al_noP {a : Addr} (h : al (fun _ => noP) a) : False := h.elim fun _ q => q
theorem den_atom {K : PySem.W.Frag} {I J : Hp} {x : D} {v : V} (h : E.isAtom x = true) (q : Den K I x v) : Den K J x v := by
  cases q with
  | non => exact .non
  | bl b => exact .bl b
  | int i => exact .int i
  | str z => exact .str z
  | list _ _ => cases h
  | tuple _ _ => cases h
  | dict _ _ => cases h
  | dictT _ _ _ => cases h
  | exn _ => cases h
theorem PostX.back {K : PySem.W.Frag} {mg : Str → Option Value} {I H : Hp} {φ : Ph} {ρ ρ0 : Env} {σ : St} {n : Str} (gd : Gd K mg I H φ ρ σ) (h : PostX K mg W σ I H (al φ) n ρ) :
    PostX K mg W σ (addI I H (al φ)) H (al fun _ => noP) n ρ0 := fun C H' I' φ' e s g => by
  obtain ⟨g1, s1⟩ := gd.back fun a o q => s.kp a o q al_noP
  exact h C H' I φ e s1 g1
theorem ee_borrow (ha : EE X W a fa) : EE X W a (E.borrow fa) := by
  refine PE.weak ha fun σ H Q ⟨ρ, I, φ, gd, h⟩ => ⟨_, _, _, gd.frzAll, ?_⟩
  unfold E.borrow at h
  cases e : fa (ρ.map E.frzS) with
  | stuck => rw [e] at h; exact h.elim
  | exc n ρ1 => rw [e] at h; exact PostX.back gd h
  | ok r ρ1 =>
    rw [e] at h
    intro v H' I' φ' G s g t w
    cases r with
    | d x =>
      simp only at h
      split at h
      · rename_i ha
        obtain ⟨g1, s1⟩ := gd.back fun a o q => s.kp a o q al_noP
        cases w with
        | d q => exact h v H' I φ noP (s1.sub fun a z => z.elim id False.elim) g1 Tm.none (.d (den_atom ha q))
      · exact h.elim
    | _ => exact h.elim
theorem et_borrow (ha : ET X W a ta) : ET X W a (T.borrow ta) := by
  refine PT.weak ha fun σ H Q ⟨ρ, I, φ, gd, h⟩ => ⟨_, _, _, gd.frzAll, ?_⟩
  unfold T.borrow at h
  cases e : ta (ρ.map E.frzS) with
  | stuck => rw [e] at h; exact h.elim
  | exc n ρ1 => rw [e] at h; exact PostX.back gd h
  | ok r ρ1 =>
    rw [e] at h
    intro H' I' φ' s g
    obtain ⟨g1, s1⟩ := gd.back fun a o q => s.kp a o q al_noP
    exact h H' I φ s1 g1
end

/-! ### statements -/
inductive Fl where
  | nx
  | ret (r : O)
  | brk
  | cnt
structure Keeps (io : List Nat) (σ σ' : St) : Prop where
  len : σ'.length = σ.length
  at_ : ∀ i ∈ io, σ'[i]? = σ[i]?
section
variable (K : PySem.W.Frag) (mg : Str → Option Value) (W : WX) (io : List Nat)
def PostS (σ : St) (I H : Hp) (F : Pd) (D : Ends) : R Fl → Prop
  | .ok .nx ρ' => ∀ (σ' : St) (H' I' : Hp) (φ' : Ph), Keeps io σ σ' → Stp I H F I' H' (al φ') → Gd K mg I' H' φ' ρ' σ' → D.nx σ' H'
  | .ok .brk ρ' => ∀ (σ' : St) (H' I' : Hp) (φ' : Ph), Keeps io σ σ' → Stp I H F I' H' (al φ') → Gd K mg I' H' φ' ρ' σ' → D.bk σ' H'
  | .ok .cnt ρ' => ∀ (σ' : St) (H' I' : Hp) (φ' : Ph), Keeps io σ σ' → Stp I H F I' H' (al φ') → Gd K mg I' H' φ' ρ' σ' → D.ct σ' H'
  | .ok (.ret r) ρ' => ∀ (v : V) (σ' : St) (H' I' : Hp) (φ' : Ph) (G : Pd), Keeps io σ σ' → Stp I H F I' H' (orP (al φ') G) → Gd K mg I' H' φ' ρ' σ' → Tm I' H' φ' G → Own K mg I' H' r v G → D.rt v H'
  | .exc c ρ' => ∀ (C : Addr) (σ' : St) (H' I' : Hp) (φ' : Ph), Keeps io σ σ' → mg c = some (.ref C) → Stp I H F I' H' (al φ') → Gd K mg I' H' φ' ρ' σ' → W (.ref C) none σ' H'
  | .stuck => False
def rdS (f : M Fl) : TS := fun D σ H => ∃ ρ I φ, Gd K mg I H φ ρ σ ∧ PostS K mg W io σ I H (al φ) D (f ρ)
/-- a target's reading: a value in hand is stored -/
def PostG (σ : St) (I H : Hp) (F : Pd) (Q : St → Hp → Prop) : R Unit → Prop
  | .ok _ ρ' => ∀ (σ' : St) (H' I' : Hp) (φ' : Ph), Keeps io σ σ' → Stp I H F I' H' (al φ') → Gd K mg I' H' φ' ρ' σ' → Q σ' H'
  | .exc _ _ => False
  | .stuck => False
def rdG (g : O → M Unit) : TG := fun v σ H Q => ∃ ρ I φ o G, Gd K mg I H φ ρ σ ∧ Tm I H φ G ∧ Own K mg I H o v G ∧ PostG K mg io σ I H (orP (al φ) G) Q (g o ρ)
def rdGs (g : List O → M Unit) : TGs := fun vs σ H Q => ∃ ρ I φ os G, Gd K mg I H φ ρ σ ∧ Tm I H φ G ∧ Owns K mg I H os vs G ∧ PostG K mg io σ I H (orP (al φ) G) Q (g os ρ)
end
abbrev ES (X : Cx) (W : WX) (io : List Nat) (st : Stmt) (f : M Fl) : Prop := PS X st (rdS X.K X.mg W io f)
abbrev EB (X : Cx) (W : WX) (io : List Nat) (st : List Stmt) (f : M Fl) : Prop := PSs X st (rdS X.K X.mg W io f)
abbrev EG (X : Cx) (io : List Nat) (tg : Expr) (g : O → M Unit) : Prop := PG X tg (rdG X.K X.mg io g)
abbrev EGs (X : Cx) (io : List Nat) (ts : List Expr) (g : List O → M Unit) : Prop := PGs X ts (rdGs X.K X.mg io g)
theorem Keeps.refl {io : List Nat} (σ : St) : Keeps io σ σ := ⟨rfl, fun _ _ => rfl⟩
theorem Keeps.trans {io : List Nat} {σ σ1 σ2 : St} (a : Keeps io σ σ1) (b : Keeps io σ1 σ2) : Keeps io σ σ2 := ⟨b.len.trans a.len, fun i h => (b.at_ i h).trans (a.at_ i h)⟩
section
variable {K : PySem.W.Frag} {mg : Str → Option Value} {W : WX} {io : List Nat} {σ σ1 : St} {I H I1 H1 : Hp} {F F1 : Pd} {D : Ends}
theorem PostS.shift {r : R Fl} (k : Keeps io σ σ1) (s : Stp I H F I1 H1 F1) (h : PostS K mg W io σ I H F D r) : PostS K mg W io σ1 I1 H1 F1 D r := by
  cases r with
  | ok r ρ' =>
    cases r with
    | nx => exact fun σ' H' I' φ' k' t => h σ' H' I' φ' (k.trans k') (s.trans t)
    | brk => exact fun σ' H' I' φ' k' t => h σ' H' I' φ' (k.trans k') (s.trans t)
    | cnt => exact fun σ' H' I' φ' k' t => h σ' H' I' φ' (k.trans k') (s.trans t)
    | ret r => exact fun v σ' H' I' φ' G k' t => h v σ' H' I' φ' G (k.trans k') (s.trans t)
  | exc c ρ' => exact fun C σ' H' I' φ' k' e t => h C σ' H' I' φ' (k.trans k') e (s.trans t)
  | stuck => exact h
theorem PostS.exc {c : Str} {ρ' : Env} (h : PostS K mg W io σ I H F D (.exc c ρ')) : PostX K mg W σ I H F c ρ' := fun C H' I' φ' e s g => h C σ H' I' φ' (Keeps.refl _) e s g
end
namespace S
def nx : M Fl := M.ret .nx
def seq (f g : M Fl) : M Fl := fun ρ => match f ρ with
  | .ok .nx ρ1 => g ρ1
  | r => r
def expr (f : M O) : M Fl := f.bind fun _ => M.ret .nx
def ret (f : M O) : M Fl := f.bind fun o => M.ret (.ret o)
def retN : M Fl := M.ret (.ret (.d .none))
def ifS (t : M Bool) (f g : M Fl) : M Fl := t.bind fun b => if b then f else g
def brk : M Fl := M.ret .brk
def cnt : M Fl := M.ret .cnt
def asg (f : M O) (g : O → M Unit) : M Fl := f.bind fun o => fun ρ => match g o ρ with
  | .ok _ ρ' => .ok .nx ρ'
  | _ => .stuck
def raise (c : Str) : M Fl := fun ρ => .exc c ρ
end S
namespace G
def nm (i : Nat) : O → M Unit := fun o ρ => .ok () (ρ.set i o)
def nil : List O → M Unit := fun os => match os with
  | [] => M.ret ()
  | _ => M.fail
def cons (g : O → M Unit) (gs : List O → M Unit) : List O → M Unit := fun os => match os with
  | o :: r => (g o).bind fun _ => gs r
  | _ => M.fail
def titems : O → Option (List O)
  | .tup os => some os
  | .d (.tuple xs) => some (xs.map .d)
  | _ => none
def litems : O → Option (List O)
  | .lst os => some os
  | .d (.list xs) => some (xs.map .d)
  | _ => none
def tup (n : Nat) (gs : List O → M Unit) : O → M Unit := fun o => match titems o with
  | some os => if os.length = n then gs os else M.fail
  | none => M.fail
def lst (n : Nat) (gs : List O → M Unit) : O → M Unit := fun o => match litems o with
  | some os => if os.length = n then gs os else M.fail
  | none => M.fail
end G
section
variable {K : PySem.W.Frag} {mg : Str → Option Value} {I H : Hp} {S : Pd}
theorem Owns.ofDen : ∀ {xs : List D} {vs : List V}, DenL K I xs vs → Owns K mg I H (xs.map .d) vs S
  | _, _, .nil => .nil
  | _, _, .cons a b => .cons (S1 := noP) (S2 := S) (.d a) (Owns.ofDen b) (fun _ q => q.elim) (fun _ q => q) (fun _ q => q.elim)
theorem Own.titems {o : O} {v : V} {os : List O} (w : Own K mg I H o v S) (e : G.titems o = some os) : ∃ a vs, v = .ref a ∧ I a = some (.tup vs) ∧ Owns K mg I H os vs S := by
  cases o with
  | tup xs =>
    cases e
    cases w with
    | tup a b => exact ⟨_, _, rfl, a, b⟩
  | d x =>
    cases x with
    | tuple xs =>
      cases e
      cases w with
      | d q =>
        cases q with
        | tuple a b => exact ⟨_, _, rfl, a, Owns.ofDen b⟩
    | _ => cases e
  | _ => cases e
theorem Own.litems {o : O} {v : V} {os : List O} (w : Own K mg I H o v S) (le : Same I H) (e : G.litems o = some os) : ∃ a vs, v = .ref a ∧ H a = some (.lst vs) ∧ Owns K mg I H os vs S := by
  cases o with
  | lst xs =>
    cases e
    cases w with
    | lst a b c d _ => exact ⟨_, _, rfl, a, c.mono d⟩
  | d x =>
    cases x with
    | list xs =>
      cases e
      cases w with
      | d q =>
        cases q with
        | list a b => exact ⟨_, _, rfl, le _ _ a, Owns.ofDen b⟩
    | _ => cases e
  | _ => cases e
theorem sqT_le {a : Addr} {vs : List V} (le : Same I H) (q : SqT K I a vs) : SqT K H a vs := (RdLe.of le).sqT q
end

section
variable {X : Cx} {W : WX} {io : List Nat} {e a b : Expr} {st : Stmt} {sts : List Stmt} {f : M O} {fs gs : M Fl} {t : M Bool} {pos : Pos}
theorem eb_nil : EB X W io [] S.nx := PSs.weak pss_nil fun D σ H ⟨ρ, I, φ, gd, h⟩ => h σ H I φ (Keeps.refl _) (Stp.refl fun _ z => z) gd
theorem seq_read {D : Ends} {σ : St} {H : Hp} (h : rdS X.K X.mg W io (S.seq fs gs) D σ H) : tSeq (rdS X.K X.mg W io fs) (rdS X.K X.mg W io gs) D σ H := by
  obtain ⟨ρ, I, φ, gd, h⟩ := h
  refine ⟨ρ, I, φ, gd, ?_⟩
  unfold S.seq at h
  cases e : fs ρ with
  | stuck => rw [e] at h; exact h
  | exc c ρ1 => rw [e] at h; exact h
  | ok r ρ1 =>
    rw [e] at h
    cases r with
    | nx => exact fun σ' H' I' φ' k s g => ⟨ρ1, I', φ', g, PostS.shift k s h⟩
    | brk => exact h
    | cnt => exact h
    | ret r => exact h
theorem eb_cons (h1 : ES X W io st fs) (h2 : EB X W io sts gs) : EB X W io (st :: sts) (S.seq fs gs) := PSs.weak (pss_cons h1 h2) fun _ _ _ h => seq_read h
theorem eb_one (h1 : ES X W io st fs) : EB X W io [st] fs := pss_one h1
theorem es_brk : ES X W io (.Break pos) S.brk := PS.weak ps_break fun D σ H ⟨ρ, I, φ, gd, h⟩ => h σ H I φ (Keeps.refl _) (Stp.refl fun _ z => z) gd
theorem es_cnt : ES X W io (.Continue pos) S.cnt := PS.weak ps_continue fun D σ H ⟨ρ, I, φ, gd, h⟩ => h σ H I φ (Keeps.refl _) (Stp.refl fun _ z => z) gd
theorem es_pass : ES X W io (.Pass pos) S.nx := PS.weak ps_pass fun D σ H ⟨ρ, I, φ, gd, h⟩ => h σ H I φ (Keeps.refl _) (Stp.refl fun _ z => z) gd
theorem es_expr (he : EE X W e f) (hs : swapsWith e none pos.line X.env = pure false := by rfl) : ES X W io (.Expr e pos) (S.expr f) := by
  refine PS.weak (ps_expr he hs) fun D σ H ⟨ρ, I, φ, gd, h⟩ => ?_
  exact bindE (P := PostS X.K X.mg W io σ I H (al φ) D) gd h (fun _ _ z => z.exc) (fun z => z) fun x ρ1 _ h v1 H1 I1 φ1 G1 s1 gd1 t1 w1 => h σ H1 I1 φ1 (Keeps.refl _) (s1.sub fun _ => .inl) gd1
theorem es_ret (he : EE X W e f) : ES X W io (.Return (some e) pos) (S.ret f) := by
  refine PS.weak (ps_ret he) fun D σ H ⟨ρ, I, φ, gd, h⟩ => ?_
  exact bindE (P := PostS X.K X.mg W io σ I H (al φ) D) gd h (fun _ _ z => z.exc) (fun z => z) fun x ρ1 _ h v1 H1 I1 φ1 G1 s1 gd1 t1 w1 => h v1 σ H1 I1 φ1 G1 (Keeps.refl _) s1 gd1 t1 w1
theorem es_retN : ES X W io (.Return none pos) S.retN := PS.weak ps_retN fun D σ H ⟨ρ, I, φ, gd, h⟩ => h _ σ H I φ noP (Keeps.refl _) (Stp.refl fun _ z => z.elim id False.elim) gd Tm.none (.d .non)
theorem es_if (hc : ET X W e t) (ha : EB X W io sts fs) {sts2 : List Stmt} (hb : EB X W io sts2 gs) : ES X W io (.If e sts sts2 pos) (S.ifS t fs gs) := by
  refine PS.weak (ps_if hc ha hb) fun D σ H ⟨ρ, I, φ, gd, h⟩ => ?_
  refine bindT (P := PostS X.K X.mg W io σ I H (al φ) D) gd h (fun _ _ z => z.exc) (fun z => z) fun x ρ1 _ h H1 I1 φ1 s1 gd1 => ?_
  cases x with
  | true => rw [if_pos rfl] at h ⊢; exact ⟨ρ1, I1, φ1, gd1, PostS.shift (Keeps.refl _) s1 h⟩
  | false => rw [if_neg Bool.false_ne_true] at h ⊢; exact ⟨ρ1, I1, φ1, gd1, PostS.shift (Keeps.refl _) s1 h⟩

/-! ### targets -/
theorem PostG.shift {K : PySem.W.Frag} {mg : Str → Option Value} {io : List Nat} {σ σ1 : St} {I H I1 H1 : Hp} {F F1 : Pd} {Q : St → Hp → Prop} {r : R Unit} (k : Keeps io σ σ1) (s : Stp I H F I1 H1 F1) (h : PostG K mg io σ I H F Q r) : PostG K mg io σ1 I1 H1 F1 Q r := by
  cases r with
  | ok r ρ' => exact fun σ' H' I' φ' k' t => h σ' H' I' φ' (k.trans k') (s.trans t)
  | exc c ρ' => exact h
  | stuck => exact h
theorem Tm.past {K : PySem.W.Frag} {mg : Str → Option Value} {I H I1 H1 : Hp} {F S : Pd} {φ1 : Ph} {os : List O} {vs : List V} (s : Stp I H F I1 H1 (al φ1)) (nf : ∀ x, S x → ¬ F x) (dj : ∀ x, S x → I x = Option.none) (th : ∀ x, S x → H x ≠ Option.none)
    (w : Owns K mg I H os vs S) : Tm I1 H1 φ1 S ∧ Owns K mg I1 H1 os vs S := by
  have tk : ∀ a, S a → ∃ o, H a = some o := fun a g => Option.ne_none_iff_exists'.mp (th a g)
  refine ⟨⟨fun a q => ?_, fun a q => ?_, fun i a q z => ?_⟩, w.step (RdLe.of s.li) fun a u g e => s.kp a u e (nf a g)⟩
  · cases e : I1 a with
    | none => rfl
    | some o =>
      obtain ⟨o', e'⟩ := tk a q
      rcases s.fi a o e with z | z | z
      · rw [dj a q] at z; cases z
      · exact absurd z (nf a q)
      · rw [e'] at z; cases z
  · obtain ⟨o, e⟩ := tk a q
    rw [s.kp a o e (nf a q)]
    exact Option.some_ne_none o
  · obtain ⟨o', e'⟩ := tk a q
    rcases s.fr a ⟨i, z⟩ with y | y
    · exact nf a q y
    · rw [e'] at y; cases y
def notIn (n : Nat) (vs : List Nat) : List Nat := (List.range n).filter fun i => !vs.contains i
theorem not_notIn {n i : Nat} {vs : List Nat} (h : i ∈ vs) : i ∉ notIn n vs := fun z => by
  unfold notIn at z
  rw [List.mem_filter] at z
  have := z.2
  simp [h] at this
theorem keeps_set {io : List Nat} {σ : St} {i : Nat} {v : Option V} (hi : i ∉ io) : Keeps io σ (σ.set i v) := ⟨List.length_set, fun j hj => List.getElem?_set_ne (fun z => hi (by rw [z]; exact hj))⟩
theorem eg_nm (i : Nat) {x : Str} (hN : X.N.Nodup) (hi : X.N[i]? = some x := by rfl) (hx : Loc X.env.scope x := by first | exact Or.inl rfl | exact Or.inr rfl) (hio : i ∉ io := by first | decide | exact not_notIn (by decide))
    (hf : X.fn x = true ∨ X.env.scope.names.lookup x = some .local := by first | exact .inl rfl | exact .inr rfl | assumption) : EG X io (.Name x pos) (G.nm i) := by
  refine ⟨fun pins s σ H v u Q I r h => ?_⟩
  obtain ⟨ρ, I', φ, o, G, gd, tm, w, h⟩ := h
  refine (pg_name hN hi hx hf).run pins s σ H v u Q I r ?_
  have hσ : i < σ.length := by rw [I.len]; exact (List.getElem?_eq_some_iff.mp hi).1
  refine h (σ.set i (some v)) H I' (setP φ i G) (keeps_set hio) (Stp.refl fun a z => (al_setP z).symm) (gd.upd tm.dj tm.th (fun j a g _ => tm.sp j a g) (fun j hj => List.getElem?_set_ne (Ne.symm hj)) fun _ _ => ⟨v, List.getElem?_set_self hσ, w⟩)
theorem egs_nil : EGs X io [] G.nil := by
  refine ⟨fun pins s σ H vs us Q I r ⟨ρ, I', φ, os, G, gd, tm, w, h⟩ => ?_⟩
  refine pgs_nil.run pins s σ H vs us Q I r ?_
  cases w with
  | nil => exact ⟨rfl, h σ H I' φ (Keeps.refl _) (Stp.refl fun _ => .inl) gd⟩
  | cons _ _ _ _ _ => exact h.elim
theorem egs_cons {ts : List Expr} {g : O → M Unit} {g2 : List O → M Unit} (h1 : EG X io e g) (h2 : EGs X io ts g2)
    (hs : (assignEach (e :: ts) X.env).map (·.2) = assign e X.env :: (assignEach ts X.env).map (·.2) := by rfl) : EGs X io (e :: ts) (G.cons g g2) := by
  refine ⟨fun pins s σ H vs us Q I r ⟨ρ, I', φ, os, G, gd, tm, w, h⟩ => ?_⟩
  refine (pgs_cons h1 h2 hs).run pins s σ H vs us Q I r ?_
  cases w with
  | nil => exact h.elim
  | @cons o os' v vs' _ S1 S2 a b c d dis =>
    refine ⟨v, vs', rfl, ρ, I', φ, o, S1, gd, tm.mono c, a, ?_⟩
    change PostG X.K X.mg io σ I' H (orP (al φ) G) Q ((EV.G.cons g g2) (o :: os') ρ) at h
    unfold EV.G.cons M.bind at h
    simp only at h
    cases e : g o ρ with
    | stuck => rw [e] at h; exact h.elim
    | exc n ρ1 => rw [e] at h; exact h.elim
    | ok _ ρ1 =>
      rw [e] at h
      intro σ1 H1 I1 φ1 k s1 gd1
      have nf : ∀ x, S2 x → ¬ orP (al φ) S1 x := fun x q z => z.elim (fun ⟨i, y⟩ => tm.sp i x (d x q) y) fun y => dis x y q
      obtain ⟨t2, w2⟩ := Tm.past s1 nf (fun x q => tm.dj x (d x q)) (fun x q => tm.th x (d x q)) b
      refine ⟨ρ1, I1, φ1, os', S2, gd1, t2, w2, ?_⟩
      have s2 : Stp I' H (orP (al φ) G) I1 H1 (orP (al φ1) S2) := by
        have s3 := (s1.frame (G := S2) fun x q => tm.th x (d x q)).from (F2 := orP (al φ) G) fun x z => by
          rcases z with (z | z) | z
          · exact .inl z
          · exact .inr (c x z)
          · exact .inr (d x z)
        exact s3
      exact PostG.shift k s2 h
theorem eg_tup {es : List Expr} {k : Nat} {g : List O → M Unit} {n : Nat} (hc : X.calm = true) (hg : EGs X io es g)
    (hn : (assignEach es X.env).length = n := by rfl) (hst : (assignEach es X.env).findIdx? (·.1) = none := by rfl) : EG X io (.Tuple es k pos) (G.tup n g) := by
  refine ⟨fun pins s σ H v u Q I r ⟨ρ, I', φ, o, G, gd, tm, w, h⟩ => ?_⟩
  refine (pg_tup hc hg hn hst).run pins s σ H v u Q I r ?_
  unfold EV.G.tup at h
  cases e : EV.G.titems o with
  | none => rw [e] at h; exact h.elim
  | some os =>
    rw [e] at h
    simp only at h
    by_cases z : os.length = n
    · rw [if_pos z] at h
      obtain ⟨a, vs, rfl, q, ws⟩ := w.titems e
      exact ⟨a, vs, rfl, SqT.of (gd.le _ _ q), by rw [ws.len]; exact z, ρ, I', φ, os, G, gd, tm, ws, h⟩
    · rw [if_neg z] at h; exact h.elim
theorem eg_lst {es : List Expr} {k : Nat} {g : List O → M Unit} {n : Nat} (hc : X.calm = true) (hg : EGs X io es g)
    (hn : (assignEach es X.env).length = n := by rfl) (hst : (assignEach es X.env).findIdx? (·.1) = none := by rfl) : EG X io (.Tuple es k pos) (G.lst n g) := by
  refine ⟨fun pins s σ H v u Q I r ⟨ρ, I', φ, o, G, gd, tm, w, h⟩ => ?_⟩
  refine (pg_lst hc hg hn hst).run pins s σ H v u Q I r ?_
  unfold EV.G.lst at h
  cases e : EV.G.litems o with
  | none => rw [e] at h; exact h.elim
  | some os =>
    rw [e] at h
    simp only at h
    by_cases z : os.length = n
    · rw [if_pos z] at h
      obtain ⟨a, vs, rfl, q, ws⟩ := w.litems gd.le e
      exact ⟨a, vs, rfl, SqL.of q, by rw [ws.len]; exact z, ρ, I', φ, os, G, gd, tm, ws, h⟩
    · rw [if_neg z] at h; exact h.elim
/-- target = value -/
theorem asg_read {g : O → M Unit} {D : Ends} {σ : St} {H : Hp} (h : rdS X.K X.mg W io (S.asg f g) D σ H) : tAsg (rdE X.K X.mg W f) (rdG X.K X.mg io g) D σ H := by
  obtain ⟨ρ, I, φ, gd, h⟩ := h
  refine bindE (P := PostS X.K X.mg W io σ I H (al φ) D) gd h (fun _ _ z => z.exc) (fun z => z) fun x ρ1 _ h v1 H1 I1 φ1 G1 s1 gd1 t1 w1 => ?_
  refine ⟨ρ1, I1, φ1, x, G1, gd1, t1, w1, ?_⟩
  have h' := PostS.shift (Keeps.refl _) s1 h
  cases e : g x ρ1 with
  | stuck => rw [e] at h'; exact h'.elim
  | exc n ρ2 => rw [e] at h'; exact h'.elim
  | ok _ ρ2 => rw [e] at h'; exact fun σ' H' I' φ' k s g => h' σ' H' I' φ' k s g
theorem es_asg {tg : Expr} {g : O → M Unit} (he : EE X W e f) (hg : EG X io tg g) (hs : swapsWithSole [tg] e pos.line X.env = pure false := by rfl) (hw : swappedStores [tg] e X.env = pure none := by rfl)
    (h1 : (assignEach [tg] X.env).map (·.2) = [assign tg X.env] := by rfl) : ES X W io (.Assign [tg] e pos) (S.asg f g) :=
  PS.weak (ps_asg he hg hs hw h1) fun _ _ _ h => asg_read h
end
end EV

/-! The layer EV, part E: what is walked; for, while, comprehensions. -/
namespace EV
open PySem PySem.Spec PyProof.Rows L2

/-- J walks ds, as long as what is in I stands -/
structure IsWalk (K : PySem.W.Frag) (J : It) (ds : List D) (I : Hp) : Prop where
  go : ∀ H2 I2 i, Same I I2 → Same I2 H2 → i < ds.length → J.go i H2
  stop : ∀ H2 I2, Same I I2 → Same I2 H2 → J.stop ds.length H2
  yld : ∀ H2 I2 i x H3 d, Same I I2 → Same I2 H2 → ds[i]? = some d → J.yld i H2 x H3 → ∃ I3, Same I2 I3 ∧ Same I3 H3 ∧ Same H2 H3 ∧ (∀ a o, I3 a = some o → I2 a = some o ∨ H2 a = none) ∧ Den K I3 d x
section
variable (K : PySem.W.Frag) (mg : Str → Option Value) (W : WX)
def PostI (σ : St) (I H : Hp) (F : Pd) (R' : It → Hp → Prop) : R (List D) → Prop
  | .ok ds ρ' => ∀ (J : It) (H' I' : Hp) (φ' : Ph), Stp I H F I' H' (al φ') → Gd K mg I' H' φ' ρ' σ → IsWalk K J ds I' → R' J H'
  | .exc c ρ' => PostX K mg W σ I H F c ρ'
  | .stuck => False
def rdI (f : M (List D)) : TI := fun σ H R' => ∃ ρ I φ, Gd K mg I H φ ρ σ ∧ PostI K mg W σ I H (al φ) R' (f ρ)
end
abbrev EI (X : Cx) (W : WX) (tg it : Expr) (f : M (List D)) : Prop := PI X tg it (rdI X.K X.mg W f)
section
variable {K : PySem.W.Frag} {mg : Str → Option Value} {W : WX} {I H : Hp} {φ : Ph} {ρ : Env} {σ : St}
theorem Gd.grow {I3 H3 : Hp} (gd : Gd K mg I H φ ρ σ) (h1 : Same I I3) (h2 : Same I3 H3) (h3 : Same H H3) (h4 : ∀ a o, I3 a = some o → I a = some o ∨ H a = none) : Gd K mg I3 H3 φ ρ σ ∧ ∀ F : Pd, (∀ a, al φ a → F a) → Stp I H F I3 H3 (al φ) := by
  refine ⟨⟨h2, fun i a q => ?_, fun i a q e => ?_, gd.sep, fun i o e n => ?_⟩, fun F hf => ⟨h1, fun a o e _ => h3 a o e, fun a q => .inl (hf a q), fun a o e => (h4 a o e).imp id .inr⟩⟩
  · cases e : I3 a with
    | none => rfl
    | some o =>
      rcases h4 a o e with z | z
      · rw [gd.dj i a q] at z; cases z
      · exact (gd.th i a q z).elim
  · obtain ⟨o, h⟩ := Option.ne_none_iff_exists'.mp (gd.th i a q)
    rw [h3 a o h] at e; cases e
  · obtain ⟨v, e1, w⟩ := gd.sl i o e n
    exact ⟨v, e1, w.step (RdLe.of h1) fun a u _ q => h3 a u q⟩
end
def loopF (g : O → M Unit) (fb : M Fl) : List D → M Fl
  | [] => M.ret .nx
  | x :: xs => fun ρ => match g (.d x) ρ with
    | .ok _ ρ1 => (match fb ρ1 with
      | .ok .nx ρ2 => loopF g fb xs ρ2
      | .ok .cnt ρ2 => loopF g fb xs ρ2
      | .ok .brk ρ2 => .ok .nx ρ2
      | r => r)
    | _ => .stuck
def loopW (t : M Bool) (fb : M Fl) : Nat → M Fl
  | 0 => M.fail
  | n + 1 => t.bind fun b => if b then (fun ρ => match fb ρ with
      | .ok .nx ρ2 => loopW t fb n ρ2
      | .ok .cnt ρ2 => loopW t fb n ρ2
      | .ok .brk ρ2 => .ok .nx ρ2
      | r => r) else M.ret .nx
def S.for (f : M (List D)) (g : O → M Unit) (fb : M Fl) : M Fl := f.bind fun ds => loopF g fb ds
def S.while (t : M Bool) (fb : M Fl) (n : Nat) : M Fl := loopW t fb n
section
variable {X : Cx} {W : WX} {io : List Nat} {tg iter e : Expr} {body : List Stmt} {f : M (List D)} {g : O → M Unit} {fb : M Fl} {t : M Bool} {pos : Pos}
theorem drop_cons {α : Type} {l : List α} {i : Nat} (h : i < l.length) : l.drop i = l[i] :: l.drop (i + 1) := by
  rw [← List.getElem_cons_drop h]
theorem es_for (hp : PassesOwn (model X.prog X.w) X.A X.env X.xe) (hc : X.calm = true) (hi : EI X W tg iter f) (hg : EG X io tg g) (hb : EB X W io body fb)
    (hs : ∀ x, foldedSetIterable iter X.env x = pure x := by intro _; rfl) : ES X W io (.For tg iter body [] pos) (S.for f g fb) := by
  refine PS.weak (ps_for hp hc hi hg hb hs) fun D σ H ⟨ρ, I, φ, gd, h⟩ => ⟨ρ, I, φ, gd, ?_⟩
  unfold S.for M.bind at h
  cases e : f ρ with
  | stuck => rw [e] at h; exact h
  | exc c ρ1 => rw [e] at h; exact h.exc
  | ok ds ρ1 =>
    rw [e] at h
    intro J H1 I1 φ1 s1 gd1 wk
    refine ⟨fun i m σ2 H2 => m = ds.length - i ∧ i ≤ ds.length ∧ ∃ ρ2 I2 φ2, Gd X.K X.mg I2 H2 φ2 ρ2 σ2 ∧ Same I1 I2 ∧ PostS X.K X.mg W io σ2 I2 H2 (al φ2) D (loopF g fb (ds.drop i) ρ2),
      ⟨_, rfl, Nat.zero_le _, ρ1, I1, φ1, gd1, Same.refl _, PostS.shift (Keeps.refl _) s1 h⟩, ?_⟩
    rintro i m σ2 H2 ⟨rfl, hi, ρ2, I2, φ2, gd2, le, h2⟩
    by_cases hlt : i < ds.length
    · rw [drop_cons hlt] at h2
      refine .inr ⟨wk.go H2 I2 i le gd2.le hlt, _, fun σ' H' q => q, fun x H3 y => ?_⟩
      obtain ⟨I3, a1, a2, a3, a4, den⟩ := wk.yld H2 I2 i x H3 _ le gd2.le (List.getElem?_eq_getElem hlt) y
      obtain ⟨gd3, st3⟩ := gd2.grow a1 a2 a3 a4
      have s3 := st3 (al φ2) fun _ q => q
      refine ⟨ρ2, I3, φ2, .d ds[i], noP, gd3, Tm.none, .d den, ?_⟩
      have h3 := PostS.shift (Keeps.refl _) s3 h2
      unfold loopF at h3
      cases eg : g (.d ds[i]) ρ2 with
      | stuck => rw [eg] at h3; exact h3
      | exc c ρ4 => rw [eg] at h3; exact h3.elim
      | ok _ ρ4 =>
        rw [eg] at h3
        intro σ4 H4 I4 φ4 k4 s4 gd4
        have s4' : Stp I3 H3 (al φ2) I4 H4 (al φ4) := s4.from fun a q => q.elim id False.elim
        refine ⟨ρ4, I4, φ4, gd4, ?_⟩
        have h4 := PostS.shift k4 s4' h3
        simp only at h4
        have again : ∀ ρ5, PostS X.K X.mg W io σ4 I4 H4 (al φ4) D (loopF g fb (ds.drop (i + 1)) ρ5) → ∀ (σ' : St) (H' I' : Hp) (φ' : Ph), Keeps io σ4 σ' → Stp I4 H4 (al φ4) I' H' (al φ') → Gd X.K X.mg I' H' φ' ρ5 σ' →
            ∃ m', m' < ds.length - i ∧ (m' = ds.length - (i + 1) ∧ i + 1 ≤ ds.length ∧ ∃ ρ2 I2 φ2, Gd X.K X.mg I2 H' φ2 ρ2 σ' ∧ Same I1 I2 ∧ PostS X.K X.mg W io σ' I2 H' (al φ2) D (loopF g fb (ds.drop (i + 1)) ρ2)) :=
          fun ρ5 hq σ' H' I' φ' k s gd5 => ⟨_, by omega, rfl, hlt, ρ5, I', φ', gd5, ((le.trans a1).trans s4.li).trans s.li, PostS.shift k s hq⟩
        cases ef : fb ρ4 with
        | stuck => rw [ef] at h4; exact h4
        | exc c ρ5 => rw [ef] at h4; exact h4
        | ok r ρ5 =>
          rw [ef] at h4
          cases r with
          | nx => exact again ρ5 h4
          | cnt => exact again ρ5 h4
          | brk => exact fun σ' H' I' φ' k s gd5 => h4 σ' H' I' φ' k s gd5
          | ret r => exact h4
    · have ei : i = ds.length := by omega
      subst ei
      rw [List.drop_length] at h2
      exact .inl ⟨wk.stop H2 I2 le gd2.le, h2 σ2 H2 I2 φ2 (Keeps.refl _) (Stp.refl fun _ z => z) gd2⟩
theorem es_while (n : Nat) (hp : PassesOwn (model X.prog X.w) X.A X.env X.xe) (hc : ET X W e t) (hb : EB X W io body fb) : ES X W io (.While e body [] pos) (S.while t fb n) := by
  refine PS.weak (ps_while hp hc hb) fun D σ H ⟨ρ, I, φ, gd, h⟩ => ?_
  refine ⟨fun m σ H => ∃ ρ I φ, Gd X.K X.mg I H φ ρ σ ∧ PostS X.K X.mg W io σ I H (al φ) D (loopW t fb m ρ), ⟨n, ρ, I, φ, gd, h⟩, ?_⟩
  rintro m σ1 H1 ⟨ρ1, I1, φ1, gd1, h1⟩
  cases m with
  | zero => exact h1.elim
  | succ m =>
    refine bindT (P := PostS X.K X.mg W io σ1 I1 H1 (al φ1) D) gd1 h1 (fun _ _ z => z.exc) (fun z => z) fun x ρ2 _ h2 H2 I2 φ2 s2 gd2 => ?_
    have h3 := PostS.shift (Keeps.refl _) s2 h2
    cases x with
    | false => rw [if_neg Bool.false_ne_true] at h3 ⊢; exact h3 σ1 H2 I2 φ2 (Keeps.refl _) (Stp.refl fun _ z => z) gd2
    | true =>
      rw [if_pos rfl] at h3 ⊢
      refine ⟨fun σ' H' => ∃ ρ I φ, Gd X.K X.mg I H' φ ρ σ' ∧ PostS X.K X.mg W io σ' I H' (al φ) D (loopW t fb m ρ), fun σ' H' q => ⟨m, Nat.lt_succ_self m, q⟩, ρ2, I2, φ2, gd2, ?_⟩
      cases ef : fb ρ2 with
      | stuck => rw [ef] at h3; exact h3
      | exc c ρ5 => rw [ef] at h3; exact h3
      | ok r ρ5 =>
        rw [ef] at h3
        cases r with
        | nx => exact fun σ' H' I' φ' k s gd5 => ⟨ρ5, I', φ', gd5, PostS.shift k s h3⟩
        | cnt => exact fun σ' H' I' φ' k s gd5 => ⟨ρ5, I', φ', gd5, PostS.shift k s h3⟩
        | brk => exact h3
        | ret r => exact h3
end

/-! ### comprehensions -/
def wipeE (ρ : Env) : List Nat → Env
  | [] => ρ
  | v :: vs => (wipeE ρ vs).set v .un
def backE (ρ ρ' : Env) : List Nat → Env
  | [] => ρ'
  | v :: vs => (backE ρ ρ' vs).set v (ρ.getD v .un)
def calmE (ρ : Env) (vs : List Nat) : Bool := vs.all fun v => match ρ.getD v .un with
  | .un => true
  | .d _ => true
  | _ => false
def lcF (vs : List Nat) (g : O → M Unit) (t : M Bool) (f : M O) : List D → List O → M (List O)
  | [], acc => M.ret acc
  | x :: xs, acc => fun ρ => match g (.d x) ρ with
    | .ok _ ρ1 => (match t ρ1 with
      | .ok true ρ2 => (match f ρ2 with
        | .ok y ρ3 => if acc.length < 1000000 then lcF vs g t f xs (acc ++ [y]) (wipeE ρ3 vs) else .stuck
        | _ => .stuck)
      | .ok false ρ2 => lcF vs g t f xs acc (wipeE ρ2 vs)
      | _ => .stuck)
    | _ => .stuck
def T.yes : M Bool := M.ret true
def E.lc (vs : List Nat) (fi : M (List D)) (g : O → M Unit) (t : M Bool) (f : M O) : M O := fi.bind fun ds => fun ρ =>
  if calmE ρ vs then (match lcF vs g t f ds [] (wipeE ρ vs) with
    | .ok acc ρ' => .ok (.lst acc) (backE ρ ρ' vs)
    | _ => .stuck) else .stuck
abbrev W0 : WX := fun _ _ _ _ => False
section
variable {σ σ' : St} {vs : List Nat}
theorem wipe_in {i : Nat} (hi : i < σ.length) : ∀ {vs : List Nat}, i ∈ vs → (wipe σ vs)[i]? = some none
  | v :: vs, h => by
    unfold wipe
    by_cases z : i = v
    · subst z; rw [List.getElem?_set_self (by rw [wipe_length]; exact hi)]
    · rw [List.getElem?_set_ne (Ne.symm z)]
      exact wipe_in hi ((List.mem_cons.mp h).resolve_left z)
theorem wipe_keep (k : Keeps (notIn σ.length vs) (wipe σ vs) σ') : wipe σ' vs = wipe σ vs := by
  have hl : σ'.length = σ.length := by rw [k.len, wipe_length]
  apply List.ext_getElem?
  intro i
  by_cases hi : i < σ.length
  · by_cases hv : i ∈ vs
    · rw [wipe_in hi hv, wipe_in (by rw [hl]; exact hi) hv]
    · rw [wipe_out hv, k.at_ i (by unfold notIn; simp [hi, hv])]
  · rw [List.getElem?_eq_none (by rw [wipe_length, hl]; omega), List.getElem?_eq_none (by rw [wipe_length]; omega)]
theorem wipeE_in {ρ : Env} {i : Nat} {o : O} : ∀ {vs : List Nat}, i ∈ vs → (wipeE ρ vs)[i]? = some o → o = .un
  | v :: vs, h, e => by
    unfold wipeE at e
    by_cases z : i = v
    · subst z
      rw [List.getElem?_set] at e
      simp only [if_true] at e
      split at e
      · exact (Option.some.inj e).symm
      · cases e
    · rw [List.getElem?_set_ne (Ne.symm z)] at e
      exact wipeE_in ((List.mem_cons.mp h).resolve_left z) e
theorem wipeE_out {ρ : Env} {i : Nat} : ∀ {vs : List Nat}, i ∉ vs → (wipeE ρ vs)[i]? = ρ[i]?
  | [], _ => rfl
  | v :: vs, h => by
    unfold wipeE
    rw [List.getElem?_set_ne (fun z => h (by rw [z]; exact List.mem_cons_self))]
    exact wipeE_out fun z => h (List.mem_cons_of_mem _ z)
theorem backE_out {ρ ρ' : Env} {i : Nat} : ∀ {vs : List Nat}, i ∉ vs → (backE ρ ρ' vs)[i]? = ρ'[i]?
  | [], _ => rfl
  | v :: vs, h => by
    unfold backE
    rw [List.getElem?_set_ne (fun z => h (by rw [z]; exact List.mem_cons_self))]
    exact backE_out fun z => h (List.mem_cons_of_mem _ z)
theorem backE_in {ρ ρ' : Env} {i : Nat} {o : O} : ∀ {vs : List Nat}, i ∈ vs → (backE ρ ρ' vs)[i]? = some o → o = ρ.getD i .un
  | v :: vs, h, e => by
    unfold backE at e
    by_cases z : i = v
    · subst z
      rw [List.getElem?_set] at e
      simp only [if_true] at e
      split at e
      · exact (Option.some.inj e).symm
      · cases e
    · rw [List.getElem?_set_ne (Ne.symm z)] at e
      exact backE_in ((List.mem_cons.mp h).resolve_left z) e
variable {K : PySem.W.Frag} {mg : Str → Option Value} {I H : Hp} {φ : Ph} {ρ : Env}
/-- into the block -/
theorem Gd.wipe (gd : Gd K mg I H φ ρ σ) : Gd K mg I H (fun i => if i ∈ vs then noP else φ i) (wipeE ρ vs) (L2.wipe σ vs) := by
  refine ⟨gd.le, fun i a q => ?_, fun i a q => ?_, fun i j a q r => ?_, fun i o e n => ?_⟩
  · split at q
    · exact q.elim
    · exact gd.dj i a q
  · split at q
    · exact q.elim
    · exact gd.th i a q
  · split at q
    · exact q.elim
    · split at r
      · exact r.elim
      · exact gd.sep i j a q r
  · by_cases hv : i ∈ vs
    · exact (n (wipeE_in hv e)).elim
    · rw [wipeE_out hv] at e
      obtain ⟨v, e1, w⟩ := gd.sl i o e n
      rw [if_neg hv]
      exact ⟨v, by rw [wipe_out hv]; exact e1, w⟩
/-- and back -/
theorem Gd.unwipe {ρ' : Env} {I' H' : Hp} {φ' : Ph} (gd : Gd K mg I H φ ρ σ) (li : Same I I') (hc : calmE ρ vs = true) (gd' : Gd K mg I' H' φ' ρ' (L2.wipe σ vs)) :
    Gd K mg I' H' (fun i => if i ∈ vs then noP else φ' i) (backE ρ ρ' vs) σ := by
  refine ⟨gd'.le, fun i a q => ?_, fun i a q => ?_, fun i j a q r => ?_, fun i o e n => ?_⟩
  · split at q
    · exact q.elim
    · exact gd'.dj i a q
  · split at q
    · exact q.elim
    · exact gd'.th i a q
  · split at q
    · exact q.elim
    · split at r
      · exact r.elim
      · exact gd'.sep i j a q r
  · by_cases hv : i ∈ vs
    · have eo := backE_in hv e
      have c := List.all_eq_true.mp hc i hv
      rw [← eo] at c
      cases o with
      | un => exact (n rfl).elim
      | d x =>
        have e2 : ρ[i]? = some (.d x) := by
          rw [List.getD_eq_getElem?_getD] at eo
          cases q : ρ[i]? with
          | none => rw [q] at eo; cases eo
          | some o => rw [q] at eo; rw [eo]; rfl
        obtain ⟨v, e1, w⟩ := gd.sl i _ e2 n
        cases w with
        | d q => exact ⟨v, e1, .d (q.mono (RdLe.of li))⟩
      | lst _ => cases c
      | tup _ => cases c
      | dic _ => cases c
      | obj _ _ => cases c
      | exn _ => cases c
      | scr _ => cases c
      | kst _ => cases c
      | dicT _ => cases c
    · rw [backE_out hv] at e
      obtain ⟨v, e1, w⟩ := gd'.sl i o e n
      rw [if_neg hv]
      rw [wipe_out hv] at e1
      exact ⟨v, e1, w⟩
end

section
variable {K : PySem.W.Frag} {mg : Str → Option Value} {I H : Hp} {φ : Ph} {ρ : Env} {σ : St}
theorem Owns.snoc {o : O} {v : V} {G2 : Pd} : ∀ {os : List O} {vs : List V} {G1 : Pd}, Owns K mg I H os vs G1 → Own K mg I H o v G2 → (∀ a, G1 a → ¬ G2 a) → Owns K mg I H (os ++ [o]) (vs ++ [v]) (orP G1 G2)
  | _, _, _, .nil, w, _ => .cons (S2 := noP) w .nil (fun _ => .inr) (fun _ q => q.elim) (fun _ _ q => q)
  | _, _, _, .cons a b c d e, w, dis => .cons a (Owns.snoc b w fun x q => dis x (d x q)) (fun x q => .inl (c x q)) (fun x q => q.elim (fun z => .inl (d x z)) .inr) (fun x q z => z.elim (e x q) (dis x (c x q)))
/-- an object that is in no slot changes -/
theorem Gd.other {p : Addr} {o : HO} (gd : Gd K mg I H φ ρ σ) (hI : I p = none) (hφ : ∀ i, ¬ φ i p) : Gd K mg I (L2.upd H p o) φ ρ σ :=
  ⟨fun a u e => by
      rw [upd_ne (fun z => by rw [z, hI] at e; cases e)]; exact gd.le a u e,
    gd.dj, (fun i a q => by rw [upd_ne (fun z => hφ i (by rw [← z]; exact q))]; exact gd.th i a q), gd.sep, (fun i x e n => by
      obtain ⟨v, e1, w⟩ := gd.sl i x e n
      exact ⟨v, e1, w.step (RdLe.of (Same.refl _)) fun a u s q => by rw [upd_ne (fun z => hφ i (by rw [← z]; exact s))]; exact q⟩)⟩
end
section
variable {X : Cx} {W : WX} {vs : List Nat} {fi : M (List D)} {g : O → M Unit} {t : M Bool} {f : M O}
theorem lc_read {σ : St} {H : Hp} {Q : VK} (hσ : σ.length = X.N.length) (h : rdE X.K X.mg W (E.lc vs fi g t f) σ H Q) :
    tLc (rdI X.K X.mg W fi) (rdG X.K X.mg (notIn X.N.length vs) g) (rdT X.K X.mg W0 t) (rdE X.K X.mg W0 f) vs σ H Q := by
  obtain ⟨ρ, I, φ, gd, h⟩ := h
  refine ⟨ρ, I, φ, gd, ?_⟩
  unfold E.lc M.bind at h
  cases e : fi ρ with
  | stuck => rw [e] at h; exact h
  | exc c ρ1 => rw [e] at h; exact h
  | ok ds ρ1 =>
    rw [e] at h
    intro J H1 I1 φ1 s1 gd1 wk Dd hD
    have h' := PostE.shift s1 h
    simp only at h'
    by_cases hc : calmE ρ1 vs = true
    · rw [if_pos hc] at h'
      cases er : lcF vs g t f ds [] (wipeE ρ1 vs) with
      | stuck => rw [er] at h'; exact h'.elim
      | exc c ρF => rw [er] at h'; exact h'.elim
      | ok accF ρF =>
        rw [er] at h'
        refine ⟨fun i m H2 => m = ds.length - i ∧ i ≤ ds.length ∧ ∃ ρ2 I2 φ2 acc vacc GA, Gd X.K X.mg I2 H2 φ2 ρ2 (wipe σ vs) ∧ Same I1 I2 ∧ H2 Dd = some (.lst vacc) ∧ Owns X.K X.mg I2 H2 acc vacc GA ∧
            Tm I2 H2 φ2 (orP GA fun a => a = Dd) ∧ ¬ GA Dd ∧ Stp I1 H1 (al φ1) I2 H2 (orP (al φ2) (orP GA fun a => a = Dd)) ∧ lcF vs g t f (ds.drop i) acc ρ2 = .ok accF ρF,
          ⟨_, rfl, Nat.zero_le _, wipeE ρ1 vs, I1, fun i => if i ∈ vs then noP else φ1 i, [], [], noP, (gd1.wipe).new hD, Same.refl _, upd_same, .nil, ⟨fun a q => ?_, fun a q => ?_, fun i a q z => ?_⟩, fun z => z, Stp.new hD fun a q => ?_, er⟩, ?_⟩
        · rcases q with q | q
          · exact q.elim
          · rw [q]; exact gd1.free hD
        · rcases q with q | q
          · exact q.elim
          · rw [q, upd_same]; exact Option.some_ne_none _
        · rcases q with q | q
          · exact q.elim
          · split at z
            · exact z
            · rw [q] at z; exact gd1.th i _ z hD
        · rcases q with ⟨i, q⟩ | q | q
          · split at q
            · exact q.elim
            · exact .inl ⟨i, q⟩
          · exact q.elim
          · exact .inr q
        rintro i m H2 ⟨rfl, hi, ρ2, I2, φ2, acc, vacc, GA, gd2, le, hDd, wA, tA, nA, st, hr⟩
        by_cases hlt : i < ds.length
        · rw [drop_cons hlt] at hr
          refine .inr ⟨wk.go H2 I2 i le gd2.le hlt, _, fun H' q => q, fun x H3 y => ?_⟩
          obtain ⟨I3, a1, a2, a3, a4, den⟩ := wk.yld H2 I2 i x H3 _ le gd2.le (List.getElem?_eq_getElem hlt) y
          obtain ⟨gd3, st3⟩ := gd2.grow a1 a2 a3 a4
          have tA3 : Tm I3 H3 φ2 (orP GA fun a => a = Dd) := by
            refine ⟨fun a q => ?_, fun a q z => ?_, tA.sp⟩
            · cases ea : I3 a with
              | none => rfl
              | some o =>
                rcases a4 a o ea with z | z
                · rw [tA.dj a q] at z; cases z
                · exact (tA.th a q z).elim
            · obtain ⟨o, ho⟩ := Option.ne_none_iff_exists'.mp (tA.th a q)
              rw [a3 a o ho] at z; cases z
          have st3' : Stp I1 H1 (al φ1) I3 H3 (orP (al φ2) (orP GA fun a => a = Dd)) := st.trans ((st3 (al φ2) fun _ q => q).frame (G := orP GA fun a => a = Dd) tA.th)
          have wA3 : Owns X.K X.mg I3 H3 acc vacc GA := wA.step (RdLe.of a1) fun a u _ q => a3 a u q
          have hD3 : H3 Dd = some (.lst vacc) := a3 _ _ hDd
          unfold lcF at hr
          refine ⟨ρ2, I3, φ2, .d ds[i], noP, gd3, Tm.none, .d den, ?_⟩
          cases eg : g (.d ds[i]) ρ2 with
          | stuck => rw [eg] at hr; cases hr
          | exc c ρ4 => rw [eg] at hr; cases hr
          | ok _ ρ4 =>
            rw [eg] at hr
            intro σ4 H4 I4 φ4 k4 s4 gd4
            have s4' : Stp I3 H3 (al φ2) I4 H4 (al φ4) := s4.from fun a q => q.elim id False.elim
            have hw : wipe σ4 vs = wipe σ vs := wipe_keep (by rw [hσ]; exact k4)
            refine ⟨hw, ρ4, I4, φ4, gd4, ?_⟩
            have tA4 := (tA3.step (G' := noP) (s4'.sub fun a q => q.elim id False.elim) Tm.none).1.mono (G' := orP GA fun a => a = Dd) fun a => .inl
            have wA4 : Owns X.K X.mg I4 H4 acc vacc GA := (tA3.mono fun a => .inl).owns s4' wA3
            have hD4 : H4 Dd = some (.lst vacc) := s4'.kp _ _ hD3 fun ⟨j, z⟩ => tA3.sp j Dd (.inr rfl) z
            have st4 := st3'.trans (s4'.frame (G := orP GA fun a => a = Dd) tA3.th)
            simp only at hr
            cases et : t ρ4 with
            | stuck => rw [et] at hr; cases hr
            | exc c ρ5 => rw [et] at hr; cases hr
            | ok b ρ5 =>
              rw [et] at hr
              intro H5 I5 φ5 s5 gd5
              have tA5 := (tA4.step (G' := noP) (s5.sub fun a q => q.elim id False.elim) Tm.none).1.mono (G' := orP GA fun a => a = Dd) fun a => .inl
              have wA5 : Owns X.K X.mg I5 H5 acc vacc GA := (tA4.mono fun a => .inl).owns s5 wA4
              have hD5 : H5 Dd = some (.lst vacc) := s5.kp _ _ hD4 fun ⟨j, z⟩ => tA4.sp j Dd (.inr rfl) z
              have st5 := st4.trans (s5.frame (G := orP GA fun a => a = Dd) tA4.th)
              have li5 : Same I1 I5 := ((le.trans a1).trans s4.li).trans s5.li
              have sm : ∀ (φ : Ph) (a : Addr), al (fun i => if i ∈ vs then noP else φ i) a → al φ a := fun φ a ⟨j, q⟩ => by
                simp only at q
                split at q
                · exact q.elim
                · exact ⟨j, q⟩
              cases b with
              | false =>
                rw [if_neg Bool.false_ne_true]
                simp only at hr
                have gw := gd5.wipe (vs := vs)
                rw [hw] at gw
                refine ⟨ds.length - (i + 1), by omega, rfl, hlt, wipeE ρ5 vs, I5, _, acc, vacc, GA, gw, li5, hD5, wA5, ⟨tA5.dj, tA5.th, fun j a q z => ?_⟩, nA, st5.sub fun a q => q.imp (sm _ a) id, hr⟩
                obtain ⟨j', z'⟩ := sm φ5 a ⟨j, z⟩
                exact tA5.sp j' a q z'
              | true =>
                rw [if_pos rfl]
                simp only at hr
                refine ⟨ρ5, I5, φ5, gd5, ?_⟩
                cases ef : f ρ5 with
                | stuck => rw [ef] at hr; cases hr
                | exc c ρ6 => rw [ef] at hr; cases hr
                | ok y ρ6 =>
                  rw [ef] at hr
                  intro v H6 I6 φ6 G6 s6 gd6 t6 w6
                  simp only at hr
                  split at hr
                  case isFalse => cases hr
                  rename_i hz
                  obtain ⟨tt, dis⟩ := tA5.step s6 t6
                  have wA6 : Owns X.K X.mg I6 H6 acc vacc GA := (tA5.mono fun a => .inl).owns s6 wA5
                  have hD6 : H6 Dd = some (.lst vacc) := s6.kp _ _ hD5 fun ⟨j, z⟩ => tA5.sp j Dd (.inr rfl) z
                  have st6 := st5.trans (s6.frame (G := orP GA fun a => a = Dd) tA5.th)
                  refine ⟨vacc, hD6, by rw [wA6.len, sizeLine_eq]; omega, ?_⟩
                  have iD : I6 Dd = none := tt.dj Dd (.inl (.inr rfl))
                  have gw := gd6.wipe (vs := vs)
                  rw [hw] at gw
                  have nD : ∀ j, ¬ φ6 j Dd := fun j => tt.sp j Dd (.inl (.inr rfl))
                  have gw2 := gw.other (p := Dd) (o := .lst (vacc ++ [v])) iD fun j z => by
                    obtain ⟨j', z'⟩ := sm φ6 Dd ⟨j, z⟩
                    exact nD j' z'
                  have nG : ∀ a, orP GA G6 a → a ≠ Dd := fun a q z => by
                    subst z
                    rcases q with q | q
                    · exact nA q
                    · exact dis _ (.inr rfl) q
                  have w7 : Owns X.K X.mg I6 (upd H6 Dd (.lst (vacc ++ [v]))) (acc ++ [y]) (vacc ++ [v]) (orP GA G6) := (wA6.snoc w6 fun a q => dis a (.inl q)).step (RdLe.of (Same.refl _)) fun a u q z => by rw [upd_ne (nG a q)]; exact z
                  refine ⟨ds.length - (i + 1), by omega, rfl, hlt, wipeE ρ6 vs, I6, _, acc ++ [y], vacc ++ [v], orP GA G6, gw2, li5.trans s6.li, upd_same, w7, ⟨fun a q => ?_, fun a q => ?_, fun j a q z => ?_⟩, fun q => nG _ q rfl, ?_, hr⟩
                  · rcases q with (q | q) | q
                    · exact tt.dj a (.inl (.inl q))
                    · exact tt.dj a (.inr q)
                    · exact tt.dj a (.inl (.inr q))
                  · by_cases z : a = Dd
                    · rw [z, upd_same]; exact Option.some_ne_none _
                    · rw [upd_ne z]
                      rcases q with (q | q) | q
                      · exact tt.th a (.inl (.inl q))
                      · exact tt.th a (.inr q)
                      · exact (z q).elim
                  · obtain ⟨j', z'⟩ := sm φ6 a ⟨j, z⟩
                    rcases q with (q | q) | q
                    · exact tt.sp j' a (.inl (.inl q)) z'
                    · exact tt.sp j' a (.inr q) z'
                    · exact tt.sp j' a (.inl (.inr q)) z'
                  · have s7 : Stp I6 H6 (orP (orP (al φ6) G6) (orP GA fun a => a = Dd)) I6 (upd H6 Dd (.lst (vacc ++ [v]))) (orP (orP (al φ6) G6) (orP GA fun a => a = Dd)) :=
                      ⟨Same.refl _, fun a o e nF => by rw [upd_ne (fun z => nF (.inr (.inr z)))]; exact e, fun a q => .inl q, fun a o e => .inl e⟩
                    refine (st6.trans s7).sub fun a q => ?_
                    rcases q with q | (q | q) | q
                    · exact .inl (.inl (sm φ6 a q))
                    · exact .inr (.inl q)
                    · exact .inl (.inr q)
                    · exact .inr (.inr q)
        · have ei : i = ds.length := by omega
          subst ei
          rw [List.drop_length] at hr
          refine .inl ⟨wk.stop H2 I2 le gd2.le, ?_⟩
          unfold lcF M.ret at hr
          cases hr
          have gu := gd1.unwipe (vs := vs) le hc gd2
          have sm : ∀ a, al (fun i => if i ∈ vs then noP else φ2 i) a → al φ2 a := fun a ⟨j, q⟩ => by
            simp only at q
            split at q
            · exact q.elim
            · exact ⟨j, q⟩
          refine h' (.ref Dd) H2 I2 _ (orP GA fun a => a = Dd) (st.sub fun a q => q.imp (sm a) id) gu ⟨tA.dj, tA.th, fun j a q z => ?_⟩ (.lst hDd (.inr rfl) wA (fun _ => .inl) nA)
          obtain ⟨j', z'⟩ := sm a ⟨j, z⟩
          exact tA.sp j' a q z'
    · rw [if_neg hc] at h'; exact h'.elim
end
end EV

/-! The layer EV, part F: what is walked: lists and tuples, ranges, enumerate, zip. -/
namespace EV
open PySem PySem.Spec PyProof.Rows L2

/-! ### lists and tuples alike -/
inductive SK where
  | l
  | t
def SqA (k : SK) (K : PySem.W.Frag) (H : Hp) (a : Addr) (xs : List V) : Prop := match k with
  | .l => SqL K H a xs
  | .t => SqT K H a xs
def ItAt (k : SK) (h : Heap) (it a : Addr) (i : Nat) : Prop := match k with
  | .l => h.IsListIter it a i
  | .t => h.IsTupleIter it a i
def HSq (k : SK) (h : Heap) (a : Addr) (its : Array Value) : Prop := match k with
  | .l => h.IsList a its
  | .t => h.IsTuple a its
def itO (k : SK) (a : Addr) : Obj := match k with
  | .l => { cls := .type "list_iterator", data := .fields #[.ref a, .int 0 0] }
  | .t => { cls := .type "tuple_iterator", data := .fields #[.ref a, .int 0 0] }
section
variable {X : Cx} {pins : List (Addr × Obj)} {σ : St} {H : Hp} {s : Shared} {k : SK} {a it : Addr} {xs ys : List V}
theorem inv_sq (I : Inv X pins σ H s) (h : SqA k X.K H a xs) : ∃ its : List Value, Vals xs its ∧ HSq k s.heap a its.toArray ∧ xs.length ≤ sizeLine := by
  cases k with
  | l => obtain ⟨its, r, p, z⟩ := I.list h; exact ⟨its, r, p.isList, z⟩
  | t => obtain ⟨its, r, p, z⟩ := I.tuple h; exact ⟨its, r, p, z⟩
theorem inv_sq_inj (I : Inv X pins σ H s) (h : SqA k X.K H a xs) (h' : SqA k X.K H a ys) : xs = ys := by
  cases k with
  | l => exact I.list_inj h h'
  | t => exact I.tuple_inj h h'
theorem HSq.lt {h : Heap} {its : Array Value} (q : HSq k h a its) : a < h.objs.size := by
  cases k with
  | l => obtain ⟨o, e, _⟩ := q; exact Heap.lt_size e
  | t => obtain ⟨o, e, _⟩ := q; exact Heap.lt_size e
theorem ItAt.there {h : Heap} {i : Nat} (q : ItAt k h it a i) : ∃ o, h.get? it = some o ∧ ∀ v, o.data ≠ .cell v := by
  cases k with
  | l => obtain ⟨o, e, _, d⟩ := q; exact ⟨o, e, fun v z => by rw [d] at z; cases z⟩
  | t => obtain ⟨o, e, _, d⟩ := q; exact ⟨o, e, fun v z => by rw [d] at z; cases z⟩
theorem ItAt.at {h h' : Heap} {i : Nat} (q : ItAt k h it a i) (hk : ∀ o, h.get? it = some o → h'.get? it = some o) : ItAt k h' it a i := by
  cases k with
  | l => exact Heap.IsListIter.at q hk
  | t => exact Heap.IsTupleIter.at q hk
theorem HSq.at {h h' : Heap} {its : Array Value} (q : HSq k h a its) (hk : ∀ o, h.get? a = some o → h'.get? a = some o) : HSq k h' a its := by
  cases k with
  | l => exact Heap.IsList.at q hk
  | t => exact Heap.IsTuple.at q hk
theorem ItAt.ne {h : Heap} {i : Nat} {its : Array Value} (q : ItAt k h it a i) (r : HSq k h a its) : a ≠ it := by
  intro z
  subst z
  cases k with
  | l =>
    obtain ⟨o, e, c, d⟩ := q
    obtain ⟨o', e', c', n, d'⟩ := r
    rw [e] at e'; cases e'; rw [d] at d'; cases d'
  | t =>
    obtain ⟨o, e, c, d⟩ := q
    obtain ⟨o', e', c', n, d'⟩ := r
    rw [e] at e'; cases e'; rw [d] at d'; cases d'
theorem draws_sq {prog : Program} {w : World} {A : Around} (hh : A.handled = none) (k : SK) (it a : Addr) (hne : a ≠ it) (items : Array Value) :
    Draws prog w A it [it, a] items.size (fun i v => items[i]? = some v) (fun i h => ItAt k h it a i ∧ HSq k h a items) := by
  cases k with
  | l => exact Draws.list hh it a hne items
  | t => exact Draws.tuple hh it a hne items
theorem begins_sq (k : SK) (a : Addr) (items : Array Value) : Begins (.ref a) (itO k a) fun h => HSq k h a items := by
  cases k with
  | l => exact begins_list a items
  | t => exact begins_tuple a items
end

/-! ### enumerate -/
def ItN (k : SK) (K : PySem.W.Frag) (a : Addr) : It :=
  ⟨fun i H => ∃ (xs : List V) (x : V), SqA k K H a xs ∧ xs[i]? = some x, fun i H v H' => ∃ T x, v = .ref T ∧ H T = none ∧ H' = upd H T (.tup [.int (i : Nat), x]) ∧ ∀ xs, SqA k K H a xs → xs[i]? = some x, fun i H => ∃ xs : List V, SqA k K H a xs ∧ xs.length = i⟩
theorem turn_enumA {P : Program} {w : World} {K : PySem.W.Frag} {elts : List Expr} {kk : Nat} {tpos : Pos} (k : SK) (a e it : Addr) (hea : e ≠ a) :
    Turn P w K (.Tuple elts kk tpos) (ItN k K a) [e, it] e (fun i h => (∃ old, IsEnum h e it ((i : Nat) : Int) old) ∧ ItAt k h it a i ∧ e ≠ it) where
  mem := by simp
  obj := fun i h st b hb => by
    obtain ⟨⟨old, he⟩, hit, _⟩ := st
    have e' : b = e ∨ b = it := by simpa using hb
    rcases e' with z | z
    · rw [z]; exact ⟨_, he, fun v q => nomatch q⟩
    · rw [z]; exact hit.there
  keep := fun i h h' st k => let ⟨⟨old, he⟩, hi, hne⟩ := st; ⟨⟨old, k e (by simp) _ he⟩, hi.at fun o q => k it (by simp) o q, hne⟩
  item := by
    intro X hP hw hK hc i pins s σ H E I hf st hg
    subst hP hw hK
    obtain ⟨⟨old, he⟩, hit, hne⟩ := st
    obtain ⟨xs, x, hq, hx⟩ := hg
    obtain ⟨its, rv, p, hz⟩ := inv_sq I hq
    obtain ⟨u, hu, ru⟩ := rv.get hx
    have hel : e < s.heap.objs.size := Heap.lt_size he
    have hil : it < s.heap.objs.size := by obtain ⟨_, q, _⟩ := hit.there; exact Heap.lt_size q
    have hai : a ≠ it := ItAt.ne hit p
    have hlt : i < its.toArray.size := by
      have := (List.getElem?_eq_some_iff.mp hu).1
      simpa using this
    refine wpAny_pyNext_enum_itemD (draws_sq (A := X.A.in1) (I.ok.hd hc) k it a hai its.toArray) he ⟨hit, p⟩ hlt hne (by simp [hne, hea]) fun u' h' tk hu' ho hit' hT hsz hk => ?_
    have hu'' : its.toArray[i]? = some u' := hu'
    have eu : u' = u := by
      have : its[i]? = some u' := by simpa using hu''
      rw [hu] at this
      exact (Option.some.inj this).symm
    subst eu
    refine ⟨_, rfl, wpAny_letOwnedTupleGo_enum (s := { s with heap := h', toks := tk + 1 }) ho fun h'' he' sb => ?_⟩
    have hT2 : h''.get? s.heap.objs.size = some { cls := .type "tuple", data := .seq #[.int i tk, u'] } := (sb.2 _ (Nat.ne_of_gt hel)).trans hT
    have new : ObjOk X.prog X.w (upd H s.heap.objs.size (.tup [.int (i : Nat), x])) h'' s.heap.objs.size (.tup [.int (i : Nat), x]) :=
      ⟨by show 2 ≤ sizeLine; decide, [.int i tk, u'], .cons ⟨_, rfl⟩ (.cons ru .nil), ⟨_, hT2, rfl, _, rfl⟩⟩
    have I1 : Inv X pins σ (upd H s.heap.objs.size (.tup [.int (i : Nat), x])) { s with heap := h'', toks := tk + 1 } :=
      I.turnedNew (ch := [e, it]) (fun b ob hb q => (sb.2 b (fun z => hb (by simp [z]))).trans (hk b ob (fun z => hb (by simp [z])) (fun z => hb (by simp [z])) q)) hf (Nat.le_refl _) new
    refine ⟨.ref s.heap.objs.size, _, I1, rfl, ⟨_, x, rfl, I.hok.fresh (Nat.le_refl _), rfl, fun ys hy => by rw [inv_sq_inj I hy hq]; exact hx⟩, ⟨⟨u', ?_⟩, hit'.1.at fun o q => (sb.2 it (Ne.symm hne)).trans q, hne⟩, fun b hb => ?_⟩
    · have e1 : ((i + 1 : Nat) : Int) = (i : Int) + 1 := by omega
      rw [e1]; exact he'
    · have hb' : b < s.heap.objs.size := by
        have e' : b = e ∨ b = it := by simpa using hb
        rcases e' with z | z
        · rw [z]; exact hel
        · rw [z]; exact hil
      rw [upd_ne (Nat.ne_of_lt hb')]
      exact (hf b hb).1
  done := by
    intro X hP hw hK hc i pins s σ H E I hf st hg
    subst hP hw hK
    obtain ⟨⟨old, he⟩, hit, hne⟩ := st
    obtain ⟨xs, hq, hx⟩ := hg
    obtain ⟨its, rv, p, hz⟩ := inv_sq I hq
    obtain ⟨f0, f1, f2, f3, f4, f5⟩ := hf it (by simp)
    have hai : a ≠ it := ItAt.ne hit p
    have hsz : its.toArray.size = i := by rw [List.size_toArray, ← rv.length]; exact hx
    refine wpAny_pyNext_enum_endD (n := its.toArray.size) (i := (i : Int)) (draws_sq (A := X.A.in1) (I.ok.hd hc) k it a hai its.toArray) he ⟨by rw [hsz]; exact hit, p⟩ fun h' eb => ⟨rfl, I.turned (t' := s.toks) (fun b o hb q => eb b o hb q) f0 f1 f3 f4 f5⟩
  self := fun A i s Q E st h => let ⟨⟨_, he⟩, _⟩ := st; wpAny_pyIter_enum he h
theorem meets_enumerate_newB1 {v : Value} {o : Obj} {H : Heap → Prop} (B : Begins v o H) :
    Meets (Builtin.«enumerate.__new__» ⟨[.type "enumerate", v], []⟩) (fun _ R s => H s.heap ∧
      R (.ok (.ret (.ref (s.heap.push o).objs.size))) { s with heap := (s.heap.push o).push { cls := .type "enumerate", data := .fields #[.none, .bool false, .ref s.heap.objs.size, rawInt 0, .none, .none] } }) :=
  .of_wp fun prog w A R s h => by
    obtain ⟨hp, g, d, tk, os⟩ := s; obtain ⟨h1, h⟩ := h
    have hsub := sub_enumerate
    have q1 : ∀ {A' : Around} {E : Value → Shared → Prop} {Q : Value → Shared → Prop}, Q (.ref hp.objs.size) ⟨hp.push o, g, d, tk, os⟩ → wpAny (model prog w) A' (pyIter v) Q E ⟨hp, g, d, tk, os⟩ :=
      fun q => B.iter prog w _ _ ⟨hp, g, d, tk, os⟩ _ h1 q
    wp_walk using q1
    refine wpAny_stack_any fun st => wpAny_pure ?_
    split
    · rename_i c _ _ _ _ _
      cases (c == Value.type "enumerate")
      · wp_walk using q1
        exact ⟨_, rfl, h⟩
      · wp_walk using q1
        exact ⟨_, rfl, h⟩
    · wp_walk using q1
      exact ⟨_, rfl, h⟩
theorem enum_begins1 {prog : Program} {w : World} {A : Around} {E : Value → Shared → Prop} {s : Shared} {v : Value} {o : Obj} {H : Heap → Prop} {Q : Value → Shared → Prop} (B : Begins v o H) (h1 : H s.heap)
    (h : ∀ h', IsEnum h' (s.heap.objs.size + 1) s.heap.objs.size 0 .none → h'.get? s.heap.objs.size = some o → h'.objs.size = s.heap.objs.size + 2 →
      (∀ b o, s.heap.get? b = some o → h'.get? b = some o) → Q (.ref (s.heap.objs.size + 1)) { s with heap := h' }) :
    wpAny (model prog w) A (call (.type "enumerate") [v]) Q E s := by
  refine callType_new F.called_enumerate (by decide) (F.typeCall_enumerate_1 _) (F.newCall_enumerate_1 _) (fun obj => F.args_object_init_2 obj _) F.entry_enumerate_new
    (meets_enumerate_newB1 B) ⟨h1, ?_⟩
  have hz : (s.heap.push o).objs.size = s.heap.objs.size + 1 := Heap.size_push ..
  show _ ∧ _
  rw [hz]
  have he : IsEnum ((s.heap.push o).push { cls := .type "enumerate", data := .fields #[.none, .bool false, .ref s.heap.objs.size, rawInt 0, .none, .none] }) (s.heap.objs.size + 1) s.heap.objs.size 0 .none := by
    have := Heap.get?_push_size (s.heap.push o) (o := { cls := .type "enumerate", data := .fields #[.none, .bool false, .ref s.heap.objs.size, rawInt 0, .none, .none] }) rfl
    rw [hz] at this; exact this
  refine ⟨⟨_, he, rfl⟩, h _ he (Heap.get?_push_of_some _ (Heap.get?_push_size _ B.free)) (by rw [Heap.size_push, hz]) fun b o x => Heap.get?_push_of_some _ (Heap.get?_push_of_some _ x)⟩
def iEnumA (K : PySem.W.Frag) (ta : TA) : TI := fun σ H R => ta σ H fun vs H1 => ∃ k a xs, vs = [.ref a] ∧ SqA k K H1 a xs ∧ R (ItN k K a) H1
theorem pi_enumA {X : Cx} {e : Expr} {ta : TA} {p pos tpos : Pos} {elts : List Expr} {kk : Nat} (hg : Gl X "enumerate") (hm : X.mg "enumerate" = none) (ha : PA X [e] ta) (hs : starEach [e] X.env = [(false, eval e X.env)] := by rfl) :
    PI X (.Tuple elts kk tpos) (.Call (.Name "enumerate" p) [e] [] pos) (iEnumA X.K ta) := by
  refine ⟨fun pins s σ H R I h => ?_⟩
  refine Call_ (ld_blt I hg hm boot_enumerate (PyProof.Rows.callWith_type1 (thn (ha.run pos pins s σ H _ I h) fun us s1 ⟨vs, H1, I1, r1, q1⟩ => ?_) hs rfl))
  obtain ⟨k, a, xs, ex, hq, q⟩ := q1
  subst ex
  cases r1 with
  | cons r rr =>
    cases rr
    cases r
    obtain ⟨its, rv, p', hz⟩ := inv_sq I1 hq
    have hal : a < s1.heap.objs.size := p'.lt
    refine enum_begins1 (begins_sq k a its.toArray) p' fun h' he hit hsz hk => wpAny_pyIter_enum he ?_
    have I2 : Inv X pins σ H1 { s1 with heap := h' } := I1.kept (t' := s1.toks) hk
    have hit0 : ItAt k h' s1.heap.objs.size a 0 := by
      cases k with
      | l => exact ⟨_, hit, rfl, rfl⟩
      | t => exact ⟨_, hit, rfl, rfl⟩
    refine ⟨s1.heap.objs.size + 1, [s1.heap.objs.size + 1, s1.heap.objs.size], _, _, H1, rfl, I2, turn_enumA k a (s1.heap.objs.size + 1) s1.heap.objs.size (by intro z; exact absurd hal (by rw [← z]; exact Nat.not_lt_of_ge (Nat.le_succ _))), ⟨⟨.none, he⟩, hit0, Nat.succ_ne_self _⟩, fun b hb => ?_, q⟩
    have e' : b = s1.heap.objs.size + 1 ∨ b = s1.heap.objs.size := by simpa using hb
    have hle : s1.heap.objs.size ≤ b := by
      rcases e' with z | z
      · rw [z]; exact Nat.le_add_right _ _
      · rw [z]; exact Nat.le_refl _
    exact I1.fpOk hle (I1.hok.fresh hle)

/-! ### zip of two -/
def ItZ (k1 k2 : SK) (K : PySem.W.Frag) (a b : Addr) : It :=
  ⟨fun i H => ∃ (xs ys : List V) (x y : V), SqA k1 K H a xs ∧ SqA k2 K H b ys ∧ xs[i]? = some x ∧ ys[i]? = some y,
    fun i H v H' => ∃ T x y, v = .ref T ∧ H T = none ∧ H' = upd H T (.tup [x, y]) ∧ (∀ xs, SqA k1 K H a xs → xs[i]? = some x) ∧ ∀ ys, SqA k2 K H b ys → ys[i]? = some y,
    fun i H => ∃ xs ys : List V, SqA k1 K H a xs ∧ SqA k2 K H b ys ∧ i = min xs.length ys.length⟩
theorem turn_zipA {P : Program} {w : World} {K : PySem.W.Frag} {elts : List Expr} {kk : Nat} {tpos : Pos} (k1 k2 : SK) {a b z TI TO i1 i2 : Addr} (D : ZipSep2 z TI TO i1 i2 [i1, a] [i2, b]) :
    Turn P w K (.Tuple elts kk tpos) (ItZ k1 k2 K a b) [z, TI, TO, i1, i2] z (fun i h => IsZip h z TI TO .none ∧ IsTupOf2 h TI (.ref i1) (.ref i2) ∧ (∃ x y, IsTupOf2 h TO x y) ∧ ItAt k1 h i1 a i ∧ ItAt k2 h i2 b i) where
  mem := by simp
  obj := fun i h st c hc => by
    obtain ⟨hz, hTI, ⟨x, y, hTO⟩, h1, h2⟩ := st
    have e' : c = z ∨ c = TI ∨ c = TO ∨ c = i1 ∨ c = i2 := by simpa using hc
    rcases e' with q | q | q | q | q
    · rw [q]; exact ⟨_, hz, fun v q => nomatch q⟩
    · rw [q]; exact ⟨_, hTI, fun v q => nomatch q⟩
    · rw [q]; exact ⟨_, hTO, fun v q => nomatch q⟩
    · rw [q]; exact h1.there
    · rw [q]; exact h2.there
  keep := fun i h h' st k => by
    obtain ⟨hz, hTI, ⟨x, y, hTO⟩, h1, h2⟩ := st
    exact ⟨k z (by simp) _ hz, k TI (by simp) _ hTI, ⟨x, y, k TO (by simp) _ hTO⟩, h1.at fun o q => k i1 (by simp) o q, h2.at fun o q => k i2 (by simp) o q⟩
  item := by
    intro X hP hw hK hc i pins s σ H E I hf st hg
    subst hP hw hK
    obtain ⟨hz, hTI, ⟨x0, y0, hTO⟩, h1, h2⟩ := st
    obtain ⟨xs, ys, x, y, hqx, hqy, hx, hy⟩ := hg
    obtain ⟨its, rv, p, _⟩ := inv_sq I hqx
    obtain ⟨its2, rv2, p2, _⟩ := inv_sq I hqy
    obtain ⟨u, hu, ru⟩ := rv.get hx
    obtain ⟨u2, hu2, ru2⟩ := rv2.get hy
    have hzl : z < s.heap.objs.size := Heap.lt_size hz
    have l1 : i < its.toArray.size := by
      have := (List.getElem?_eq_some_iff.mp hu).1
      simpa using this
    have l2 : i < its2.toArray.size := by
      have := (List.getElem?_eq_some_iff.mp hu2).1
      simpa using this
    refine wpAny_pyNext_zipD2_item D (draws_sq (A := X.A.in1) (I.ok.hd hc) k1 i1 a (h1.ne p) its.toArray) (draws_sq (A := X.A.in1) (I.ok.hd hc) k2 i2 b (h2.ne p2) its2.toArray) hz hTI hTO ⟨h1, p⟩ ⟨h2, p2⟩ l1 l2 fun v1 v2 h' tk e1 e2 z' TO' h1' h2' hT hsz hk => ?_
    have e1' : v1 = u := by
      have q : its.toArray[i]? = some v1 := e1
      have q2 : its[i]? = some v1 := by simpa using q
      rw [hu] at q2; exact (Option.some.inj q2).symm
    have e2' : v2 = u2 := by
      have q : its2.toArray[i]? = some v2 := e2
      have q2 : its2[i]? = some v2 := by simpa using q
      rw [hu2] at q2; exact (Option.some.inj q2).symm
    subst e1' e2'
    refine ⟨_, rfl, wpAny_letOwnedTupleGo_zip (s := { s with heap := h', toks := tk }) z' fun h'' z'' sb => ?_⟩
    have hT2 : h''.get? s.heap.objs.size = some { cls := .type "tuple", data := .seq #[v1, v2] } := (sb.2 _ (Nat.ne_of_gt hzl)).trans hT
    have new : ObjOk X.prog X.w (upd H s.heap.objs.size (.tup [x, y])) h'' s.heap.objs.size (.tup [x, y]) :=
      ⟨by show 2 ≤ sizeLine; decide, [v1, v2], .cons ru (.cons ru2 .nil), ⟨_, hT2, rfl, _, rfl⟩⟩
    have I1 : Inv X pins σ (upd H s.heap.objs.size (.tup [x, y])) { s with heap := h'', toks := tk } :=
      I.turnedNew (t' := tk) (ch := [z, TI, TO, i1, i2]) (fun c o hb q => (sb.2 c (fun q' => hb (by simp [q']))).trans (hk c o (fun q' => hb (by simp [q'])) (fun q' => hb (by simp [q'])) (fun q' => hb (by simp [q'])) (fun q' => hb (by simp [q'])) q)) hf (Nat.le_refl _) new
    have nz1 : i1 ≠ z := fun q => D.zf1 (by rw [← q]; exact D.mem1)
    have nz2 : i2 ≠ z := fun q => D.zf2 (by rw [← q]; exact D.mem2)
    refine ⟨.ref s.heap.objs.size, _, I1, rfl, ⟨_, x, y, rfl, I.hok.fresh (Nat.le_refl _), rfl, fun l hl => by rw [inv_sq_inj I hl hqx]; exact hx, fun l hl => by rw [inv_sq_inj I hl hqy]; exact hy⟩, ⟨z'', ?_, ⟨v1, v2, ?_⟩, ?_, ?_⟩, fun c hcm => ?_⟩
    · exact (sb.2 _ D.TIz).trans (hk _ _ D.TIz D.TITO D.TIi1 D.TIi2 hTI)
    · exact (sb.2 _ D.TOz).trans TO'
    · exact h1'.1.at fun o q => (sb.2 _ nz1).trans q
    · exact h2'.1.at fun o q => (sb.2 _ nz2).trans q
    · have hlt : c < s.heap.objs.size := by
        have e' : c = z ∨ c = TI ∨ c = TO ∨ c = i1 ∨ c = i2 := by simpa using hcm
        rcases e' with q | q | q | q | q
        · rw [q]; exact hzl
        · rw [q]; exact Heap.lt_size hTI
        · rw [q]; exact Heap.lt_size hTO
        · rw [q]; obtain ⟨_, e1, _⟩ := h1.there; exact Heap.lt_size e1
        · rw [q]; obtain ⟨_, e2, _⟩ := h2.there; exact Heap.lt_size e2
      rw [upd_ne (Nat.ne_of_lt hlt)]
      exact (hf c hcm).1
  done := by
    intro X hP hw hK hc i pins s σ H E I hf st hg
    subst hP hw hK
    obtain ⟨hz, hTI, ⟨x0, y0, hTO⟩, h1, h2⟩ := st
    obtain ⟨xs, ys, hqx, hqy, hend⟩ := hg
    obtain ⟨its, rv, p, _⟩ := inv_sq I hqx
    obtain ⟨its2, rv2, p2, _⟩ := inv_sq I hqy
    have l1 := rv.length
    have l2 := rv2.length
    have m1 : i ≤ its.toArray.size := by rw [List.size_toArray, ← l1, hend]; exact Nat.min_le_left _ _
    have m2 : i ≤ its2.toArray.size := by rw [List.size_toArray, ← l2, hend]; exact Nat.min_le_right _ _
    have m3 : i = its.toArray.size ∨ i = its2.toArray.size := by rw [List.size_toArray, List.size_toArray, ← l1, ← l2, hend]; omega
    exact wpAny_pyNext_zipD2_end D (draws_sq (A := X.A.in1) (I.ok.hd hc) k1 i1 a (h1.ne p) its.toArray) (draws_sq (A := X.A.in1) (I.ok.hd hc) k2 i2 b (h2.ne p2) its2.toArray) hz hTI hTO ⟨h1, p⟩ ⟨h2, p2⟩ m1 m2 m3 fun h' tk hk => ⟨rfl, I.turnedL (t' := tk) (ch := [z, TI, TO, i1, i2]) (fun c o hb q =>
      hk c o (fun q' => hb (by simp [q'])) (fun q' => hb (by simp [q'])) (fun q' => hb (by simp [q'])) (fun q' => hb (by simp [q'])) q) hf⟩
  self := fun A i s Q E st h => wpAny_pyIter_zip st.1 h
def iZipK (K : PySem.W.Frag) (ta : TA) : TI := fun σ H R => ta σ H fun vs H1 => ∃ k1 k2 a b xs ys, vs = [.ref a, .ref b] ∧ SqA k1 K H1 a xs ∧ SqA k2 K H1 b ys ∧ R (ItZ k1 k2 K a b) H1
theorem pi_zipK {X : Cx} {e e2 : Expr} {ta : TA} {p pos tpos : Pos} {elts : List Expr} {kk : Nat} (hg : Gl X "zip") (hm : X.mg "zip" = none) (ha : PA X [e, e2] ta)
    (hs : starEach [e, e2] X.env = (false, eval e X.env) :: starEach [e2] X.env := by rfl) (hpl : (backTo pos (starEach [e2] X.env)).any (·.1) = false := by rfl) :
    PI X (.Tuple elts kk tpos) (.Call (.Name "zip" p) [e, e2] [] pos) (iZipK X.K ta) := by
  refine ⟨fun pins s σ H R I h => ?_⟩
  refine Call_ (ld_blt I hg hm PyProof.Rows.boot_zip (PyProof.Rows.callWith_type1 (thn (ha.run pos pins s σ H _ I h) fun us s1 ⟨vs, H1, I1, r1, q1⟩ => ?_) hs hpl))
  obtain ⟨k1, k2, a, b, xs, ys, ex, hqx, hqy, q⟩ := q1
  subst ex
  cases r1 with
  | cons r rr =>
    cases rr with
    | cons r' rr =>
      cases rr
      cases r
      cases r'
      obtain ⟨its, rv, p1, _⟩ := inv_sq I1 hqx
      obtain ⟨its2, rv2, p2, _⟩ := inv_sq I1 hqy
      have la : a < s1.heap.objs.size := p1.lt
      have lb : b < s1.heap.objs.size := p2.lt
      refine zip_begins2 (begins_sq k1 a its.toArray) (begins_sq k2 b its2.toArray) p1 p2 fun h' hz hTI hTO h1 h2 hsz hk => wpAny_pyIter_zip hz ?_
      have I2 : Inv X pins σ H1 { s1 with heap := h' } := I1.kept (t' := s1.toks) hk
      have t1 : ItAt k1 h' s1.heap.objs.size a 0 := by
        cases k1 with
        | l => exact ⟨_, h1, rfl, rfl⟩
        | t => exact ⟨_, h1, rfl, rfl⟩
      have t2 : ItAt k2 h' (s1.heap.objs.size + 1) b 0 := by
        cases k2 with
        | l => exact ⟨_, h2, rfl, rfl⟩
        | t => exact ⟨_, h2, rfl, rfl⟩
      refine ⟨s1.heap.objs.size + 4, [s1.heap.objs.size + 4, s1.heap.objs.size + 2, s1.heap.objs.size + 3, s1.heap.objs.size, s1.heap.objs.size + 1], _, _, H1, rfl, I2, turn_zipA k1 k2 (zip_sep2 (fun c hc => by rw [List.mem_singleton.mp hc]; exact la) (fun c hc => by rw [List.mem_singleton.mp hc]; exact lb)), ⟨hz, hTI, ⟨_, _, hTO⟩, t1, t2⟩, fun c hcm => ?_, q⟩
      have e' : c = s1.heap.objs.size + 4 ∨ c = s1.heap.objs.size + 2 ∨ c = s1.heap.objs.size + 3 ∨ c = s1.heap.objs.size ∨ c = s1.heap.objs.size + 1 := by simpa using hcm
      have hle : s1.heap.objs.size ≤ c := by
        rcases e' with z | z | z | z | z
        · rw [z]; exact Nat.le_add_right _ _
        · rw [z]; exact Nat.le_add_right _ _
        · rw [z]; exact Nat.le_add_right _ _
        · rw [z]; exact Nat.le_refl _
        · rw [z]; exact Nat.le_add_right _ _
      exact I1.fpOk hle (I1.hok.fresh hle)
/-- a list or a tuple, walked -/
def iSeq (K : PySem.W.Frag) (tl : TE) : TI := fun σ H R => tl σ H fun x H1 => ∃ a, x = .ref a ∧ ((∃ xs, SqL K H1 a xs ∧ R (Itl K a) H1) ∨ ∃ xs, SqT K H1 a xs ∧ R (Itt K a) H1)
theorem pi_seq {X : Cx} {tg l : Expr} {tl : TE} (hl : PE X l tl) : PI X tg l (iSeq X.K tl) := by
  refine ⟨fun pins s σ H R I h => ?_⟩
  refine thn (hl.run pins s σ H _ I h) fun v s1 ⟨x, H1, I1, r1, q1⟩ => ?_
  obtain ⟨a, e, q⟩ := q1
  subst e
  cases r1
  have fp : ∀ b ∈ [s1.heap.objs.size], FpOk X pins H1 b := fun b hb => by
    have e : b = s1.heap.objs.size := by simpa using hb
    subst e
    exact I1.fpOk (Nat.le_refl _) (I1.hok.fresh (Nat.le_refl _))
  rcases q with ⟨xs, hq, q⟩ | ⟨xs, hq, q⟩
  · obtain ⟨its, rv, p, hz⟩ := I1.list hq
    refine wpAny_pyIter_list p.isList ?_
    exact ⟨s1.heap.objs.size, [s1.heap.objs.size], _, _, H1, rfl, I1.kept (t' := s1.toks) fun b o e => Heap.get?_push_of_some _ e, turn_list a _, ⟨_, Heap.get?_push_size _ rfl, rfl, rfl⟩, fp, q⟩
  · obtain ⟨its, rv, p, hz⟩ := I1.tuple hq
    refine wpAny_pyIter_tuple (show s1.heap.IsTuple a its.toArray from p) ?_
    exact ⟨s1.heap.objs.size, [s1.heap.objs.size], _, _, H1, rfl, I1.kept (t' := s1.toks) fun b o e => Heap.get?_push_of_some _ e, turn_tuple a _, ⟨_, Heap.get?_push_size _ rfl, rfl, rfl⟩, fp, q⟩

/-! ### the rules -/
/-- the members of a list or a tuple, frozen -/
def dseq : D → Option (List D)
  | .list xs => some xs
  | .tuple xs => some xs
  | _ => none
def oseq (o : O) : Option (List D) := match frz o with
  | some x => dseq x
  | none => none
namespace Wk
def seq (f : M O) : M (List D) := f.bind fun o => M.opt (oseq o)
def range1 (f : M (List O)) : M (List D) := f.bind fun os => match os with
  | [.d (.int j)] => if -1000000000000 ≤ j ∧ j ≤ 1000000000000 then M.ret ((List.range j.toNat).map fun (i : Nat) => .int (i : Int)) else M.fail
  | _ => M.fail
def range2 (f : M (List O)) : M (List D) := f.bind fun os => match os with
  | [.d (.int i), .d (.int j)] => if -1000000000000 ≤ i ∧ i ≤ 1000000000000 ∧ -1000000000000 ≤ j ∧ j ≤ 1000000000000 then M.ret ((List.range (j - i).toNat).map fun (n : Nat) => .int (i + n)) else M.fail
  | _ => M.fail
def enums (xs : List D) : List D := xs.zipIdx.map fun p => .tuple [.int p.2, p.1]
def enum (f : M (List O)) : M (List D) := f.bind fun os => match os with
  | [o] => M.opt ((oseq o).map enums)
  | _ => M.fail
def zips (xs ys : List D) : List D := (xs.zip ys).map fun p => .tuple [p.1, p.2]
def zip (f : M (List O)) : M (List D) := f.bind fun os => match os with
  | [o, p] => (match oseq o, oseq p with
    | some xs, some ys => M.ret (zips xs ys)
    | _, _ => M.fail)
  | _ => M.fail
end Wk
section
variable {K : PySem.W.Frag} {mg : Str → Option Value} {I H : Hp} {xs ys : List D} {vs ws : List V} {a b : Addr}
theorem DenL.get : ∀ {xs : List D} {vs : List V} {i : Nat} {d : D}, DenL K I xs vs → xs[i]? = some d → ∃ v, vs[i]? = some v ∧ Den K I d v
  | _, _, _, _, .nil, e => by simp at e
  | _, _, 0, _, .cons r _, e => by simp at e; subst e; exact ⟨_, rfl, r⟩
  | _, _, i + 1, d, .cons _ t, e => by
    obtain ⟨u, h1, h2⟩ := DenL.get (i := i) (d := d) t (by simpa using e)
    exact ⟨u, by simpa using h1, h2⟩
theorem DenL.len : ∀ {xs : List D} {vs : List V}, DenL K I xs vs → vs.length = xs.length
  | _, _, .nil => rfl
  | _, _, .cons _ b => by rw [List.length_cons, List.length_cons, DenL.len b]
theorem walk_seqL (q : SqL K I a vs) (r : DenL K I xs vs) : IsWalk K (Itl K a) xs I := by
  have sq : ∀ {H2 I2 : Hp}, Same I I2 → Same I2 H2 → SqL K H2 a vs := fun h1 h2 => (h1.trans h2).seq q
  refine ⟨fun H2 I2 i h1 h2 hi => ?_, fun H2 I2 h1 h2 => ⟨vs, sq h1 h2, by rw [r.len]; exact Nat.le_refl _⟩, fun H2 I2 i x H3 d h1 h2 e y => ?_⟩
  · have hl : i < vs.length := by rw [r.len]; exact hi
    exact ⟨vs, vs[i], sq h1 h2, by simp [hl]⟩
  · obtain ⟨rfl, y⟩ := y
    obtain ⟨v, e1, dv⟩ := r.get e
    have e2 := y vs (sq h1 h2)
    rw [e1] at e2; cases e2
    exact ⟨I2, Same.refl _, h2, Same.refl _, fun _ _ e => .inl e, dv.mono (RdLe.of h1)⟩
theorem walk_seqT (q : SqT K I a vs) (r : DenL K I xs vs) : IsWalk K (Itt K a) xs I := by
  have sq : ∀ {H2 I2 : Hp}, Same I I2 → Same I2 H2 → SqT K H2 a vs := fun h1 h2 => sqT_le (h1.trans h2) q
  refine ⟨fun H2 I2 i h1 h2 hi => ?_, fun H2 I2 h1 h2 => ⟨vs, sq h1 h2, by rw [r.len]; exact Nat.le_refl _⟩, fun H2 I2 i x H3 d h1 h2 e y => ?_⟩
  · have hl : i < vs.length := by rw [r.len]; exact hi
    exact ⟨vs, vs[i], sq h1 h2, by simp [hl]⟩
  · obtain ⟨rfl, y⟩ := y
    obtain ⟨v, e1, dv⟩ := r.get e
    have e2 := y vs (sq h1 h2)
    rw [e1] at e2; cases e2
    exact ⟨I2, Same.refl _, h2, Same.refl _, fun _ _ e => .inl e, dv.mono (RdLe.of h1)⟩
theorem walk_range (lo : Int) (n : Nat) : IsWalk K (Itr lo n) ((List.range n).map fun (i : Nat) => .int (lo + i)) I := by
  refine ⟨fun H2 I2 i h1 h2 hi => ?_, fun H2 I2 h1 h2 => ?_, fun H2 I2 i x H3 d h1 h2 e y => ?_⟩
  · show i < n; simpa using hi
  · show n ≤ _; simp
  · obtain ⟨rfl, rfl⟩ := y
    rw [List.getElem?_map] at e
    cases q : (List.range n)[i]? with
    | none => rw [q] at e; cases e
    | some j =>
      rw [q] at e
      have hj : j = i := by
        obtain ⟨hl, e2⟩ := List.getElem?_eq_some_iff.mp q
        rw [List.getElem_range] at e2; exact e2.symm
      subst hj
      cases e
      exact ⟨I2, Same.refl _, h2, Same.refl _, fun _ _ e => .inl e, .int _⟩
/-- the new pair at T -/
theorem den_pair {I2 H2 : Hp} {T : Addr} {x y : V} {d e : D} (le : Same I2 H2) (hT : H2 T = none) (h1 : Den K I2 d x) (h2 : Den K I2 e y) :
    ∃ I3, Same I2 I3 ∧ Same I3 (upd H2 T (.tup [x, y])) ∧ Same H2 (upd H2 T (.tup [x, y])) ∧ (∀ a o, I3 a = some o → I2 a = some o ∨ H2 a = none) ∧ Den K I3 (.tuple [d, e]) (.ref T) := by
  have fI : I2 T = none := le.free hT
  refine ⟨upd I2 T (.tup [x, y]), same_updI fI, fun a u q => ?_, same_updI hT, fun a o q => ?_, .tuple upd_same (.cons (h1.mono (RdLe.of (same_updI fI))) (.cons (h2.mono (RdLe.of (same_updI fI))) .nil))⟩
  · by_cases z : a = T
    · subst z; rw [upd_same] at q ⊢; exact q
    · rw [upd_ne z] at q ⊢; exact le a u q
  · by_cases z : a = T
    · subst z; exact .inr hT
    · rw [upd_ne z] at q; exact .inl q
theorem sqA_le {k : SK} (le : Same I H) (q : SqA k K I a vs) : SqA k K H a vs := by
  cases k with
  | l => exact le.seq q
  | t => exact sqT_le le q
theorem enums_get {i : Nat} {d : D} (e : (Wk.enums xs)[i]? = some d) : ∃ x, xs[i]? = some x ∧ d = .tuple [.int (i : Nat), x] := by
  unfold Wk.enums at e
  rw [List.getElem?_map, List.getElem?_zipIdx] at e
  cases q : xs[i]? with
  | none => rw [q] at e; cases e
  | some x =>
    rw [q] at e
    refine ⟨x, rfl, ?_⟩
    simpa using e.symm
theorem walk_enum {k : SK} (q : SqA k K I a vs) (r : DenL K I xs vs) : IsWalk K (ItN k K a) (Wk.enums xs) I := by
  have sq : ∀ {H2 I2 : Hp}, Same I I2 → Same I2 H2 → SqA k K H2 a vs := fun h1 h2 => sqA_le (h1.trans h2) q
  have ln : (Wk.enums xs).length = xs.length := by unfold Wk.enums; simp
  refine ⟨fun H2 I2 i h1 h2 hi => ?_, fun H2 I2 h1 h2 => ⟨vs, sq h1 h2, by rw [r.len, ln]⟩, fun H2 I2 i x H3 d h1 h2 e y => ?_⟩
  · have hl : i < vs.length := by rw [r.len, ← ln]; exact hi
    exact ⟨vs, vs[i], sq h1 h2, by simp [hl]⟩
  · obtain ⟨T, v, rfl, hT, rfl, y⟩ := y
    obtain ⟨d', e1, rfl⟩ := enums_get e
    obtain ⟨v', e2, dv⟩ := r.get e1
    have e3 := y vs (sq h1 h2)
    rw [e2] at e3; cases e3
    exact den_pair h2 hT (.int _) (dv.mono (RdLe.of h1))
theorem walk_zip {k1 k2 : SK} (q : SqA k1 K I a vs) (r : DenL K I xs vs) (q2 : SqA k2 K I b ws) (r2 : DenL K I ys ws) : IsWalk K (ItZ k1 k2 K a b) (Wk.zips xs ys) I := by
  have sq : ∀ {H2 I2 : Hp}, Same I I2 → Same I2 H2 → SqA k1 K H2 a vs := fun h1 h2 => sqA_le (h1.trans h2) q
  have sq2 : ∀ {H2 I2 : Hp}, Same I I2 → Same I2 H2 → SqA k2 K H2 b ws := fun h1 h2 => sqA_le (h1.trans h2) q2
  have ln : (Wk.zips xs ys).length = min xs.length ys.length := by unfold Wk.zips; simp
  refine ⟨fun H2 I2 i h1 h2 hi => ?_, fun H2 I2 h1 h2 => ⟨vs, ws, sq h1 h2, sq2 h1 h2, by rw [r.len, r2.len, ln]⟩, fun H2 I2 i x H3 d h1 h2 e y => ?_⟩
  · have hl : i < vs.length := by rw [r.len]; omega
    have hl2 : i < ws.length := by rw [r2.len]; omega
    exact ⟨vs, ws, vs[i], ws[i], sq h1 h2, sq2 h1 h2, by simp [hl], by simp [hl2]⟩
  · obtain ⟨T, v, w, rfl, hT, rfl, y, y2⟩ := y
    unfold Wk.zips at e
    rw [List.getElem?_map, Option.map_eq_some_iff] at e
    obtain ⟨⟨d1, d2⟩, e0, rfl⟩ := e
    rw [List.getElem?_zip_eq_some] at e0
    obtain ⟨v', e2, dv⟩ := r.get e0.1
    obtain ⟨w', e2', dw⟩ := r2.get e0.2
    have e3 := y vs (sq h1 h2)
    rw [e2] at e3; cases e3
    have e4 := y2 ws (sq2 h1 h2)
    rw [e2'] at e4; cases e4
    exact den_pair h2 hT (dv.mono (RdLe.of h1)) (dw.mono (RdLe.of h1))
theorem den_seq {x : D} {v : V} {ds : List D} (q : Den K I x v) (e : dseq x = some ds) : ∃ k a vs, v = .ref a ∧ SqA k K I a vs ∧ DenL K I ds vs := by
  cases q with
  | list a b => cases e; exact ⟨.l, _, _, rfl, SqL.of a, b⟩
  | tuple a b => cases e; exact ⟨.t, _, _, rfl, SqT.of a, b⟩
  | _ => cases e
end
section
variable {X : Cx} {W : WX} {tg l e e2 : Expr} {f : M O} {fa : M (List O)} {p pos tpos : Pos} {elts : List Expr} {kk : Nat}
theorem frz_oseq {o : O} {ds : List D} (h : oseq o = some ds) : ∃ x, frz o = some x ∧ dseq x = some ds := by
  unfold oseq at h
  cases e : frz o with
  | none => rw [e] at h; cases h
  | some x => rw [e] at h; exact ⟨x, rfl, h⟩
theorem ei_seq (hl : EE X W l f) : EI X W tg l (Wk.seq f) := by
  refine ⟨fun pins s σ H R' I0 h => (pi_seq hl).run pins s σ H R' I0 ?_⟩
  obtain ⟨ρ, I, φ, gd, h⟩ := h
  refine bindE (P := PostI X.K X.mg W σ I H (al φ) R') gd h (fun _ _ z => z) (fun z => z) fun x ρ1 _ h v1 H1 I1 φ1 G1 s1 gd1 t1 w1 => ?_
  cases eo : oseq x with
  | none => rw [eo] at h; exact h.elim
  | some ds =>
    rw [eo] at h
    obtain ⟨x', ex, ed⟩ := frz_oseq eo
    obtain ⟨gd2, st2⟩ := gd1.freeze t1
    obtain ⟨k, a, vs, rfl, q, r⟩ := den_seq (w1.den ex t1.dj) ed
    have go : ∀ J, IsWalk X.K J ds (addI I1 H1 G1) → R' J H1 := fun J wk => h J H1 _ φ1 (s1.trans st2) gd2 wk
    refine ⟨a, rfl, ?_⟩
    cases k with
    | l => exact .inl ⟨vs, gd2.le.seq q, go _ (walk_seqL q r)⟩
    | t => exact .inr ⟨vs, sqT_le gd2.le q, go _ (walk_seqT q r)⟩
theorem ei_range1 (hg : Gl X "range") (hm : X.mg "range" = none) (ha : EA X W [e] fa) (hs : starEach [e] X.env = [(false, eval e X.env)] := by rfl) : EI X W tg (.Call (.Name "range" p) [e] [] pos) (Wk.range1 fa) := by
  refine ⟨fun pins s σ H R' I0 h => (pi_range1 hg hm ha hs).run pins s σ H R' I0 ?_⟩
  obtain ⟨ρ, I, φ, gd, h⟩ := h
  refine bindA (P := PostI X.K X.mg W σ I H (al φ) R') gd h (fun _ _ z => z) (fun z => z) fun x ρ1 hx0 h v1 H1 I1 φ1 G1 s1 gd1 t1 w1 => ?_
  clear hx0
  split at h
  · rename_i j
    split at h
    · rename_i hb
      cases w1 with
      | cons a b _ _ _ =>
        cases b
        cases a with
        | d q =>
          cases q
          refine ⟨j, rfl, by omega, by omega, h _ H1 I1 φ1 (s1.sub fun _ => .inl) gd1 ?_⟩
          have := walk_range (K := X.K) (I := I1) 0 j.toNat
          simpa using this
    · exact h.elim
  · exact h.elim
theorem ei_range2 (hg : Gl X "range") (hm : X.mg "range" = none) (ha : EA X W [e, e2] fa) (hs : starEach [e, e2] X.env = [(false, eval e X.env), (false, eval e2 X.env)] := by rfl) (hs2 : starEach [e2] X.env = [(false, eval e2 X.env)] := by rfl) :
    EI X W tg (.Call (.Name "range" p) [e, e2] [] pos) (Wk.range2 fa) := by
  refine ⟨fun pins s σ H R' I0 h => (pi_range2 hg hm ha hs hs2).run pins s σ H R' I0 ?_⟩
  obtain ⟨ρ, I, φ, gd, h⟩ := h
  refine bindA (P := PostI X.K X.mg W σ I H (al φ) R') gd h (fun _ _ z => z) (fun z => z) fun x ρ1 hx0 h v1 H1 I1 φ1 G1 s1 gd1 t1 w1 => ?_
  clear hx0
  split at h
  · rename_i i j
    split at h
    · rename_i hb
      cases w1 with
      | cons a b _ _ _ =>
        cases b with
        | cons b c _ _ _ =>
        cases c
        cases a with
        | d q =>
          cases q
          cases b with
          | d q =>
          cases q
          exact ⟨i, j, rfl, ⟨by omega, by omega, by omega, by omega⟩, h _ H1 I1 φ1 (s1.sub fun _ => .inl) gd1 (walk_range i _)⟩
    · exact h.elim
  · exact h.elim
theorem ei_enum (hg : Gl X "enumerate") (hm : X.mg "enumerate" = none) (ha : EA X W [e] fa) (hs : starEach [e] X.env = [(false, eval e X.env)] := by rfl) :
    EI X W (.Tuple elts kk tpos) (.Call (.Name "enumerate" p) [e] [] pos) (Wk.enum fa) := by
  refine ⟨fun pins s σ H R' I0 h => (pi_enumA hg hm ha hs).run pins s σ H R' I0 ?_⟩
  obtain ⟨ρ, I, φ, gd, h⟩ := h
  refine bindA (P := PostI X.K X.mg W σ I H (al φ) R') gd h (fun _ _ z => z) (fun z => z) fun x ρ1 hx0 h v1 H1 I1 φ1 G1 s1 gd1 t1 w1 => ?_
  clear hx0
  split at h
  · rename_i o
    cases w1 with
    | @cons _ _ v vs' _ S1 S2 a b c _ _ =>
      cases b
      cases eo : oseq o with
      | none => rw [eo] at h; exact h.elim
      | some ds =>
        rw [eo] at h
        obtain ⟨x', ex, ed⟩ := frz_oseq eo
        obtain ⟨gd2, st2⟩ := gd1.freeze t1
        obtain ⟨k, a', vs, rfl, q, r⟩ := den_seq ((a.mono c).den ex t1.dj) ed
        exact ⟨k, a', vs, rfl, sqA_le gd2.le q, h _ H1 _ φ1 (s1.trans st2) gd2 (walk_enum q r)⟩
  · exact h.elim
theorem ei_zip (hg : Gl X "zip") (hm : X.mg "zip" = none) (ha : EA X W [e, e2] fa)
    (hs : starEach [e, e2] X.env = (false, eval e X.env) :: starEach [e2] X.env := by rfl) (hpl : (backTo pos (starEach [e2] X.env)).any (·.1) = false := by rfl) :
    EI X W (.Tuple elts kk tpos) (.Call (.Name "zip" p) [e, e2] [] pos) (Wk.zip fa) := by
  refine ⟨fun pins s σ H R' I0 h => (pi_zipK hg hm ha hs hpl).run pins s σ H R' I0 ?_⟩
  obtain ⟨ρ, I, φ, gd, h⟩ := h
  refine bindA (P := PostI X.K X.mg W σ I H (al φ) R') gd h (fun _ _ z => z) (fun z => z) fun x ρ1 hx0 h v1 H1 I1 φ1 G1 s1 gd1 t1 w1 => ?_
  clear hx0
  split at h
  · rename_i o o2
    cases w1 with
    | @cons _ _ v vs' _ S1 S2 a b c d _ =>
      cases b with
      | @cons _ _ v2 vs2 _ S3 S4 a2 b2 c2 _ _ =>
      cases b2
      cases eo : oseq o with
      | none => rw [eo] at h; exact h.elim
      | some xs =>
      cases eo2 : oseq o2 with
      | none => rw [eo, eo2] at h; exact h.elim
      | some ys =>
        rw [eo, eo2] at h
        obtain ⟨x', ex, ed⟩ := frz_oseq eo
        obtain ⟨y', ey, ed2⟩ := frz_oseq eo2
        obtain ⟨gd2, st2⟩ := gd1.freeze t1
        obtain ⟨k, a', vs, rfl, q, r⟩ := den_seq ((a.mono c).den ex t1.dj) ed
        obtain ⟨k2, a2', vs2, rfl, q2, r2⟩ := den_seq ((a2.mono fun z hz => d z (c2 z hz)).den ey t1.dj) ed2
        exact ⟨k, k2, a', a2', vs, vs2, rfl, sqA_le gd2.le q, sqA_le gd2.le q2, h _ H1 _ φ1 (s1.trans st2) gd2 (walk_zip q r q2 r2)⟩
  · exact h.elim
end
end EV

/-! The layer EV, part G: comprehensions as rules, defs and their calls, raise. -/
namespace EV
open PySem PySem.Spec PyProof.Rows L2

section
variable {K : PySem.W.Frag} {mg : Str → Option Value} {W : WX} {σ : St} {I H : Hp} {F : Pd} {Q Q' : VK}
theorem PostE.mono {r : R O} (hq : ∀ v H, Q v H → Q' v H) (h : PostE K mg W σ I H F Q r) : PostE K mg W σ I H F Q' r := by
  cases r with
  | ok r ρ' => exact fun v H' I' φ' G a b c d => hq _ _ (h v H' I' φ' G a b c d)
  | exc c ρ' => exact h
  | stuck => exact h
theorem rdE.mono {f : M O} (hq : ∀ v H, Q v H → Q' v H) (h : rdE K mg W f σ H Q) : rdE K mg W f σ H Q' := by
  obtain ⟨ρ, I, φ, gd, h⟩ := h
  exact ⟨ρ, I, φ, gd, h.mono hq⟩
end
section
variable {X : Cx} {W : WX} {io : List Nat}
theorem ets_nil : PTs X [] (rdT X.K X.mg W T.yes) := by
  refine ⟨fun pins s σ H Q I h => pts_nil.run pins s σ H Q I ?_⟩
  obtain ⟨ρ, I, φ, gd, h⟩ := h
  exact h H I φ (Stp.refl fun _ z => z) gd
theorem ets_one {c : Expr} {t : M Bool} (h : ET X W c t) : PTs X [c] (rdT X.K X.mg W t) := pts_one h
theorem ee_lc {elt tg iter : Expr} {ifs : List Expr} {scope : Scope} {own : List (Str × Nat)} {pos : Pos} {fi : M (List D)} {g : O → M Unit} {t : M Bool} {f : M O} (hc : X.calm = true) (hN : X.N.Nodup) (hi : EI X W tg iter fi) (ok : BlkOk X.N X.env.scope scope own)
    (hg : ∀ (s : Shared) (H : Hp) (C : Addr) (cl : List (Str × Addr)) (fp : List Addr), PG (X.blk s H scope (compEnvC scope cl C X.env) fp) tg (rdG X.K X.mg (notIn X.N.length (own.map (·.2))) g))
    (ht : ∀ (s : Shared) (H : Hp) (C : Addr) (cl : List (Str × Addr)) (fp : List Addr), PTs (X.blk s H scope (compEnvC scope cl C X.env) fp) ifs (rdT X.K X.mg W0 t))
    (he : ∀ (s : Shared) (H : Hp) (C : Addr) (cl : List (Str × Addr)) (fp : List Addr), PE (X.blk s H scope (compEnvC scope cl C X.env) fp) elt (rdE X.K X.mg W0 f)) (hs : ∀ x, foldedSetIterable iter X.env x = pure x := by intro _; rfl) :
    EE X W (.ListComp elt [⟨tg, iter, ifs, 0⟩] scope pos) (E.lc (own.map (·.2)) fi g t f) :=
  ⟨fun pins s σ H Q I h => (pe_lc hc hN hi ok hg ht he hs).run pins s σ H Q I (lc_read I.len h)⟩
theorem es_setLc (i : Nat) {y : Str} {py : Pos} {elt tg iter : Expr} {ifs : List Expr} {scope : Scope} {own : List (Str × Nat)} {pos spos : Pos} {fi : M (List D)} {g : O → M Unit} {t : M Bool} {f : M O} (hc : X.calm = true) (hN : X.N.Nodup)
    (hy : X.N[i]? = some y) (hyl : X.env.scope.names.lookup y = some .local) (hio : i ∉ io)
    (hsw : swapsWith (.ListComp elt [⟨tg, iter, ifs, 0⟩] scope pos) (some (.Name y py)) spos.line X.env = pure true) (hi : EI X W tg iter fi) (ok : BlkOk X.N X.env.scope scope own)
    (hg : ∀ (s : Shared) (H : Hp) (C : Addr) (cl : List (Str × Addr)) (fp : List Addr), PG (X.blk s H scope (compEnvC scope cl C X.env) fp) tg (rdG X.K X.mg (notIn X.N.length (own.map (·.2))) g))
    (ht : ∀ (s : Shared) (H : Hp) (C : Addr) (cl : List (Str × Addr)) (fp : List Addr), PTs (X.blk s H scope (compEnvC scope cl C X.env) fp) ifs (rdT X.K X.mg W0 t))
    (he : ∀ (s : Shared) (H : Hp) (C : Addr) (cl : List (Str × Addr)) (fp : List Addr), PE (X.blk s H scope (compEnvC scope cl C X.env) fp) elt (rdE X.K X.mg W0 f)) (hs : ∀ x, foldedSetIterable iter X.env x = pure x := by intro _; rfl) :
    ES X W io (.Assign [.Name y py] (.ListComp elt [⟨tg, iter, ifs, 0⟩] scope pos) spos) (S.asg (E.lc (own.map (·.2)) fi g t f) (G.nm i)) := by
  refine ⟨fun pins s σ H D I h => (ps_setLc hc hN hy hyl hsw hi ok hg ht he hs).run pins s σ H D I ?_⟩
  have h2 := asg_read h
  have hl : i < σ.length := by
    rw [I.len]
    exact (List.getElem?_eq_some_iff.mp hy).1
  have h3 : rdE X.K X.mg W (E.lc (own.map (·.2)) fi g t f) σ H (fun x H1 => gName i x σ H1 D.nx) := by
    refine rdE.mono (fun v H1 q => ?_) h2
    obtain ⟨ρ, I', φ, o, G, gd, tm, w, q⟩ := q
    exact q (σ.set i (some v)) H1 I' (setP φ i G) (keeps_set hio) (Stp.refl fun a z => (al_setP z).symm) (gd.upd tm.dj tm.th (fun j a g _ => tm.sp j a g) (fun j hj => List.getElem?_set_ne (Ne.symm hj)) fun _ _ => ⟨v, List.getElem?_set_self hl, w⟩)
  exact lc_read I.len h3

/-! ### raise -/
theorem es_raise {x m : Str} {j : Nat} {p p2 pos rpos : Pos} {C : Addr} {B newId initId : String} {bmB bm : List Value} (hc : X.calm = true) (tk : Takes X W) (F : ExcBaseFacts B newId initId bmB) (q : PySem.W.excIn X.K C bmB newId = true) (gC : X.mg x = some (.ref C)) (kC : PySem.W.keepIn X.K (.ref C) = true) (r : Raises X (.ref C)) (hg : Gl X x)
    (hdb : (x == ("__debug__" : Str)) = false := by decide) : ES X W io (.Raise (some (.Call (.Name x p) [.Constant (.str m) j p2] [] pos)) none rpos) (S.raise x) := by
  refine PS.weak (ps_raise hc tk (pmk_own F q gC kC r hg hdb)) fun D σ H ⟨ρ, I, φ, gd, h⟩ => ?_
  exact h C σ H I φ (Keeps.refl _) gC (Stp.refl fun _ z => z) gd
end

/-! ### what a def is worth -/
inductive FRes where
  | ok (r : O) (outs : List O)
  | exc (c : Str) (outs : List O)
  | stuck
/-- a body as a function of its arguments; io: the parameters that are handed back -/
def runF (io : List Nat) (n : Nat) (body : M Fl) (os : List O) : FRes := match body (os ++ List.replicate (n - os.length) .un) with
  | .ok (.ret r) ρ => .ok r (io.map fun i => ρ.getD i .un)
  | .ok .nx ρ => .ok (.d .none) (io.map fun i => ρ.getD i .un)
  | .exc c ρ => .exc c (io.map fun i => ρ.getD i .un)
  | _ => .stuck
section
variable (K : PySem.W.Frag) (mg : Str → Option Value)
structure Holds (I H : Hp) (G : Pd) : Prop where
  le : Same I H
  dj : ∀ a, G a → I a = none
  th : ∀ a, G a → H a ≠ none
def PostF (I H : Hp) (F : Pd) (io : List V) (Q : VK) (E : XK) : FRes → Prop
  | .ok r outs => ∀ (v : V) (H' I' : Hp) (G : Pd), Stp I H F I' H' G → Holds I' H' G → Owns K mg I' H' (r :: outs) (v :: io) G → Q v H'
  | .exc c outs => ∀ (C : Addr) (H' I' : Hp) (G : Pd), mg c = some (.ref C) → Stp I H F I' H' G → Holds I' H' G → Owns K mg I' H' outs io G → E (.ref C) none H'
  | .stuck => False
/-- the promise of a def that is worth m -/
def spF (np : Nat) (io : List Nat) (m : List O → FRes) : Sp := fun vs H Q E => ∃ os I G, os.length = np ∧ Holds I H G ∧ Owns K mg I H os vs G ∧ PostF K mg I H G (io.map fun i => vs.getD i .non) Q E (m os)
end
/-- FnOk where no repr is under way -/
structure FnG (P : Program) (w : World) (K : PySem.W.Frag) (mg : Str → Option Value) (base : Heap) (k : Nat) (f : Addr) (fd : FuncData) (ps : List Str) (sp : Sp) : Prop where
  len : ∀ vs H Q E, sp vs H Q E → vs.length = ps.length
  run : ∀ (A : Around) (outer : List PySem.Env) (s : Shared) (H : Hp) (args : Args) (us : List Value) (vs : List V) (Q : VK) (E : XK), Room k A → A.guards = some [] → Env0 P w K mg base A outer s H → BindsTo s fd args (ps.zip us) → Vals vs us → sp vs H Q E →
    codeAny (model P w) A (.call (.ref f) args) (CR (L2.CX P w) outer P w H s Q E) s
theorem FnG.mono {P : Program} {w : World} {K : PySem.W.Frag} {mg : Str → Option Value} {base : Heap} {j k : Nat} {f : Addr} {fd : FuncData} {ps : List Str} {sp : Sp} (F : FnG P w K mg base j f fd ps sp) (h : j ≤ k) :
    FnG P w K mg base k f fd ps sp := ⟨F.len, fun A outer s H args us vs Q E hr => F.run A outer s H args us vs Q E (hr.mono h)⟩
theorem fnG_of {P : Program} {w : World} {K : PySem.W.Frag} {mg : Str → Option Value} {base : Heap} {k : Nat} {f : Addr} {name qual : Str} {params : Arguments} {body : List Stmt} {scope : Scope} {dV kV doc pm cdv ct oc : Value} {an od : Option Addr}
    {osl : Array (Option Value)} {N ps : List Str} {sp : Sp} (lk : K.lookup f = some ⟨oc, od, .func (PySem.W.fnOf name qual params body scope dV kV doc pm an cdv ct), osl⟩) (hcd : PySem.W.codeIn K cdv qual = true) (S : FnScope N ps scope)
    (len : ∀ vs H Q E, sp vs H Q E → vs.length = ps.length)
    (hbody : ∀ (A : Around) (outer : List PySem.Env) (s : Shared) (H : Hp) (vs : List V) (Q : VK) (E : XK), Room k (A.deeper (envOfC qual scope s.heap.objs.size f cdv)) → A.guards = some [] → sp vs H Q E →
      ∃ t, PSs (cxOf (L2.CX P w) P w K mg base N qual scope f cdv A outer s H E) body t ∧ t { nx := fun _ H' => Q .non H', rt := Q } (L2.start N vs) H) :
    FnG P w K mg base (k + 1) f (PySem.W.fnOf name qual params body scope dV kV doc pm an cdv ct) ps sp := by
  refine ⟨len, fun A outer s H args us vs Q E hr hgd e0 hb r hsp => ?_⟩
  have hl := len _ _ _ _ hsp
  have KX : K.In s.heap := e0.mod.kin.keeps fun b o e => (e0.bs b o e).1
  have lim : s.heap.NoLimit := e0.mod.nolimit.keeps fun b o e => (e0.bs b o e).1
  have hkind : ∀ y ∈ ps.zip us, scope.names.lookup y.1 = some .local ∨ (scope.names.lookup y.1 = some .cell ∧ ((cellsFrom (s.heap.objs.size + 1) scope.names []).lookup y.1).isSome = true) := fun ⟨n, v⟩ hy => by
    rcases S.par n (List.of_mem_zip hy).1 with q | q
    · exact .inl q
    · exact .inr ⟨q, PySem.W.cellsFrom_some _ _ _ (.inl q)⟩
  refine codeAny_call_function hr.depth (KX _ _ lk) rfl S.co S.gen rfl (PySem.W.codeRec_of KX hcd) (hb _ _ _ _ ?_)
  refine wpAny_newFunctionEnv_cells S.kind hkind fun env he s1 x => ?_
  subst he
  refine ⟨lim.keeps x.toInCall.keep, codeAny_func ?_⟩
  obtain ⟨t, ht, hq⟩ := hbody A outer s H vs Q E (hr.deeper _) hgd hsp
  have I : Inv (cxOf (L2.CX P w) P w K mg base N qual scope f cdv A outer s H E) [] (L2.start N vs) H s1 := inv_start S hr.hd e0 hl r x
  refine wpAny_mono (ht.run [] s1 (L2.start N vs) H _ I hq) (fun fl s' hs => ?_) fun e s' hs => hs
  have fin : ∀ {σ' : St} {H' : Hp} {v : V} {u : Value}, Inv (cxOf (L2.CX P w) P w K mg base N qual scope f cdv A outer s H E) [] σ' H' s' → RelV v u → Q v H' → CE outer P w H s Q u s' :=
    fun {σ' H' v u} J rv q => ⟨v, H', J.os, J.bare, J.base, J.hok, rv, q⟩
  cases fl with
  | ret u =>
    obtain ⟨v, σ', H', J, rv, q⟩ := hs
    exact fin J rv q
  | next =>
    obtain ⟨σ', H', J, q⟩ := hs
    exact fin (v := V.non) (u := Value.none) J rfl q
  | brk =>
    obtain ⟨_, _, _, q⟩ := hs
    exact False.elim q
  | cont =>
    obtain ⟨_, _, _, q⟩ := hs
    exact False.elim q
section
variable {X : Cx} {k : Nat} {f : Addr} {fd : FuncData} {ps : List Str} {sp : Sp} {E : St → XK} {x : Str} {p pos : Pos} {e : Expr} {es : List Expr} {t : TA}
theorem run_fnG {pins : List (Addr × Obj)} {σ : St} {H : Hp} {s : Shared} {Q : VK} {us : List Value} {vs : List V} (F : FnG X.prog X.w X.K X.mg X.base k f fd ps sp) (hr : Room k X.A) (hgd : X.A.guards = some []) (hb : Binds X.K fd ps []) (hx : PassesAt (L2.CX X.prog X.w) X σ (E σ))
    (I : Inv X pins σ H s) (r : Vals vs us) (h : sp vs H Q (E σ)) : wpAny (model X.prog X.w) X.A (call (.ref f) us) (EP X pins σ Q) X.xe s := by
  have hl : (us ++ []).length = ps.length := by rw [List.append_nil, ← r.length]; exact F.len _ _ _ _ h
  have hb' := hb s us I.kIn hl
  rw [List.append_nil] at hb'
  refine wpAny_call (codeAny_mono (F.run X.A X.stack s H ⟨us, []⟩ us vs Q (E σ) hr hgd I.env0 hb' r h) fun r s' hq => ?_)
  cases r with
  | error e => exact hx pins H s e s' I hq
  | ok fl =>
    cases fl with
    | ret u => exact I.after hq
    | next => exact False.elim hq
    | brk => exact False.elim hq
    | cont => exact False.elim hq
theorem pe_callG (F : FnG X.prog X.w X.K X.mg X.base k f fd ps sp) (hr : Room k X.A) (hgd : X.A.guards = some []) (hg : Gl X x) (hm : X.mg x = some (.ref f)) (hk : PySem.W.keepIn X.K (.ref f) = true) (hb : Binds X.K fd ps []) (hx : ∀ σ, PassesAt (L2.CX X.prog X.w) X σ (E σ))
    (ha : PA X (e :: es) t) (hdb : (x == ("__debug__" : Str)) = false := by decide) (he : starEach (e :: es) X.env = (false, eval e X.env) :: starEach es X.env := by rfl) (hpl : (backTo pos (starEach es X.env)).any (·.1) = false := by rfl) :
    PE X (.Call (.Name x p) (e :: es) [] pos) (fun σ H Q => t σ H fun vs H1 => sp vs H1 Q (E σ)) := by
  refine ⟨fun pins s σ H Q I h => ?_⟩
  refine wpAny_Call_Name_kw (ld_glob I hg hm ?_ hdb)
  refine PySem.W.callWith_K (h₀ := X.base) I.ok.mod.kin hk (thn (ha.run pos pins s σ H _ I h) fun us s1 ⟨vs, H1, I1, r, q⟩ => ⟨I1.kIn, ?_⟩) he hpl
  exact run_fnG F hr hgd hb (hx σ) I1 r q
end
abbrev FE (P : Program) (w : World) (K : PySem.W.Frag) (mg : Str → Option Value) (base : Heap) (k : Nat) (f : Addr) (fd : FuncData) (ps : List Str) (io : List Nat) (m : List O → FRes) : Prop :=
  FnG P w K mg base k f fd ps (spF K mg ps.length io m)
section
variable {K : PySem.W.Frag} {mg : Str → Option Value}
/-- the arguments, slot by slot -/
theorem Owns.slots {I H : Hp} : ∀ {os : List O} {vs : List V} {G : Pd}, Owns K mg I H os vs G → ∃ φ : Ph, (∀ i a, φ i a → G a) ∧ (∀ i j a, φ i a → φ j a → i = j) ∧ ∀ i o, os[i]? = some o → ∃ v, vs[i]? = some v ∧ Own K mg I H o v (φ i)
  | _, _, _, .nil => ⟨fun _ => noP, fun _ _ q => q.elim, fun _ _ _ q => q.elim, fun i o e => by simp at e⟩
  | _, _, _, .cons (S1 := S1) (v := v) a b c d dis => by
    obtain ⟨φ, h1, h2, h3⟩ := Owns.slots b
    refine ⟨fun i => match i with | 0 => S1 | i + 1 => φ i, fun i x q => ?_, fun i j x q r => ?_, fun i o e => ?_⟩
    · cases i with
      | zero => exact c x q
      | succ i => exact d x (h1 i x q)
    · cases i with
      | zero =>
        cases j with
        | zero => rfl
        | succ j => exact (dis x q (h1 j x r)).elim
      | succ i =>
        cases j with
        | zero => exact (dis x r (h1 i x q)).elim
        | succ j => rw [h2 i j x q r]
    · cases i with
      | zero => simp at e; subst e; exact ⟨v, by simp, a⟩
      | succ i =>
        obtain ⟨u, e1, w⟩ := h3 i o (by simpa using e)
        exact ⟨u, by simpa using e1, w⟩
/-- some slots handed back -/
theorem Gd.outs {I H : Hp} {φ : Ph} {ρ : Env} {σ : St} (gd : Gd K mg I H φ ρ σ) {vs : List V} : ∀ {io : List Nat}, io.Nodup → (∀ i ∈ io, ∃ v, vs[i]? = some v ∧ σ[i]? = some (some v)) →
    Owns K mg I H (io.map fun i => ρ.getD i .un) (io.map fun i => vs.getD i .non) (fun a => ∃ i ∈ io, φ i a)
  | [], _, _ => .nil
  | i :: io, nd, h => by
    obtain ⟨hn, nd'⟩ := List.nodup_cons.mp nd
    obtain ⟨v, e1, e2⟩ := h i List.mem_cons_self
    have ih := Gd.outs gd nd' fun j hj => h j (List.mem_cons_of_mem _ hj)
    refine .cons (S1 := φ i) ?_ ih (fun a q => ⟨i, List.mem_cons_self, q⟩) (fun a ⟨j, hj, q⟩ => ⟨j, List.mem_cons_of_mem _ hj, q⟩) fun a q ⟨j, hj, r⟩ => hn (by rw [gd.sep i j a q r]; exact hj)
    have ev : vs.getD i .non = v := by rw [List.getD_eq_getElem?_getD, e1]; rfl
    show Own K mg I H (ρ.getD i .un) (vs.getD i .non) (φ i)
    rw [ev]
    rw [List.getD_eq_getElem?_getD]
    cases e : ρ[i]? with
    | none => exact .un
    | some o =>
      by_cases z : o = .un
      · rw [z]; exact .un
      · obtain ⟨v', e3, w⟩ := gd.sl i o e z
        rw [e2] at e3
        cases e3
        exact w
variable {P : Program} {w : World} {base : Heap}
/-- THE RULE for a def -/
theorem fe_of {x qual : Str} {st : Stmt} {f : Addr} {fd : FuncData} {N ps : List Str} {k : Nat} {io : List Nat} {body : M Fl} (F : Fun K x qual st f fd) (S : FnScope N ps (defScope st)) (hio : io.Nodup) (hps : ∀ i ∈ io, i < ps.length)
    (hbody : ∀ (cdv : Value) (A : Around) (outer : List PySem.Env) (s : Shared) (H : Hp) (E : XK), Room k (cxOf (L2.CX P w) P w K mg base N qual (defScope st) f cdv A outer s H E).A → (cxOf (L2.CX P w) P w K mg base N qual (defScope st) f cdv A outer s H E).A.guards = some [] →
      Takes (cxOf (L2.CX P w) P w K mg base N qual (defScope st) f cdv A outer s H E) (fun cls d _ H => E cls d H) → EB (cxOf (L2.CX P w) P w K mg base N qual (defScope st) f cdv A outer s H E) (fun cls d _ H => E cls d H) io (defBody st) body) :
    FE P w K mg base (k + 1) f fd ps io (runF io N.length body) := by
  obtain ⟨oc, od, kV, doc, pm, an, cdv, ct, osl, rfl, lk, hcd⟩ := F.ex
  refine fnG_of lk hcd S (fun vs H Q E h => ?_) fun A outer s H vs Q E hr hgd h => ?_
  · obtain ⟨os, I, G, hl, _, w, _⟩ := h
    rw [w.len, hl]
  · obtain ⟨os, I, G, hl, hd, ow, h⟩ := h
    have tk : Takes (cxOf (L2.CX P w) P w K mg base N qual (defScope st) f cdv A outer s H E) (fun cls d _ H => E cls d H) := takes_of rfl rfl rfl rfl
    refine ⟨_, hbody cdv A outer s H E hr hgd tk, ?_⟩
    obtain ⟨φ, h1, h2, h3⟩ := ow.slots
    have hvl : vs.length = os.length := ow.len
    have gd : Gd K mg I H φ (os ++ List.replicate (N.length - os.length) .un) (L2.start N vs) := by
      refine ⟨hd.le, fun i a q => hd.dj a (h1 i a q), fun i a q => hd.th a (h1 i a q), h2, fun i o e n => ?_⟩
      by_cases hi : i < os.length
      · rw [List.getElem?_append_left hi] at e
        obtain ⟨v, e1, ww⟩ := h3 i o e
        refine ⟨v, ?_, ww⟩
        unfold L2.start
        rw [List.getElem?_append_left (by rw [List.length_map, hvl]; exact hi), List.getElem?_map, e1]
        rfl
      · rw [List.getElem?_append_right (by omega), List.getElem?_replicate] at e
        split at e
        · exact (n (Option.some.inj e).symm).elim
        · cases e
    have sub : ∀ a, al φ a → G a := fun a ⟨i, q⟩ => h1 i a q
    have args : ∀ i ∈ io, ∃ v, vs[i]? = some v ∧ (L2.start N vs)[i]? = some (some v) := fun i hi => by
      have hlt : i < vs.length := by rw [hvl, hl]; exact hps i hi
      refine ⟨vs[i], List.getElem?_eq_getElem hlt, ?_⟩
      unfold L2.start
      rw [List.getElem?_append_left (by rw [List.length_map]; exact hlt), List.getElem?_map, List.getElem?_eq_getElem hlt]
      rfl
    have outs : ∀ {σ' : St} {H' I' : Hp} {φ' : Ph} {ρ' : Env}, Keeps io (L2.start N vs) σ' → Gd K mg I' H' φ' ρ' σ' → Owns K mg I' H' (io.map fun i => ρ'.getD i .un) (io.map fun i => vs.getD i .non) (fun a => ∃ i ∈ io, φ' i a) :=
      fun {σ' H' I' φ' ρ'} kp g => g.outs hio fun i hi => by
        obtain ⟨v, e1, e2⟩ := args i hi
        exact ⟨v, e1, (kp.at_ i hi).trans e2⟩
    refine ⟨_, I, φ, gd, ?_⟩
    unfold runF at h
    have fin : ∀ {r : O} {v : V} {σ' : St} {H' I' : Hp} {φ' : Ph} {G' : Pd} {ρ' : Env}, PostF K mg I H G (io.map fun i => vs.getD i .non) Q E (.ok r (io.map fun i => ρ'.getD i .un)) → Keeps io (L2.start N vs) σ' → Stp I H (al φ) I' H' (orP (al φ') G') → Gd K mg I' H' φ' ρ' σ' →
        Tm I' H' φ' G' → Own K mg I' H' r v G' → Q v H' := fun {r v σ' H' I' φ' G' ρ'} h kp s g t ww => by
      refine h v H' I' (fun a => G' a ∨ ∃ i ∈ io, φ' i a) ((s.from sub).sub fun a q => ?_) ⟨g.le, fun a q => ?_, fun a q => ?_⟩ (.cons ww (outs kp g) (fun a => .inl) (fun a => .inr) fun a q ⟨i, _, r⟩ => t.sp i a q r)
      · rcases q with q | ⟨i, _, q⟩
        · exact .inr q
        · exact .inl ⟨i, q⟩
      · rcases q with q | ⟨i, _, q⟩
        · exact t.dj a q
        · exact g.dj i a q
      · rcases q with q | ⟨i, _, q⟩
        · exact t.th a q
        · exact g.th i a q
    cases e : body (os ++ List.replicate (N.length - os.length) .un) with
    | stuck => rw [e] at h; exact h.elim
    | exc c ρ' =>
      rw [e] at h
      intro C σ' H' I' φ' kp eC s g
      exact h C H' I' (fun a => ∃ i ∈ io, φ' i a) eC ((s.from sub).sub fun a ⟨i, _, q⟩ => ⟨i, q⟩) ⟨g.le, fun a ⟨i, _, q⟩ => g.dj i a q, fun a ⟨i, _, q⟩ => g.th i a q⟩ (outs kp g)
    | ok r ρ' =>
      rw [e] at h
      cases r with
      | nx => exact fun σ' H' I' φ' kp s g => fin h kp (s.sub fun a q => q.elim id False.elim) g Tm.none (.d .non)
      | brk => exact h.elim
      | cnt => exact h.elim
      | ret r => exact fun v σ' H' I' φ' G' kp s g t ww => fin h kp s g t ww
end

/-! ### calls -/
/-- the arguments of a call, frozen -/
def frzA : O → Option O
  | .scr xs => some (.scr xs)
  | o => (frz o).map .d
theorem frzA_cases {o y : O} (h : frzA o = some y) : (∃ xs, o = .scr xs ∧ y = .scr xs) ∨ ∃ x, frz o = some x ∧ y = .d x := by
  unfold frzA at h
  split at h
  · cases h; exact .inl ⟨_, rfl, rfl⟩
  · rw [Option.map_eq_some_iff] at h
    obtain ⟨x, h1, rfl⟩ := h
    exact .inr ⟨x, h1, rfl⟩
def frzArgs : List O → Option (List O)
  | [] => some []
  | o :: r => match frzA o, frzArgs r with
    | some x, some xs => some (x :: xs)
    | _, _ => none
def E.call (n : Nat) (m : List O → FRes) (f : M (List O)) : M O := f.bind fun os => fun ρ => match frzArgs os with
  | some xs => if xs.length = n then (match m xs with
    | .ok r [] => .ok r ρ
    | .exc c [] => .exc c ρ
    | _ => .stuck) else .stuck
  | none => .stuck
/-- .. whose first argument is the slot i, which is handed back -/
def E.callIO (n : Nat) (m : List O → FRes) (i : Nat) (f : M (List O)) : M O := fun ρ0 => match ρ0[i]? with
  | some .un => .stuck
  | none => .stuck
  | some _ => (f.bind fun os => fun ρ => match frzArgs os, ρ[i]? with
    | some xs, some o => if xs.length + 1 = n then (match m (o :: xs) with
      | .ok r [o'] => .ok r (ρ.set i o')
      | .exc c [o'] => .exc c (ρ.set i o')
      | _ => .stuck) else .stuck
    | _, _ => .stuck) ρ0
section
variable {K : PySem.W.Frag} {mg : Str → Option Value} {I H : Hp}
theorem Owns.frzArgs {G : Pd} : ∀ {os xs : List O} {vs : List V} {S S' : Pd}, Owns K mg I H os vs S → (∀ a, S a → G a) → (∀ a, G a → I a = none) → EV.frzArgs os = some xs → Owns K mg (addI I H G) H xs vs S'
  | _, _, _, _, _, .nil, _, _, e => by rw [EV.frzArgs] at e; cases e; exact .nil
  | o :: r, _, _, _, S', .cons a b c d _, hS, hd, e => by
    rw [EV.frzArgs] at e
    split at e
    · rename_i x xs e1 e2
      cases e
      refine .cons (S1 := noP) (S2 := S') ?_ (Owns.frzArgs b (fun z q => hS z (d z q)) hd e2) (fun _ q => q.elim) (fun _ q => q) (fun _ q => q.elim)
      rcases frzA_cases e1 with ⟨ys, rfl, rfl⟩ | ⟨y, e3, rfl⟩
      · cases a with
        | scr q => exact .scr ((RdLe.of (addI_same hd)).sqL q)
      · exact .d ((a.mono fun z q => hS z (c z q)).den e3 hd)
    · cases e
end
section
variable {X : Cx} {W : WX} {k : Nat} {f : Addr} {fd : FuncData} {ps : List Str} {m : List O → FRes} {x : Str} {p pos : Pos} {e : Expr} {es : List Expr} {fa : M (List O)}
theorem call_read {σ : St} {H : Hp} {Q : VK} {n : Nat} (h : rdE X.K X.mg W (E.call n m fa) σ H Q) : (rdA X.K X.mg W fa) σ H (fun vs H1 => spF X.K X.mg n [] m vs H1 Q (WE W σ)) := by
  obtain ⟨ρ, I, φ, gd, h⟩ := h
  refine bindA (P := PostE X.K X.mg W σ I H (al φ) Q) gd h (fun _ _ z => z) (fun z => z) fun os ρ1 _ h vs H1 I1 φ1 G1 s1 gd1 t1 w1 => ?_
  have h' := h.shift s1
  cases e : EV.frzArgs os with
  | none => rw [e] at h'; exact h'.elim
  | some xs =>
    rw [e] at h'
    obtain ⟨gd2, st2⟩ := gd1.freeze t1
    have w2 : Owns X.K X.mg (addI I1 H1 G1) H1 xs vs noP := w1.frzArgs (fun _ q => q) t1.dj e
    simp only at h'
    split at h'
    case isFalse => exact h'.elim
    rename_i hl2
    refine ⟨xs, addI I1 H1 G1, noP, hl2, ⟨gd2.le, fun _ q => q.elim, fun _ q => q.elim⟩, w2, ?_⟩
    have back : ∀ {H' I' : Hp} {G' : Pd}, Stp (addI I1 H1 G1) H1 noP I' H' G' → Holds I' H' G' → Gd X.K X.mg I' H' φ1 ρ1 σ ∧ Stp I1 H1 (orP (al φ1) G1) I' H' (orP (al φ1) G') ∧ Tm I' H' φ1 G' := by
      intro H' I' G' s hd
      have tk : ∀ i a, φ1 i a → ∃ o, H1 a = some o := fun i a q => Option.ne_none_iff_exists'.mp (gd1.th i a q)
      refine ⟨⟨hd.le, fun i a q => ?_, fun i a q => ?_, gd1.sep, fun i o e n => ?_⟩, ?_, ⟨hd.dj, hd.th, fun i a g q => ?_⟩⟩
      · cases ei : I' a with
        | none => rfl
        | some o =>
          obtain ⟨o', ho⟩ := tk i a q
          rcases s.fi a o ei with z | z | z
          · rw [gd2.dj i a q] at z; cases z
          · exact z.elim
          · rw [ho] at z; cases z
      · obtain ⟨o, ho⟩ := tk i a q
        rw [s.kp a o ho id]; exact Option.some_ne_none _
      · obtain ⟨v, e1, ww⟩ := gd2.sl i o e n
        exact ⟨v, e1, ww.step (RdLe.of s.li) fun a u _ z => s.kp a u z id⟩
      · refine st2.trans ((s.frame (G := al φ1) fun a ⟨i, q⟩ => gd1.th i a q).from (F2 := al φ1) fun a q => q.elim False.elim id |>.elim fun i z => ⟨i, z⟩) |>.sub fun a q => q.elim .inr .inl
      · obtain ⟨o, ho⟩ := tk i a q
        rcases s.fr a g with z | z
        · exact z
        · rw [ho] at z; cases z
    cases em : m xs with
    | stuck => rw [em] at h'; exact h'.elim
    | ok r outs =>
      rw [em] at h'
      cases outs with
      | cons _ _ => exact h'.elim
      | nil =>
        intro v H' I' G' s hd ow
        obtain ⟨g, st, t⟩ := back s hd
        cases ow with
        | cons a b c d dis => exact h' v H' I' φ1 G' st g t (a.mono c)
    | exc c outs =>
      rw [em] at h'
      cases outs with
      | cons _ _ => exact h'.elim
      | nil =>
        intro C H' I' G' eC s hd ow
        obtain ⟨g, st, t⟩ := back s hd
        exact h' C H' I' φ1 eC (st.sub fun a q => .inl q) g
end

section
variable {K : PySem.W.Frag} {mg : Str → Option Value} {I H I' H' : Hp} {φ : Ph} {ρ : Env} {σ : St} {F F' : Pd}
/-- a step that leaves all slots aside -/
theorem Gd.past (gd : Gd K mg I H φ ρ σ) (s : Stp I H F I' H' F') (nf : ∀ a, al φ a → ¬ F a) (le : Same I' H') : Gd K mg I' H' φ ρ σ ∧ ∀ a, al φ a → ¬ F' a := by
  have tk : ∀ i a, φ i a → ∃ o, H a = some o := fun i a q => Option.ne_none_iff_exists'.mp (gd.th i a q)
  refine ⟨⟨le, fun i a q => ?_, fun i a q => ?_, gd.sep, fun i o e n => ?_⟩, fun a ⟨i, q⟩ z => ?_⟩
  · cases ei : I' a with
    | none => rfl
    | some o =>
      obtain ⟨o', ho⟩ := tk i a q
      rcases s.fi a o ei with z | z | z
      · rw [gd.dj i a q] at z; cases z
      · exact (nf a ⟨i, q⟩ z).elim
      · rw [ho] at z; cases z
  · obtain ⟨o, ho⟩ := tk i a q
    rw [s.kp a o ho (nf a ⟨i, q⟩)]; exact Option.some_ne_none _
  · obtain ⟨v, e1, w⟩ := gd.sl i o e n
    exact ⟨v, e1, w.step (RdLe.of s.li) fun a u g z => s.kp a u z (nf a ⟨i, g⟩)⟩
  · obtain ⟨o, ho⟩ := tk i a q
    rcases s.fr a z with y | y
    · exact nf a ⟨i, q⟩ y
    · rw [ho] at y; cases y
end
section
variable {X : Cx} {W : WX} {k : Nat} {f : Addr} {fd : FuncData} {ps : List Str} {m : List O → FRes} {x : Str} {p pos : Pos} {e : Expr} {es : List Expr} {fa : M (List O)}
theorem callIO_read {σ : St} {H : Hp} {Q : VK} {n i : Nat} (h : rdE X.K X.mg W (E.callIO n m i fa) σ H Q) : tCons (tVar i) (rdA X.K X.mg W fa) σ H (fun vs H1 => spF X.K X.mg n [0] m vs H1 Q (WE W σ)) := by
  obtain ⟨ρ, I, φ, gd, h⟩ := h
  unfold E.callIO at h
  obtain ⟨v0, hv0, h⟩ : ∃ v, σ[i]? = some (some v) ∧ PostE X.K X.mg W σ I H (al φ) Q ((fa.bind fun os => fun ρ => match frzArgs os, ρ[i]? with
    | some xs, some o => if xs.length + 1 = n then (match m (o :: xs) with
      | .ok r [o'] => .ok r (ρ.set i o')
      | .exc c [o'] => .exc c (ρ.set i o')
      | _ => .stuck) else .stuck
    | _, _ => .stuck) ρ) := by
    cases e : ρ[i]? with
    | none => rw [e] at h; exact h.elim
    | some o =>
      rw [e] at h
      have ne : o ≠ .un := by intro z; subst z; exact h
      obtain ⟨v, e1, _⟩ := gd.sl i o e ne
      refine ⟨v, e1, ?_⟩
      cases o with
      | un => exact h.elim
      | _ => exact h
  refine ⟨v0, hv0, ?_⟩
  refine bindA (P := PostE X.K X.mg W σ I H (al φ) Q) gd h (fun _ _ z => z) (fun z => z) fun os ρ1 _ h vs H1 I1 φ1 G1 s1 gd1 t1 w1 => ?_
  have h' := h.shift s1
  show spF X.K X.mg n [0] m (v0 :: vs) H1 Q (WE W σ)
  cases e : EV.frzArgs os with
  | none => rw [e] at h'; exact h'.elim
  | some xs =>
    cases eo : ρ1[i]? with
    | none => rw [e, eo] at h'; exact h'.elim
    | some o =>
      rw [e, eo] at h'
      simp only at h'
      split at h'
      case isFalse => exact h'.elim
      rename_i hl
      obtain ⟨gd2, st2⟩ := gd1.freeze t1
      have w2 : Owns X.K X.mg (addI I1 H1 G1) H1 xs vs noP := w1.frzArgs (fun _ q => q) t1.dj e
      have wo : Own X.K X.mg (addI I1 H1 G1) H1 o v0 (φ1 i) := by
        by_cases z : o = .un
        · rw [z]; exact .un
        · obtain ⟨v, e1, ww⟩ := gd2.sl i o eo z
          rw [hv0] at e1; cases e1
          exact ww
      have gd3 : Gd X.K X.mg (addI I1 H1 G1) H1 (setP φ1 i noP) (ρ1.set i .un) σ := gd2.upd (fun _ q => q.elim) (fun _ q => q.elim) (fun _ _ q => q.elim) (fun _ _ => rfl) (fun _ z => (z rfl).elim)
      have nf : ∀ a, al (setP φ1 i noP) a → ¬ φ1 i a := fun a ⟨j, q⟩ r => by
        by_cases z : j = i
        · subst z; rw [setP_same] at q; exact q
        · rw [setP_ne z] at q; exact z (gd1.sep j i a q r)
      refine ⟨o :: xs, addI I1 H1 G1, φ1 i, hl, ⟨gd2.le, gd2.dj i, gd2.th i⟩, .cons wo w2 (fun _ q => q) (fun _ q => q.elim) (fun _ _ q => q), ?_⟩
      have step : ∀ {H' I' : Hp} {G' : Pd}, Stp (addI I1 H1 G1) H1 (φ1 i) I' H' G' → Holds I' H' G' → ∀ {o' : O} {S2 S1 : Pd}, (∀ a, S2 a → G' a) → (∀ a, S1 a → G' a) → (∀ a, S1 a → ¬ S2 a) → Own X.K X.mg I' H' o' v0 S2 →
          Gd X.K X.mg I' H' (setP φ1 i S2) (ρ1.set i o') σ ∧ Stp I1 H1 (orP (al φ1) G1) I' H' (orP (al (setP φ1 i S2)) S1) ∧ Tm I' H' (setP φ1 i S2) S1 := by
        intro H' I' G' s hd o' S2 S1 h2 h1 dis wo'
        obtain ⟨g, nf'⟩ := gd3.past s nf hd.le
        have hg := g.upd (σ' := σ) (S := S2) (i := i) (o := o') (fun a q => hd.dj a (h2 a q)) (fun a q => hd.th a (h2 a q)) (fun j a q hj r => nf' a ⟨j, r⟩ (h2 a q)) (fun _ _ => rfl) (fun _ _ => ⟨v0, hv0, wo'⟩)
        rw [List.set_set] at hg
        have es : setP (setP φ1 i noP) i S2 = setP φ1 i S2 := by
          funext j
          unfold setP
          split <;> rfl
        rw [es] at hg
        refine ⟨hg, (st2.trans ((s.frame (G := al (setP φ1 i noP)) fun a ⟨j, q⟩ => gd3.th j a q).from (F2 := al φ1) fun a q => ?_)).sub fun a q => ?_, ⟨fun a q => hd.dj a (h1 a q), fun a q => hd.th a (h1 a q), fun j a q r => ?_⟩⟩
        · rcases q with q | q
          · exact ⟨i, q⟩
          · exact (al_setP q).elim False.elim id
        · rcases q with ⟨j, q⟩ | q
          · by_cases z : j = i
            · subst z; rw [setP_same] at q; exact .inl (h2 a q)
            · rw [setP_ne z] at q
              exact .inr ⟨j, by rw [setP_ne z]; exact q⟩
          · exact .inl (h1 a q)
        · by_cases z : j = i
          · subst z; rw [setP_same] at r; exact dis a q r
          · rw [setP_ne z] at r
            exact nf' a ⟨j, by rw [setP_ne z]; exact r⟩ (h1 a q)
      cases em : m (o :: xs) with
      | stuck => rw [em] at h'; exact h'.elim
      | ok r outs =>
        rw [em] at h'
        match outs, h' with
        | [], h' => exact h'.elim
        | _ :: _ :: _, h' => exact h'.elim
        | [o'], h' =>
          intro v H' I' G' s hd ow
          cases ow with
          | cons a b c d dis =>
            cases b with
            | cons b1 b2 c2 d2 dis2 =>
              obtain ⟨g, st, t⟩ := step s hd (fun z q => d z (c2 z q)) c (fun z q r => dis z q (c2 z r)) b1
              exact h' v H' I' _ _ st g t a
      | exc c outs =>
        rw [em] at h'
        match outs, h' with
        | [], h' => exact h'.elim
        | _ :: _ :: _, h' => exact h'.elim
        | [o'], h' =>
          intro C H' I' G' eC s hd ow
          cases ow with
          | cons b1 b2 c2 d2 dis2 =>
            obtain ⟨g, st, t⟩ := step s hd (S1 := noP) c2 (fun _ q => q.elim) (fun _ q => q.elim) b1
            exact h' C H' I' _ eC (st.sub fun a q => .inl q) g
theorem ee_call (F : FE X.prog X.w X.K X.mg X.base k f fd ps [] m) (hr : Room k X.A) (hgd : X.A.guards = some []) (hg : Gl X x) (hm : X.mg x = some (.ref f)) (hk : PySem.W.keepIn X.K (.ref f) = true) (hb : Binds X.K fd ps []) (tk : Takes X W)
    (ha : EA X W (e :: es) fa) (hdb : (x == ("__debug__" : Str)) = false := by decide) (he : starEach (e :: es) X.env = (false, eval e X.env) :: starEach es X.env := by rfl) (hpl : (backTo pos (starEach es X.env)).any (·.1) = false := by rfl) :
    EE X W (.Call (.Name x p) (e :: es) [] pos) (E.call ps.length m fa) :=
  PE.weak (pe_callG F hr hgd hg hm hk hb (fun σ => passAt tk σ) ha hdb he hpl) fun _ _ _ h => call_read h
theorem ee_callIO (i : Nat) {y : Str} {py : Pos} (F : FE X.prog X.w X.K X.mg X.base k f fd ps [0] m) (hr : Room k X.A) (hgd : X.A.guards = some []) (hg : Gl X x) (hm : X.mg x = some (.ref f)) (hk : PySem.W.keepIn X.K (.ref f) = true) (hb : Binds X.K fd ps []) (tk : Takes X W)
    (hy : PE X (.Name y py) (tVar i)) (ha : EA X W es fa) (hdb : (x == ("__debug__" : Str)) = false := by decide) (hs : starEach (.Name y py :: es) X.env = (false, eval (.Name y py) X.env) :: starEach es X.env := by rfl) (hpl : (backTo pos (starEach es X.env)).any (·.1) = false := by rfl) :
    EE X W (.Call (.Name x p) (.Name y py :: es) [] pos) (E.callIO ps.length m i fa) :=
  PE.weak (pe_callG F hr hgd hg hm hk hb (fun σ => passAt tk σ) (pa_cons hy ha hs) hdb hs hpl) fun _ _ _ h => callIO_read h
end
end EV

/-! The layer EV, part H: operators and built-ins by values. -/
namespace EV
open PySem PySem.Spec PyProof.Rows L2
section
variable {K : PySem.W.Frag} {mg : Str → Option Value} {I H : Hp} {G : Pd}

theorem Own.int {i : Int} {v : V} (w : Own K mg I H (.d (.int i)) v G) : v = .int i := by
  cases w with
  | d q => cases q; rfl
theorem Own.bool {b : Bool} {v : V} (w : Own K mg I H (.d (.bool b)) v G) : v = .bl b := by
  cases w with
  | d q => cases q; rfl
theorem Own.str {x : Str} {v : V} (w : Own K mg I H (.d (.str x)) v G) : v = .str x := by
  cases w with
  | d q => cases q; rfl
theorem Own.none' {v : V} (w : Own K mg I H (.d .none) v G) : v = .non := by
  cases w with
  | d q => cases q; rfl
theorem Owns.append : ∀ {xs ys : List O} {vs ws : List V} {G1 G2 : Pd}, Owns K mg I H xs vs G1 → Owns K mg I H ys ws G2 → (∀ a, G1 a → ¬ G2 a) → Owns K mg I H (xs ++ ys) (vs ++ ws) (orP G1 G2)
  | _, _, _, _, _, _, .nil, w, _ => w.mono fun _ => .inr
  | _, _, _, _, _, _, .cons a b c d e, w, dis => .cons a (Owns.append b w fun x q => dis x (d x q)) (fun x q => .inl (c x q)) (fun x q => q.elim (fun z => .inl (d x z)) .inr) (fun x q z => z.elim (e x q) (dis x (c x q)))
theorem Owns.get : ∀ {xs : List O} {vs : List V} {G : Pd} {i : Nat} {o : O}, Owns K mg I H xs vs G → xs[i]? = some o → ∃ v, vs[i]? = some v ∧ Own K mg I H o v G
  | _, _, _, _, _, .nil, e => by simp at e
  | _, _, _, 0, _, .cons a _ c _ _, e => by simp at e; subst e; exact ⟨_, rfl, a.mono c⟩
  | _, _, _, i + 1, o, .cons _ b _ d _, e => by
    obtain ⟨v, h1, h2⟩ := Owns.get (i := i) (o := o) b (by simpa using e)
    exact ⟨v, by simpa using h1, h2.mono d⟩
theorem Owns.take : ∀ {xs : List O} {vs : List V} {G : Pd} (n : Nat), Owns K mg I H xs vs G → Owns K mg I H (xs.take n) (vs.take n) G
  | _, _, _, 0, _ => .nil
  | _, _, _, _ + 1, .nil => .nil
  | _, _, _, n + 1, .cons a b c d e => .cons a (Owns.take n b) c d e
theorem Owns.drop : ∀ {xs : List O} {vs : List V} {G : Pd} (n : Nat), Owns K mg I H xs vs G → Owns K mg I H (xs.drop n) (vs.drop n) G
  | _, _, _, 0, w => w
  | _, _, _, _ + 1, .nil => .nil
  | _, _, _, n + 1, .cons a b c d e => (Owns.drop n b).mono d
theorem allD_map : ∀ xs : List D, allD (xs.map .d) = some xs
  | [] => rfl
  | x :: xs => by rw [List.map_cons, allD, allD_map xs]; rfl
/-- a tuple that stands already, as mkTup -/
theorem own_mkTup {a : Addr} {vs : List V} {os : List O} (q : I a = some (.tup vs)) (w : Owns K mg I H os vs G) : Own K mg I H (mkTup os) (.ref a) G := by
  unfold mkTup
  cases e : allD os with
  | some ds => exact .d (.tuple q (w.allD e))
  | none => exact .tup q w
end

/-! ### + -/
def lenOk (n : Nat) : Bool := decide (n ≤ 1000000)
def o_addS (x y : O) : Option O := match G.litems x, G.litems y with
  | some xs, some ys => if xs.length + ys.length ≤ 1000000 then some (.lst (xs ++ ys)) else none
  | _, _ => match G.titems x, G.titems y with
    | some xs, some ys => if xs.length + ys.length ≤ 1000000 then some (mkTup (xs ++ ys)) else none
    | _, _ => none
def o_add (x y : O) : Option O := match x, y with
  | .d (.int i), .d (.int j) => some (.d (.int (i + j)))
  | x, y => o_addS x y
section
variable {X : Cx}
def rAdd2 (K : PySem.W.Frag) : R2 := fun x y H Q => rI0 (fun i j => .int (i + j)) x y H Q ∨ (rCat x y H Q ∨ rCatA K x y H Q)
theorem op_add2 : OpR X (binaryOp .Add) (rAdd2 X.K) := op_add.or (op_cat.or op_catA)
theorem ok_add : Op2Ok X (rAdd2 X.K) o_add := by
  intro W σ I H φ ρ F G1 G2 Q x y z a b gd hf tm w1 w2 dis e h
  have lists : ∀ xs ys, G.litems x = some xs → G.litems y = some ys → (if xs.length + ys.length ≤ 1000000 then some (O.lst (xs ++ ys)) else none) = some z → rAdd2 X.K a b H Q := by
    intro xs ys ex ey e
    split at e
    case isFalse => cases e
    rename_i hz
    cases e
    obtain ⟨a1, vs, rfl, q1, o1⟩ := w1.litems gd.le ex
    obtain ⟨a2, ws, rfl, q2, o2⟩ := w2.litems gd.le ey
    exact .inr (.inl ⟨a1, a2, vs, ws, rfl, rfl, q1, q2, by rw [o1.len, o2.len, sizeLine_eq]; omega, fun p hp => fin_lst h gd hf tm (o1.append o2 dis) hp⟩)
  have tups : ∀ xs ys, G.titems x = some xs → G.titems y = some ys → (if xs.length + ys.length ≤ 1000000 then some (mkTup (xs ++ ys)) else none) = some z → rAdd2 X.K a b H Q := by
    intro xs ys ex ey e
    split at e
    case isFalse => cases e
    rename_i hz
    cases e
    obtain ⟨a1, vs, rfl, q1, o1⟩ := w1.titems ex
    obtain ⟨a2, ws, rfl, q2, o2⟩ := w2.titems ey
    refine .inr (.inr ⟨a1, a2, vs, ws, rfl, rfl, SqT.of (gd.le _ _ q1), SqT.of (gd.le _ _ q2), by rw [o1.len, o2.len, sizeLine_eq]; omega, fun ev => ?_, fun ev ev2 => ?_, fun _ _ p hp => fin_tup h gd hf tm (o1.append o2 dis) hp⟩)
    · have ex0 : xs = [] := List.length_eq_zero_iff.mp (by rw [← o1.len, ev]; rfl)
      subst ex0
      exact fin_o h gd hf tm ((own_mkTup q2 o2).mono fun _ => .inr)
    · have ey0 : ys = [] := List.length_eq_zero_iff.mp (by rw [← o2.len, ev2]; rfl)
      subst ey0
      rw [List.append_nil] at h
      exact fin_o h gd hf tm ((own_mkTup q1 o1).mono fun _ => .inl)
  have gen : o_addS x y = some z → rAdd2 X.K a b H Q := by
    intro e
    unfold o_addS at e
    cases ex : G.litems x with
    | some xs =>
      cases ey : G.litems y with
      | some ys => rw [ex, ey] at e; exact lists xs ys ex ey e
      | none =>
        rw [ex, ey] at e
        simp only at e
        cases ex' : G.titems x with
        | none => rw [ex'] at e; cases e
        | some xs' =>
          cases ey' : G.titems y with
          | none => rw [ex', ey'] at e; cases e
          | some ys' => rw [ex', ey'] at e; exact tups xs' ys' ex' ey' e
    | none =>
      rw [ex] at e
      simp only at e
      cases ex' : G.titems x with
      | none => rw [ex'] at e; cases e
      | some xs' =>
        cases ey' : G.titems y with
        | none => rw [ex', ey'] at e; cases e
        | some ys' => rw [ex', ey'] at e; exact tups xs' ys' ex' ey' e
  by_cases hi : ∃ i j, x = .d (.int i) ∧ y = .d (.int j)
  · obtain ⟨i, j, rfl, rfl⟩ := hi
    cases e
    cases w1.int
    cases w2.int
    exact .inl ⟨i, j, rfl, rfl, fin_d h gd (fun c q => hf c (.inl q)) (.int _)⟩
  · refine gen ?_
    rw [← e]
    symm
    apply o_add.eq_2
    intro i j e1 e2
    exact hi ⟨i, j, e1, e2⟩
end

/-! ### other arithmetic -/
def o_ii (c : Int → Int → Bool) (g : Int → Int → D) (x y : O) : Option O := match x, y with
  | .d (.int i), .d (.int j) => if c i j then some (.d (g i j)) else none
  | _, _ => none
section
variable {X : Cx}
theorem ok_ii {C : Int → Int → Prop} {g : Int → Int → V} {c : Int → Int → Bool} {g' : Int → Int → D} (hc : ∀ i j, c i j = true → C i j) (hg : ∀ i j I, Den X.K I (g' i j) (g i j)) : Op2Ok X (rI C g) (o_ii c g') := by
  intro W σ I H φ ρ F G1 G2 Q x y z a b gd hf tm w1 w2 dis e h
  unfold o_ii at e
  split at e
  · rename_i i j
    split at e
    · rename_i hcc
      cases e
      cases w1.int
      cases w2.int
      exact ⟨i, j, rfl, rfl, hc i j hcc, fin_d h gd (fun c q => hf c (.inl q)) (hg i j I)⟩
    · cases e
  · cases e
theorem ok_ii0 {g : Int → Int → V} {g' : Int → Int → D} (hg : ∀ i j I, Den X.K I (g' i j) (g i j)) : Op2Ok X (rI0 g) (o_ii (fun _ _ => true) g') := by
  intro W σ I H φ ρ F G1 G2 Q x y z a b gd hf tm w1 w2 dis e h
  unfold o_ii at e
  split at e
  · rename_i i j
    rw [if_pos rfl] at e
    cases e
    cases w1.int
    cases w2.int
    exact ⟨i, j, rfl, rfl, fin_d h gd (fun c q => hf c (.inl q)) (hg i j I)⟩
  · cases e
def o_sub : O → O → Option O := o_ii (fun _ _ => true) fun i j => .int (i - j)
def o_fdiv : O → O → Option O := o_ii (fun _ j => decide (0 < j) && decide (j < 1073741824)) fun i j => .int (i / j)
def o_mod : O → O → Option O := o_ii (fun _ j => decide (0 < j)) fun i j => .int (i % j)
def o_pow : O → O → Option O := o_ii (fun i j => decide (0 ≤ j) && decide (j ≤ 1000) && decide (-18446744073709551616 < i) && decide (i < 18446744073709551616)) fun i j => .int (i ^ j.toNat)
def o_lt : O → O → Option O := o_ii (fun _ _ => true) fun i j => .bool (decide (i < j))
def o_le : O → O → Option O := o_ii (fun _ _ => true) fun i j => .bool (decide (i ≤ j))
def o_gt : O → O → Option O := o_ii (fun _ _ => true) fun i j => .bool (decide (j < i))
def o_ge : O → O → Option O := o_ii (fun _ _ => true) fun i j => .bool (decide (j ≤ i))
theorem ok_sub : Op2Ok X (rI0 fun i j => .int (i - j)) o_sub := ok_ii0 fun _ _ _ => .int _
theorem ok_fdiv : Op2Ok X (rI CDiv fun i j => .int (i / j)) o_fdiv := ok_ii (fun i j h => by
  rw [Bool.and_eq_true, decide_eq_true_eq, decide_eq_true_eq] at h; exact h) fun _ _ _ => .int _
theorem ok_mod : Op2Ok X (rI (fun _ j => 0 < j) fun i j => .int (i % j)) o_mod := ok_ii (fun i j h => of_decide_eq_true h) fun _ _ _ => .int _
theorem ok_pow : Op2Ok X (rI CPow fun i j => .int (i ^ j.toNat)) o_pow := ok_ii (fun i j h => by
  simp only [Bool.and_eq_true, decide_eq_true_eq] at h
  exact ⟨h.1.1.1, by omega, by omega⟩) fun _ _ _ => .int _
theorem ok_lt : Op2Ok X (rI0 fun i j => .bl (decide (i < j))) o_lt := ok_ii0 fun _ _ _ => .bl _
theorem ok_le : Op2Ok X (rI0 fun i j => .bl (decide (i ≤ j))) o_le := ok_ii0 fun _ _ _ => .bl _
theorem ok_gt : Op2Ok X (rI0 fun i j => .bl (decide (j < i))) o_gt := ok_ii0 fun _ _ _ => .bl _
theorem ok_ge : Op2Ok X (rI0 fun i j => .bl (decide (j ≤ i))) o_ge := ok_ii0 fun _ _ _ => .bl _
end

/-! ### * : two ints, a list or a tuple times an int -/
def o_mul (x y : O) : Option O := match x, y with
  | .d (.int i), .d (.int j) => if (-18446744073709551616 < i ∧ i < 18446744073709551616) ∨ (-18446744073709551616 < j ∧ j < 18446744073709551616) then some (.d (.int (i * j))) else none
  | x, .d (.int k) => match G.litems x with
    | some xs => (match allD xs with
      | some ds => if 0 ≤ k ∧ k ≤ 1000 ∧ ds.length ≤ 1000 then some (.lst ((List.replicate k.toNat ds).flatten.map .d)) else none
      | none => none)
    | none => match G.titems x with
      | some xs => (match allD xs with
        | some ds => if ds ≠ [] ∧ 2 ≤ k ∧ k ≤ 1000 ∧ ds.length ≤ 1000 then some (.d (.tuple (List.replicate k.toNat ds).flatten)) else none
        | none => none)
      | none => none
  | _, _ => none
section
variable {K : PySem.W.Frag} {I H : Hp}
theorem DenL.append : ∀ {xs ys : List D} {vs ws : List V}, DenL K I xs vs → DenL K I ys ws → DenL K I (xs ++ ys) (vs ++ ws)
  | _, _, _, _, .nil, w => w
  | _, _, _, _, .cons a b, w => .cons a (DenL.append b w)
theorem DenL.rep {xs : List D} {vs : List V} (h : DenL K I xs vs) : ∀ k : Nat, DenL K I (List.replicate k xs).flatten (List.replicate k vs).flatten
  | 0 => .nil
  | k + 1 => by rw [List.replicate_succ, List.replicate_succ, List.flatten_cons, List.flatten_cons]; exact h.append (DenL.rep h k)
end
section
variable {X : Cx}
def rMul2 (K : PySem.W.Frag) : R2 := fun x y H Q => rI CMul (fun i j => .int (i * j)) x y H Q ∨ (rRep x y H Q ∨ rRepT K x y H Q)
theorem op_mul2 : OpR X (binaryOp .Mult) (rMul2 X.K) := op_mul.or (op_rep.or op_repT)
theorem ok_mul : Op2Ok X (rMul2 X.K) o_mul := by
  intro W σ I H φ ρ F G1 G2 Q x y z a b gd hf tm w1 w2 dis e h
  unfold o_mul at e
  split at e
  · rename_i i j
    split at e
    case isFalse => cases e
    rename_i hc
    cases e
    cases w1.int
    cases w2.int
    exact .inl ⟨i, j, rfl, rfl, hc, fin_d h gd (fun c q => hf c (.inl q)) (.int _)⟩
  · rename_i x k _
    cases w2.int
    split at e
    · rename_i xs ex
      split at e
      · rename_i ds ed
        split at e
        case isFalse => cases e
        rename_i hk
        cases e
        obtain ⟨a1, vs, rfl, q1, o1⟩ := w1.litems gd.le ex
        have dl := o1.allD ed
        have hm : ds.length * k.toNat ≤ 1000 * 1000 := Nat.mul_le_mul hk.2.2 (by omega)
        refine .inr (.inl ⟨a1, k, vs, rfl, rfl, q1, by omega, by omega, by rw [dl.len, sizeLine_eq]; omega, fun p hp => ?_⟩)
        exact fin_lst (G := noP) h gd (fun c q => hf c (.inl (q.elim id False.elim))) Tm.none (Owns.ofDen (dl.rep k.toNat)) hp
      · cases e
    · split at e
      · rename_i xs ex
        split at e
        · rename_i ds ed
          split at e
          case isFalse => cases e
          rename_i hk
          cases e
          obtain ⟨a1, vs, rfl, q1, o1⟩ := w1.titems ex
          have dl := o1.allD ed
          have hne : vs ≠ [] := fun z => hk.1 (List.length_eq_zero_iff.mp (by rw [← dl.len, z]; rfl))
          refine .inr (.inr ⟨a1, k, vs, rfl, rfl, SqT.of (gd.le _ _ q1), hne, hk.2.1, hk.2.2.1, by rw [dl.len]; exact hk.2.2.2, fun p hp => ?_⟩)
          have h2 : PostE X.K X.mg W σ I H F Q (.ok (mkTup (((List.replicate k.toNat ds).flatten).map .d)) ρ) := by
            unfold mkTup
            rw [allD_map]
            exact h
          exact fin_tup (G := noP) h2 gd (fun c q => hf c (.inl (q.elim id False.elim))) Tm.none (Owns.ofDen (dl.rep k.toNat)) hp
        · cases e
      · cases e
  · cases e
end
end EV

/-! The layer EV, part I: views (reading without freezing), comparisons. -/
namespace EV
open PySem PySem.Spec PyProof.Rows L2

/-! ### what a place reads as -/
mutual
def rdO : O → Option D
  | .un => none
  | .d x => some x
  | .lst xs => (rdOs xs).map .list
  | .tup xs => (rdOs xs).map .tuple
  | .dic kvs => some (.dict kvs)
  | .dicT _ => none
  | .obj _ _ => none
  | .exn _ => none
  | .scr xs => some (.list (xs.map .int))
  | .kst xs => some (.tuple xs)
def rdOs : List O → Option (List D)
  | [] => some []
  | x :: xs => match rdO x, rdOs xs with
    | some y, some ys => some (y :: ys)
    | _, _ => none
end
section
variable {K : PySem.W.Frag} {mg : Str → Option Value} {I H : Hp}
theorem SqL.of {a : Addr} {xs : List V} (h : H a = some (.lst xs)) : SqL K H a xs := .inl (.inl h)
mutual
theorem Den.dp (le : Same I H) : ∀ {x : D} {v : V}, Den K I x v → x.plain = true → Dp K H v x
  | _, _, .non, _ => .non
  | _, _, .bl b, _ => .bl b
  | _, _, .int i, _ => .int i
  | _, _, .str x, _ => .str x
  | _, _, .list s r, p => .lst (SqL.of (le _ _ s)) (DenL.dp le r (by simpa [PyData.plain] using p))
  | _, _, .tuple s r, p => .tup (SqT.of (le _ _ s)) (DenL.dp le r (by simpa [PyData.plain] using p))
  | _, _, .dict _ _, p => by simp [PyData.plain] at p
  | _, _, .dictT _ _ _, p => by simp [PyData.plain] at p
  | _, _, .exn _, p => by simp [PyData.plain] at p
theorem DenL.dp (le : Same I H) : ∀ {x : List D} {v : List V}, DenL K I x v → PyData.plainAll x = true → DpAll K H v x
  | _, _, .nil, _ => .nil
  | _, _, .cons a b, p => by
    simp only [PyData.plainAll, Bool.and_eq_true] at p
    exact .cons (Den.dp le a p.1) (DenL.dp le b p.2)
end
theorem dp_ints : ∀ xs : List Int, DpAll K H (xs.map V.int) (xs.map .int)
  | [] => .nil
  | x :: xs => .cons (.int x) (dp_ints xs)
mutual
theorem Own.dp (le : Same I H) : ∀ {o : O} {v : V} {S : Pd} {x : D}, Own K mg I H o v S → rdO o = some x → x.plain = true → Dp K H v x
  | _, _, _, _, .un, e, _ => by rw [rdO] at e; cases e
  | _, _, _, _, .d q, e, p => by rw [rdO] at e; cases e; exact q.dp le p
  | _, _, _, _, .scr q, e, p => by
    rw [rdO] at e; cases e
    exact .lst (RdLe.sqL (RdLe.of le) q) (dp_ints _)
  | _, _, _, _, .kst q r, e, p => by
    rw [rdO] at e; cases e
    exact .tup (sqT_le le q) (DenL.dp le r (by simpa [PyData.plain] using p))
  | .lst xs, _, _, _, .lst a b c d _, e, p => by
    rw [rdO, Option.map_eq_some_iff] at e
    obtain ⟨ys, e1, rfl⟩ := e
    exact .lst (SqL.of a) (Owns.dp le c e1 (by simpa [PyData.plain] using p))
  | .tup xs, _, _, _, .tup a b, e, p => by
    rw [rdO, Option.map_eq_some_iff] at e
    obtain ⟨ys, e1, rfl⟩ := e
    exact .tup (SqT.of (le _ _ a)) (Owns.dp le b e1 (by simpa [PyData.plain] using p))
  | _, _, _, _, .dic _ _ _, e, p => by rw [rdO] at e; cases e; simp [PyData.plain] at p
  | _, _, _, _, .dicT _ _ _, e, _ => by rw [rdO] at e; cases e
  | _, _, _, _, .obj _ _ _ _ _ _, e, _ => by rw [rdO] at e; cases e
theorem Owns.dp (le : Same I H) : ∀ {o : List O} {v : List V} {S : Pd} {x : List D}, Owns K mg I H o v S → rdOs o = some x → PyData.plainAll x = true → DpAll K H v x
  | _, _, _, _, .nil, e, _ => by rw [rdOs] at e; cases e; exact .nil
  | x :: xs, _, _, _, .cons a b c d _, e, p => by
    rw [rdOs] at e
    cases e1 : rdO x with
    | none => rw [e1] at e; simp at e
    | some y =>
      cases e2 : rdOs xs with
      | none => rw [e1, e2] at e; simp at e
      | some ys =>
        rw [e1, e2] at e
        cases e
        simp only [PyData.plainAll, Bool.and_eq_true] at p
        exact .cons (Own.dp le a e1 p.1) (Owns.dp le b e2 p.2)
end
end

/-! ### views -/
inductive Vws (K : PySem.W.Frag) (mg : Str → Option Value) (I H : Hp) : List O → List V → Prop
  | nil : Vws K mg I H [] []
  | cons {x : O} {xs : List O} {v : V} {vs : List V} {S : Pd} : Own K mg I H x v S → Vws K mg I H xs vs → Vws K mg I H (x :: xs) (v :: vs)
/-- growth by frozen objects -/
structure Grw (K : PySem.W.Frag) (mg : Str → Option Value) (φ : Ph) (ρ : Env) (σ : St) (I H I' H' : Hp) : Prop where
  st : Stp I H noP I' H' noP
  gd : Gd K mg I' H' φ ρ σ
section
variable {K : PySem.W.Frag} {mg : Str → Option Value} {I H I1 H1 I2 H2 : Hp} {φ : Ph} {ρ : Env} {σ : St}
theorem Grw.refl (gd : Gd K mg I H φ ρ σ) : Grw K mg φ ρ σ I H I H := ⟨Stp.refl fun _ z => z, gd⟩
theorem Grw.trans (a : Grw K mg φ ρ σ I H I1 H1) (b : Grw K mg φ ρ σ I1 H1 I2 H2) : Grw K mg φ ρ σ I H I2 H2 := ⟨a.st.trans b.st, b.gd⟩
theorem Own.grow {o : O} {v : V} {S : Pd} (g : Grw K mg φ ρ σ I H I1 H1) (w : Own K mg I H o v S) : Own K mg I1 H1 o v S := w.step (RdLe.of g.st.li) fun a u _ e => g.st.kp a u e id
theorem Vws.grow (g : Grw K mg φ ρ σ I H I1 H1) : ∀ {os : List O} {vs : List V}, Vws K mg I H os vs → Vws K mg I1 H1 os vs
  | _, _, .nil => .nil
  | _, _, .cons a b => .cons (a.grow g) (Vws.grow g b)
/-- a new frozen object -/
theorem Grw.new (gd : Gd K mg I H φ ρ σ) {p : Addr} {o : HO} (hp : H p = none) : Grw K mg φ ρ σ I H (upd I p o) (upd H p o) := ⟨Stp.newI (gd.free hp) hp fun _ z => z, gd.newI hp⟩
theorem Vws.allD : ∀ {os : List O} {vs : List V} {ds : List D}, Vws K mg I H os vs → EV.allD os = some ds → DenL K I ds vs
  | _, _, _, .nil, e => by rw [EV.allD] at e; cases e; exact .nil
  | o :: os, _, _, .cons a b, e => by
    have e' : ∃ x, o = .d x := by cases o <;> simp [EV.allD] at e ⊢
    obtain ⟨x, rfl⟩ := e'
    rw [EV.allD, Option.map_eq_some_iff] at e
    obtain ⟨ys, e2, rfl⟩ := e
    cases a with
    | d q => exact .cons q (Vws.allD b e2)
theorem Vws.len : ∀ {os : List O} {vs : List V}, Vws K mg I H os vs → vs.length = os.length
  | _, _, .nil => rfl
  | _, _, .cons _ b => by rw [List.length_cons, List.length_cons, Vws.len b]
end
/-- what a view asks at the end -/
def VP (K : PySem.W.Frag) (mg : Str → Option Value) (φ : Ph) (ρ : Env) (σ : St) (I H : Hp) (Q : VK) : Option O → Prop
  | some o => ∀ v S I' H', Grw K mg φ ρ σ I H I' H' → Own K mg I' H' o v S → Q v H'
  | none => False
def VPs (K : PySem.W.Frag) (mg : Str → Option Value) (φ : Ph) (ρ : Env) (σ : St) (I H : Hp) (Q : List V → Hp → Prop) : Option (List O) → Prop
  | some os => ∀ vs I' H', Grw K mg φ ρ σ I H I' H' → Vws K mg I' H' os vs → Q vs H'
  | none => False
section
variable {K : PySem.W.Frag} {mg : Str → Option Value} {I H I1 H1 : Hp} {φ : Ph} {ρ : Env} {σ : St} {Q : VK}
theorem VP.grow (g : Grw K mg φ ρ σ I H I1 H1) {r : Option O} (h : VP K mg φ ρ σ I H Q r) : VP K mg φ ρ σ I1 H1 Q r := by
  cases r with
  | none => exact h
  | some o => exact fun v S I' H' g' w => h v S I' H' (g.trans g') w
theorem VPs.grow {Q : List V → Hp → Prop} (g : Grw K mg φ ρ σ I H I1 H1) {r : Option (List O)} (h : VPs K mg φ ρ σ I H Q r) : VPs K mg φ ρ σ I1 H1 Q r := by
  cases r with
  | none => exact h
  | some o => exact fun v I' H' g' w => h v I' H' (g.trans g') w
/-- a view of data ends -/
theorem VP.d {x : D} {v : V} (gd : Gd K mg I H φ ρ σ) (h : VP K mg φ ρ σ I H Q (some (.d x))) (q : Den K I x v) : Q v H := h v noP I H (Grw.refl gd) (.d q)
/-- a new frozen list, a new frozen tuple -/
theorem VP.lst {xs : List D} {vs : List V} {p : Addr} (gd : Gd K mg I H φ ρ σ) (h : VP K mg φ ρ σ I H Q (some (.d (.list xs)))) (q : DenL K I xs vs) (hp : H p = none) : Q (.ref p) (upd H p (.lst vs)) :=
  h _ noP _ _ (Grw.new gd hp) (.d (.list upd_same (q.mono (RdLe.of (same_updI (gd.free hp))))))
theorem VP.tup {xs : List D} {vs : List V} {p : Addr} (gd : Gd K mg I H φ ρ σ) (h : VP K mg φ ρ σ I H Q (some (.d (.tuple xs)))) (q : DenL K I xs vs) (hp : H p = none) : Q (.ref p) (upd H p (.tup vs)) :=
  h _ noP _ _ (Grw.new gd hp) (.d (.tuple upd_same (q.mono (RdLe.of (same_updI (gd.free hp))))))
end
section
variable (K : PySem.W.Frag) (mg : Str → Option Value)
def rdV (f : Env → Option O) : TE := fun σ H Q => ∃ ρ I φ, Gd K mg I H φ ρ σ ∧ VP K mg φ ρ σ I H Q (f ρ)
def rdVs (f : Env → Option (List O)) : TA := fun σ H Q => ∃ ρ I φ, Gd K mg I H φ ρ σ ∧ VPs K mg φ ρ σ I H Q (f ρ)
end
abbrev VE (X : Cx) (e : Expr) (f : Env → Option O) : Prop := PE X e (rdV X.K X.mg f)
abbrev VA (X : Cx) (es : List Expr) (f : Env → Option (List O)) : Prop := PA X es (rdVs X.K X.mg f)
/-- an operation that changes nothing -/
def Vw2 (X : Cx) (r : R2) (g : O → O → Option O) : Prop := ∀ (I H : Hp) (φ : Ph) (ρ : Env) (σ : St) (Q : VK) (x y z : O) (a b : V) (S1 S2 : Pd), Gd X.K X.mg I H φ ρ σ → Own X.K X.mg I H x a S1 → Own X.K X.mg I H y b S2 → g x y = some z → VP X.K X.mg φ ρ σ I H Q (some z) → r a b H Q
def Vw1 (X : Cx) (r : V → Hp → VK → Prop) (g : O → Option O) : Prop := ∀ (I H : Hp) (φ : Ph) (ρ : Env) (σ : St) (Q : VK) (x z : O) (a : V) (S : Pd), Gd X.K X.mg I H φ ρ σ → Own X.K X.mg I H x a S → g x = some z → VP X.K X.mg φ ρ σ I H Q (some z) → r a H Q
def VwN (X : Cx) (r : List V → Hp → VK → Prop) (g : List O → Option O) : Prop := ∀ (I H : Hp) (φ : Ph) (ρ : Env) (σ : St) (Q : VK) (xs : List O) (z : O) (as : List V), Gd X.K X.mg I H φ ρ σ → Vws X.K X.mg I H xs as → g xs = some z → VP X.K X.mg φ ρ σ I H Q (some z) → r as H Q
namespace Vw
def c (x : D) : Env → Option O := fun _ => some (.d x)
def var (i : Nat) : Env → Option O := fun ρ => match ρ[i]? with
  | some .un => none
  | o => o
def op1 (g : O → Option O) (f : Env → Option O) : Env → Option O := fun ρ => (f ρ).bind g
def op2 (g : O → O → Option O) (f1 f2 : Env → Option O) : Env → Option O := fun ρ => (f1 ρ).bind fun x => (f2 ρ).bind fun y => g x y
def nil : Env → Option (List O) := fun _ => some []
def cons (f : Env → Option O) (g : Env → Option (List O)) : Env → Option (List O) := fun ρ => (f ρ).bind fun x => (g ρ).bind fun xs => some (x :: xs)
def opN (g : List O → Option O) (f : Env → Option (List O)) : Env → Option O := fun ρ => (f ρ).bind g
def opM (g : O → List O → Option O) (f : Env → Option O) (fs : Env → Option (List O)) : Env → Option O := fun ρ => (f ρ).bind fun x => (fs ρ).bind fun xs => g x xs
def boo : O → Option Bool
  | .d (.bool b) => some b
  | _ => none
def and (f g : Env → Option O) : Env → Option O := fun ρ => (f ρ).bind fun o => (boo o).bind fun b => if b then g ρ else some (.d (.bool false))
def or (f g : Env → Option O) : Env → Option O := fun ρ => (f ρ).bind fun o => (boo o).bind fun b => if b then some (.d (.bool true)) else g ρ
def not (f : Env → Option O) : Env → Option O := fun ρ => (f ρ).bind fun o => (boo o).bind fun b => some (.d (.bool (!b)))
def ifE (t f g : Env → Option O) : Env → Option O := fun ρ => (t ρ).bind fun o => (boo o).bind fun b => if b then f ρ else g ρ
def chain (g1 g2 : O → O → Option O) (f1 f2 f3 : Env → Option O) : Env → Option O := fun ρ => (f1 ρ).bind fun x => (f2 ρ).bind fun y => (g1 x y).bind fun o => (boo o).bind fun b => if b then (f3 ρ).bind fun z => g2 y z else some (.d (.bool false))
def tup (f : Env → Option (List O)) : Env → Option O := fun ρ => (f ρ).bind fun os => (allD os).bind fun ds => if ds.length ≤ 1000000 then some (.d (.tuple ds)) else none
def lst (f : Env → Option (List O)) : Env → Option O := fun ρ => (f ρ).bind fun os => (allD os).bind fun ds => if ds.length ≤ 1000000 then some (.d (.list ds)) else none
end Vw
def E.view (f : Env → Option O) : M O := fun ρ => match f ρ with
  | some (.d x) => .ok (.d x) ρ
  | some (.scr x) => .ok (.scr x) ρ
  | _ => .stuck
def T.view (f : Env → Option O) : M Bool := fun ρ => match f ρ with
  | some (.d (.bool b)) => .ok b ρ
  | _ => .stuck

section
variable {X : Cx} {W : WX} {pos : Pos} {a b c : Expr} {f f1 f2 f3 : Env → Option O} {g1 g2 : O → O → Option O}
/-- running a view within another -/
theorem vbind {σ : St} {I H : Hp} {φ : Ph} {ρ : Env} {Q Q' : VK} {k : O → Option O} (gd : Gd X.K X.mg I H φ ρ σ) (h : VP X.K X.mg φ ρ σ I H Q ((f ρ).bind k))
    (hk : ∀ o v S I1 H1, Grw X.K X.mg φ ρ σ I H I1 H1 → Own X.K X.mg I1 H1 o v S → VP X.K X.mg φ ρ σ I1 H1 Q (k o) → Q' v H1) : rdV X.K X.mg f σ H Q' := by
  refine ⟨ρ, I, φ, gd, ?_⟩
  cases e : f ρ with
  | none => rw [e] at h; exact h
  | some o => rw [e] at h; exact fun v S I1 H1 g w => hk o v S I1 H1 g w (h.grow g)
theorem vbinds {σ : St} {I H : Hp} {φ : Ph} {ρ : Env} {Q : VK} {Q' : List V → Hp → Prop} {f : Env → Option (List O)} {k : List O → Option O} (gd : Gd X.K X.mg I H φ ρ σ) (h : VP X.K X.mg φ ρ σ I H Q ((f ρ).bind k))
    (hk : ∀ o v I1 H1, Grw X.K X.mg φ ρ σ I H I1 H1 → Vws X.K X.mg I1 H1 o v → VP X.K X.mg φ ρ σ I1 H1 Q (k o) → Q' v H1) : rdVs X.K X.mg f σ H Q' := by
  refine ⟨ρ, I, φ, gd, ?_⟩
  cases e : f ρ with
  | none => rw [e] at h; exact h
  | some o => rw [e] at h; exact fun v I1 H1 g w => hk o v I1 H1 g w (h.grow g)
theorem VP.some {σ : St} {I H : Hp} {φ : Ph} {ρ : Env} {Q : VK} {r : Option O} {P : Prop} (h : VP X.K X.mg φ ρ σ I H Q r) (k : ∀ z, r = some z → VP X.K X.mg φ ρ σ I H Q (some z) → P) : P := by
  cases r with
  | none => exact h.elim
  | some z => exact k z rfl h
theorem ve_c {x : D} {v : V} (hd : ∀ I, Den X.K I x v) (h : PE X a (tC v)) : VE X a (Vw.c x) := PE.weak h fun _ _ _ ⟨_, _, _, gd, h⟩ => h.d gd (hd _)
theorem ve_int {i j} : VE X (.Constant (.int i) j pos) (Vw.c (.int i)) := ve_c (fun _ => .int i) pe_int
theorem ve_bl {i j} : VE X (.Constant (.bool i) j pos) (Vw.c (.bool i)) := ve_c (fun _ => .bl i) pe_bl
theorem ve_non {j} : VE X (.Constant .none j pos) (Vw.c .none) := ve_c (fun _ => .non) pe_non
theorem ve_str {i j} : VE X (.Constant (.str i) j pos) (Vw.c (.str i)) := ve_c (fun _ => .str i) pe_str
theorem ve_var (i : Nat) {x : Str} {pos : Pos} (hN : X.N[i]? = some x := by rfl) (hv : Vis X.env.scope x := by first | exact Or.inl rfl | exact Or.inr (Or.inl rfl) | exact Or.inr (Or.inr rfl)) (hd : (x == ("__debug__" : Str)) = false := by decide) (hcd : (x == ("__classdict__" : Str)) = false := by decide) : VE X (.Name x pos) (Vw.var i) := by
  refine PE.weak (pe_var hN hv hd hcd) fun σ H Q ⟨ρ, I, φ, gd, h⟩ => ?_
  refine h.some fun z e h => ?_
  have e2 : ρ[i]? = some z ∧ z ≠ .un := by
    unfold Vw.var at e
    split at e
    · cases e
    · rename_i u hu
      refine ⟨e, fun q => ?_⟩
      rw [q] at e
      exact hu e
  obtain ⟨v, e1, w⟩ := gd.sl i z e2.1 e2.2
  exact ⟨v, e1, h v _ _ _ (Grw.refl gd) w⟩
theorem ve_op2 {e : Expr} {r : R2} {g : O → O → Option O} (h2 : ∀ {ta tb : TE}, PE X a ta → PE X b tb → PE X e (tOp r ta tb)) (ok : Vw2 X r g) (ha : VE X a f1) (hb : VE X b f2) : VE X e (Vw.op2 g f1 f2) := by
  refine PE.weak (h2 ha hb) fun σ H Q ⟨ρ, I, φ, gd, h⟩ => ?_
  refine vbind gd h fun x v S I1 H1 g1 w h => ?_
  refine vbind g1.gd h fun y u S' I2 H2 g2 w' h => ?_
  exact h.some fun z e h => ok I2 H2 φ ρ σ Q x y z v u S S' g2.gd (w.grow g2) w' e h
theorem ve_op {op : Operator} {r : R2} {g : O → O → Option O} (ho : OpR X (binaryOp op) r) (ok : Vw2 X r g) (ha : VE X a f1) (hb : VE X b f2) : VE X (.BinOp a op b pos) (Vw.op2 g f1 f2) :=
  ve_op2 (fun ha hb => pe_op ho ha hb) ok ha hb
theorem ve_cmp {op : CmpOp} {r : R2} {g : O → O → Option O} (ho : OpR X (compareOp op) r) (ok : Vw2 X r g) (ha : VE X a f1) (hb : VE X b f2) (hm : behindInMarks op b = false := by rfl) : VE X (.Compare a [op] [b] pos) (Vw.op2 g f1 f2) :=
  ve_op2 (fun ha hb => pe_cmpR ho ha hb hm) ok ha hb
theorem ve_ix {r : R2} {g : O → O → Option O} (hr : IxR X r) (ok : Vw2 X r g) (ha : VE X a f1) (hb : VE X b f2) (hs : PlainIx b := by intro _ _; rfl) : VE X (.Subscript a b pos) (Vw.op2 g f1 f2) :=
  ve_op2 (fun ha hb => pe_ix hr ha hb hs) ok ha hb
theorem ve_un {op : UnaryOp} {r : V → Hp → VK → Prop} {g : O → Option O} (ho : UnR X (unaryOp op) r) (ok : Vw1 X r g) (ha : VE X a f) : VE X (.UnaryOp op a pos) (Vw.op1 g f) := by
  refine PE.weak (pe_un ho ha) fun σ H Q ⟨ρ, I, φ, gd, h⟩ => ?_
  refine vbind gd h fun x v S I1 H1 g1 w h => ?_
  exact h.some fun z e h => ok I1 H1 φ ρ σ Q x z v S g1.gd w e h
theorem va_nil : VA X [] Vw.nil := PA.weak pa_nil fun _ _ _ ⟨_, _, _, gd, h⟩ => h [] _ _ (Grw.refl gd) .nil
theorem va_cons {e : Expr} {es : List Expr} {g : Env → Option (List O)} (ha : VE X e f) (hr : VA X es g) (hs : starEach (e :: es) X.env = (false, eval e X.env) :: starEach es X.env := by rfl) : VA X (e :: es) (Vw.cons f g) := by
  refine PA.weak (pa_cons ha hr hs) fun σ H Q ⟨ρ, I, φ, gd, h⟩ => ⟨ρ, I, φ, gd, ?_⟩
  unfold Vw.cons at h
  cases e1 : f ρ with
  | none => rw [e1] at h; exact h
  | some x =>
    rw [e1] at h
    intro v S I1 H1 g1 w
    refine ⟨ρ, I1, φ, g1.gd, ?_⟩
    cases e2 : g ρ with
    | none => rw [e2] at h; exact h
    | some xs =>
      rw [e2] at h
      exact fun vs I2 H2 g2 ws => h (v :: vs) I2 H2 (g1.trans g2) (.cons (w.grow g2) ws)
theorem ve_tup {es : List Expr} {g : Env → Option (List O)} {x1} (h : VA X es g) : VE X (.Tuple es x1 pos) (Vw.tup g) := by
  refine PE.weak (pe_tup h) fun σ H Q ⟨ρ, I, φ, gd, h⟩ => ?_
  refine vbinds gd h fun os vs I1 H1 g1 w h => ?_
  refine h.some fun z e h => ?_
  rw [Option.bind_eq_some_iff] at e
  obtain ⟨ds, e1, e2⟩ := e
  split at e2
  · rename_i hz
    cases e2
    have q := w.allD e1
    exact ⟨by rw [q.len]; exact mil hz, fun p hp => h.tup g1.gd q hp⟩
  · cases e2
theorem ve_lst {es : List Expr} {g : Env → Option (List O)} (h : VA X es g) : VE X (.List es pos) (Vw.lst g) := by
  refine PE.weak (pe_lst h) fun σ H Q ⟨ρ, I, φ, gd, h⟩ => ?_
  refine vbinds gd h fun os vs I1 H1 g1 w h => ?_
  refine h.some fun z e h => ?_
  rw [Option.bind_eq_some_iff] at e
  obtain ⟨ds, e1, e2⟩ := e
  split at e2
  · rename_i hz
    cases e2
    have q := w.allD e1
    exact ⟨by rw [q.len]; exact mil hz, fun p hp => h.lst g1.gd q hp⟩
  · cases e2
/-- a bool in hand -/
theorem vbool {σ : St} {I H : Hp} {φ : Ph} {ρ : Env} {Q Q' : VK} {k : Bool → Option O} (gd : Gd X.K X.mg I H φ ρ σ) (h : VP X.K X.mg φ ρ σ I H Q ((f ρ).bind fun o => (Vw.boo o).bind k))
    (hk : ∀ r I1 H1, Grw X.K X.mg φ ρ σ I H I1 H1 → VP X.K X.mg φ ρ σ I1 H1 Q (k r) → Q' (.bl r) H1) : rdV X.K X.mg f σ H Q' := by
  refine vbind gd h fun o v S I1 H1 g w h => ?_
  unfold Vw.boo at h
  split at h
  · rename_i r
    cases w.bool
    exact hk r I1 H1 g h
  · exact h.elim
theorem ve_one {op} (h : VE X a f) : VE X (.BoolOp op [a] pos) f := pe_one h
theorem ve_and {rest : List Expr} (ha : VE X a f1) (hb : VE X (.BoolOp .And (b :: rest) pos) f2) : VE X (.BoolOp .And (a :: b :: rest) pos) (Vw.and f1 f2) := by
  refine PE.weak (pe_and ha hb) fun σ H Q ⟨ρ, I, φ, gd, h⟩ => ?_
  refine vbool gd h fun r I1 H1 g h => ⟨r, rfl, ?_⟩
  cases r with
  | true => rw [if_pos rfl] at h ⊢; exact ⟨ρ, I1, φ, g.gd, h⟩
  | false => rw [if_neg Bool.false_ne_true] at h ⊢; exact h.d g.gd (.bl _)
theorem ve_or {rest : List Expr} (ha : VE X a f1) (hb : VE X (.BoolOp .Or (b :: rest) pos) f2) : VE X (.BoolOp .Or (a :: b :: rest) pos) (Vw.or f1 f2) := by
  refine PE.weak (pe_or ha hb) fun σ H Q ⟨ρ, I, φ, gd, h⟩ => ?_
  refine vbool gd h fun r I1 H1 g h => ⟨r, rfl, ?_⟩
  cases r with
  | true => rw [if_pos rfl] at h ⊢; exact h.d g.gd (.bl _)
  | false => rw [if_neg Bool.false_ne_true] at h ⊢; exact ⟨ρ, I1, φ, g.gd, h⟩
theorem ve_not (ha : VE X a f) : VE X (.UnaryOp .Not a pos) (Vw.not f) := by
  refine PE.weak (pe_not ha) fun σ H Q ⟨ρ, I, φ, gd, h⟩ => ?_
  exact vbool gd h fun r I1 H1 g h => ⟨r, rfl, h.d g.gd (.bl _)⟩
/-- a test that is a view -/
def rdVT (K : PySem.W.Frag) (mg : Str → Option Value) (f : Env → Option O) : TT := fun σ H Q => rdV K mg f σ H fun x H1 => ∃ k, x = .bl k ∧ Q k H1
abbrev VT (X : Cx) (e : Expr) (f : Env → Option O) : Prop := PT X e (rdVT X.K X.mg f)
theorem vt_val (h : VE X a f) (he : ∀ whole, isTrue a X.env whole = (do let v ← whole; standAt a.pos; holding [v] (truthy v)) := by intro _; rfl) : VT X a f := pt_val h he
theorem vt_cmp {op : CmpOp} {r : R2} {g : O → O → Option O} (ho : OpR X (compareOp op) r) (ok : Vw2 X r g) (ha : VE X a f1) (hb : VE X b f2) (hm : behindInMarks op b = false := by rfl) : VT X (.Compare a [op] [b] pos) (Vw.op2 g f1 f2) := by
  refine PT.weak (pt_cmpR ho ha hb hm) fun σ H Q ⟨ρ, I, φ, gd, h⟩ => ?_
  refine vbind gd h fun x v S I1 H1 g1 w h => ?_
  refine vbind g1.gd h fun y u S' I2 H2 g2 w' h => ?_
  exact h.some fun z e h => ok I2 H2 φ ρ σ _ x y z v u S S' g2.gd (w.grow g2) w' e h
theorem ve_if {e : Expr} (hc : VT X e f1) (ha : VE X a f2) (hb : VE X b f3) : VE X (.IfExp e a b pos) (Vw.ifE f1 f2 f3) := by
  refine PE.weak (pe_ifExp hc ha hb) fun σ H Q ⟨ρ, I, φ, gd, h⟩ => ?_
  refine vbool (Q' := fun x H1 => ∃ k, x = .bl k ∧ (fun (c : Bool) H1 => if c = true then rdV X.K X.mg f2 σ H1 Q else rdV X.K X.mg f3 σ H1 Q) k H1) gd h fun r I1 H1 g h => ⟨r, rfl, ?_⟩
  cases r with
  | true => rw [if_pos rfl] at h ⊢; exact ⟨ρ, I1, φ, g.gd, h⟩
  | false => rw [if_neg Bool.false_ne_true] at h ⊢; exact ⟨ρ, I1, φ, g.gd, h⟩
theorem ve_chain {op op' : CmpOp} {r r' : R2} (ho : OpR X (compareOp op) r) (ok : Vw2 X r g1) (ho' : OpR X (compareOp op') r') (ok' : Vw2 X r' g2) (ha : VE X a f1) (hb : VE X b f2) (hc : VE X c f3)
    (hm : lastMarks [op, op'] [b, c] = false := by with_unfolding_all rfl) : VE X (.Compare a [op, op'] [b, c] pos) (Vw.chain g1 g2 f1 f2 f3) := by
  refine PE.weak (pe_chain ho ho' ha hb hc hm) fun σ H Q ⟨ρ, I, φ, gd, h⟩ => ?_
  refine vbind gd h fun x v S I1 H1 g1' w h => ?_
  refine vbind g1'.gd h fun y u S' I2 H2 g2' w' h => ?_
  cases e : g1 x y with
  | none => rw [e] at h; exact h.elim
  | some o =>
    rw [e] at h
    unfold Vw.boo at h
    rw [Option.bind_some] at h
    split at h
    · rename_i k
      refine ok I2 H2 φ ρ σ _ x y _ v u S S' g2'.gd (w.grow g2') w' e fun v' S3 I3 H3 g3 w3 => ?_
      cases w3.bool
      refine ⟨k, rfl, ?_⟩
      rw [Option.bind_some] at h
      cases k with
      | true =>
        rw [if_pos rfl] at h ⊢
        refine vbind g3.gd (h.grow g3) fun z' u' S4 I4 H4 g4 w4 h => ?_
        exact h.some fun z e h => ok' I4 H4 φ ρ σ Q y z' z u u' S' S4 g4.gd ((w'.grow g3).grow g4) w4 e h
      | false => rw [if_neg Bool.false_ne_true] at h ⊢; exact (h.grow g3).d g3.gd (.bl _)
    · exact h.elim
theorem vt_chain {op op' : CmpOp} {r r' : R2} (ho : OpR X (compareOp op) r) (ok : Vw2 X r g1) (ho' : OpR X (compareOp op') r') (ok' : Vw2 X r' g2) (ha : VE X a f1) (hb : VE X b f2) (hc : VE X c f3)
    (hm : lastMarks [op, op'] [b, c] = false := by with_unfolding_all rfl) : VT X (.Compare a [op, op'] [b, c] pos) (Vw.chain g1 g2 f1 f2 f3) := by
  refine PT.weak (pt_chain ho ho' ha hb hc hm) fun σ H Q0 ⟨ρ, I, φ, gd, h⟩ => ?_
  refine vbind gd h fun x v S I1 H1 g1' w h => ?_
  refine vbind g1'.gd h fun y u S' I2 H2 g2' w' h => ?_
  cases e : g1 x y with
  | none => rw [e] at h; exact h.elim
  | some o =>
    rw [e] at h
    unfold Vw.boo at h
    rw [Option.bind_some] at h
    split at h
    · rename_i k
      refine ok I2 H2 φ ρ σ _ x y _ v u S S' g2'.gd (w.grow g2') w' e fun v' S3 I3 H3 g3 w3 => ?_
      cases w3.bool
      refine ⟨k, rfl, ?_⟩
      rw [Option.bind_some] at h
      cases k with
      | true =>
        rw [if_pos rfl] at h ⊢
        refine vbind g3.gd (h.grow g3) fun z' u' S4 I4 H4 g4 w4 h => ?_
        exact h.some fun z e h => ok' I4 H4 φ ρ σ _ y z' z u u' S' S4 g4.gd ((w'.grow g3).grow g4) w4 e h
      | false => rw [if_neg Bool.false_ne_true] at h ⊢; exact (h.grow g3).d g3.gd (.bl _)
    · exact h.elim
/-- a built-in function or type of views -/
theorem ve_callB {x : Str} {p : Pos} {e : Expr} {es : List Expr} {id : String} {r : List V → Hp → VK → Prop} {g : List O → Option O} {fs : Env → Option (List O)} (hc : CallR X (.builtin id) r) (ok : VwN X r g) (ha : VA X (e :: es) fs) (hm : X.mg x = none) (hg : Gl X x := by rfl) (hv : bootBuiltins x = some (.builtin id) := by rfl) (hn : x ≠ "__name__" := by decide) (hdb : (x == ("__debug__" : Str)) = false := by decide)
    (he : starEach (e :: es) X.env = (false, eval e X.env) :: starEach es X.env := by rfl) (hpl : (backTo pos (starEach es X.env)).any (·.1) = false := by rfl) : VE X (.Call (.Name x p) (e :: es) [] pos) (Vw.opN g fs) := by
  refine PE.weak (pe_callB hc hg hm hv ha hn hdb he hpl) fun σ H Q ⟨ρ, I, φ, gd, h⟩ => ?_
  refine vbinds gd h fun os vs I1 H1 g1 w h => ?_
  exact h.some fun z e h => ok I1 H1 φ ρ σ Q os z vs g1.gd w e h
theorem ve_callTy {x : Str} {p : Pos} {e : Expr} {es : List Expr} {T : String} {r : List V → Hp → VK → Prop} {g : List O → Option O} {fs : Env → Option (List O)} (hc : CallR X (.type T) r) (ok : VwN X r g) (ha : VA X (e :: es) fs) (hm : X.mg x = none) (hg : Gl X x := by rfl) (hv : bootBuiltins x = some (.type T) := by rfl) (hn : x ≠ "__name__" := by decide) (hdb : (x == ("__debug__" : Str)) = false := by decide)
    (he : starEach (e :: es) X.env = (false, eval e X.env) :: starEach es X.env := by rfl) (hpl : (backTo pos (starEach es X.env)).any (·.1) = false := by rfl) : VE X (.Call (.Name x p) (e :: es) [] pos) (Vw.opN g fs) := by
  refine PE.weak (pe_callTy hc hg hm hv ha hn hdb he hpl) fun σ H Q ⟨ρ, I, φ, gd, h⟩ => ?_
  refine vbinds gd h fun os vs I1 H1 g1 w h => ?_
  exact h.some fun z e h => ok I1 H1 φ ρ σ Q os z vs g1.gd w e h
theorem Grw.stp {K : PySem.W.Frag} {mg : Str → Option Value} {φ : Ph} {ρ : Env} {σ : St} {I H I1 H1 : Hp} (gd : Gd K mg I H φ ρ σ) (g : Grw K mg φ ρ σ I H I1 H1) : Stp I H (al φ) I1 H1 (al φ) :=
  ((g.st.frame (G := al φ) fun x ⟨i, q⟩ => gd.th i x q).from fun x q => q.elim False.elim id).sub fun x q => .inr q
theorem Own.d_any {K : PySem.W.Frag} {mg : Str → Option Value} {I H : Hp} {x : D} {v : V} {S T : Pd} (w : Own K mg I H (.d x) v S) : Own K mg I H (.d x) v T := by
  cases w with
  | d q => exact .d q
/-- as an expression that may have effects -/
theorem ee_view (h : VE X a f) : EE X W a (E.view f) := by
  refine PE.weak h fun σ H Q ⟨ρ, I, φ, gd, h⟩ => ⟨ρ, I, φ, gd, ?_⟩
  unfold E.view at h
  cases e : f ρ with
  | none => rw [e] at h; exact h.elim
  | some o =>
    rw [e] at h
    split at h
    · rename_i x e2; cases e2
      intro v S I1 H1 g w
      exact h v H1 I1 φ noP ((g.stp gd).sub fun c q => q.elim id False.elim) g.gd Tm.none w.d_any
    · rename_i x e2; cases e2
      intro v S I1 H1 g w
      refine h v H1 I1 φ noP ((g.stp gd).sub fun c q => q.elim id False.elim) g.gd Tm.none ?_
      cases w with
      | scr q => exact .scr q
    · exact h.elim
theorem et_view (h : VT X a f) : ET X W a (T.view f) := by
  refine PT.weak h fun σ H Q ⟨ρ, I, φ, gd, h⟩ => ⟨ρ, I, φ, gd, ?_⟩
  unfold T.view at h
  cases e : f ρ with
  | none => rw [e] at h; exact h.elim
  | some o =>
    rw [e] at h
    split at h
    · rename_i x e2; cases e2
      intro v S I1 H1 g w
      exact ⟨_, w.bool, h H1 I1 φ (g.stp gd) g.gd⟩
    · exact h.elim
end
end EV

/-! The layer EV, part J: ==, in, is, index, len and more, as views. -/
namespace EV
open PySem PySem.Spec PyProof.Rows L2

/-! ### keys -/
def isK : D → Bool
  | .int _ => true
  | .str _ => true
  | _ => false
def lookK : List (D × D) → D → Option D
  | [], _ => none
  | p :: r, d => if PyData.eqv p.1 d then some p.2 else lookK r d
theorem isK_keyD (k : Key) : isK (keyD k) = true := by cases k <;> rfl
theorem isK_of {d : D} (h : isK d = true) : ∃ k : Key, d = keyD k := by
  cases d <;> first | (simp [isK] at h; done) | skip
  · exact ⟨.inl _, rfl⟩
  · exact ⟨.inr _, rfl⟩
theorem eqv_keyD (k k' : Key) : PyData.eqv (keyD k) (keyD k') = decide (k = k') := by
  cases k <;> cases k' <;> simp only [keyD, PyData.eqv] <;> first | (rw [Bool.eq_iff_iff, beq_iff_eq, decide_eq_true_iff]; simp) | (symm; rw [decide_eq_false_iff_not]; simp)
theorem isK_keyT (ks : List Key) : isK (keyT ks) = false := rfl
section
variable {K : PySem.W.Frag} {mg : Str → Option Value} {I H : Hp}
theorem Den.key {k : Key} {v : V} (h : Den K I (keyD k) v) : v = kV k := by
  cases k <;> (unfold keyD at h; cases h; rfl)
theorem DenK.get : ∀ {ds : List (D × D)} {kvs : List (Key × V)} (k : Key), DenK K I ds kvs → (∃ x v, lookK ds (keyD k) = some x ∧ valV kvs k = some v ∧ Den K I x v) ∨ (lookK ds (keyD k) = none ∧ valV kvs k = none)
  | _, _, k, .nil => .inr ⟨rfl, rfl⟩
  | _, _, k, .cons (k := k') a b => by
    unfold lookK
    by_cases e : k' = k
    · subst e
      rw [show PyData.eqv (keyD k') (keyD k') = true by rw [eqv_keyD]; simp, if_pos rfl, valV_pos rfl]
      exact .inl ⟨_, _, rfl, rfl, a⟩
    · rw [show PyData.eqv (keyD k') (keyD k) = false by rw [eqv_keyD]; simp [e], if_neg Bool.false_ne_true, valV_neg e]
      exact DenK.get k b
theorem DenK.len : ∀ {ds : List (D × D)} {kvs : List (Key × V)}, DenK K I ds kvs → kvs.length = ds.length
  | _, _, .nil => rfl
  | _, _, .cons _ b => by rw [List.length_cons, List.length_cons, DenK.len b]
theorem DenK.keys : ∀ {ds : List (D × D)} {kvs : List (Key × V)}, DenK K I ds kvs → ∀ p ∈ ds, isK p.1 = true
  | _, _, .nil, p, hp => by cases hp
  | _, _, .cons _ b, p, hp => by
    rcases List.mem_cons.mp hp with rfl | hp
    · exact isK_keyD _
    · exact DenK.keys b p hp
theorem DenT.len : ∀ {ds : List (D × D)} {kvs : List (List Key × V)}, DenT K I ds kvs → kvs.length = ds.length
  | _, _, .nil => rfl
  | _, _, .cons _ b => by rw [List.length_cons, List.length_cons, DenT.len b]
end
/-- a dict read -/
def dO : O → Option (List (D × D))
  | .d (.dict ds) => some ds
  | .dic ds => some ds
  | _ => none
def keysOk (ds : List (D × D)) : Bool := ds.all fun p => isK p.1
/-- an exception's data -/
def exB : List (D × D) → Bool
  | [(.none, _)] => true
  | _ => false
section
variable {K : PySem.W.Frag} {mg : Str → Option Value} {I H : Hp}
theorem Own.dK {o : O} {v : V} {S : Pd} {ds : List (D × D)} (w : Own K mg I H o v S) (le : Same I H) (e : dO o = some ds) (hk : keysOk ds = true) : ∃ a kvs, v = .ref a ∧ Rd H a (.dK kvs) ∧ DenK K I ds kvs := by
  unfold dO at e
  split at e
  · cases e
    cases w with
    | d q =>
      cases q with
      | dict r k => exact ⟨_, _, rfl, (RdLe.of le).rd _ _ r, k⟩
      | dictT r k n =>
        cases k with
        | nil => exact (n rfl).elim
        | cons a b => simp [keysOk, isK_keyT] at hk
      | exn _ => cases hk
  · cases e
    cases w with
    | dic h s k => exact ⟨_, _, rfl, .inl h, k⟩
  · cases e
theorem Own.dT {x : List (D × D)} {o : O} {v : V} {S : Pd} (w : Own K mg I H o v S) (le : Same I H) (e : o = .dicT x ∨ o = .d (.dict x)) (hk : keysOk x = false) (hx : o = .dicT x ∨ exB x = false) : ∃ a kvs, v = .ref a ∧ Rd H a (.dT kvs) ∧ DenT K I x kvs := by
  rcases e with rfl | rfl
  · cases w with
    | dicT h s k => exact ⟨_, _, rfl, .inl h, k⟩
  · cases w with
    | d q =>
      cases q with
      | dict r k =>
        have : keysOk x = true := List.all_eq_true.mpr k.keys
        rw [this] at hk; cases hk
      | dictT r k n => exact ⟨_, _, rfl, (RdLe.of le).rd _ _ r, k⟩
      | exn _ => rcases hx with z | z <;> cases z
end

/-! ### == -/
def flatD (d : D) : Bool := d.plain && decide (d.depth ≤ 64)
def eqD (a b : D) : Option Bool := match a, b with
  | .int i, .int j => some (i == j)
  | .str i, .str j => some (i == j)
  | .bool i, .bool j => some (i == j)
  | .dict ks, .dict ls => if (ks.all fun p => isK p.1 && flatD p.2) && (ls.all fun p => isK p.1 && flatD p.2) then
      some (ks.length == ls.length && ks.all fun p => match lookK ls p.1 with | some y => PyData.eqv p.2 y | none => false) else none
  | a, b => if a.plain && b.plain && decide (min a.depth b.depth ≤ 64) then some (PyData.eqv a b) else none
def o_eqB (x y : O) : Option Bool := (rdO x).bind fun a => (rdO y).bind fun b => eqD a b
def o_eq (x y : O) : Option O := (o_eqB x y).map fun b => .d (.bool b)
def o_ne (x y : O) : Option O := (o_eqB x y).map fun b => .d (.bool (!b))
def rEqP (K : PySem.W.Frag) (neg : Bool) : R2 := fun x y H Q => ∃ d e, Dp K H x d ∧ Dp K H y e ∧ d.plain = true ∧ e.plain = true ∧ min d.depth e.depth ≤ 64 ∧ Q (.bl (if neg then !PyData.eqv d e else PyData.eqv d e)) H
/-- values of a dict read as data -/
inductive DpK (K : PySem.W.Frag) (H : Hp) : List (D × D) → List (Key × V) → Prop
  | nil : DpK K H [] []
  | cons {k : Key} {x : D} {xs : List (D × D)} {v : V} {vs : List (Key × V)} : Dp K H v x → x.plain = true → x.depth ≤ 64 → DpK K H xs vs → DpK K H ((keyD k, x) :: xs) ((k, v) :: vs)
def eqKv (ks ls : List (D × D)) : Bool := ks.length == ls.length && ks.all fun p => match lookK ls p.1 with | some y => PyData.eqv p.2 y | none => false
def rEqK (K : PySem.W.Frag) (neg : Bool) : R2 := fun x y H Q => ∃ a b ks ls ds es, x = .ref a ∧ y = .ref b ∧ Rd H a (.dK ks) ∧ Rd H b (.dK ls) ∧ DpK K H ds ks ∧ DpK K H es ls ∧ Q (.bl (if neg then !eqKv ds es else eqKv ds es)) H
def rEqA (K : PySem.W.Frag) (neg : Bool) : R2 := fun x y H Q => rEqP K neg x y H Q ∨ rEqK K neg x y H Q
section
variable {X : Cx}
theorem op_eqP (hu : X.A.units + 100 < cLine) : OpR X (compareOp .Eq) (rEqP X.K false) := by
  intro pins s σ H x y v u Q I rx ry h
  obtain ⟨d, e, hd, he, sd, se, hm, q⟩ := h
  obtain ⟨as, r1⟩ := Dp.reads I d x v hd rx
  obtain ⟨bs, r2⟩ := Dp.reads I e y u he ry
  exact SeqAt.eq_plain r1 r2 sd se (by omega) ⟨.bl _, H, I, rfl, q⟩
theorem op_neP (hu : X.A.units + 100 < cLine) : OpR X (compareOp .NotEq) (rEqP X.K true) := by
  intro pins s σ H x y v u Q I rx ry h
  obtain ⟨d, e, hd, he, sd, se, hm, q⟩ := h
  obtain ⟨as, r1⟩ := Dp.reads I d x v hd rx
  obtain ⟨bs, r2⟩ := Dp.reads I e y u he ry
  exact SeqAt.ne_plain r1 r2 sd se (by omega) ⟨.bl _, H, I, rfl, q⟩
theorem DpK.get {K : PySem.W.Frag} {H : Hp} : ∀ {ds : List (D × D)} {kvs : List (Key × V)} (k : Key), DpK K H ds kvs → (∃ x v, lookK ds (keyD k) = some x ∧ valV kvs k = some v ∧ Dp K H v x ∧ x.plain = true ∧ x.depth ≤ 64) ∨ (lookK ds (keyD k) = none ∧ valV kvs k = none)
  | _, _, k, .nil => .inr ⟨rfl, rfl⟩
  | _, _, k, .cons (k := k') a p dp b => by
    unfold lookK
    by_cases e : k' = k
    · subst e
      rw [show PyData.eqv (keyD k') (keyD k') = true by rw [eqv_keyD]; simp, if_pos rfl, valV_pos rfl]
      exact .inl ⟨_, _, rfl, rfl, a, p, dp⟩
    · rw [show PyData.eqv (keyD k') (keyD k) = false by rw [eqv_keyD]; simp [e], if_neg Bool.false_ne_true, valV_neg e]
      exact DpK.get k b
theorem DpK.len {K : PySem.W.Frag} {H : Hp} : ∀ {ds : List (D × D)} {kvs : List (Key × V)}, DpK K H ds kvs → kvs.length = ds.length
  | _, _, .nil => rfl
  | _, _, .cons _ _ _ b => by rw [List.length_cons, List.length_cons, DpK.len b]
theorem hits_dp {pins : List (Addr × Obj)} {σ : St} {H : Hp} {s : Shared} {es : List (D × D)} {ls : List (Key × V)} {vb : List (Key × Value)} {A : Around} (hu : A.units + 64 < cLine) (I : Inv X pins σ H s) (kb : KV ls vb) (db : DpK X.K H es ls) :
    ∀ {ds : List (D × D)} {ks : List (Key × V)} {va : List (Key × Value)}, KV ks va → DpK X.K H ds ks → PySem.W.KeqHits A s vb va (ds.all fun p => match lookK es p.1 with | some y => PyData.eqv p.2 y | none => false)
  | _, _, _, .nil, dd => by cases dd; exact .nil
  | _, (k0, _) :: _, (k', u) :: va, .cons ⟨e1, e2⟩ t, dd => by
    have e1 : k0 = k' := e1
    subst e1
    cases dd with
    | @cons k x xs v vs a p dp b =>
    rw [List.all_cons]
    rcases DpK.get k0 db with ⟨y, w, h1, h2, h3, h4, h5⟩ | ⟨h1, h2⟩
    · simp only [h1]
      obtain ⟨w', hw, rw'⟩ := RelO.some_of (v := w) (o := valueAt vb k0) (by rw [← h2]; exact kb.val k0)
      obtain ⟨as, r1⟩ := Dp.reads I _ _ u a e2
      obtain ⟨bs, r2⟩ := Dp.reads I _ _ w' h3 rw'
      exact .hit hw (SeqAt.eqAt_plain _ _ A s _ _ as bs r1 r2 p h4 (by omega)) (hits_dp hu I kb db t b)
    · simp only [h1, Bool.false_and]
      exact .miss (RelO.none_of (by rw [← h2]; exact kb.val k0))
theorem op_eqK (hu : X.A.units + 100 < cLine) : OpR X (compareOp .Eq) (rEqK X.K false) := by
  intro pins s σ H x y v u Q I rx ry h
  obtain ⟨a, b, ks, ls, ds, es, rfl, rfl, ea, eb, da, db, q⟩ := h
  obtain rfl : v = Value.ref a := rx
  obtain rfl : u = Value.ref b := ry
  obtain ⟨_, ya, va, ra, oa⟩ := dk_rd I.hok ea
  obtain ⟨_, yb, vb, rb, ob⟩ := dk_rd I.hok eb
  refine PySem.W.keq_eq (knd := mixKind X.prog X.w) ya yb oa ob (by omega) (fun _ => hits_dp (by show X.A.units + 1 + 64 < cLine; omega) I rb db ra da) (fin_bl I q ?_)
  rw [← ra.length, ← rb.length, da.len, db.len]
  rfl
theorem op_neK (hu : X.A.units + 100 < cLine) : OpR X (compareOp .NotEq) (rEqK X.K true) := by
  intro pins s σ H x y v u Q I rx ry h
  obtain ⟨a, b, ks, ls, ds, es, rfl, rfl, ea, eb, da, db, q⟩ := h
  obtain rfl : v = Value.ref a := rx
  obtain rfl : u = Value.ref b := ry
  obtain ⟨_, ya, va, ra, oa⟩ := dk_rd I.hok ea
  obtain ⟨_, yb, vb, rb, ob⟩ := dk_rd I.hok eb
  refine PySem.W.keq_ne (knd := mixKind X.prog X.w) ya yb oa ob (by omega) (fun _ => hits_dp (by show X.A.units + 1 + 64 < cLine; omega) I rb db ra da) (fin_bl I q ?_)
  rw [← ra.length, ← rb.length, da.len, db.len]
  rfl
theorem op_eqA (hu : X.A.units + 100 < cLine) : OpR X (compareOp .Eq) (rEqA X.K false) := (op_eqP hu).or (op_eqK hu)
theorem op_neA (hu : X.A.units + 100 < cLine) : OpR X (compareOp .NotEq) (rEqA X.K true) := (op_neP hu).or (op_neK hu)
theorem DenK.dp {K : PySem.W.Frag} {I H : Hp} (le : Same I H) : ∀ {ds : List (D × D)} {kvs : List (Key × V)}, DenK K I ds kvs → (ds.all fun p => isK p.1 && flatD p.2) = true → DpK K H ds kvs
  | _, _, .nil, _ => .nil
  | _, _, .cons a b, h => by
    simp only [List.all_cons, Bool.and_eq_true, flatD, decide_eq_true_eq] at h
    exact .cons (a.dp le h.1.2.1) h.1.2.1 h.1.2.2 (DenK.dp le b (by simpa [flatD, Bool.and_eq_true] using h.2))
theorem rdO_dict {o : O} {ks : List (D × D)} (e : rdO o = some (.dict ks)) : dO o = some ks := by
  cases o with
  | d x => rw [rdO] at e; cases e; rfl
  | dic x => rw [rdO] at e; cases e; rfl
  | lst xs => rw [rdO, Option.map_eq_some_iff] at e; obtain ⟨_, _, z⟩ := e; cases z
  | tup xs => rw [rdO, Option.map_eq_some_iff] at e; obtain ⟨_, _, z⟩ := e; cases z
  | _ => rw [rdO] at e; cases e
theorem eqD_cases {a b : D} {r : Bool} (h : eqD a b = some r) : (a.plain = true ∧ b.plain = true ∧ min a.depth b.depth ≤ 64 ∧ PyData.eqv a b = r) ∨
    ∃ ks ls, a = .dict ks ∧ b = .dict ls ∧ (ks.all fun p => isK p.1 && flatD p.2) = true ∧ (ls.all fun p => isK p.1 && flatD p.2) = true ∧ eqKv ks ls = r := by
  unfold eqD at h
  split at h
  · cases h; exact .inl ⟨rfl, rfl, by simp [PyData.depth], by simp [PyData.eqv]⟩
  · cases h; exact .inl ⟨rfl, rfl, by simp [PyData.depth], by simp [PyData.eqv]⟩
  · cases h; exact .inl ⟨rfl, rfl, by simp [PyData.depth], by simp [PyData.eqv]⟩
  · split at h
    · rename_i hk
      cases h
      rw [Bool.and_eq_true] at hk
      exact .inr ⟨_, _, rfl, rfl, hk.1, hk.2, rfl⟩
    · cases h
  · split at h
    · rename_i hk
      cases h
      simp only [Bool.and_eq_true, decide_eq_true_eq] at hk
      exact .inl ⟨hk.1.1, hk.1.2, hk.2, rfl⟩
    · cases h
theorem keysOk_of {ks : List (D × D)} (h : (ks.all fun p => isK p.1 && flatD p.2) = true) : keysOk ks = true := by
  unfold keysOk
  rw [List.all_eq_true] at h ⊢
  intro p hp
  have := h p hp
  rw [Bool.and_eq_true] at this
  exact this.1
theorem eq_any {neg : Bool} {I H : Hp} {Q : VK} {x y : O} {a b : V} {S1 S2 : Pd} {r : Bool} (le : Same I H) (w1 : Own X.K X.mg I H x a S1) (w2 : Own X.K X.mg I H y b S2) (e : o_eqB x y = some r) (h : Q (.bl (if neg then !r else r)) H) : rEqA X.K neg a b H Q := by
  unfold o_eqB at e
  rw [Option.bind_eq_some_iff] at e
  obtain ⟨d, e1, e⟩ := e
  rw [Option.bind_eq_some_iff] at e
  obtain ⟨d', e2, e⟩ := e
  rcases eqD_cases e with ⟨p1, p2, hm, rfl⟩ | ⟨ks, ls, rfl, rfl, h1, h2, rfl⟩
  · exact .inl ⟨d, d', w1.dp le e1 p1, w2.dp le e2 p2, p1, p2, hm, h⟩
  · obtain ⟨A, kvs, rfl, r1, k1⟩ := w1.dK le (rdO_dict e1) (keysOk_of h1)
    obtain ⟨B, kvs', rfl, r2, k2⟩ := w2.dK le (rdO_dict e2) (keysOk_of h2)
    exact .inr ⟨A, B, kvs, kvs', ks, ls, rfl, rfl, r1, r2, k1.dp le h1, k2.dp le h2, h⟩
theorem vw_eq : Vw2 X (rEqA X.K false) o_eq := by
  intro I H φ ρ σ Q x y z a b S1 S2 gd w1 w2 e h
  unfold o_eq at e
  rw [Option.map_eq_some_iff] at e
  obtain ⟨r, e, rfl⟩ := e
  exact eq_any gd.le w1 w2 e (h.d gd (.bl r))
theorem vw_ne : Vw2 X (rEqA X.K true) o_ne := by
  intro I H φ ρ σ Q x y z a b S1 S2 gd w1 w2 e h
  unfold o_ne at e
  rw [Option.map_eq_some_iff] at e
  obtain ⟨r, e, rfl⟩ := e
  exact eq_any gd.le w1 w2 e (h.d gd (.bl _))
/-- a view's operation whose answers are data, for operands in hand -/
theorem Vw2.op {r : R2} {g : O → O → Option O} (ok : Vw2 X r g) (hd : ∀ x y z, g x y = some z → ∃ d, z = .d d) : Op2Ok X r g := by
  intro W σ I H φ ρ F G1 G2 Q x y z a b gd hf tm w1 w2 dis e h
  obtain ⟨d, rfl⟩ := hd x y z e
  refine ok I H φ ρ σ Q x y _ a b G1 G2 gd w1 w2 e fun v S I' H' g w => ?_
  exact h v H' I' φ noP (((g.stp gd).sub fun c q => q.elim id False.elim).from fun c q => hf c (.inl q)) g.gd Tm.none w.d_any
theorem ok_eq : Op2Ok X (rEqA X.K false) o_eq := vw_eq.op fun x y z e => by
  unfold o_eq at e
  rw [Option.map_eq_some_iff] at e
  obtain ⟨r, _, rfl⟩ := e
  exact ⟨_, rfl⟩
theorem ok_ne : Op2Ok X (rEqA X.K true) o_ne := vw_ne.op fun x y z e => by
  unfold o_ne at e
  rw [Option.map_eq_some_iff] at e
  obtain ⟨r, _, rfl⟩ := e
  exact ⟨_, rfl⟩

/-! ### ints as views -/
theorem vw_ii {C : Int → Int → Prop} {g : Int → Int → V} {c : Int → Int → Bool} {g' : Int → Int → D} (hc : ∀ i j, c i j = true → C i j) (hg : ∀ i j I, Den X.K I (g' i j) (g i j)) : Vw2 X (rI C g) (o_ii c g') := by
  intro I H φ ρ σ Q x y z a b S1 S2 gd w1 w2 e h
  unfold o_ii at e
  split at e
  · rename_i i j
    split at e
    · rename_i hcc
      cases e
      cases w1.int
      cases w2.int
      exact ⟨i, j, rfl, rfl, hc i j hcc, h.d gd (hg i j I)⟩
    · cases e
  · cases e
theorem vw_ii0 {g : Int → Int → V} {g' : Int → Int → D} (hg : ∀ i j I, Den X.K I (g' i j) (g i j)) : Vw2 X (rI0 g) (o_ii (fun _ _ => true) g') := by
  intro I H φ ρ σ Q x y z a b S1 S2 gd w1 w2 e h
  unfold o_ii at e
  split at e
  · rename_i i j
    rw [if_pos rfl] at e
    cases e
    cases w1.int
    cases w2.int
    exact ⟨i, j, rfl, rfl, h.d gd (hg i j I)⟩
  · cases e
theorem vw_sub : Vw2 X (rI0 fun i j => .int (i - j)) o_sub := vw_ii0 fun _ _ _ => .int _
theorem vw_fdiv : Vw2 X (rI CDiv fun i j => .int (i / j)) o_fdiv := vw_ii (fun i j h => by
  rw [Bool.and_eq_true, decide_eq_true_eq, decide_eq_true_eq] at h; exact h) fun _ _ _ => .int _
theorem vw_mod : Vw2 X (rI (fun _ j => 0 < j) fun i j => .int (i % j)) o_mod := vw_ii (fun i j h => of_decide_eq_true h) fun _ _ _ => .int _
theorem vw_pow : Vw2 X (rI CPow fun i j => .int (i ^ j.toNat)) o_pow := vw_ii (fun i j h => by
  simp only [Bool.and_eq_true, decide_eq_true_eq] at h
  exact ⟨h.1.1.1, by omega, by omega⟩) fun _ _ _ => .int _
theorem vw_lt : Vw2 X (rI0 fun i j => .bl (decide (i < j))) o_lt := vw_ii0 fun _ _ _ => .bl _
theorem vw_le : Vw2 X (rI0 fun i j => .bl (decide (i ≤ j))) o_le := vw_ii0 fun _ _ _ => .bl _
theorem vw_gt : Vw2 X (rI0 fun i j => .bl (decide (j < i))) o_gt := vw_ii0 fun _ _ _ => .bl _
theorem vw_ge : Vw2 X (rI0 fun i j => .bl (decide (j ≤ i))) o_ge := vw_ii0 fun _ _ _ => .bl _

/-! ### is, is not -/
def isC (x y : O) : Option Bool := match y with
  | .d .none => (match x with
    | .d d => some (match d with | .none => true | _ => false)
    | .lst _ => some false
    | .tup _ => some false
    | .dic _ => some false
    | .obj _ _ => some false
    | _ => none)
  | .d (.bool b) => (match x with
    | .d (.bool a) => some (a == b)
    | _ => none)
  | _ => none
def o_is (x y : O) : Option O := (isC x y).map fun b => .d (.bool b)
def o_isn (x y : O) : Option O := (isC x y).map fun b => .d (.bool (!b))
def rIsA (neg : Bool) : R2 := fun x y H Q => (y = .non ∧ Q (.bl (if neg then !decide (x = .non) else decide (x = .non))) H) ∨ ∃ a b : Bool, x = .bl a ∧ y = .bl b ∧ Q (.bl (if neg then !decide (a = b) else decide (a = b))) H
theorem op_isA : OpR X (compareOp .Is) (rIsA false) := OpR.or op_isN op_isBl
theorem op_isnA : OpR X (compareOp .IsNot) (rIsA true) := OpR.or op_notN op_notBl
theorem is_any {neg : Bool} {I H : Hp} {Q : VK} {x y : O} {a b : V} {S1 S2 : Pd} {r : Bool} (w1 : Own X.K X.mg I H x a S1) (w2 : Own X.K X.mg I H y b S2) (e : isC x y = some r) (h : Q (.bl (if neg then !r else r)) H) : rIsA neg a b H Q := by
  unfold isC at e
  split at e
  · cases w2.none'
    have e' : decide (a = .non) = r := by
      split at e
      · rename_i d
        split at e
        · cases e; cases w1.none'; rfl
        · rename_i hd
          cases e
          cases w1 with
          | d q => cases q <;> first | rfl | exact (hd rfl).elim
      · cases e; cases w1; rfl
      · cases e; cases w1; rfl
      · cases e; cases w1; rfl
      · cases e; cases w1; rfl
      · cases e
    exact .inl ⟨rfl, by rw [e']; exact h⟩
  · split at e
    · cases e
      cases w1.bool
      cases w2.bool
      exact .inr ⟨_, _, rfl, rfl, by simpa [Bool.beq_eq_decide_eq] using h⟩
    · cases e
  · cases e
theorem vw_is : Vw2 X (rIsA false) o_is := by
  intro I H φ ρ σ Q x y z a b S1 S2 gd w1 w2 e h
  unfold o_is at e
  rw [Option.map_eq_some_iff] at e
  obtain ⟨r, e, rfl⟩ := e
  exact is_any w1 w2 e (h.d gd (.bl r))
theorem vw_isn : Vw2 X (rIsA true) o_isn := by
  intro I H φ ρ σ Q x y z a b S1 S2 gd w1 w2 e h
  unfold o_isn at e
  rw [Option.map_eq_some_iff] at e
  obtain ⟨r, e, rfl⟩ := e
  exact is_any w1 w2 e (h.d gd (.bl _))
theorem ok_is : Op2Ok X (rIsA false) o_is := vw_is.op fun x y z e => by
  unfold o_is at e
  rw [Option.map_eq_some_iff] at e
  obtain ⟨r, _, rfl⟩ := e
  exact ⟨_, rfl⟩
theorem ok_isn : Op2Ok X (rIsA true) o_isn := vw_isn.op fun x y z e => by
  unfold o_isn at e
  rw [Option.map_eq_some_iff] at e
  obtain ⟨r, _, rfl⟩ := e
  exact ⟨_, rfl⟩
end
end EV

/-! The layer EV, part K: in, index, slices, len, isinstance and other built-ins, as views. -/
namespace EV
open PySem PySem.Spec PyProof.Rows L2

/-- the items of a list or tuple, read -/
def listO : O → Option (List O)
  | .lst xs => some xs
  | .d (.list xs) => some (xs.map .d)
  | .scr xs => some (xs.map fun i => .d (.int i))
  | _ => none
def tupO : O → Option (List O)
  | .tup xs => some xs
  | .d (.tuple xs) => some (xs.map .d)
  | .kst xs => some (xs.map .d)
  | _ => none
def seqO (o : O) : Option (List O) := match listO o with
  | some xs => some xs
  | none => tupO o
section
variable {K : PySem.W.Frag} {mg : Str → Option Value} {I H : Hp}
theorem Vws.den : ∀ {xs : List D} {vs : List V}, DenL K I xs vs → Vws K mg I H (xs.map .d) vs
  | _, _, .nil => .nil
  | _, _, .cons a b => .cons (S := noP) (.d a) (Vws.den b)
theorem Vws.ints : ∀ xs : List Int, Vws K mg I H (xs.map fun i => .d (.int i)) (xs.map V.int)
  | [] => .nil
  | x :: xs => .cons (S := noP) (.d (.int x)) (Vws.ints xs)
theorem Vws.own : ∀ {xs : List O} {vs : List V} {S : Pd}, Owns K mg I H xs vs S → Vws K mg I H xs vs
  | _, _, _, .nil => .nil
  | _, _, _, .cons a b _ _ _ => .cons a (Vws.own b)
theorem Vws.get : ∀ {os : List O} {vs : List V} {i : Nat} {o : O}, Vws K mg I H os vs → os[i]? = some o → ∃ v S, vs[i]? = some v ∧ Own K mg I H o v S
  | _, _, _, _, .nil, e => by simp at e
  | _, _, 0, _, .cons a _, e => by simp at e; subst e; exact ⟨_, _, rfl, a⟩
  | _, _, i + 1, o, .cons _ b, e => by
    obtain ⟨v, S, h1, h2⟩ := Vws.get (i := i) (o := o) b (by simpa using e)
    exact ⟨v, S, by simpa using h1, h2⟩
theorem Own.listO (le : Same I H) {o : O} {v : V} {S : Pd} {os : List O} (w : Own K mg I H o v S) (e : EV.listO o = some os) : ∃ a vs, v = .ref a ∧ SqL K H a vs ∧ Vws K mg I H os vs := by
  unfold EV.listO at e
  split at e
  · cases e
    cases w with
    | lst a b c d e => exact ⟨_, _, rfl, SqL.of a, Vws.own c⟩
  · cases e
    cases w with
    | d q =>
      cases q with
      | list s r => exact ⟨_, _, rfl, SqL.of (le _ _ s), Vws.den r⟩
  · cases e
    cases w with
    | scr q => exact ⟨_, _, rfl, (RdLe.of le).sqL q, Vws.ints _⟩
  · cases e
theorem Own.tupO (le : Same I H) {o : O} {v : V} {S : Pd} {os : List O} (w : Own K mg I H o v S) (e : EV.tupO o = some os) : ∃ a vs, v = .ref a ∧ SqT K H a vs ∧ Vws K mg I H os vs := by
  unfold EV.tupO at e
  split at e
  · cases e
    cases w with
    | tup a b => exact ⟨_, _, rfl, SqT.of (le _ _ a), Vws.own b⟩
  · cases e
    cases w with
    | d q =>
      cases q with
      | tuple s r => exact ⟨_, _, rfl, SqT.of (le _ _ s), Vws.den r⟩
  · cases e
    cases w with
    | kst q r => exact ⟨_, _, rfl, sqT_le le q, Vws.den r⟩
  · cases e
theorem Own.seqO (le : Same I H) {o : O} {v : V} {S : Pd} {os : List O} (w : Own K mg I H o v S) (e : EV.seqO o = some os) : ∃ a vs, v = .ref a ∧ (SqL K H a vs ∨ SqT K H a vs) ∧ Vws K mg I H os vs := by
  unfold EV.seqO at e
  split at e
  · rename_i xs ex
    cases e
    obtain ⟨a, vs, h1, h2, h3⟩ := w.listO le ex
    exact ⟨a, vs, h1, .inl h2, h3⟩
  · obtain ⟨a, vs, h1, h2, h3⟩ := w.tupO le e
    exact ⟨a, vs, h1, .inr h2, h3⟩

/-! ### keys by values -/
def keyT? : List D → Option (List Key)
  | [] => some []
  | .int i :: r => (keyT? r).map (.inl i :: ·)
  | .str x :: r => (keyT? r).map (.inr x :: ·)
  | _ :: _ => none
theorem keyT?_of : ∀ {ds : List D} {ks : List Key}, keyT? ds = some ks → ds = ks.map keyD
  | [], _, e => by rw [keyT?] at e; cases e; rfl
  | .int i :: r, _, e => by
    rw [keyT?, Option.map_eq_some_iff] at e
    obtain ⟨ks, e, rfl⟩ := e
    rw [List.map_cons, ← keyT?_of e]; rfl
  | .str i :: r, _, e => by
    rw [keyT?, Option.map_eq_some_iff] at e
    obtain ⟨ks, e, rfl⟩ := e
    rw [List.map_cons, ← keyT?_of e]; rfl
  | .none :: _, _, e => by simp [keyT?] at e
  | .bool _ :: _, _, e => by simp [keyT?] at e
  | .list _ :: _, _, e => by simp [keyT?] at e
  | .tuple _ :: _, _, e => by simp [keyT?] at e
  | .dict _ :: _, _, e => by simp [keyT?] at e
theorem DenL.keys : ∀ {ks : List Key} {vs : List V}, DenL K I (ks.map keyD) vs → vs = ks.map kV
  | [], _, h => by cases h; rfl
  | k :: ks, _, h => by
    rw [List.map_cons] at h
    cases h with
    | cons a b => rw [a.key, DenL.keys b]; rfl
theorem eqvAll_keys : ∀ ks ls : List Key, PyData.eqvAll (ks.map keyD) (ls.map keyD) = decide (ks = ls)
  | [], [] => by simp [PyData.eqvAll]
  | [], _ :: _ => by simp [PyData.eqvAll]
  | _ :: _, [] => by simp [PyData.eqvAll]
  | k :: ks, l :: ls => by
    rw [List.map_cons, List.map_cons, PyData.eqvAll, eqv_keyD, eqvAll_keys ks ls]
    by_cases h1 : k = l <;> by_cases h2 : ks = ls <;> simp [h1, h2]
theorem eqv_keyT (ks ls : List Key) : PyData.eqv (keyT ks) (keyT ls) = decide (ks = ls) := by
  unfold keyT
  rw [PyData.eqv, eqvAll_keys]
theorem DenT.get : ∀ {ds : List (D × D)} {kvs : List (List Key × V)} (k : List Key), DenT K I ds kvs → (∃ x v, lookK ds (keyT k) = some x ∧ valV kvs k = some v ∧ Den K I x v) ∨ (lookK ds (keyT k) = none ∧ valV kvs k = none)
  | _, _, k, .nil => .inr ⟨rfl, rfl⟩
  | _, _, k, .cons (k := k') a b => by
    unfold lookK
    by_cases e : k' = k
    · subst e
      rw [show PyData.eqv (keyT k') (keyT k') = true by rw [eqv_keyT]; simp, if_pos rfl, valV_pos rfl]
      exact .inl ⟨_, _, rfl, rfl, a⟩
    · rw [show PyData.eqv (keyT k') (keyT k) = false by rw [eqv_keyT]; simp [e], if_neg Bool.false_ne_true, valV_neg e]
      exact DenT.get k b
end
/-- a dict with tuple keys, read -/
def dTO : O → Option (List (D × D))
  | .d (.dict ds) => if keysOk ds || exB ds then none else some ds
  | .dicT ds => some ds
  | _ => none
def keyO : O → Option D
  | .kst _ => none
  | o => rdO o
/-- what the dict x holds at y -/
def getO (x y : O) : Option (Option D) := match keyO y with
  | some (.tuple ds) => (keyT? ds).bind fun _ => (dTO x).bind fun kvs => some (lookK kvs (.tuple ds))
  | some d => if isK d then (dO x).bind fun kvs => if keysOk kvs then some (lookK kvs d) else none else none
  | none => none
section
variable {K : PySem.W.Frag} {mg : Str → Option Value} {I H : Hp}
theorem rdO_tup_of {o : O} {v : V} {S : Pd} {ds : List D} {ks : List Key} (le : Same I H) (w : Own K mg I H o v S) (e : rdO o = some (.tuple ds)) (hk : keyT? ds = some ks) (hn : ∀ xs, o ≠ .kst xs) : ∃ b, v = .ref b ∧ H b = some (.tup (ks.map kV)) := by
  have := keyT?_of hk
  subst this
  cases o with
  | d x =>
    rw [rdO] at e; cases e
    cases w with
    | d q =>
      cases q with
      | tuple s r => exact ⟨_, rfl, by rw [← r.keys]; exact le _ _ s⟩
  | tup xs =>
    rw [rdO, Option.map_eq_some_iff] at e
    obtain ⟨ys, e1, e2⟩ := e
    cases e2
    cases w with
    | tup a b =>
      refine ⟨_, rfl, ?_⟩
      have : ∀ {xs : List O} {vs : List V} {ks : List Key} {S : Pd}, Owns K mg I H xs vs S → rdOs xs = some (ks.map keyD) → vs = ks.map kV := by
        intro xs
        induction xs with
        | nil => intro vs ks S h e; cases h; rw [rdOs] at e; cases ks <;> simp at e ⊢
        | cons x xs ih =>
          intro vs ks S h e
          cases h with
          | cons a b c d f =>
            rw [rdOs] at e
            split at e
            · rename_i y ys e1 e2
              cases ks with
              | nil => simp at e
              | cons k ks =>
                simp only [List.map_cons, Option.some.injEq, List.cons.injEq] at e
                obtain ⟨rfl, rfl⟩ := e
                rw [ih b e2, List.map_cons]
                congr 1
                have hd : x = .d (keyD k) := by
                  cases x <;> simp [rdO] at e1
                  · rw [e1]
                  · obtain ⟨_, _, z⟩ := e1; cases k <;> simp [keyD] at z
                  · obtain ⟨_, _, z⟩ := e1; cases k <;> simp [keyD] at z
                  · cases k <;> simp [keyD] at e1
                  · cases k <;> simp [keyD] at e1
                  · cases k <;> simp [keyD] at e1
                subst hd
                cases a with
                | d q => exact q.key
            · cases e
      rw [← this b e1]; exact le _ _ a
  | kst xs => exact (hn xs rfl).elim
  | lst xs => rw [rdO, Option.map_eq_some_iff] at e; obtain ⟨_, _, z⟩ := e; cases z
  | _ => rw [rdO] at e; cases e

theorem Own.dTO {o : O} {v : V} {S : Pd} {ds : List (D × D)} (w : Own K mg I H o v S) (le : Same I H) (e : EV.dTO o = some ds) : ∃ a kvs, v = .ref a ∧ Rd H a (.dT kvs) ∧ DenT K I ds kvs := by
  unfold EV.dTO at e
  split at e
  · split at e
    · cases e
    · rename_i hk
      cases e
      rw [Bool.or_eq_true, not_or] at hk
      exact w.dT le (.inr rfl) (by simpa using hk.1) (.inr (by simpa using hk.2))
  · cases e
    cases w with
    | dicT h s k => exact ⟨_, _, rfl, .inl h, k⟩
  · cases e
theorem keyO_atom {o : O} {v : V} {S : Pd} {k : Key} (w : Own K mg I H o v S) (e : keyO o = some (keyD k)) : v = kV k := by
  cases o with
  | d x =>
    have e : some x = some (keyD k) := e
    cases e
    cases w with
    | d q => exact q.key
  | lst xs =>
    have e : (rdOs xs).map PyData.list = some (keyD k) := e
    rw [Option.map_eq_some_iff] at e
    obtain ⟨_, _, z⟩ := e
    cases k <;> simp [keyD] at z
  | tup xs =>
    have e : (rdOs xs).map PyData.tuple = some (keyD k) := e
    rw [Option.map_eq_some_iff] at e
    obtain ⟨_, _, z⟩ := e
    cases k <;> simp [keyD] at z
  | dic xs =>
    have e : some (PyData.dict xs) = some (keyD k) := e
    cases k <;> simp [keyD] at e
  | scr xs =>
    have e : some (PyData.list (xs.map .int)) = some (keyD k) := e
    cases k <;> simp [keyD] at e
  | _ => cases e
theorem getO_spec {x y : O} {a b : V} {S1 S2 : Pd} {r : Option D} (le : Same I H) (w1 : Own K mg I H x a S1) (w2 : Own K mg I H y b S2) (e : getO x y = some r) :
    ∃ p o, a = .ref p ∧ DGet H p b o ∧ ((r = none ∧ o = none) ∨ ∃ z v, r = some z ∧ o = some v ∧ Den K I z v) := by
  unfold getO at e
  split at e
  · rename_i ds ek
    rw [Option.bind_eq_some_iff] at e
    obtain ⟨ks, e1, e⟩ := e
    rw [Option.bind_eq_some_iff] at e
    obtain ⟨kvs, e2, e⟩ := e
    cases e
    obtain ⟨q, rfl, hq⟩ := rdO_tup_of (ds := ds) le w2 (by
      unfold keyO at ek
      split at ek
      · cases ek
      · exact ek) e1 (fun xs z => by subst z; cases ek)
    obtain ⟨p, kv, rfl, r1, k1⟩ := w1.dTO le e2
    refine ⟨p, valV kv ks, rfl, .inr ⟨kv, ks, q, r1, rfl, hq, rfl⟩, ?_⟩
    have := keyT?_of e1
    subst this
    rcases DenT.get ks k1 with ⟨z, v, h1, h2, h3⟩ | ⟨h1, h2⟩
    · exact .inr ⟨z, v, h1, h2, h3⟩
    · exact .inl ⟨h1, h2⟩
  · rename_i d ek
    split at e
    · rename_i hk
      rw [Option.bind_eq_some_iff] at e
      obtain ⟨kvs, e2, e⟩ := e
      split at e
      · rename_i hko
        cases e
        obtain ⟨k, rfl⟩ := isK_of hk
        obtain ⟨p, kv, rfl, r1, k1⟩ := w1.dK le e2 hko
        have := keyO_atom w2 ek
        subst this
        refine ⟨p, valV kv k, rfl, .inl ⟨kv, k, r1, rfl, rfl⟩, ?_⟩
        rcases DenK.get k k1 with ⟨z, v, h1, h2, h3⟩ | ⟨h1, h2⟩
        · exact .inr ⟨z, v, h1, h2, h3⟩
        · exact .inl ⟨h1, h2⟩
      · cases e
    · cases e
  · cases e
end

/-! ### in -/
def inB (x y : O) : Option Bool := match seqO y with
  | some _ => (rdO x).bind fun d => match rdO y with
    | some (.list xs) => if d.plain && PyData.plainAll xs && decide (min (PyData.depthAll xs) d.depth ≤ 64) then some (xs.any fun z => PyData.eqv z d) else none
    | some (.tuple xs) => if d.plain && PyData.plainAll xs && decide (min (PyData.depthAll xs) d.depth ≤ 64) then some (xs.any fun z => PyData.eqv z d) else none
    | _ => none
  | none => (getO y x).map Option.isSome
def o_in (x y : O) : Option O := (inB x y).map fun b => .d (.bool b)
def o_nin (x y : O) : Option O := (inB x y).map fun b => .d (.bool (!b))
def rInP (K : PySem.W.Frag) (neg : Bool) : R2 := fun x y H Q => ∃ d xs, Dp K H x d ∧ (Dp K H y (.list xs) ∨ Dp K H y (.tuple xs)) ∧ d.plain = true ∧ PyData.plainAll xs = true ∧ min (PyData.depthAll xs) d.depth ≤ 64 ∧
  Q (.bl (if neg then !(xs.any fun z => PyData.eqv z d) else xs.any fun z => PyData.eqv z d)) H
def rInDc (neg : Bool) : R2 := fun x y H Q => ∃ p o, y = .ref p ∧ DGet H p x o ∧ Q (.bl (if neg then !o.isSome else o.isSome)) H
def rInA (K : PySem.W.Frag) (neg : Bool) : R2 := fun x y H Q => rInP K neg x y H Q ∨ rInDc neg x y H Q
section
variable {X : Cx}
theorem op_inP (hu : X.A.units + 100 < cLine) : OpR X (compareOp .In) (rInP X.K false) := by
  intro pins s σ H x y v u Q I rx ry h
  obtain ⟨d, xs, hd, he, sd, se, hm, q⟩ := h
  obtain ⟨as, r1⟩ := Dp.reads I d x v hd rx
  rcases he with he | he
  · obtain ⟨bs, r2⟩ := Dp.reads I _ y u he ry
    exact SeqAt.in_list_data r2 r1 se sd (by omega) ⟨.bl _, H, I, rfl, q⟩
  · obtain ⟨bs, r2⟩ := Dp.reads I _ y u he ry
    exact SeqAt.in_tuple_data r2 r1 se sd (by omega) ⟨.bl _, H, I, rfl, q⟩
theorem op_ninP (hu : X.A.units + 100 < cLine) : OpR X (compareOp .NotIn) (rInP X.K true) := by
  intro pins s σ H x y v u Q I rx ry h
  obtain ⟨d, xs, hd, he, sd, se, hm, q⟩ := h
  obtain ⟨as, r1⟩ := Dp.reads I d x v hd rx
  rcases he with he | he
  · obtain ⟨bs, r2⟩ := Dp.reads I _ y u he ry
    exact SeqAt.notIn_list_data r2 r1 se sd (by omega) ⟨.bl _, H, I, rfl, q⟩
  · obtain ⟨bs, r2⟩ := Dp.reads I _ y u he ry
    exact SeqAt.notIn_tuple_data r2 r1 se sd (by omega) ⟨.bl _, H, I, rfl, q⟩
theorem op_inDc (hu : X.A.units + 100 < cLine) : OpR X (compareOp .In) (rInDc false) := by
  intro pins s σ H x y v u Q I rx ry h
  obtain ⟨p, o, rfl, g, q⟩ := h
  obtain rfl : u = Value.ref p := ry
  exact d_in (by omega) I g rx fun s3 I3 => ⟨.bl o.isSome, H, I3, rfl, q⟩
theorem op_ninDc (hu : X.A.units + 100 < cLine) : OpR X (compareOp .NotIn) (rInDc true) := by
  intro pins s σ H x y v u Q I rx ry h
  obtain ⟨p, o, rfl, g, q⟩ := h
  obtain rfl : u = Value.ref p := ry
  exact d_notIn (by omega) I g rx fun s3 I3 => ⟨.bl (!o.isSome), H, I3, rfl, q⟩
theorem op_inA (hu : X.A.units + 100 < cLine) : OpR X (compareOp .In) (rInA X.K false) := (op_inP hu).or (op_inDc hu)
theorem op_ninA (hu : X.A.units + 100 < cLine) : OpR X (compareOp .NotIn) (rInA X.K true) := (op_ninP hu).or (op_ninDc hu)
theorem in_any {neg : Bool} {I H : Hp} {Q : VK} {x y : O} {a b : V} {S1 S2 : Pd} {r : Bool} (le : Same I H) (w1 : Own X.K X.mg I H x a S1) (w2 : Own X.K X.mg I H y b S2) (e : inB x y = some r) (h : Q (.bl (if neg then !r else r)) H) : rInA X.K neg a b H Q := by
  unfold inB at e
  split at e
  · rw [Option.bind_eq_some_iff] at e
    obtain ⟨d, e1, e⟩ := e
    split at e
    · rename_i xs ey
      split at e
      · rename_i hc
        cases e
        simp only [Bool.and_eq_true, decide_eq_true_eq] at hc
        exact .inl ⟨d, xs, w1.dp le e1 hc.1.1, .inl (w2.dp le ey (by simpa [PyData.plain] using hc.1.2)), hc.1.1, hc.1.2, hc.2, h⟩
      · cases e
    · rename_i xs ey
      split at e
      · rename_i hc
        cases e
        simp only [Bool.and_eq_true, decide_eq_true_eq] at hc
        exact .inl ⟨d, xs, w1.dp le e1 hc.1.1, .inr (w2.dp le ey (by simpa [PyData.plain] using hc.1.2)), hc.1.1, hc.1.2, hc.2, h⟩
      · cases e
    · cases e
  · rw [Option.map_eq_some_iff] at e
    obtain ⟨o, e1, rfl⟩ := e
    obtain ⟨p, o', rfl, g, hh⟩ := getO_spec le w2 w1 e1
    refine .inr ⟨p, o', rfl, g, ?_⟩
    rcases hh with ⟨rfl, rfl⟩ | ⟨z, v, rfl, rfl, _⟩ <;> exact h
theorem vw_in : Vw2 X (rInA X.K false) o_in := by
  intro I H φ ρ σ Q x y z a b S1 S2 gd w1 w2 e h
  unfold o_in at e
  rw [Option.map_eq_some_iff] at e
  obtain ⟨r, e, rfl⟩ := e
  exact in_any gd.le w1 w2 e (h.d gd (.bl r))
theorem vw_nin : Vw2 X (rInA X.K true) o_nin := by
  intro I H φ ρ σ Q x y z a b S1 S2 gd w1 w2 e h
  unfold o_nin at e
  rw [Option.map_eq_some_iff] at e
  obtain ⟨r, e, rfl⟩ := e
  exact in_any gd.le w1 w2 e (h.d gd (.bl _))
theorem ok_in : Op2Ok X (rInA X.K false) o_in := vw_in.op fun x y z e => by
  unfold o_in at e
  rw [Option.map_eq_some_iff] at e
  obtain ⟨r, _, rfl⟩ := e
  exact ⟨_, rfl⟩
theorem ok_nin : Op2Ok X (rInA X.K true) o_nin := vw_nin.op fun x y z e => by
  unfold o_nin at e
  rw [Option.map_eq_some_iff] at e
  obtain ⟨r, _, rfl⟩ := e
  exact ⟨_, rfl⟩
end

/-! ### x[i] -/
def o_ix (x y : O) : Option O := match seqO x with
  | some xs => (match y with
    | .d (.int i) => atI xs i
    | _ => none)
  | none => (match getO x y with
    | some (some z) => some (.d z)
    | _ => none)
/-- the item as data only -/
def o_ixd (x y : O) : Option O := match o_ix x y with
  | some (.d z) => some (.d z)
  | _ => none
def rIxD : R2 := fun x y H Q => ∃ a v, x = .ref a ∧ DGet H a y (some v) ∧ Q v H
def rIxA (K : PySem.W.Frag) : R2 := fun x y H Q => rIxL K x y H Q ∨ rIxT K x y H Q ∨ rIxD x y H Q
section
variable {X : Cx}
theorem ix_dict (hu : X.A.units + 100 < cLine) : IxR X rIxD := by
  intro value slice pins s σ H x y v u Q I rx ry h hs
  obtain ⟨a, z, rfl, g, q⟩ := h
  obtain rfl : v = Value.ref a := rx
  exact tail_any (dict_typeIs I g) PySem.F.slot_dict_getitem.lookup (d_getItem (by omega) I g ry fun w' s3 I3 rw' => ⟨z, H, I3, rw', q⟩) hs
theorem ix_any (hu : X.A.units + 100 < cLine) : IxR X (rIxA X.K) := ix_list.or (ix_tup.or (ix_dict hu))
theorem vw_ix : Vw2 X (rIxA X.K) o_ix := by
  intro I H φ ρ σ Q x y z a b S1 S2 gd w1 w2 e h
  unfold o_ix at e
  split at e
  · rename_i xs ex
    split at e
    · rename_i i
      cases w2.int
      obtain ⟨p, vs, rfl, hq, ws⟩ := w1.seqO gd.le ex
      have el : atI xs i = some z := e
      obtain ⟨j, h1, h2, h3, h4, h5⟩ := atI_get el
      obtain ⟨v, S, hv, wv⟩ := ws.get h2
      have ev : atI vs i = some v := by
        unfold atI at el ⊢
        rw [ws.len]
        cases e3 : ixN xs.length i with
        | none => rw [e3] at el; cases el
        | some j' =>
          have := (ixN_seq e3).1
          rw [h1] at this
          cases this
          exact hv
      have fin : Q v H := h v S I H (Grw.refl gd) wv
      rcases hq with hq | hq
      · exact .inl ⟨p, vs, i, v, rfl, rfl, hq, ev, fin⟩
      · exact .inr (.inl ⟨p, vs, i, v, rfl, rfl, hq, ev, fin⟩)
    · cases e
  · split at e
    · rename_i z' e1
      cases e
      obtain ⟨p, o, rfl, g, hh⟩ := getO_spec gd.le w1 w2 e1
      rcases hh with ⟨z, _⟩ | ⟨z, v, e2, rfl, d⟩
      · cases z
      · cases e2
        exact .inr (.inr ⟨p, v, rfl, g, h.d gd d⟩)
    · cases e
theorem vw_ixd : Vw2 X (rIxA X.K) o_ixd := by
  intro I H φ ρ σ Q x y z a b S1 S2 gd w1 w2 e h
  unfold o_ixd at e
  split at e
  · rename_i z' e1
    cases e
    exact vw_ix I H φ ρ σ Q x y _ a b S1 S2 gd w1 w2 e1 h
  · cases e
theorem ok_ix : Op2Ok X (rIxA X.K) o_ixd := vw_ixd.op fun x y z e => by
  unfold o_ixd at e
  split at e
  · cases e; exact ⟨_, rfl⟩
  · cases e

/-! ### len -/
def o_len : List O → Option O
  | [.d (.str x)] => if x.length ≤ 1000000 then some (.d (.int x.length)) else none
  | [x] => (match seqO x with
    | some xs => some (.d (.int xs.length))
    | none => (match dO x with
      | some ds => if keysOk ds then some (.d (.int ds.length)) else none
      | none => none))
  | _ => none
def rLenA (K : PySem.W.Frag) : List V → Hp → VK → Prop := fun xs H Q => (∃ x n, xs = [x] ∧ LenV K x H n ∧ Q (.int n) H) ∨ ∃ a kvs, xs = [V.ref a] ∧ Rd H a (.dK kvs) ∧ Q (.int kvs.length) H
theorem call_lenA : CallR X (.builtin "len") (rLenA X.K) := call_len.or (by
  intro pins s σ H xs us Q I r h
  obtain ⟨a, kvs, rfl, e, q⟩ := h
  obtain ⟨u, rfl, rx⟩ := vals1 r
  obtain rfl : u = Value.ref a := rx
  exact d_len I e fun t s' I' => ⟨.int kvs.length, H, I', ⟨t, rfl⟩, q⟩)
theorem vw_len : VwN X (rLenA X.K) o_len := by
  intro I H φ ρ σ Q xs z as gd ws e h
  unfold o_len at e
  split at e
  · rename_i x
    split at e
    · rename_i hz
      cases e
      cases ws with
      | cons w ws =>
        cases ws
        cases w.str
        exact .inl ⟨_, x.length, rfl, ⟨mil hz, rfl⟩, h.d gd (.int _)⟩
    · cases e
  · rename_i x _
    cases ws with
    | cons w ws =>
      cases ws
      split at e
      · rename_i xs ex
        cases e
        obtain ⟨p, vs, rfl, hq, ws⟩ := w.seqO gd.le ex
        refine .inl ⟨_, vs.length, rfl, ?_, by rw [ws.len]; exact h.d gd (.int _)⟩
        rcases hq with hq | hq
        · exact .inl ⟨vs, hq, rfl⟩
        · exact .inr ⟨vs, hq, rfl⟩
      · split at e
        · rename_i ds ed
          split at e
          · rename_i hk
            cases e
            obtain ⟨a, kvs, rfl, r, k⟩ := w.dK gd.le ed hk
            exact .inr ⟨a, kvs, rfl, r, by rw [k.len]; exact h.d gd (.int _)⟩
          · cases e
        · cases e
  · cases e
end
end EV

/-! The layer EV, part L: sorting. -/
namespace EV
open PySem PySem.Spec PyProof.Rows L2

/-! ### insertion sort -/
section
variable {α β : Type}
def ins (le : α → α → Bool) (a : α) : List α → List α
  | [] => [a]
  | b :: r => if le a b then a :: b :: r else b :: ins le a r
def isort (le : α → α → Bool) : List α → List α
  | [] => []
  | a :: r => ins le a (isort le r)
theorem ins_split {le : α → α → Bool} {a : α} : ∀ {l1 l2 : List α}, (∀ b ∈ l1, le a b = false) → (∀ b ∈ l2, le a b = true) → ins le a (l1 ++ l2) = l1 ++ a :: l2
  | [], [], _, _ => rfl
  | [], b :: r, _, h => by
    show (if le a b then a :: b :: r else b :: ins le a r) = _
    rw [h b (.head _)]; rfl
  | c :: l1, l2, h1, h2 => by
    show (if le a c then a :: c :: (l1 ++ l2) else c :: ins le a (l1 ++ l2)) = _
    rw [h1 c (.head _), if_neg Bool.false_ne_true, ins_split (fun b hb => h1 b (.tail _ hb)) h2]; rfl
theorem mergeSort_isort {le : α → α → Bool} (tr : ∀ a b c, le a b = true → le b c = true → le a c = true) (to : ∀ a b, (le a b || le b a) = true) : ∀ l : List α, l.mergeSort le = isort le l
  | [] => by simp [isort]
  | a :: l => by
    obtain ⟨l1, l2, h1, h2, h3⟩ := List.mergeSort_cons tr to a l
    show _ = ins le a (isort le l)
    rw [← mergeSort_isort tr to l, h2, h1]
    refine (ins_split (fun b hb => ?_) (fun b hb => ?_)).symm
    · have := h3 b hb; simpa using this
    · have hp := List.pairwise_mergeSort tr to (a :: l)
      rw [h1, List.pairwise_append] at hp
      exact (List.pairwise_cons.mp hp.2.1).1 b hb
theorem ins_map {r : α → α → Bool} {s : β → β → Bool} {f : α → β} (h : ∀ a b, r a b = s (f a) (f b)) (a : α) : ∀ l : List α, (ins r a l).map f = ins s (f a) (l.map f)
  | [] => rfl
  | b :: l => by
    show (if r a b then a :: b :: l else b :: ins r a l).map f = if s (f a) (f b) then _ else _
    rw [h]
    split
    · rfl
    · rw [List.map_cons, ins_map h a l]
theorem isort_map {r : α → α → Bool} {s : β → β → Bool} {f : α → β} (h : ∀ a b, r a b = s (f a) (f b)) : ∀ l : List α, (isort r l).map f = isort s (l.map f)
  | [] => rfl
  | a :: l => by
    show (ins r a (isort r l)).map f = ins s (f a) (isort s (l.map f))
    rw [ins_map h, isort_map h l]
theorem mem_ins {le : α → α → Bool} {a b : α} : ∀ {l : List α}, b ∈ ins le a l → b = a ∨ b ∈ l
  | [], h => by cases h with | head => exact .inl rfl | tail _ h => cases h
  | c :: l, h => by
    unfold ins at h
    split at h
    · exact (List.mem_cons.mp h)
    · rcases List.mem_cons.mp h with rfl | h
      · exact .inr (.head _)
      · rcases mem_ins h with rfl | h
        · exact .inl rfl
        · exact .inr (.tail _ h)
theorem mem_isort {le : α → α → Bool} {b : α} : ∀ {l : List α}, b ∈ isort le l → b ∈ l
  | a :: l, h => by
    rcases mem_ins h with rfl | h
    · exact .head _
    · exact .tail _ (mem_isort h)
end
/-- the order of data -/
def leD (a b : D) : Bool := PySem.W.dataLe (β := D) false id a b
def sortD (ds : List D) : List D := isort leD ds
/-- data that can be compared, two by two -/
def sortOk (ds : List D) : Bool := (ds.all fun d => ds.all fun e => PySem.W.alike d e) && ((ds.all fun d => match d with | .tuple (_ :: _) => true | _ => false) || ds.all fun d => match d with | .none => false | .tuple _ => false | _ => true) &&
  ds.all (fun d => decide (d.depth ≤ 64)) && decide (ds.length ≤ 1000000)
theorem sortOk_spec {ds : List D} (h : sortOk ds = true) : PySem.W.AllAlike ds ∧ PySem.W.Sortable ds ∧ (∀ d ∈ ds, d.depth ≤ 64) ∧ ds.length ≤ 1000000 := by
  unfold sortOk at h
  simp only [Bool.and_eq_true, Bool.or_eq_true, List.all_eq_true, decide_eq_true_eq] at h
  obtain ⟨⟨⟨h1, h2⟩, h3⟩, h4⟩ := h
  refine ⟨fun d hd e he => h1 d hd e he, ?_, h3, h4⟩
  rcases h2 with h2 | h2
  · refine .inl fun d hd => ?_
    have := h2 d hd
    split at this
    · exact ⟨_, _, rfl⟩
    · cases this
  · refine .inr fun d hd => ?_
    have := h2 d hd
    split at this
    · cases this
    · cases this
    · rename_i n1 n2
      exact ⟨n1, n2⟩
theorem leD_tr : ∀ a b c : D, leD a b = true → leD b c = true → leD a c = true := (PySem.W.sortLe_total _ false _).trans
theorem leD_to : ∀ a b : D, (leD a b || leD b a) = true := fun a b => by
  rw [Bool.or_eq_true]
  exact (PySem.W.sortLe_total _ false _).total a b
theorem data_isort {β : Type} (k : β → D) (l : List β) : l.mergeSort (PySem.W.dataLe false k) = isort (fun x y => leD (k x) (k y)) l :=
  mergeSort_isort (le := fun x y => leD (k x) (k y)) (fun a b c => leD_tr (k a) (k b) (k c)) (fun a b => leD_to (k a) (k b)) l

section
variable {K : PySem.W.Frag} {I H : Hp}
theorem DenL.zip : ∀ {ds : List D} {vs : List V}, DenL K I ds vs → ∃ bs : List (V × D), bs.map (·.2) = ds ∧ bs.map (·.1) = vs ∧ ∀ p ∈ bs, Den K I p.2 p.1
  | _, _, .nil => ⟨[], rfl, rfl, fun _ h => by cases h⟩
  | _, _, .cons (x := x) (v := v) a b => by
    obtain ⟨bs, h1, h2, h3⟩ := DenL.zip b
    refine ⟨(v, x) :: bs, by simp [h1], by simp [h2], fun p hp => ?_⟩
    rcases List.mem_cons.mp hp with rfl | hp
    · exact a
    · exact h3 p hp
theorem DenL.of_all : ∀ {bs : List (V × D)}, (∀ p ∈ bs, Den K I p.2 p.1) → DenL K I (bs.map (·.2)) (bs.map (·.1))
  | [], _ => .nil
  | p :: bs, h => .cons (h p (.head _)) (DenL.of_all fun q hq => h q (.tail _ hq))
mutual
theorem alike_plain : ∀ d : D, PySem.W.alike d d = true → d.plain = true
  | .none, _ => rfl
  | .bool _, _ => rfl
  | .int _, _ => rfl
  | .str _, _ => rfl
  | .list xs, h => by
    simp only [PyData.plain]
    exact alikeAll_plain xs (by simpa [PySem.W.alike] using h)
  | .tuple xs, h => by
    simp only [PyData.plain]
    exact alikeAll_plain xs (by simpa [PySem.W.alike] using h)
  | .dict _, h => by simp [PySem.W.alike] at h
theorem alikeAll_plain : ∀ xs : List D, PySem.W.alikeAll xs xs = true → PyData.plainAll xs = true
  | [], _ => rfl
  | x :: xs, h => by
    simp only [PySem.W.alikeAll, Bool.and_eq_true] at h
    simp only [PyData.plainAll, alike_plain x h.1, alikeAll_plain xs h.2, Bool.and_self]
end
end
def rSortD (K : PySem.W.Frag) : List V → Hp → VK → Prop := fun vs H Q => ∃ (a : Addr) (bs : List (V × D)), vs = [V.ref a] ∧ SqL K H a (bs.map (·.1)) ∧ (∀ p ∈ bs, Dp K H p.1 p.2) ∧ sortOk (bs.map (·.2)) = true ∧
  ∀ p, H p = none → Q (.ref p) (upd H p (.lst ((isort (fun x y => leD x.2 y.2) bs).map (·.1))))
section
variable {X : Cx}
theorem each_of {pins : List (Addr × Obj)} {σ : St} {H : Hp} {s : Shared} : ∀ {bs : List (V × D)} {us : List Value}, Vals (bs.map (·.1)) us → PySem.W.EachIs (fun u (b : V × D) => RelV b.1 u) us bs
  | [], _, h => by rw [List.map_nil] at h; cases h; exact .nil
  | b :: bs, _, h => by
    rw [List.map_cons] at h
    cases h with
    | cons r t => exact .cons r (each_of (pins := pins) (σ := σ) (H := H) (s := s) t)
theorem each_reads {pins : List (Addr × Obj)} {σ : St} {H : Hp} {s : Shared} (I : Inv X pins σ H s) : ∀ {bs : List (V × D)} {us : List Value}, Vals (bs.map (·.1)) us → (∀ p ∈ bs, Dp X.K H p.1 p.2) → PySem.W.EachIs (fun u (b : V × D) => ∃ as, Reads s.heap u b.2 as) us bs
  | [], _, h, _ => by rw [List.map_nil] at h; cases h; exact .nil
  | b :: bs, _, h, hp => by
    rw [List.map_cons] at h
    cases h with
    | cons r t => exact .cons (Dp.reads I _ _ _ (hp b (.head _)) r) (each_reads I t fun p q => hp p (.tail _ q))
theorem vals_each : ∀ {bs : List (V × D)} {us : List Value}, PySem.W.EachIs (fun u (b : V × D) => RelV b.1 u) us bs → Vals (bs.map (·.1)) us
  | [], _, .nil => .nil
  | b :: bs, _, .cons r t => .cons r (vals_each t)
theorem length_ins {α : Type} {le : α → α → Bool} (a : α) : ∀ l : List α, (ins le a l).length = l.length + 1
  | [] => rfl
  | b :: l => by
    unfold ins
    split
    · rfl
    · rw [List.length_cons, length_ins a l, List.length_cons]
theorem length_isort {α : Type} {le : α → α → Bool} : ∀ l : List α, (isort le l).length = l.length
  | [] => rfl
  | a :: l => by rw [isort, length_ins, length_isort l, List.length_cons]
theorem cr_sortD (hu : X.A.units + 100 < cLine) : CallR X (.builtin "sorted") (rSortD X.K) := by
  intro pins s σ H vs us Q I r h
  obtain ⟨a, bs, rfl, hs, hd, ok, q⟩ := h
  obtain ⟨its, rv, hl, hz⟩ := I.list hs
  rw [Vals.ref1 r]
  obtain ⟨o1, o2, o3, o4⟩ := sortOk_spec ok
  have hlen0 : its.length = bs.length := by rw [← rv.length, List.length_map]
  refine PySem.W.sorted_data (enc := fun b : V × D => b.2) (R := fun u b => RelV b.1 u) hl.isList (each_of (pins := pins) (σ := σ) (H := H) (s := s) rv) (each_reads I rv hd) o1 o2 (by rw [List.length_map] at o4; exact mil o4) (fun b hb => ?_) fun out ho eo => ?_
  · have := o3 b.2 (List.mem_map.mpr ⟨b, hb, rfl⟩)
    omega
  · rw [data_isort] at eo
    obtain ⟨ep, he'⟩ := PyProof.Rows.sortedAll_at s.heap its out.toArray
    have hlen : ((isort (fun x y : V × D => leD x.2 y.2) bs).map (·.1)).length ≤ sizeLine := by
      rw [List.length_map, length_isort]
      rw [List.length_map] at o4
      exact mil o4
    exact ⟨.ref _, upd H (s.heap.objs.size + 1) (.lst ((isort (fun x y : V × D => leD x.2 y.2) bs).map (·.1))), I.laid (t' := s.toks) (fun _ _ => PyProof.Rows.sortedAll_old) (Nat.le_succ _) ⟨hlen, out, ep, vals_each eo, he'⟩, rfl, q _ (I.hok.fresh (Nat.le_succ _))⟩
end
end EV

/-! The layer EV, part M: built-ins that read, and new lists and tuples from what is read. -/
namespace EV
open PySem PySem.Spec PyProof.Rows L2

/-! ### fresh results -/
/-- what comes out is new -/
def FP (K : PySem.W.Frag) (mg : Str → Option Value) (φ : Ph) (ρ : Env) (σ : St) (I H : Hp) (Q : VK) (z : O) : Prop :=
  ∀ v I' H' G, Stp I H noP I' H' G → Gd K mg I' H' φ ρ σ → Tm I' H' φ G → Own K mg I' H' z v G → Q v H'
def FrN (X : Cx) (r : List V → Hp → VK → Prop) (g : List O → Option O) : Prop := ∀ (I H : Hp) (φ : Ph) (ρ : Env) (σ : St) (Q : VK) (xs : List O) (z : O) (as : List V), Gd X.K X.mg I H φ ρ σ → Vws X.K X.mg I H xs as → g xs = some z → FP X.K X.mg φ ρ σ I H Q z → r as H Q
def Fr2 (X : Cx) (r : R2) (g : O → O → Option O) : Prop := ∀ (I H : Hp) (φ : Ph) (ρ : Env) (σ : St) (Q : VK) (x y z : O) (a b : V) (S1 S2 : Pd), Gd X.K X.mg I H φ ρ σ → Own X.K X.mg I H x a S1 → Own X.K X.mg I H y b S2 → g x y = some z → FP X.K X.mg φ ρ σ I H Q z → r a b H Q
def Fr1 (X : Cx) (r : V → Hp → VK → Prop) (g : O → Option O) : Prop := ∀ (I H : Hp) (φ : Ph) (ρ : Env) (σ : St) (Q : VK) (x z : O) (a : V) (S1 : Pd), Gd X.K X.mg I H φ ρ σ → Own X.K X.mg I H x a S1 → g x = some z → FP X.K X.mg φ ρ σ I H Q z → r a H Q
def E.fr (f : Env → Option O) : M O := fun ρ => match f ρ with
  | some z => .ok z ρ
  | none => .stuck
section
variable {X : Cx} {W : WX} {pos : Pos} {a b c e : Expr} {f f1 f2 f3 : Env → Option O}
/-- a view's end, for a fresh result -/
theorem FP.of {I H I1 H1 : Hp} {φ : Ph} {ρ : Env} {σ : St} {Q : VK} {z : O} (gd : Gd X.K X.mg I H φ ρ σ) (g : Grw X.K X.mg φ ρ σ I H I1 H1) (h : PostE X.K X.mg W σ I H (al φ) Q (.ok z ρ)) : FP X.K X.mg φ ρ σ I1 H1 Q z := by
  intro v I' H' G s gd' t w
  refine h v H' I' φ G ((g.stp gd).trans (((s.frame (G := al φ) fun x ⟨i, q⟩ => g.gd.th i x q).from fun x q => q.elim False.elim id).sub fun x q => q.symm)) gd' t w
theorem fr_bind {σ : St} {I H : Hp} {φ : Ph} {ρ : Env} {Q : VK} {P : O → Option O} {Q' : VK} (gd : Gd X.K X.mg I H φ ρ σ) (h : PostE X.K X.mg W σ I H (al φ) Q (match (f ρ).bind P with | some z => .ok z ρ | none => .stuck))
    (k : ∀ o v S I1 H1, Grw X.K X.mg φ ρ σ I H I1 H1 → Own X.K X.mg I1 H1 o v S → PostE X.K X.mg W σ I H (al φ) Q (match P o with | some z => .ok z ρ | none => .stuck) → Q' v H1) : rdV X.K X.mg f σ H Q' := by
  refine ⟨ρ, I, φ, gd, ?_⟩
  cases e : f ρ with
  | none => rw [e] at h; exact h.elim
  | some o => rw [e] at h; exact fun v S I1 H1 g w => k o v S I1 H1 g w h
theorem fr_binds {σ : St} {I H : Hp} {φ : Ph} {ρ : Env} {Q : VK} {P : List O → Option O} {Q' : List V → Hp → Prop} {f : Env → Option (List O)} (gd : Gd X.K X.mg I H φ ρ σ) (h : PostE X.K X.mg W σ I H (al φ) Q (match (f ρ).bind P with | some z => .ok z ρ | none => .stuck))
    (k : ∀ o v I1 H1, Grw X.K X.mg φ ρ σ I H I1 H1 → Vws X.K X.mg I1 H1 o v → PostE X.K X.mg W σ I H (al φ) Q (match P o with | some z => .ok z ρ | none => .stuck) → Q' v H1) : rdVs X.K X.mg f σ H Q' := by
  refine ⟨ρ, I, φ, gd, ?_⟩
  cases e : f ρ with
  | none => rw [e] at h; exact h.elim
  | some o => rw [e] at h; exact fun v I1 H1 g w => k o v I1 H1 g w h
theorem ee_fr2 {r : R2} {g : O → O → Option O} (h2 : ∀ {ta tb : TE}, PE X a ta → PE X b tb → PE X e (tOp r ta tb)) (ok : Fr2 X r g) (ha : VE X a f1) (hb : VE X b f2) : EE X W e (E.fr (Vw.op2 g f1 f2)) := by
  refine PE.weak (h2 ha hb) fun σ H Q ⟨ρ, I, φ, gd, h⟩ => ?_
  refine fr_bind gd h fun x v S I1 H1 g1 w h => ?_
  have h' : PostE X.K X.mg W σ I H (al φ) Q (match (f2 ρ).bind (g x) with | some z => .ok z ρ | none => .stuck) := h
  refine ⟨ρ, I1, φ, g1.gd, ?_⟩
  cases e2 : f2 ρ with
  | none => rw [e2] at h'; exact h'.elim
  | some y =>
    rw [e2, Option.bind_some] at h'
    intro u S' I2 H2 g2 w'
    cases e : g x y with
    | none => rw [e] at h'; exact h'.elim
    | some z => rw [e] at h'; exact ok I2 H2 φ ρ σ Q x y z v u S S' g2.gd (w.grow g2) w' e (FP.of gd (g1.trans g2) h')
theorem ee_frOp {op : Operator} {r : R2} {g : O → O → Option O} (ho : OpR X (binaryOp op) r) (ok : Fr2 X r g) (ha : VE X a f1) (hb : VE X b f2) : EE X W (.BinOp a op b pos) (E.fr (Vw.op2 g f1 f2)) :=
  ee_fr2 (fun ha hb => pe_op ho ha hb) ok ha hb
theorem ee_frB {x : Str} {p : Pos} {e : Expr} {es : List Expr} {id : String} {r : List V → Hp → VK → Prop} {g : List O → Option O} {fs : Env → Option (List O)} (hc : CallR X (.builtin id) r) (ok : FrN X r g) (ha : VA X (e :: es) fs) (hm : X.mg x = none) (hg : Gl X x := by rfl) (hv : bootBuiltins x = some (.builtin id) := by rfl) (hn : x ≠ "__name__" := by decide) (hdb : (x == ("__debug__" : Str)) = false := by decide)
    (he : starEach (e :: es) X.env = (false, eval e X.env) :: starEach es X.env := by rfl) (hpl : (backTo pos (starEach es X.env)).any (·.1) = false := by rfl) : EE X W (.Call (.Name x p) (e :: es) [] pos) (E.fr (Vw.opN g fs)) := by
  refine PE.weak (pe_callB hc hg hm hv ha hn hdb he hpl) fun σ H Q ⟨ρ, I, φ, gd, h⟩ => ?_
  refine fr_binds gd h fun os vs I1 H1 g1 w h => ?_
  cases e : g os with
  | none => rw [e] at h; exact h.elim
  | some z => rw [e] at h; exact ok I1 H1 φ ρ σ Q os z vs g1.gd w e (FP.of gd g1 h)
theorem ee_frTy {x : Str} {p : Pos} {e : Expr} {es : List Expr} {T : String} {r : List V → Hp → VK → Prop} {g : List O → Option O} {fs : Env → Option (List O)} (hc : CallR X (.type T) r) (ok : FrN X r g) (ha : VA X (e :: es) fs) (hm : X.mg x = none) (hg : Gl X x := by rfl) (hv : bootBuiltins x = some (.type T) := by rfl) (hn : x ≠ "__name__" := by decide) (hdb : (x == ("__debug__" : Str)) = false := by decide)
    (he : starEach (e :: es) X.env = (false, eval e X.env) :: starEach es X.env := by rfl) (hpl : (backTo pos (starEach es X.env)).any (·.1) = false := by rfl) : EE X W (.Call (.Name x p) (e :: es) [] pos) (E.fr (Vw.opN g fs)) := by
  refine PE.weak (pe_callTy hc hg hm hv ha hn hdb he hpl) fun σ H Q ⟨ρ, I, φ, gd, h⟩ => ?_
  refine fr_binds gd h fun os vs I1 H1 g1 w h => ?_
  cases e : g os with
  | none => rw [e] at h; exact h.elim
  | some z => rw [e] at h; exact ok I1 H1 φ ρ σ Q os z vs g1.gd w e (FP.of gd g1 h)
theorem FP.lst {I H : Hp} {φ : Ph} {ρ : Env} {σ : St} {Q : VK} {xs : List D} {vs : List V} {p : Addr} (gd : Gd X.K X.mg I H φ ρ σ) (h : FP X.K X.mg φ ρ σ I H Q (.lst (xs.map .d))) (q : DenL X.K I xs vs) (hp : H p = none) : Q (.ref p) (upd H p (.lst vs)) := by
  refine h (.ref p) I (upd H p (.lst vs)) (fun a => a = p) (Stp.new hp fun a e => .inr e) (gd.new hp) ⟨fun a e => by rw [e]; exact gd.free hp, fun a e => by rw [e, upd_same]; exact Option.some_ne_none _, fun i a e q => gd.nfree hp ⟨i, e ▸ q⟩⟩ ?_
  exact .lst (S' := noP) upd_same rfl (Owns.ofDen q) (fun b z => z.elim) id
theorem FP.d {I H : Hp} {φ : Ph} {ρ : Env} {σ : St} {Q : VK} {x : D} {v : V} (gd : Gd X.K X.mg I H φ ρ σ) (h : FP X.K X.mg φ ρ σ I H Q (.d x)) (q : Den X.K I x v) : Q v H := h v I H noP (Stp.refl fun _ z => z) gd Tm.none (.d q)
end

/-! ### new lists, in both ways -/
def LsN (X : Cx) (r : List V → Hp → VK → Prop) (g : List O → Option (List D)) : Prop := ∀ (I H : Hp) (Q : VK) (xs : List O) (as : List V) (ds : List D), Same I H → Vws X.K X.mg I H xs as → g xs = some ds → (∀ vs p, DenL X.K I ds vs → H p = none → Q (.ref p) (upd H p (.lst vs))) → r as H Q
def Ls2 (X : Cx) (r : R2) (g : O → O → Option (List D)) : Prop := ∀ (I H : Hp) (Q : VK) (x y : O) (a b : V) (S1 S2 : Pd) (ds : List D), Same I H → Own X.K X.mg I H x a S1 → Own X.K X.mg I H y b S2 → g x y = some ds → (∀ vs p, DenL X.K I ds vs → H p = none → Q (.ref p) (upd H p (.lst vs))) → r a b H Q
def dl (ds : List D) : O := .d (.list ds)
def ol (ds : List D) : O := .lst (ds.map .d)
section
variable {X : Cx}
theorem LsN.vw {r : List V → Hp → VK → Prop} {g : List O → Option (List D)} (h : LsN X r g) : VwN X r (fun xs => (g xs).map dl) := by
  intro I H φ ρ σ Q xs z as gd ws e q
  rw [Option.map_eq_some_iff] at e
  obtain ⟨ds, e, rfl⟩ := e
  exact h I H Q xs as ds gd.le ws e fun vs p hd hp => q.lst gd hd hp
theorem LsN.fr {r : List V → Hp → VK → Prop} {g : List O → Option (List D)} (h : LsN X r g) : FrN X r (fun xs => (g xs).map ol) := by
  intro I H φ ρ σ Q xs z as gd ws e q
  rw [Option.map_eq_some_iff] at e
  obtain ⟨ds, e, rfl⟩ := e
  exact h I H Q xs as ds gd.le ws e fun vs p hd hp => q.lst gd hd hp
theorem Ls2.vw {r : R2} {g : O → O → Option (List D)} (h : Ls2 X r g) : Vw2 X r (fun x y => (g x y).map dl) := by
  intro I H φ ρ σ Q x y z a b S1 S2 gd w1 w2 e q
  rw [Option.map_eq_some_iff] at e
  obtain ⟨ds, e, rfl⟩ := e
  exact h I H Q x y a b S1 S2 ds gd.le w1 w2 e fun vs p hd hp => q.lst gd hd hp
theorem Ls2.fr {r : R2} {g : O → O → Option (List D)} (h : Ls2 X r g) : Fr2 X r (fun x y => (g x y).map ol) := by
  intro I H φ ρ σ Q x y z a b S1 S2 gd w1 w2 e q
  rw [Option.map_eq_some_iff] at e
  obtain ⟨ds, e, rfl⟩ := e
  exact h I H Q x y a b S1 S2 ds gd.le w1 w2 e fun vs p hd hp => q.lst gd hd hp
end

/-! ### items as data -/
def listD (o : O) : Option (List D) := (listO o).bind allD
def tupD (o : O) : Option (List D) := (tupO o).bind allD
def seqD (o : O) : Option (List D) := (seqO o).bind allD
section
variable {K : PySem.W.Frag} {mg : Str → Option Value} {I H : Hp}
theorem Own.listD (le : Same I H) {o : O} {v : V} {S : Pd} {ds : List D} (w : Own K mg I H o v S) (e : EV.listD o = some ds) : ∃ a vs, v = .ref a ∧ SqL K H a vs ∧ DenL K I ds vs := by
  unfold EV.listD at e
  rw [Option.bind_eq_some_iff] at e
  obtain ⟨os, e1, e2⟩ := e
  obtain ⟨a, vs, h1, h2, h3⟩ := w.listO le e1
  exact ⟨a, vs, h1, h2, h3.allD e2⟩
theorem Own.tupD (le : Same I H) {o : O} {v : V} {S : Pd} {ds : List D} (w : Own K mg I H o v S) (e : EV.tupD o = some ds) : ∃ a vs, v = .ref a ∧ SqT K H a vs ∧ DenL K I ds vs := by
  unfold EV.tupD at e
  rw [Option.bind_eq_some_iff] at e
  obtain ⟨os, e1, e2⟩ := e
  obtain ⟨a, vs, h1, h2, h3⟩ := w.tupO le e1
  exact ⟨a, vs, h1, h2, h3.allD e2⟩
theorem Own.seqD (le : Same I H) {o : O} {v : V} {S : Pd} {ds : List D} (w : Own K mg I H o v S) (e : EV.seqD o = some ds) : ∃ a vs, v = .ref a ∧ (SqL K H a vs ∨ SqT K H a vs) ∧ DenL K I ds vs := by
  unfold EV.seqD at e
  rw [Option.bind_eq_some_iff] at e
  obtain ⟨os, e1, e2⟩ := e
  obtain ⟨a, vs, h1, h2, h3⟩ := w.seqO le e1
  exact ⟨a, vs, h1, h2, h3.allD e2⟩
end
/-- plain ints, bools -/
def intsD : List D → Option (List Int)
  | [] => some []
  | .int i :: r => (intsD r).map (i :: ·)
  | _ :: _ => none
def boolsD : List D → Option (List Bool)
  | [] => some []
  | .bool i :: r => (boolsD r).map (i :: ·)
  | _ :: _ => none
section
variable {K : PySem.W.Frag} {I : Hp}
theorem DenL.ints : ∀ {ds : List D} {vs : List V} {ns : List Int}, DenL K I ds vs → intsD ds = some ns → vs = ns.map V.int
  | [], _, _, h, e => by rw [intsD] at e; cases e; cases h; rfl
  | .int i :: ds, _, _, h, e => by
    rw [intsD, Option.map_eq_some_iff] at e
    obtain ⟨ns, e, rfl⟩ := e
    cases h with
    | cons a b => cases a; rw [DenL.ints b e]; rfl
  | .none :: _, _, _, _, e => by simp [intsD] at e
  | .bool _ :: _, _, _, _, e => by simp [intsD] at e
  | .str _ :: _, _, _, _, e => by simp [intsD] at e
  | .list _ :: _, _, _, _, e => by simp [intsD] at e
  | .tuple _ :: _, _, _, _, e => by simp [intsD] at e
  | .dict _ :: _, _, _, _, e => by simp [intsD] at e
theorem DenL.bools : ∀ {ds : List D} {vs : List V} {ns : List Bool}, DenL K I ds vs → boolsD ds = some ns → vs = ns.map V.bl
  | [], _, _, h, e => by rw [boolsD] at e; cases e; cases h; rfl
  | .bool i :: ds, _, _, h, e => by
    rw [boolsD, Option.map_eq_some_iff] at e
    obtain ⟨ns, e, rfl⟩ := e
    cases h with
    | cons a b => cases a; rw [DenL.bools b e]; rfl
  | .none :: _, _, _, _, e => by simp [boolsD] at e
  | .int _ :: _, _, _, _, e => by simp [boolsD] at e
  | .str _ :: _, _, _, _, e => by simp [boolsD] at e
  | .list _ :: _, _, _, _, e => by simp [boolsD] at e
  | .tuple _ :: _, _, _, _, e => by simp [boolsD] at e
  | .dict _ :: _, _, _, _, e => by simp [boolsD] at e
end

/-! ### calls of one or two arguments -/
def b_int : List O → Option O
  | [.d (.int i)] => some (.d (.int i))
  | [.d (.bool b)] => some (.d (.int (if b then 1 else 0)))
  | _ => none
def b_abs : List O → Option O
  | [.d (.int i)] => some (.d (.int (if i < 0 then -i else i)))
  | _ => none
def b_max : List O → Option O
  | [.d (.int i), .d (.int j)] => some (.d (.int (if j > i then j else i)))
  | [x] => ((listD x).bind intsD).bind fun ns => (match ns with
    | [] => none
    | n :: r => some (.d (.int (r.foldl (fun m y => if y > m then y else m) n))))
  | _ => none
def b_min : List O → Option O
  | [.d (.int i), .d (.int j)] => some (.d (.int (if j < i then j else i)))
  | [x] => ((listD x).bind intsD).bind fun ns => (match ns with
    | [] => none
    | n :: r => some (.d (.int (r.foldl (fun m y => if y < m then y else m) n))))
  | _ => none
def b_sum : List O → Option O
  | [x] => ((listD x).bind intsD).map fun ns => .d (.int ns.sum)
  | _ => none
def b_any : List O → Option O
  | [x] => ((listD x).bind boolsD).map fun bs => .d (.bool (bs.any id))
  | _ => none
def b_all : List O → Option O
  | [x] => ((listD x).bind boolsD).map fun bs => .d (.bool (bs.all id))
  | _ => none
def o_neg : O → Option O
  | .d (.int i) => some (.d (.int (-i)))
  | _ => none
theorem foldl_max : ∀ (r : List Int) (n : Int), (r.foldl (fun m y => if y > m then y else m) n) ∈ n :: r ∧ ∀ y ∈ n :: r, y ≤ r.foldl (fun m y => if y > m then y else m) n
  | [], n => ⟨.head _, fun y h => by cases h with | head => exact Int.le_refl _ | tail _ h => cases h⟩
  | x :: r, n => by
    rw [List.foldl_cons]
    by_cases h : x > n
    · rw [if_pos h]
      obtain ⟨h1, h2⟩ := foldl_max r x
      refine ⟨.tail _ h1, fun y hy => ?_⟩
      rcases List.mem_cons.mp hy with rfl | hy
      · exact Int.le_trans (Int.le_of_lt h) (h2 x (.head _))
      · exact h2 y hy
    · rw [if_neg h]
      obtain ⟨h1, h2⟩ := foldl_max r n
      refine ⟨?_, fun y hy => ?_⟩
      · rcases List.mem_cons.mp h1 with e | h1
        · rw [e]; exact .head _
        · exact .tail _ (.tail _ h1)
      · rcases List.mem_cons.mp hy with rfl | hy
        · exact h2 _ (.head _)
        · rcases List.mem_cons.mp hy with rfl | hy
          · exact Int.le_trans (Int.not_lt.mp h) (h2 n (.head _))
          · exact h2 y (.tail _ hy)
theorem foldl_min : ∀ (r : List Int) (n : Int), (r.foldl (fun m y => if y < m then y else m) n) ∈ n :: r ∧ ∀ y ∈ n :: r, r.foldl (fun m y => if y < m then y else m) n ≤ y
  | [], n => ⟨.head _, fun y h => by cases h with | head => exact Int.le_refl _ | tail _ h => cases h⟩
  | x :: r, n => by
    rw [List.foldl_cons]
    by_cases h : x < n
    · rw [if_pos h]
      obtain ⟨h1, h2⟩ := foldl_min r x
      refine ⟨.tail _ h1, fun y hy => ?_⟩
      rcases List.mem_cons.mp hy with rfl | hy
      · exact Int.le_trans (h2 x (.head _)) (Int.le_of_lt h)
      · exact h2 y hy
    · rw [if_neg h]
      obtain ⟨h1, h2⟩ := foldl_min r n
      refine ⟨?_, fun y hy => ?_⟩
      · rcases List.mem_cons.mp h1 with e | h1
        · rw [e]; exact .head _
        · exact .tail _ (.tail _ h1)
      · rcases List.mem_cons.mp hy with rfl | hy
        · exact h2 _ (.head _)
        · rcases List.mem_cons.mp hy with rfl | hy
          · exact Int.le_trans (h2 n (.head _)) (Int.not_lt.mp h)
          · exact h2 y (.tail _ hy)
section
variable {X : Cx}
theorem Vws.one {K : PySem.W.Frag} {mg : Str → Option Value} {I H : Hp} {x : O} {vs : List V} (h : Vws K mg I H [x] vs) : ∃ v S, vs = [v] ∧ Own K mg I H x v S := by
  cases h with
  | cons a b => cases b; exact ⟨_, _, rfl, a⟩
theorem Vws.two {K : PySem.W.Frag} {mg : Str → Option Value} {I H : Hp} {x y : O} {vs : List V} (h : Vws K mg I H [x, y] vs) : ∃ v u S T, vs = [v, u] ∧ Own K mg I H x v S ∧ Own K mg I H y u T := by
  cases h with
  | cons a b =>
    obtain ⟨u, T, rfl, c⟩ := b.one
    exact ⟨_, _, _, _, rfl, a, c⟩
theorem vw_neg : Vw1 X (rU fun i => .int (-i)) o_neg := by
  intro I H φ ρ σ Q x z a S gd w e h
  unfold o_neg at e
  split at e
  · cases e
    cases w.int
    exact ⟨_, rfl, h.d gd (.int _)⟩
  · cases e
theorem vw_int : VwN X (fun xs H Q => (∃ i, xs = [V.int i] ∧ Q (.int i) H) ∨ ∃ k, xs = [V.bl k] ∧ Q (.int (if k then 1 else 0)) H) b_int := by
  intro I H φ ρ σ Q xs z as gd ws e h
  unfold b_int at e
  split at e
  · cases e
    obtain ⟨v, S, rfl, w⟩ := ws.one
    cases w.int
    exact .inl ⟨_, rfl, h.d gd (.int _)⟩
  · cases e
    obtain ⟨v, S, rfl, w⟩ := ws.one
    cases w.bool
    exact .inr ⟨_, rfl, h.d gd (.int _)⟩
  · cases e
theorem vw_abs : VwN X (fun xs H Q => ∃ i, xs = [V.int i] ∧ Q (.int (if i < 0 then -i else i)) H) b_abs := by
  intro I H φ ρ σ Q xs z as gd ws e h
  unfold b_abs at e
  split at e
  · cases e
    obtain ⟨v, S, rfl, w⟩ := ws.one
    cases w.int
    exact ⟨_, rfl, h.d gd (.int _)⟩
  · cases e
def rMax2 (K : PySem.W.Frag) : List V → Hp → VK → Prop := fun xs H Q => (∃ i j, xs = [V.int i, V.int j] ∧ Q (.int (if j > i then j else i)) H) ∨ rMax K xs H Q
def rMin2 (K : PySem.W.Frag) : List V → Hp → VK → Prop := fun xs H Q => (∃ i j, xs = [V.int i, V.int j] ∧ Q (.int (if j < i then j else i)) H) ∨ rMin K xs H Q
theorem call_maxA (hc : X.calm = true) : CallR X (.builtin "max") (rMax2 X.K) := (call_max2 hc).or (cr_max hc)
theorem call_minA (hc : X.calm = true) : CallR X (.builtin "min") (rMin2 X.K) := (call_min2 hc).or (cr_min hc)
theorem vw_max : VwN X (rMax2 X.K) b_max := by
  intro I H φ ρ σ Q xs z as gd ws e h
  unfold b_max at e
  split at e
  · cases e
    obtain ⟨v, u, S, T, rfl, w, w'⟩ := ws.two
    cases w.int
    cases w'.int
    exact .inl ⟨_, _, rfl, h.d gd (.int _)⟩
  · obtain ⟨v, S, rfl, w⟩ := ws.one
    rw [Option.bind_eq_some_iff] at e
    obtain ⟨ns, e1, e2⟩ := e
    rw [Option.bind_eq_some_iff] at e1
    obtain ⟨ds, e1, e3⟩ := e1
    obtain ⟨a, vs, rfl, hs, dl⟩ := w.listD gd.le e1
    have := dl.ints e3
    subst this
    cases ns with
    | nil => cases e2
    | cons n r =>
      cases e2
      obtain ⟨m1, m2⟩ := foldl_max r n
      refine .inr ⟨a, n :: r, rfl, hs, by simp, fun m hm hle => ?_⟩
      have : m = r.foldl (fun m y => if y > m then y else m) n := Int.le_antisymm (m2 m hm) (hle _ m1)
      rw [this]
      exact h.d gd (.int _)
  · cases e
theorem vw_min : VwN X (rMin2 X.K) b_min := by
  intro I H φ ρ σ Q xs z as gd ws e h
  unfold b_min at e
  split at e
  · cases e
    obtain ⟨v, u, S, T, rfl, w, w'⟩ := ws.two
    cases w.int
    cases w'.int
    exact .inl ⟨_, _, rfl, h.d gd (.int _)⟩
  · obtain ⟨v, S, rfl, w⟩ := ws.one
    rw [Option.bind_eq_some_iff] at e
    obtain ⟨ns, e1, e2⟩ := e
    rw [Option.bind_eq_some_iff] at e1
    obtain ⟨ds, e1, e3⟩ := e1
    obtain ⟨a, vs, rfl, hs, dl⟩ := w.listD gd.le e1
    have := dl.ints e3
    subst this
    cases ns with
    | nil => cases e2
    | cons n r =>
      cases e2
      obtain ⟨m1, m2⟩ := foldl_min r n
      refine .inr ⟨a, n :: r, rfl, hs, by simp, fun m hm hle => ?_⟩
      have : m = r.foldl (fun m y => if y < m then y else m) n := Int.le_antisymm (hle _ m1) (m2 m hm)
      rw [this]
      exact h.d gd (.int _)
  · cases e
theorem vw_sum : VwN X (rSum X.K) b_sum := by
  intro I H φ ρ σ Q xs z as gd ws e h
  unfold b_sum at e
  split at e
  · obtain ⟨v, S, rfl, w⟩ := ws.one
    rw [Option.map_eq_some_iff] at e
    obtain ⟨ns, e1, rfl⟩ := e
    rw [Option.bind_eq_some_iff] at e1
    obtain ⟨ds, e1, e3⟩ := e1
    obtain ⟨a, vs, rfl, hs, dl⟩ := w.listD gd.le e1
    have := dl.ints e3
    subst this
    exact ⟨a, ns, rfl, hs, h.d gd (.int _)⟩
  · cases e
theorem vw_any : VwN X (rAny X.K) b_any := by
  intro I H φ ρ σ Q xs z as gd ws e h
  unfold b_any at e
  split at e
  · obtain ⟨v, S, rfl, w⟩ := ws.one
    rw [Option.map_eq_some_iff] at e
    obtain ⟨ns, e1, rfl⟩ := e
    rw [Option.bind_eq_some_iff] at e1
    obtain ⟨ds, e1, e3⟩ := e1
    obtain ⟨a, vs, rfl, hs, dl⟩ := w.listD gd.le e1
    have := dl.bools e3
    subst this
    exact ⟨a, ns, rfl, hs, h.d gd (.bl _)⟩
  · cases e
theorem vw_all : VwN X (rAll X.K) b_all := by
  intro I H φ ρ σ Q xs z as gd ws e h
  unfold b_all at e
  split at e
  · obtain ⟨v, S, rfl, w⟩ := ws.one
    rw [Option.map_eq_some_iff] at e
    obtain ⟨ns, e1, rfl⟩ := e
    rw [Option.bind_eq_some_iff] at e1
    obtain ⟨ds, e1, e3⟩ := e1
    obtain ⟨a, vs, rfl, hs, dl⟩ := w.listD gd.le e1
    have := dl.bools e3
    subst this
    exact ⟨a, ns, rfl, hs, h.d gd (.bl _)⟩
  · cases e

/-! ### list(x), sorted(x), x + y -/
def l_list : List O → Option (List D)
  | [x] => (match seqD x with
    | some ds => some ds
    | none => none)
  | _ => none
theorem ls_list : LsN X (fun xs H Q => ∃ p ys, xs = [V.ref p] ∧ (SqL X.K H p ys ∨ SqT X.K H p ys) ∧ ∀ l, H l = none → Q (.ref l) (upd H l (.lst ys))) l_list := by
  intro I H Q xs as ds le ws e h
  unfold l_list at e
  split at e
  · split at e
    · rename_i ds e1
      cases e
      obtain ⟨v, S, rfl, w⟩ := ws.one
      obtain ⟨a, vs, rfl, hs, q⟩ := w.seqD le e1
      exact ⟨a, vs, rfl, hs, fun l hl => h vs l q hl⟩
    · cases e
  · cases e
def l_sorted : List O → Option (List D)
  | [x] => (listD x).bind fun ds => if sortOk ds then some (sortD ds) else none
  | _ => none
theorem ls_sorted : LsN X (rSortD X.K) l_sorted := by
  intro I H Q xs as ds le ws e h
  unfold l_sorted at e
  split at e
  · rw [Option.bind_eq_some_iff] at e
    obtain ⟨ds0, e1, e⟩ := e
    split at e
    · rename_i hok
      cases e
      obtain ⟨v, S, rfl, w⟩ := ws.one
      obtain ⟨a, vs, rfl, hs, q⟩ := w.listD le e1
      obtain ⟨bs, rfl, rfl, hb⟩ := q.zip
      refine ⟨a, bs, rfl, hs, fun p hp => (hb p hp).dp le ?_, hok, fun p hp => h _ p ?_ hp⟩
      · obtain ⟨o1, _, _, _⟩ := sortOk_spec hok
        have hm : p.2 ∈ bs.map (·.2) := List.mem_map.mpr ⟨p, hp, rfl⟩
        exact alike_plain _ (o1 _ hm _ hm)
      · have e2 : sortD (bs.map (·.2)) = (isort (fun x y : V × D => leD x.2 y.2) bs).map (·.2) := (isort_map (r := fun x y : V × D => leD x.2 y.2) (s := leD) (f := fun p : V × D => p.2) (fun _ _ => rfl) bs).symm
        rw [e2]
        exact DenL.of_all fun p hp => hb p (mem_isort hp)
    · cases e
  · cases e
def l_add (x y : O) : Option (List D) := match G.litems x, G.litems y with
  | some xs, some ys => (allD xs).bind fun ds => (allD ys).bind fun es => if ds.length + es.length ≤ 1000000 then some (ds ++ es) else none
  | _, _ => none
theorem ls_cat : Ls2 X rCat l_add := by
  intro I H Q x y a b S1 S2 ds le w1 w2 e h
  unfold l_add at e
  split at e
  · rename_i xs ys e1 e2
    rw [Option.bind_eq_some_iff] at e
    obtain ⟨d1, e3, e⟩ := e
    rw [Option.bind_eq_some_iff] at e
    obtain ⟨d2, e4, e⟩ := e
    split at e
    · rename_i hz
      cases e
      obtain ⟨a1, vs, rfl, q1, o1⟩ := w1.litems le e1
      obtain ⟨a2, us, rfl, q2, o2⟩ := w2.litems le e2
      have l1 := (Vws.own o1).allD e3
      have l2 := (Vws.own o2).allD e4
      exact ⟨a1, a2, vs, us, rfl, rfl, q1, q2, by rw [l1.len, l2.len]; exact mil hz, fun p hp => h _ p (l1.append l2) hp⟩
    · cases e
  · cases e
/-- + as a view -/
def v_add (x y : O) : Option O := match x, y with
  | .d (.int i), .d (.int j) => some (.d (.int (i + j)))
  | x, y => match l_add x y with
    | some ds => some (dl ds)
    | none => (G.titems x).bind fun xs => (G.titems y).bind fun ys => (allD xs).bind fun ds => (allD ys).bind fun es => if ds.length + es.length ≤ 1000000 then some (.d (.tuple (ds ++ es))) else none
theorem vw_add : Vw2 X (rAdd2 X.K) v_add := by
  intro I H φ ρ σ Q x y z a b S1 S2 gd w1 w2 e h
  unfold v_add at e
  split at e
  · cases e
    cases w1.int
    cases w2.int
    exact .inl ⟨_, _, rfl, rfl, h.d gd (.int _)⟩
  · split at e
    · rename_i ds e1
      cases e
      exact .inr (.inl (ls_cat I H Q _ _ a b S1 S2 ds gd.le w1 w2 e1 fun vs p hd hp => h.lst gd hd hp))
    · simp only [Option.bind_eq_some_iff] at e
      obtain ⟨xs, e1, ys, e2, ds, e3, es, e4, e⟩ := e
      split at e
      · rename_i hz
        cases e
        obtain ⟨a1, vs, rfl, q1, o1⟩ := w1.titems e1
        obtain ⟨a2, us, rfl, q2, o2⟩ := w2.titems e2
        have l1 := (Vws.own o1).allD e3
        have l2 := (Vws.own o2).allD e4
        refine .inr (.inr ⟨a1, a2, vs, us, rfl, rfl, SqT.of (gd.le _ _ q1), SqT.of (gd.le _ _ q2), by rw [l1.len, l2.len]; exact mil hz, fun ev => ?_, fun ev ev2 => ?_, fun _ _ p hp => h.tup gd (l1.append l2) hp⟩)
        · subst ev
          cases l1
          exact h.d gd (.tuple q2 l2)
        · subst ev2
          cases l2
          rw [List.append_nil] at h
          exact h.d gd (.tuple q1 l1)
      · cases e
theorem fr_add : Fr2 X (rAdd2 X.K) (fun x y => (l_add x y).map ol) := by
  intro I H φ ρ σ Q x y z a b S1 S2 gd w1 w2 e h
  rw [Option.map_eq_some_iff] at e
  obtain ⟨ds, e, rfl⟩ := e
  exact .inr (.inl (ls_cat I H Q _ _ a b S1 S2 ds gd.le w1 w2 e fun vs p hd hp => h.lst gd hd hp))
/-! ### * -/
def v_mul (x y : O) : Option O := match x, y with
  | .d (.int i), .d (.int j) => if (-18446744073709551616 < i ∧ i < 18446744073709551616) ∨ (-18446744073709551616 < j ∧ j < 18446744073709551616) then some (.d (.int (i * j))) else none
  | _, _ => none
theorem vw_mul : Vw2 X (rMul2 X.K) v_mul := by
  intro I H φ ρ σ Q x y z a b S1 S2 gd w1 w2 e h
  unfold v_mul at e
  split at e
  · split at e
    · rename_i hc
      cases e
      cases w1.int
      cases w2.int
      exact .inl ⟨_, _, rfl, rfl, hc, h.d gd (.int _)⟩
    · cases e
  · cases e
def l_mul (x y : O) : Option (List D) := match y with
  | .d (.int k) => ((G.litems x).bind allD).bind fun ds => if 0 ≤ k ∧ k ≤ 1000 ∧ ds.length ≤ 1000 then some (List.replicate k.toNat ds).flatten else none
  | _ => none
theorem ls_mul : Ls2 X (rMul2 X.K) l_mul := by
  intro I H Q x y a b S1 S2 ds le w1 w2 e h
  unfold l_mul at e
  split at e
  · rename_i k
    cases w2.int
    simp only [Option.bind_eq_some_iff] at e
    obtain ⟨d0, ⟨xs, e1, e2⟩, e⟩ := e
    split at e
    · rename_i hk
      cases e
      obtain ⟨a1, vs, rfl, q1, o1⟩ := w1.litems le e1
      have l1 := (Vws.own o1).allD e2
      have hm : d0.length * k.toNat ≤ 1000 * 1000 := Nat.mul_le_mul hk.2.2 (by omega)
      exact .inr (.inl ⟨a1, k, vs, rfl, rfl, q1, by omega, by omega, by rw [l1.len, sizeLine_eq]; omega, fun p hp => h _ p (l1.rep k.toNat) hp⟩)
    · cases e
  · cases e
def v_mulA (x y : O) : Option O := match v_mul x y with
  | some z => some z
  | none => (l_mul x y).map dl
theorem vw_mulA : Vw2 X (rMul2 X.K) v_mulA := by
  intro I H φ ρ σ Q x y z a b S1 S2 gd w1 w2 e h
  unfold v_mulA at e
  split at e
  · rename_i e1; cases e; exact vw_mul I H φ ρ σ Q x y _ a b S1 S2 gd w1 w2 e1 h
  · exact ls_mul.vw I H φ ρ σ Q x y z a b S1 S2 gd w1 w2 e h
end
end EV

/-! The layer EV, part N: tests that are views, isinstance, slices, list, tuple, get, count, index. -/
namespace EV
open PySem PySem.Spec PyProof.Rows L2
section
variable {X : Cx} {W : WX} {pos : Pos} {a b c e : Expr} {f f1 f2 f3 : Env → Option O}
/-! ### tests -/
abbrev VWT (X : Cx) (e : Expr) (f : Env → Option O) : Prop := PW X e (rdVT X.K X.mg f)
/-- a bool in hand, of a test -/
theorem vboolT {σ : St} {I H : Hp} {φ : Ph} {ρ : Env} {Q : VK} {k : Bool → Option O} {Q' : Bool → Hp → Prop} (gd : Gd X.K X.mg I H φ ρ σ) (h : VP X.K X.mg φ ρ σ I H Q ((f ρ).bind fun o => (Vw.boo o).bind k))
    (hk : ∀ r I1 H1, Grw X.K X.mg φ ρ σ I H I1 H1 → VP X.K X.mg φ ρ σ I1 H1 Q (k r) → Q' r H1) : rdVT X.K X.mg f σ H Q' :=
  vbool (Q' := fun x H1 => ∃ k, x = .bl k ∧ Q' k H1) gd h fun r I1 H1 g h => ⟨r, rfl, hk r I1 H1 g h⟩
theorem vt_not (ha : VT X a f) : VT X (.UnaryOp .Not a pos) (Vw.not f) := by
  refine PT.weak (pt_not ha) fun σ H Q ⟨ρ, I, φ, gd, h⟩ => ?_
  refine vboolT gd h fun r I1 H1 g h => ?_
  obtain ⟨k, e, q⟩ := h.d g.gd (.bl (!r))
  cases e
  exact q
theorem vtw_and1 (h : VT X a f) : VWT X (.BoolOp .And [a] pos) f := pw_and1 h
theorem vtw_or1 (h : VT X a f) : VWT X (.BoolOp .Or [a] pos) f := pw_or1 h
theorem vtw_and {rest : List Expr} (ha : VT X a f1) (hb : VWT X (.BoolOp .And (b :: rest) pos) f2) : VWT X (.BoolOp .And (a :: b :: rest) pos) (Vw.and f1 f2) := by
  refine PW.weak (pw_and ha hb) fun σ H Q ⟨ρ, I, φ, gd, h⟩ => ?_
  refine vboolT gd h fun r I1 H1 g h => ?_
  cases r with
  | true => rw [if_pos rfl] at h ⊢; exact ⟨ρ, I1, φ, g.gd, h⟩
  | false =>
    rw [if_neg Bool.false_ne_true] at h ⊢
    obtain ⟨k, e, q⟩ := h.d g.gd (.bl false)
    cases e
    exact q
theorem vtw_or {rest : List Expr} (ha : VT X a f1) (hb : VWT X (.BoolOp .Or (b :: rest) pos) f2) : VWT X (.BoolOp .Or (a :: b :: rest) pos) (Vw.or f1 f2) := by
  refine PW.weak (pw_or ha hb) fun σ H Q ⟨ρ, I, φ, gd, h⟩ => ?_
  refine vboolT gd h fun r I1 H1 g h => ?_
  cases r with
  | true =>
    rw [if_pos rfl] at h ⊢
    obtain ⟨k, e, q⟩ := h.d g.gd (.bl true)
    cases e
    exact q
  | false => rw [if_neg Bool.false_ne_true] at h ⊢; exact ⟨ρ, I1, φ, g.gd, h⟩
theorem vt_of (h : VWT X a f) : VT X a f := PW.pt h

/-! ### isinstance -/
/-- the built-in type of a value -/
def tyD : D → String
  | .none => "NoneType"
  | .bool _ => "bool"
  | .int _ => "int"
  | .str _ => "str"
  | .list _ => "list"
  | .tuple _ => "tuple"
  | .dict _ => "dict"
def tyO : O → Option String
  | .d x => some (tyD x)
  | .lst _ => some "list"
  | .tup _ => some "tuple"
  | .dic _ => some "dict"
  | .dicT _ => some "dict"
  | .scr _ => some "list"
  | .kst _ => some "tuple"
  | _ => none
theorem sqL_ty {K : PySem.W.Frag} {H : Hp} {a : Addr} {vs : List V} (h : SqL K H a vs) : TyX K H (.ref a) (.type "list") := by
  rcases h with (h | ⟨o, h⟩) | ⟨o, its, n, h1, h2, _⟩
  · exact .base (.lst h)
  · exact .base (.frz h)
  · exact .kList h1 h2
theorem sqT_ty {K : PySem.W.Frag} {H : Hp} {a : Addr} {vs : List V} (h : SqT K H a vs) : TyX K H (.ref a) (.type "tuple") := by
  rcases h with (h | ⟨o, h⟩) | ⟨o, its, n, h1, h2, _⟩
  · exact .base (.tup h)
  · exact .fTuple h
  · exact .kTuple h1 h2
end
/-- does a type stand below another -/
def subTy (a b : String) : Option Bool := kitB a b
section
variable {K : PySem.W.Frag} {mg : Str → Option Value} {I H : Hp}
theorem dT_ty {H : Hp} {a : Addr} {kvs : List (List Key × V)} (h : H a = some (.dT kvs)) : TyX K H (.ref a) (.type "dict") := .base (.dT h)
theorem Own.ty (le : Same I H) {o : O} {v : V} {S : Pd} {t : String} (w : Own K mg I H o v S) (e : tyO o = some t) (hn : ∀ ds, o ≠ .d (.dict ds) ∨ keysOk ds = true) : TyX K H v (.type t) := by
  cases o with
  | d x =>
    cases e
    cases w with
    | d q =>
      cases q with
      | non => exact .base .non
      | bl b => exact .base (.bl b)
      | int i => exact .base (.int i)
      | str x => exact .base (.str x)
      | list s r => exact .base (.lst (le _ _ s))
      | tuple s r => exact .base (.tup (le _ _ s))
      | dict r k =>
        rcases (RdLe.of le).rd _ _ r with r | ⟨o, r⟩
        · exact .base (.dK r)
        · exact .fDict r
      | dictT r k n =>
        rename_i ds
        rcases hn ds with h | h
        · exact (h rfl).elim
        · cases k with
          | nil => exact (n rfl).elim
          | cons a b => simp [keysOk, isK_keyT] at h
      | exn _ =>
        rcases hn _ with h | h
        · exact (h rfl).elim
        · cases h
  | lst xs =>
    cases e
    cases w with
    | lst a b c d e => exact .base (.lst a)
  | tup xs =>
    cases e
    cases w with
    | tup a b => exact .base (.tup (le _ _ a))
  | dic kvs =>
    cases e
    cases w with
    | dic a b c => exact .base (.dK a)
  | dicT kvs =>
    cases e
    cases w with
    | dicT a b c => exact .base (.dT a)
  | scr xs =>
    cases e
    cases w with
    | scr q => exact sqL_ty ((RdLe.of le).sqL q)
  | kst xs =>
    cases e
    cases w with
    | kst q r => exact sqT_ty (sqT_le le q)
  | _ => cases e
end
def dictKeysOk : O → Bool
  | .d (.dict ds) => keysOk ds
  | _ => true
def isi (T : String) (x : O) : Option O := if dictKeysOk x then (tyO x).bind fun t => (kitB t T).map fun b => .d (.bool b) else none
def kitAnyB (t : String) : List String → Option Bool
  | [] => some false
  | T :: r => match kitB t T with
    | some true => some true
    | some false => kitAnyB t r
    | none => none
def isiT (Ts : List String) (x : O) : Option O := if dictKeysOk x then (tyO x).bind fun t => (kitAnyB t Ts).map fun b => .d (.bool b) else none
theorem kitAnyB_ok {K : PySem.W.Frag} {t : String} : ∀ {Ts : List String} {b : Bool}, kitAnyB t Ts = some b → PySem.W.kitAny K (.type t) (Ts.map Value.type) = some b
  | [], b, h => by cases h; rfl
  | T :: r, b, h => by
    unfold kitAnyB at h
    split at h
    · rename_i e; cases h
      exact kitAny_cons (kit_ty e) (fun z => by cases z) (fun _ => rfl)
    · rename_i e
      exact kitAny_cons (kit_ty e) (fun _ => kitAnyB_ok h) (fun z => by cases z)
    · cases h
section
variable {X : Cx} {W : WX} {pos p p2 p3 : Pos} {a b c e : Expr} {f f1 f2 f3 : Env → Option O}
theorem dko {o : O} (h : dictKeysOk o = true) (ds : List (D × D)) : o ≠ .d (.dict ds) ∨ keysOk ds = true := by
  by_cases e : o = .d (.dict ds)
  · subst e; exact .inr h
  · exact .inl e
/-- isinstance(x, T) -/
theorem ve_isi {t : Str} {T : String} (ha : VE X a f) (hm : X.mg "isinstance" = none) (hmt : X.mg t = none) (hv : bootBuiltins t = some (.type T) := by rfl) (hg : Gl X "isinstance" := by rfl) (hgt : Gl X t := by rfl) (hn : t ≠ "__name__" := by decide) (hd : (t == ("__debug__" : Str)) = false := by decide)
    (hs : starEach [a, .Name t p2] X.env = (false, eval a X.env) :: starEach [.Name t p2] X.env := by rfl) (hs2 : starEach [.Name t p2] X.env = (false, eval (.Name t p2) X.env) :: starEach [] X.env := by rfl) (hpl : (backTo pos (starEach [.Name t p2] X.env)).any (·.1) = false := by rfl) :
    VE X (.Call (.Name "isinstance" p) [a, .Name t p2] [] pos) (Vw.op1 (isi T) f) := by
  refine PE.weak (pe_callB call_isi hg hm (id := "isinstance") (by rfl) (pa_cons ha (pa_cons (pe_bltn (v := .ty T) hgt hmt hv rfl hn hd) pa_nil hs2) hs) (by decide) (by decide) hs hpl) fun σ H Q ⟨ρ, I, φ, gd, h⟩ => ?_
  refine vbind gd h fun x v S I1 H1 g1 w h => ?_
  refine h.some fun z e h => ?_
  unfold isi at e
  split at e
  · rename_i hk
    rw [Option.bind_eq_some_iff] at e
    obtain ⟨ty, e1, e⟩ := e
    rw [Option.map_eq_some_iff] at e
    obtain ⟨b, e2, rfl⟩ := e
    exact ⟨v, .ty T, .type ty, .type T, b, rfl, .ty T, w.ty g1.gd.le e1 (dko hk), kit_ty e2, h.d g1.gd (.bl b)⟩
  · cases e
/-- names of types -/
inductive TyNames (X : Cx) : List Expr → List String → Prop
  | nil : TyNames X [] []
  | cons {t : Str} {T : String} {p : Pos} {es : List Expr} {Ts : List String} (hm : X.mg t = none) (r : TyNames X es Ts) (hv : bootBuiltins t = some (.type T) := by rfl) (hg : Gl X t := by rfl) (hn : t ≠ "__name__" := by decide) (hd : (t == ("__debug__" : Str)) = false := by decide)
    (hs : starEach (.Name t p :: es) X.env = (false, eval (.Name t p) X.env) :: starEach es X.env := by rfl) : TyNames X (.Name t p :: es) (T :: Ts)
def rdK (vs : List V) : TA := fun _ H Q => Q vs H
theorem TyNames.pa : ∀ {es : List Expr} {Ts : List String}, TyNames X es Ts → PA X es (rdK (Ts.map V.ty))
  | _, _, .nil => PA.weak pa_nil fun _ _ _ h => h
  | _, _, .cons hm r hv hg hn hd hs => PA.weak (pa_cons (pe_bltn (v := .ty _) hg hm hv rfl hn hd) r.pa hs) fun _ _ _ h => h
theorem clsV_tys : ∀ Ts : List String, Paired ClsV (Ts.map V.ty) (Ts.map Value.type)
  | [] => .nil
  | T :: Ts => .cons (.ty T) (clsV_tys Ts)
/-- isinstance(x, (T, ..)) -/
theorem ve_isiT {es : List Expr} {Ts : List String} {k : Nat} (ha : VE X a f) (hm : X.mg "isinstance" = none) (ht : TyNames X es Ts) (hl : Ts.length ≤ 1000 := by decide) (hg : Gl X "isinstance" := by rfl)
    (hs : starEach [a, .Tuple es k p2] X.env = (false, eval a X.env) :: starEach [.Tuple es k p2] X.env := by rfl) (hs2 : starEach [.Tuple es k p2] X.env = (false, eval (.Tuple es k p2) X.env) :: starEach [] X.env := by rfl) (hpl : (backTo pos (starEach [.Tuple es k p2] X.env)).any (·.1) = false := by rfl) :
    VE X (.Call (.Name "isinstance" p) [a, .Tuple es k p2] [] pos) (Vw.op1 (isiT Ts) f) := by
  refine PE.weak (pe_callB call_isiT hg hm (id := "isinstance") (by rfl) (pa_cons ha (pa_cons (pe_tup ht.pa) pa_nil hs2) hs) (by decide) (by decide) hs hpl) fun σ H Q ⟨ρ, I, φ, gd, h⟩ => ?_
  refine vbind gd h fun x v S I1 H1 g1 w h => ?_
  refine h.some fun z e h => ?_
  unfold isiT at e
  split at e
  · rename_i hk
    rw [Option.bind_eq_some_iff] at e
    obtain ⟨ty, e1, e⟩ := e
    rw [Option.map_eq_some_iff] at e
    obtain ⟨b, e2, rfl⟩ := e
    refine ⟨by rw [List.length_map]; exact mil (by omega), fun q hq => ?_⟩
    have g2 := Grw.new (o := .tup (Ts.map V.ty)) g1.gd hq
    exact ⟨v, q, Ts.map V.ty, .type ty, Ts.map Value.type, b, rfl, upd_same, clsV_tys Ts, (w.grow g2).ty g2.gd.le e1 (dko hk), kitAnyB_ok e2, (h.grow g2).d g2.gd (.bl b)⟩
  · cases e

/-! ### slices -/
/-- a bound of a slice -/
def rdVO (K : PySem.W.Frag) (mg : Str → Option Value) (f : Env → Option (Option Int)) : TO := fun σ H Q => ∃ ρ I φ, Gd K mg I H φ ρ σ ∧ match f ρ with
  | some i => ∀ I' H', Grw K mg φ ρ σ I H I' H' → Q i H'
  | none => False
abbrev VO (X : Cx) (o : Option Expr) (f : Env → Option (Option Int)) : Prop := PO X o (rdVO X.K X.mg f)
theorem PO.weak {X : Cx} {e : Option Expr} {t t' : TO} (h : PO X e t) (hw : ∀ σ H Q, t' σ H Q → t σ H Q) : PO X e t' := ⟨fun pins s σ H Q I q => h.run pins s σ H Q I (hw σ H Q q)⟩
def Vw.noPart : Env → Option (Option Int) := fun _ => some none
def Vw.part (f : Env → Option O) : Env → Option (Option Int) := fun ρ => match f ρ with
  | some (.d (.int i)) => some (some i)
  | _ => none
theorem vo_none : VO X none Vw.noPart := PO.weak po_none fun _ _ _ ⟨_, _, _, gd, h⟩ => h _ _ (Grw.refl gd)
theorem vo_some (h : VE X a f) : VO X (some a) (Vw.part f) := by
  refine PO.weak (po_some h) fun σ H Q ⟨ρ, I, φ, gd, h⟩ => ⟨ρ, I, φ, gd, ?_⟩
  unfold Vw.part at h
  cases e : f ρ with
  | none => rw [e] at h; exact h.elim
  | some o =>
    rw [e] at h
    split at h
    · rename_i i hi
      split at hi
      · rename_i j e2
        cases hi
        cases e2
        intro v S I1 H1 g w
        cases w.int
        exact ⟨_, rfl, h I1 H1 g⟩
      · cases hi
    · exact h.elim
def cutD {α : Type} (xs : List α) (lo hi : Option Int) : List α := (xs.drop (HT.sIx xs.length 0 lo)).take (HT.sIx xs.length xs.length hi - HT.sIx xs.length 0 lo)
theorem DenL.take {K : PySem.W.Frag} {I : Hp} : ∀ {ds : List D} {vs : List V} (n : Nat), DenL K I ds vs → DenL K I (ds.take n) (vs.take n)
  | _, _, 0, _ => .nil
  | _, _, _ + 1, .nil => .nil
  | _, _, n + 1, .cons a b => .cons a (DenL.take n b)
theorem DenL.drop {K : PySem.W.Frag} {I : Hp} : ∀ {ds : List D} {vs : List V} (n : Nat), DenL K I ds vs → DenL K I (ds.drop n) (vs.drop n)
  | _, _, 0, h => h
  | _, _, _ + 1, .nil => .nil
  | _, _, n + 1, .cons a b => DenL.drop n b
theorem DenL.cut {K : PySem.W.Frag} {I : Hp} {ds : List D} {vs : List V} (lo hi : Option Int) (h : DenL K I ds vs) : DenL K I (cutD ds lo hi) (cutV vs lo hi) := by
  unfold cutD cutV
  rw [h.len]
  exact (h.drop _).take _
theorem DenL.rev {K : PySem.W.Frag} {I : Hp} : ∀ {ds : List D} {vs : List V}, DenL K I ds vs → DenL K I ds.reverse vs.reverse
  | _, _, .nil => .nil
  | _, _, .cons a b => by rw [List.reverse_cons, List.reverse_cons]; exact (DenL.rev b).append (.cons a .nil)
def Vw.sl (f : Env → Option O) (l h : Env → Option (Option Int)) (g : O → Option Int → Option Int → Option O) : Env → Option O := fun ρ => (f ρ).bind fun x => (l ρ).bind fun lo => (h ρ).bind fun hi => g x lo hi
def s_list (x : O) (lo hi : Option Int) : Option (List D) := (listD x).map fun ds => cutD ds lo hi
def s_view (x : O) (lo hi : Option Int) : Option O := match s_list x lo hi with
  | some ds => some (dl ds)
  | none => ((G.titems x).bind allD).map fun ds => .d (.tuple (cutD ds lo hi))
def s_new (x : O) (lo hi : Option Int) : Option O := (s_list x lo hi).map ol
def rSlB2 (K : PySem.W.Frag) : V → Option Int → Option Int → Hp → VK → Prop := fun x lo hi H Q => rSlL K x lo hi H Q ∨ rSlA K x lo hi H Q
theorem sl_both : SlR X (rSlB2 X.K) := sl_list.or sl_tupA
/-- the bounds in hand -/
theorem sl_bind {σ : St} {I H : Hp} {φ : Ph} {ρ : Env} {Q : VK} {l h' : Env → Option (Option Int)} {lo hi : Option Expr} {p2 : Pos} {z : O} {g : O → Option Int → Option Int → Option O} {P : V → Option Int → Option Int → Hp → Prop}
    (gd : Gd X.K X.mg I H φ ρ σ) (e : Vw.sl f l h' g ρ = some z) (k : ∀ x lo hi v S I1 H1, Grw X.K X.mg φ ρ σ I H I1 H1 → Own X.K X.mg I1 H1 x v S → g x lo hi = some z → P v lo hi H1) :
    rdV X.K X.mg f σ H fun x H1 => rdVO X.K X.mg l σ H1 fun l H2 => rdVO X.K X.mg h' σ H2 fun u H3 => P x l u H3 := by
  unfold Vw.sl at e
  simp only [Option.bind_eq_some_iff] at e
  obtain ⟨x, e1, lo, e2, hi, e3, e4⟩ := e
  refine ⟨ρ, I, φ, gd, ?_⟩
  rw [e1]
  intro v S I1 H1 g1 w
  refine ⟨ρ, I1, φ, g1.gd, ?_⟩
  rw [e2]
  intro I2 H2 g2
  refine ⟨ρ, I2, φ, g2.gd, ?_⟩
  rw [e3]
  intro I3 H3 g3
  exact k x lo hi v S I3 H3 ((g1.trans g2).trans g3) ((w.grow g2).grow g3) e4
theorem ve_sl {l h' : Env → Option (Option Int)} {lo hi : Option Expr} (ha : VE X a f) (hl : VO X lo l) (hh : VO X hi h') : VE X (.Subscript a (.Slice lo hi none p2) pos) (Vw.sl f l h' s_view) := by
  refine PE.weak (pe_slice sl_both ha hl hh) fun σ H Q ⟨ρ, I, φ, gd, h⟩ => ?_
  refine h.some fun z e h => ?_
  refine sl_bind (lo := lo) (hi := hi) (p2 := p2) (Q := Q) gd e fun x lo hi v S I1 H1 g1 w e4 => ?_
  have h := h.grow g1
  unfold s_view s_list at e4
  split at e4
  · rename_i ds e5
    cases e4
    rw [Option.map_eq_some_iff] at e5
    obtain ⟨es, e6, rfl⟩ := e5
    obtain ⟨q, vs, rfl, hq, dl⟩ := w.listD g1.gd.le e6
    exact .inl ⟨q, vs, rfl, hq, fun p hp => h.lst g1.gd (dl.cut lo hi) hp⟩
  · rw [Option.map_eq_some_iff] at e4
    obtain ⟨es, e6, rfl⟩ := e4
    rw [Option.bind_eq_some_iff] at e6
    obtain ⟨os, e7, e8⟩ := e6
    obtain ⟨q, vs, rfl, hq, o⟩ := w.titems e7
    have dl := o.allD e8
    refine .inr ⟨q, vs, rfl, SqT.of (g1.gd.le _ _ hq), fun hc => ?_, fun _ p hp => h.tup g1.gd (dl.cut lo hi) hp⟩
    rw [dl.len] at hc
    have ec : cutD es lo hi = es := by unfold cutD; rw [hc.1, hc.2]; simp
    rw [ec] at h
    exact h.d g1.gd (.tuple hq dl)
theorem ee_slF {l h' : Env → Option (Option Int)} {lo hi : Option Expr} (ha : VE X a f) (hl : VO X lo l) (hh : VO X hi h') : EE X W (.Subscript a (.Slice lo hi none p2) pos) (E.fr (Vw.sl f l h' s_new)) := by
  refine PE.weak (pe_slice sl_list ha hl hh) fun σ H Q ⟨ρ, I, φ, gd, h⟩ => ?_
  unfold E.fr at h
  cases e : Vw.sl f l h' s_new ρ with
  | none => rw [e] at h; exact h.elim
  | some z =>
    rw [e] at h
    refine sl_bind (lo := lo) (hi := hi) (p2 := p2) (Q := Q) gd e fun x lo hi v S I1 H1 g1 w e4 => ?_
    unfold s_new s_list at e4
    rw [Option.map_eq_some_iff] at e4
    obtain ⟨ds, e5, rfl⟩ := e4
    rw [Option.map_eq_some_iff] at e5
    obtain ⟨es, e6, rfl⟩ := e5
    obtain ⟨q, vs, rfl, hq, dl⟩ := w.listD g1.gd.le e6
    exact ⟨q, vs, rfl, hq, fun p hp => (FP.of gd g1 h).lst g1.gd (dl.cut lo hi) hp⟩
def v_rev (x : O) : Option O := (listD x).map fun ds => dl ds.reverse
def n_rev (x : O) : Option O := (listD x).map fun ds => ol ds.reverse
theorem ve_rev {k : Nat} {p1 p2 p3 : Pos} (ha : VE X a f) : VE X (.Subscript a (.Slice none none (some (.UnaryOp .USub (.Constant (.int 1) k p1) p2)) p3) pos) (Vw.op1 v_rev f) := by
  refine PE.weak (pe_revL ha) fun σ H Q ⟨ρ, I, φ, gd, h⟩ => ?_
  refine vbind gd h fun x v S I1 H1 g1 w h => ?_
  refine h.some fun z e h => ?_
  unfold v_rev at e
  rw [Option.map_eq_some_iff] at e
  obtain ⟨ds, e, rfl⟩ := e
  obtain ⟨q, vs, rfl, hq, dl⟩ := w.listD g1.gd.le e
  exact ⟨q, vs, rfl, hq, fun p hp => h.lst g1.gd dl.rev hp⟩
theorem ee_revF {k : Nat} {p1 p2 p3 : Pos} (ha : VE X a f) : EE X W (.Subscript a (.Slice none none (some (.UnaryOp .USub (.Constant (.int 1) k p1) p2)) p3) pos) (E.fr (Vw.op1 n_rev f)) := by
  refine PE.weak (pe_revL ha) fun σ H Q ⟨ρ, I, φ, gd, h⟩ => ?_
  refine fr_bind gd h fun x v S I1 H1 g1 w h => ?_
  cases e : n_rev x with
  | none => rw [e] at h; exact h.elim
  | some z =>
    rw [e] at h
    unfold n_rev at e
    rw [Option.map_eq_some_iff] at e
    obtain ⟨ds, e, rfl⟩ := e
    obtain ⟨q, vs, rfl, hq, dl⟩ := w.listD g1.gd.le e
    exact ⟨q, vs, rfl, hq, fun p hp => (FP.of gd g1 h).lst g1.gd dl.rev hp⟩
end
end EV

/-! The layer EV, part O: places (a slot, a field of a slot's object), stores and methods that change them. -/
namespace EV
open PySem PySem.Spec PyProof.Rows L2
/-! ### fields -/
def lookF : List (Str × O) → Str → Option O
  | [], _ => none
  | (g, o) :: r, f => if g = f then some o else lookF r f
def setF (o : O) : List (Str × O) → Str → List (Str × O)
  | [], _ => []
  | (g, x) :: r, f => if g = f then (g, o) :: r else (g, x) :: setF o r f
def putFO (f : Str) (o : O) : List (Str × O) → List (Str × O)
  | [] => [(f, o)]
  | (g, x) :: r => if g = f then (g, o) :: r else (g, x) :: putFO f o r
section
variable {K : PySem.W.Frag} {mg : Str → Option Value} {I H : Hp}
theorem OwnF.mono {S T : Pd} (h : ∀ b, S b → T b) : ∀ {x : List (Str × O)} {v : List (Str × V)}, OwnF K mg I H x v S → OwnF K mg I H x v T
  | _, _, .nil => .nil
  | _, _, .cons a b c d e => .cons a b (fun b q => h _ (c b q)) (fun b q => h _ (d b q)) e
theorem OwnF.len : ∀ {fs : List (Str × O)} {vs : List (Str × V)} {S : Pd}, OwnF K mg I H fs vs S → vs.length = fs.length
  | _, _, _, .nil => rfl
  | _, _, _, .cons _ b _ _ _ => by rw [List.length_cons, List.length_cons, OwnF.len b]
/-- the field f, with what it owns; whatever takes its place -/
theorem OwnF.get : ∀ {fs : List (Str × O)} {vs : List (Str × V)} {S : Pd} {f : Str} {o : O}, OwnF K mg I H fs vs S → lookF fs f = some o →
    ∃ v T, vs.lookup f = some v ∧ Own K mg I H o v T ∧ (∀ a, T a → S a) ∧ ∀ (H' : Hp) (o' : O), (∀ a x, S a → ¬ T a → H a = some x → H' a = some x) → Own K mg I H' o' v T → OwnF K mg I H' (setF o' fs f) vs S
  | _, _, _, f, o, .nil, e => by simp [lookF] at e
  | _, _, S, f, o, .cons (f := g) (S1 := S1) (S2 := S2) a b c d x, e => by
    unfold lookF at e
    by_cases z : g = f
    · subst z
      rw [if_pos rfl] at e
      cases e
      refine ⟨_, S1, by simp [List.lookup], a, c, fun H' o' h w => ?_⟩
      unfold setF
      rw [if_pos rfl]
      exact .cons w (b.step (RdLe.of (Same.refl _)) fun a u s hh => h a u (d a s) (fun q => x a q s) hh) c d x
    · rw [if_neg z] at e
      obtain ⟨v, T, h1, h2, h3, h4⟩ := OwnF.get b e
      refine ⟨v, T, ?_, h2, fun a q => d a (h3 a q), fun H' o' h w => ?_⟩
      · rw [List.lookup]
        have : (f == g) = false := by simpa using fun q => z q.symm
        rw [this]; exact h1
      · unfold setF
        rw [if_neg z]
        exact .cons (a.step (RdLe.of (Same.refl _)) fun p u s hh => h p u (c p s) (fun q => x p s (h3 p q)) hh) (h4 H' o' (fun p u s nt hh => h p u (d p s) nt hh) w) c d x
/-- a field is stored, with what the new value owns -/
theorem OwnF.put {f : Str} {o : O} {v : V} {T : Pd} (w : Own K mg I H o v T) : ∀ {fs : List (Str × O)} {vs : List (Str × V)} {S : Pd}, OwnF K mg I H fs vs S → (∀ a, S a → ¬ T a) → OwnF K mg I H (putFO f o fs) (putF f v vs) (orP S T)
  | _, _, _, .nil, _ => OwnF.cons (S1 := T) (S2 := noP) w .nil (fun _ => .inr) (fun _ q => q.elim) (fun _ _ q => q)
  | _, _, S, .cons (f := g) (S1 := S1) (S2 := S2) a b c d x, dis => by
    unfold putFO putF
    by_cases z : g = f
    · rw [if_pos z, if_pos z]
      exact .cons w b (fun _ => .inr) (fun p q => .inl (d p q)) (fun p q r => dis p (d p r) q)
    · rw [if_neg z, if_neg z]
      refine .cons a (OwnF.put w b fun p q => dis p (d p q)) (fun p q => .inl (c p q)) (fun p q => q.elim (fun r => .inl (d p r)) .inr) (fun p q r => ?_)
      rcases r with r | r
      · exact x p q r
      · exact dis p (c p q) r

/-- the item n, with what it owns; whatever takes its place -/
theorem Owns.at : ∀ {xs : List O} {vs : List V} {S : Pd} {n : Nat} {o : O}, Owns K mg I H xs vs S → xs[n]? = some o →
    ∃ v T, vs[n]? = some v ∧ Own K mg I H o v T ∧ (∀ a, T a → S a) ∧ ∀ (H' : Hp) (o' : O), (∀ a x, S a → ¬ T a → H a = some x → H' a = some x) → Own K mg I H' o' v T → Owns K mg I H' (xs.set n o') vs S
  | _, _, _, _, _, .nil, e => by simp at e
  | _, _, S, 0, o, .cons (S1 := S1) (S2 := S2) a b c d x, e => by
    simp at e; subst e
    exact ⟨_, S1, rfl, a, c, fun H' o' h w => .cons w (b.step (RdLe.of (Same.refl _)) fun a u s hh => h a u (d a s) (fun q => x a q s) hh) c d x⟩
  | _, _, S, n + 1, o, .cons (S1 := S1) (S2 := S2) a b c d x, e => by
    obtain ⟨v, T, h1, h2, h3, h4⟩ := Owns.at (n := n) (o := o) b (by simpa using e)
    exact ⟨v, T, by simpa using h1, h2, fun a q => d a (h3 a q), fun H' o' h w => .cons (a.step (RdLe.of (Same.refl _)) fun p u s hh => h p u (c p s) (fun q => x p s (h3 p q)) hh) (h4 H' o' (fun p u s nt hh => h p u (d p s) nt hh) w) c d x⟩

/-! ### places -/
inductive Pl where
  | slot (i : Nat)
  | fld (i : Nat) (c f : Str)
  | item (i n : Nat)
def Pl.get : Pl → Env → Option O
  | .slot i, ρ => (match ρ[i]? with
    | some .un => none
    | o => o)
  | .fld i c f, ρ => (match ρ[i]? with
    | some (.obj c' fs) => if c' = c then (match lookF fs f with
      | some .un => none
      | o => o) else none
    | _ => none)
  | .item i n, ρ => (match ρ[i]? with
    | some (.tup xs) => (match xs[n]? with
      | some .un => none
      | o => o)
    | _ => none)
def Pl.set (o : O) : Pl → Env → Env
  | .slot i, ρ => ρ.set i o
  | .fld i _ f, ρ => (match ρ[i]? with
    | some (.obj c fs) => ρ.set i (.obj c (setF o fs f))
    | _ => ρ)
  | .item i n, ρ => (match ρ[i]? with
    | some (.tup xs) => ρ.set i (.tup (xs.set n o))
    | _ => ρ)
/-- the value v stands at the place, owns S; what may take its place -/
structure At (K : PySem.W.Frag) (mg : Str → Option Value) (I H : Hp) (φ : Ph) (ρ : Env) (σ : St) (pl : Pl) (o : O) (v : V) (S : Pd) : Prop where
  own : Own K mg I H o v S
  sub : ∃ i, ∀ a, S a → φ i a
  put : ∀ (H' : Hp) (o' : O), Same I H' → (∀ a x, ¬ S a → H a = some x → H' a = some x) → (∀ a, S a → H' a ≠ none) → Own K mg I H' o' v S → Gd K mg I H' φ (pl.set o' ρ) σ
/-- where the object of a place stands -/
def Pl.val (mg : Str → Option Value) : Pl → St → Hp → V → Prop
  | .slot i, σ, _, v => σ[i]? = some (some v)
  | .fld i c f, σ, H, v => ∃ a C dx fs, σ[i]? = some (some (.ref a)) ∧ H a = some (.ins C dx fs) ∧ mg c = some (.ref C) ∧ fs.lookup f = some v
  | .item i n, σ, H, v => ∃ a vs, σ[i]? = some (some (.ref a)) ∧ H a = some (.tup vs) ∧ vs[n]? = some v
section
variable {φ : Ph} {ρ : Env} {σ : St}
theorem Gd.at (gd : Gd K mg I H φ ρ σ) {pl : Pl} {o : O} (e : pl.get ρ = some o) : ∃ v S, pl.val mg σ H v ∧ At K mg I H φ ρ σ pl o v S := by
  have rest : ∀ {i : Nat} {o' : O} {v : V} {H' : Hp}, σ[i]? = some (some v) → Same I H' → (∀ a x, ¬ φ i a → H a = some x → H' a = some x) → (∀ a, φ i a → H' a ≠ none) → Own K mg I H' o' v (φ i) → Gd K mg I H' φ (ρ.set i o') σ := by
    intro i o' v H' ev le kp th w
    refine ⟨le, gd.dj, fun j a q => ?_, gd.sep, fun j y ey ny => ?_⟩
    · by_cases z : φ i a
      · exact th a z
      · cases e0 : H a with
        | none => exact (gd.th j a q e0).elim
        | some x => rw [kp a x z e0]; exact Option.some_ne_none _
    · by_cases z : j = i
      · subst z
        have hl : j < ρ.length := by
          have := (List.getElem?_eq_some_iff.mp ey).1
          simpa using this
        rw [List.getElem?_set_self hl] at ey
        cases ey
        exact ⟨v, ev, w⟩
      · rw [List.getElem?_set_ne (Ne.symm z)] at ey
        obtain ⟨u, e1, w1⟩ := gd.sl j y ey ny
        exact ⟨u, e1, w1.step (RdLe.of (Same.refl _)) fun a x s hh => kp a x (fun q => z (gd.sep j i a s q)) hh⟩
  cases pl with
  | slot i =>
    have e2 : ρ[i]? = some o ∧ o ≠ .un := by
      have e : (match ρ[i]? with | some .un => none | o => o) = some o := e
      split at e
      · cases e
      · rename_i hu
        refine ⟨e, fun q => ?_⟩
        rw [q] at e
        exact hu e
    obtain ⟨v, ev, w⟩ := gd.sl i o e2.1 e2.2
    exact ⟨v, φ i, ev, w, ⟨i, fun _ z => z⟩, fun H' o' le kp th w' => rest ev le kp th w'⟩
  | fld i c f =>
    have e' : ∃ fs, ρ[i]? = some (.obj c fs) ∧ lookF fs f = some o ∧ o ≠ .un := by
      have e5 : (match ρ[i]? with | some (.obj c' fs) => if c' = c then (match lookF fs f with | some .un => none | o => o) else none | _ => none) = some o := e
      clear e
      split at e5
      · rename_i c' fs e1
        split at e5
        case isFalse => cases e5
        rename_i hc
        subst hc
        split at e5
        · cases e5
        · rename_i hu
          refine ⟨fs, e1, e5, fun q => ?_⟩
          rw [q] at e5
          exact hu e5
      · cases e5
    obtain ⟨fs, e1, e2, nu⟩ := e'
    obtain ⟨v, ev, w⟩ := gd.sl i _ e1 (by intro z; cases z)
    cases w with
    | @obj a C dx _ fvs _ _ S' h1 h2 h3 h4 h5 h6 =>
      obtain ⟨u, T, k1, k2, k3, k4⟩ := h4.get e2
      refine ⟨u, T, ⟨a, C, dx, fvs, ev, h1, h2, k1⟩, k2, ⟨i, fun b q => h5 b (k3 b q)⟩, fun H' o' le kp th w' => ?_⟩
      have es : (Pl.fld i c f).set o' ρ = ρ.set i (.obj c (setF o' fs f)) := by
        show (match ρ[i]? with | some (.obj c fs) => ρ.set i (.obj c (setF o' fs f)) | _ => ρ) = _
        rw [e1]
      rw [es]
      have aT : ¬ T a := fun q => h6 (k3 a q)
      refine rest ev le (fun b x nb hb => kp b x (fun q => nb (h5 b (k3 b q))) hb) (fun b q => ?_) (.obj (kp a _ aT h1) h2 h3 (k4 H' o' (fun b x s nt hb => kp b x nt hb) w') h5 h6)
      by_cases z : T b
      · exact th b z
      · cases e0 : H b with
        | none => exact (gd.th i b q e0).elim
        | some x => rw [kp b x z e0]; exact Option.some_ne_none _
  | item i n =>
    have e' : ∃ xs, ρ[i]? = some (.tup xs) ∧ xs[n]? = some o ∧ o ≠ .un := by
      have e5 : (match ρ[i]? with | some (.tup xs) => (match xs[n]? with | some .un => none | o => o) | _ => none) = some o := e
      clear e
      split at e5
      · rename_i xs e1
        split at e5
        · cases e5
        · rename_i hu
          refine ⟨xs, e1, e5, fun q => ?_⟩
          rw [q] at e5
          exact hu e5
      · cases e5
    obtain ⟨xs, e1, e2, nu⟩ := e'
    obtain ⟨v, ev, w⟩ := gd.sl i _ e1 (by intro z; cases z)
    cases w with
    | @tup a vs _ _ h1 h2 =>
      obtain ⟨u, T, k1, k2, k3, k4⟩ := h2.at e2
      refine ⟨u, T, ⟨a, vs, ev, gd.le _ _ h1, k1⟩, k2, ⟨i, k3⟩, fun H' o' le kp th w' => ?_⟩
      have es : (Pl.item i n).set o' ρ = ρ.set i (.tup (xs.set n o')) := by
        show (match ρ[i]? with | some (.tup xs) => ρ.set i (.tup (xs.set n o')) | _ => ρ) = _
        rw [e1]
      rw [es]
      refine rest ev le (fun b x nb hb => kp b x (fun q => nb (k3 b q)) hb) (fun b q => ?_) (.tup h1 (k4 H' o' (fun b x s nt hb => kp b x nt hb) w'))
      by_cases z : T b
      · exact th b z
      · cases e0 : H b with
        | none => exact (gd.th i b q e0).elim
        | some x => rw [kp b x z e0]; exact Option.some_ne_none _
end
/-! ### methods that change a place -/
def MtS (X : Cx) (r : V → List V → Hp → VK → Prop) (g : O → List D → Option (D × O)) : Prop := ∀ (I H : Hp) (S : Pd) (Q : VK) (o o' : O) (ds : List D) (res : D) (v : V) (vs : List V),
  Same I H → (∀ a, S a → I a = none) → (∀ a, S a → H a ≠ none) → Own X.K X.mg I H o v S → DenL X.K I ds vs → g o ds = some (res, o') →
  (∀ v' H', Same I H' → (∀ a x, ¬ S a → H a = some x → H' a = some x) → (∀ a, S a → H' a ≠ none) → Own X.K X.mg I H' o' v S → Den X.K I res v' → Q v' H') → r v vs H Q
/-- which built-in type a place's object has -/
def tyP (T : String) : O → Bool
  | .lst _ => T = "list"
  | .dic _ => T = "dict"
  | .dicT _ => T = "dict"
  | _ => false
theorem tyP_ok {T : String} {o : O} {v : V} {S : Pd} (w : Own K mg I H o v S) (h : tyP T o = true) : tyV K T v H := by
  cases o with
  | lst xs =>
    have : T = "list" := of_decide_eq_true h
    cases w with
    | lst a b c d e => exact .inl ⟨this, _, SqL.of a⟩
  | dic xs =>
    have : T = "dict" := of_decide_eq_true h
    cases w with
    | dic a b c => exact .inr (.inr (.inl ⟨this, .inl ⟨_, a⟩⟩))
  | dicT xs =>
    have : T = "dict" := of_decide_eq_true h
    cases w with
    | dicT a b c => exact .inr (.inr (.inl ⟨this, .inr ⟨_, a⟩⟩))
  | _ => cases h
/-- a place's value, read by an expression -/
def rdPl (K : PySem.W.Frag) (mg : Str → Option Value) (pl : Pl) : TE := fun σ H Q => ∃ v, pl.val mg σ H v ∧ Q v H
abbrev PlE (X : Cx) (e : Expr) (pl : Pl) : Prop := PE X e (rdPl X.K X.mg pl)
/-- o.m(args): args may do what they like; o a slot -/
def E.mut (i : Nat) (T : String) (g : O → List D → Option (D × O)) (fs : M (List O)) : M O := fun ρ0 => match (Pl.slot i).get ρ0 with
  | some o0 => if tyP T o0 then (fs.bind fun os ρ => match frzL os, (Pl.slot i).get ρ with
    | some ds, some o => (match g o ds with
      | some (res, o') => .ok (.d res) ((Pl.slot i).set o' ρ)
      | none => .stuck)
    | _, _ => .stuck) ρ0 else .stuck
  | none => .stuck
/-- .. args views; o any place -/
def E.mutV (pl : Pl) (T : String) (g : O → List D → Option (D × O)) (fs : Env → Option (List O)) : M O := fun ρ => match pl.get ρ, (fs ρ).bind allD with
  | some o, some ds => if tyP T o then (match g o ds with
    | some (res, o') => .ok (.d res) (pl.set o' ρ)
    | none => .stuck) else .stuck
  | _, _ => .stuck
section
variable {X : Cx} {W : WX} {pos : Pos} {o e : Expr} {es : List Expr}
theorem pl_slot (i : Nat) {x : Str} {pos : Pos} (hN : X.N[i]? = some x := by rfl) (hv : Vis X.env.scope x := by first | exact Or.inl rfl | exact Or.inr (Or.inl rfl) | exact Or.inr (Or.inr rfl)) (hd : (x == ("__debug__" : Str)) = false := by decide) (hcd : (x == ("__classdict__" : Str)) = false := by decide) : PlE X (.Name x pos) (.slot i) :=
  PE.weak (pe_var hN hv hd hcd) fun _ _ _ h => h
theorem pl_fld (i : Nat) (c : Str) {x f : Str} {pos pos' : Pos} (hcl : ∀ C, X.mg c = some (.ref C) → Cls X.K C ∧ NoAttr X.K C f) (hN : X.N[i]? = some x := by rfl) (hv : Vis X.env.scope x := by first | exact Or.inl rfl | exact Or.inr (Or.inl rfl) | exact Or.inr (Or.inr rfl)) (hd : (x == ("__debug__" : Str)) = false := by decide) (hcd : (x == ("__classdict__" : Str)) = false := by decide)
    (hb : attributeBase (.Name x pos) f X.env (eval (.Name x pos) X.env) = eval (.Name x pos) X.env := by rfl) : PlE X (.Attribute (.Name x pos) f pos') (.fld i c f) := by
  refine PE.weak (pe_fld (pe_var hN hv hd hcd) hb) fun σ H Q ⟨v, ⟨a, C, dx, fs, e1, e2, e3, e4⟩, q⟩ => ?_
  obtain ⟨h1, h2⟩ := hcl C e3
  exact ⟨.ref a, e1, a, C, dx, fs, v, rfl, e2, h1, h2, e4, q⟩
theorem pl_item (i n : Nat) {x : Str} {k : Nat} {pos pos' pos2 : Pos} (hN : X.N[i]? = some x := by rfl) (hv : Vis X.env.scope x := by first | exact Or.inl rfl | exact Or.inr (Or.inl rfl) | exact Or.inr (Or.inr rfl)) (hd : (x == ("__debug__" : Str)) = false := by decide) (hcd : (x == ("__classdict__" : Str)) = false := by decide)
    (hs : PlainIx (.Constant (.int (n : Int)) k pos2) := by intro _ _; rfl) : PlE X (.Subscript (.Name x pos) (.Constant (.int (n : Int)) k pos2) pos') (.item i n) := by
  refine PE.weak (pe_ix ix_tup (pe_var hN hv hd hcd) pe_int hs) fun σ H Q ⟨v, ⟨a, vs, e1, e2, e3⟩, q⟩ => ?_
  refine ⟨.ref a, e1, a, vs, (n : Int), v, rfl, rfl, SqT.of e2, ?_, q⟩
  have hl := (List.getElem?_eq_some_iff.mp e3).1
  unfold atI ixN
  rw [if_pos (Int.natCast_nonneg n), if_pos (by exact_mod_cast hl)]
  simpa using e3
/-- the world behind a change -/
theorem mut_fin {σ : St} {I H : Hp} {φ : Ph} {ρ : Env} {F : Pd} {Q : VK} {pl : Pl} {o o' : O} {v : V} {S : Pd} {res : D} (gd : Gd X.K X.mg I H φ ρ σ) (at_ : At X.K X.mg I H φ ρ σ pl o v S) (hf : ∀ a, al φ a → F a)
    (h : PostE X.K X.mg W σ I H F Q (.ok (.d res) (pl.set o' ρ))) {v' : V} {H' : Hp} (le : Same I H') (kp : ∀ a x, ¬ S a → H a = some x → H' a = some x) (th : ∀ a, S a → H' a ≠ none) (w : Own X.K X.mg I H' o' v S) (d : Den X.K I res v') : Q v' H' := by
  obtain ⟨i, hi⟩ := at_.sub
  refine h v' H' I φ noP ⟨Same.refl _, fun a x e nf => kp a x (fun q => nf (hf a ⟨i, hi a q⟩)) e, fun a q => .inl (q.elim (hf a) False.elim), fun a x e => .inl e⟩ (at_.put H' o' le kp th w) Tm.none (.d d)
theorem ee_mut (i : Nat) {x : Str} {np : Pos} {T id : String} {r : V → List V → Hp → VK → Prop} {g : O → List D → Option (D × O)} {name : Str} {apos cpos : Pos} {fs : M (List O)} (pa : PlainAttrs T) (slot : Slot T name id) (hty : typeOf (.builtin id) = pure (.type "method_descriptor")) (hm : MtR X id r) (ok : MtS X r g)
    (ho : PlE X (.Name x np) (.slot i)) (ha : EA X W (e :: es) fs)
    (hbase : attributeBase (.Name x np) name X.env (eval (.Name x np) X.env) = eval (.Name x np) X.env := by rfl)
    (hfew : ((backTo cpos (starEach (e :: es) X.env)).all (fun x => !x.1) && (backToKw cpos (keywordEach [] X.env)).all (fun x => x.1.isSome)
      && decide ((e :: es).length + ([] : List Keyword).length + (if ([] : List Keyword).isEmpty then 0 else 1) < 30)) = true := by rfl)
    (hline : (apos.endLine == cpos.line) = true := by rfl) (hs : starEach (e :: es) X.env = (false, eval e X.env) :: starEach es X.env := by rfl) (hplain : (backTo cpos (starEach es X.env)).any (·.1) = false := by rfl) :
    EE X W (.Call (.Attribute (.Name x np) name apos) (e :: es) [] cpos) (E.mut i T g fs) := by
  refine PE.weak (pe_bm pa slot hty hm ho ha hbase hfew hline hs hplain) fun σ H Q ⟨ρ, I, φ, gd, h⟩ => ?_
  unfold E.mut at h
  split at h
  case h_2 => exact h.elim
  rename_i o0 e0
  split at h
  case isFalse => exact h.elim
  rename_i ht
  obtain ⟨v, S0, hv, at0⟩ := gd.at e0
  refine ⟨v, hv, tyP_ok at0.own ht, ?_⟩
  refine bindA (P := PostE X.K X.mg W σ I H (al φ) Q) gd h (fun _ _ z => z) (fun z => z) fun os ρ1 _ h vs H1 I1 φ1 G1 s1 gd1 t1 w1 => ?_
  have h' := h.shift s1
  split at h'
  · rename_i ds o1 e1 e2
    split at h'
    · rename_i res o' e3
      obtain ⟨gd2, st2⟩ := gd1.freeze t1
      have dl : DenL X.K (addI I1 H1 G1) ds vs := Owns.frz (RdLe.of (addI_same t1.dj)) (fun a u q e => by rw [addI_in q]; exact e) w1 e1
      obtain ⟨v2, S, hv2, at_⟩ := gd2.at e2
      have : v2 = v := by
        have h1 : σ[i]? = some (some v) := hv
        have h2 : σ[i]? = some (some v2) := hv2
        rw [h1] at h2
        cases h2
        rfl
      subst this
      obtain ⟨j, hj⟩ := at_.sub
      have h2 := h'.shift st2
      refine ok _ H1 S Q o1 o' ds res v2 vs gd2.le (fun a q => gd2.dj j a (hj a q)) (fun a q => gd2.th j a (hj a q)) at_.own dl e3 fun v' H' le kp th w d => mut_fin gd2 at_ (fun _ z => z) h2 le kp th w d
    · exact h'.elim
  · exact h'.elim
theorem ee_mut0 (pl : Pl) {T id : String} {r : V → List V → Hp → VK → Prop} {g : O → List D → Option (D × O)} {name : Str} {apos cpos : Pos} (pa : PlainAttrs T) (slot : Slot T name id) (hty : typeOf (.builtin id) = pure (.type "method_descriptor")) (hm : MtR X id r) (ok : MtS X r g)
    (ho : PlE X o pl) (hbase : attributeBase o name X.env (eval o X.env) = eval o X.env := by rfl) (hline : (apos.endLine == cpos.line) = true := by rfl) :
    EE X W (.Call (.Attribute o name apos) [] [] cpos) (E.mutV pl T g Vw.nil) := by
  refine PE.weak (pe_bm0 pa slot hty hm ho hbase hline) fun σ H Q ⟨ρ, I, φ, gd, h⟩ => ?_
  unfold E.mutV at h
  split at h
  · rename_i o1 ds e1 e2
    cases e2
    split at h
    · rename_i ht
      split at h
      · rename_i res o' e3
        obtain ⟨v, S, hv, at_⟩ := gd.at e1
        obtain ⟨j, hj⟩ := at_.sub
        refine ⟨v, hv, tyP_ok at_.own ht, ?_⟩
        exact ok I H S Q o1 o' [] res v [] gd.le (fun a q => gd.dj j a (hj a q)) (fun a q => gd.th j a (hj a q)) at_.own .nil e3 fun v' H' le kp th w d => mut_fin gd at_ (fun _ z => z) h le kp th w d
      · exact h.elim
    · exact h.elim
  · exact h.elim
theorem ee_mutV (pl : Pl) {T id : String} {r : V → List V → Hp → VK → Prop} {g : O → List D → Option (D × O)} {name : Str} {apos cpos : Pos} {fs : Env → Option (List O)} (pa : PlainAttrs T) (slot : Slot T name id) (hty : typeOf (.builtin id) = pure (.type "method_descriptor")) (hm : MtR X id r) (ok : MtS X r g)
    (ho : PlE X o pl) (ha : VA X (e :: es) fs)
    (hbase : attributeBase o name X.env (eval o X.env) = eval o X.env := by rfl)
    (hfew : ((backTo cpos (starEach (e :: es) X.env)).all (fun x => !x.1) && (backToKw cpos (keywordEach [] X.env)).all (fun x => x.1.isSome)
      && decide ((e :: es).length + ([] : List Keyword).length + (if ([] : List Keyword).isEmpty then 0 else 1) < 30)) = true := by rfl)
    (hline : (apos.endLine == cpos.line) = true := by rfl) (hs : starEach (e :: es) X.env = (false, eval e X.env) :: starEach es X.env := by rfl) (hplain : (backTo cpos (starEach es X.env)).any (·.1) = false := by rfl) :
    EE X W (.Call (.Attribute o name apos) (e :: es) [] cpos) (E.mutV pl T g fs) := by
  refine PE.weak (pe_bm pa slot hty hm ho ha hbase hfew hline hs hplain) fun σ H Q ⟨ρ, I, φ, gd, h⟩ => ?_
  unfold E.mutV at h
  split at h
  · rename_i o1 ds e1 e2
    rw [Option.bind_eq_some_iff] at e2
    obtain ⟨os, e2, e4⟩ := e2
    split at h
    · rename_i ht
      split at h
      · rename_i res o' e3
        obtain ⟨v, S, hv, at_⟩ := gd.at e1
        refine ⟨v, hv, tyP_ok at_.own ht, ρ, I, φ, gd, ?_⟩
        rw [e2]
        intro vs I1 H1 g1 ws
        obtain ⟨v2, S2, hv2, at2⟩ := g1.gd.at e1
        have : v2 = v := by
          cases pl with
          | slot i =>
            have h1 : σ[i]? = some (some v) := hv
            have h2 : σ[i]? = some (some v2) := hv2
            rw [h1] at h2
            cases h2
            rfl
          | fld i c f =>
            obtain ⟨a, C, dx, fs, k1, k2, k3, k4⟩ := hv
            obtain ⟨a', C', dx', fs', k1', k2', k3', k4'⟩ := hv2
            rw [k1] at k1'
            cases k1'
            rw [g1.st.kp a _ k2 (fun z => z)] at k2'
            cases k2'
            rw [k4] at k4'
            cases k4'
            rfl
          | item i n =>
            obtain ⟨a, ws', k1, k2, k3⟩ := hv
            obtain ⟨a', ws2, k1', k2', k3'⟩ := hv2
            rw [k1] at k1'
            cases k1'
            rw [g1.st.kp a _ k2 (fun z => z)] at k2'
            cases k2'
            rw [k3] at k3'
            cases k3'
            rfl
        subst this
        obtain ⟨j, hj⟩ := at2.sub
        have h2 := h.shift (g1.stp gd)
        exact ok I1 H1 S2 Q o1 o' ds res v2 vs g1.gd.le (fun a q => g1.gd.dj j a (hj a q)) (fun a q => g1.gd.th j a (hj a q)) at2.own (ws.allD e4) e3 fun v' H' le kp th w d => mut_fin g1.gd at2 (fun _ z => z) h2 le kp th w d
      · exact h.elim
    · exact h.elim
  · exact h.elim
end
end
end EV

/-! The layer EV, part P: append, extend, pop, clear, reverse; x[i] = v, d[k] = v. -/
namespace EV
open PySem PySem.Spec PyProof.Rows L2
section
variable {K : PySem.W.Frag} {mg : Str → Option Value} {I H : Hp}
/-- a list of data, owned -/
theorem Own.lstD {xs : List O} {v : V} {S : Pd} {ds : List D} (w : Own K mg I H (.lst xs) v S) (e : allD xs = some ds) : ∃ a vs, v = .ref a ∧ S a ∧ H a = some (.lst vs) ∧ DenL K I ds vs := by
  cases w with
  | lst a b c d q => exact ⟨_, _, rfl, b, a, (Vws.own c).allD e⟩
theorem Own.ofD {a : Addr} {ds : List D} {vs : List V} {S : Pd} (h : H a = some (.lst vs)) (s : S a) (d : DenL K I ds vs) : Own K mg I H (.lst (ds.map .d)) (.ref a) S :=
  .lst (S' := noP) h s (Owns.ofDen d) (fun _ z => z.elim) id
end
/-- one object of the place is rewritten -/
theorem upd_facts {I H : Hp} {S : Pd} {a : Addr} {x : HO} (le : Same I H) (dj : ∀ a, S a → I a = none) (th : ∀ a, S a → H a ≠ none) (sa : S a) : Same I (upd H a x) ∧ (∀ b y, ¬ S b → H b = some y → upd H a x b = some y) ∧ (∀ b, S b → upd H a x b ≠ none) := by
  refine ⟨fun b y e => ?_, fun b y ns e => ?_, fun b s => ?_⟩
  · rw [upd_ne (fun z => by rw [z, dj a sa] at e; cases e)]
    exact le b y e
  · rw [upd_ne (fun z => ns (by rw [z]; exact sa))]
    exact e
  · by_cases z : b = a
    · rw [z, upd_same]; exact Option.some_ne_none _
    · rw [upd_ne z]; exact th b s
def m_append : O → List D → Option (D × O)
  | .lst xs, [x] => (allD xs).bind fun ds => if ds.length < 1000000 then some (.none, .lst ((ds ++ [x]).map .d)) else none
  | _, _ => none
def m_extend : O → List D → Option (D × O)
  | .lst xs, [.list ys] => (allD xs).bind fun ds => if ds.length + ys.length ≤ 1000000 then some (.none, .lst ((ds ++ ys).map .d)) else none
  | _, _ => none
def m_pop : O → List D → Option (D × O)
  | .lst xs, [] => (allD xs).bind fun ds => (ds[ds.length - 1]?).map fun y => (y, .lst (ds.dropLast.map .d))
  | _, _ => none
def m_popAt : O → List D → Option (D × O)
  | .lst xs, [.int i] => (allD xs).bind fun ds => (ixN ds.length i).bind fun k => if ds.length ≤ 1000000 then (ds[k]?).map fun y => (y, .lst ((ds.eraseIdx k).map .d)) else none
  | _, _ => none
def m_clear : O → List D → Option (D × O)
  | .lst xs, [] => some (.none, .lst [])
  | _, _ => none
def m_reverse : O → List D → Option (D × O)
  | .lst xs, [] => (allD xs).map fun ds => (.none, .lst (ds.reverse.map .d))
  | _, _ => none
section
variable {X : Cx}
theorem lt_mil {n : Nat} (h : n < 1000000) : n < sizeLine := by rw [sizeLine_eq]; omega
theorem ms_append : MtS X rAppend m_append := by
  intro I H S Q o o' ds res v vs le dj th w dl e k
  unfold m_append at e
  split at e
  · rename_i xs x
    rw [Option.bind_eq_some_iff] at e
    obtain ⟨es, e1, e⟩ := e
    split at e
    · rename_i hz
      cases e
      obtain ⟨a, us, rfl, sa, ha, du⟩ := w.lstD e1
      cases dl with
      | @cons _ _ y _ d r =>
        cases r
        obtain ⟨h1, h2, h3⟩ := upd_facts (x := .lst (us ++ [y])) le dj th sa
        exact ⟨a, us, _, rfl, rfl, ha, by rw [du.len]; exact lt_mil hz, k _ _ h1 h2 h3 (Own.ofD upd_same sa (du.append (.cons d .nil))) .non⟩
    · cases e
  · cases e
theorem ms_extend : MtS X rExtend m_extend := by
  intro I H S Q o o' ds res v vs le dj th w dl e k
  unfold m_extend at e
  split at e
  · rename_i xs ys
    rw [Option.bind_eq_some_iff] at e
    obtain ⟨es, e1, e⟩ := e
    split at e
    · rename_i hz
      cases e
      obtain ⟨a, us, rfl, sa, ha, du⟩ := w.lstD e1
      cases dl with
      | cons d r =>
        cases r
        cases d with
        | @list b zs _ s dz =>
          obtain ⟨h1, h2, h3⟩ := upd_facts (x := .lst (us ++ zs)) le dj th sa
          exact ⟨a, b, us, zs, rfl, rfl, ha, le _ _ s, by rw [du.len, dz.len]; exact mil hz, k _ _ h1 h2 h3 (Own.ofD upd_same sa (du.append dz)) .non⟩
    · cases e
  · cases e
theorem DenL.dropLast {K : PySem.W.Frag} {I : Hp} {ds : List D} {vs : List V} (h : DenL K I ds vs) : DenL K I ds.dropLast vs.dropLast := by
  rw [List.dropLast_eq_take, List.dropLast_eq_take, h.len]
  exact h.take _
theorem DenL.getX {K : PySem.W.Frag} {I : Hp} : ∀ {ds : List D} {vs : List V} {i : Nat} {x : D}, DenL K I ds vs → ds[i]? = some x → ∃ v, vs[i]? = some v ∧ Den K I x v
  | _, _, _, _, .nil, e => by simp at e
  | _, _, 0, _, .cons a _, e => by simp at e; subst e; exact ⟨_, rfl, a⟩
  | _, _, i + 1, o, .cons _ b, e => by
    obtain ⟨v, h1, h2⟩ := DenL.getX (i := i) (x := o) b (by simpa using e)
    exact ⟨v, by simpa using h1, h2⟩
theorem DenL.eraseIdx {K : PySem.W.Frag} {I : Hp} : ∀ {ds : List D} {vs : List V} (i : Nat), DenL K I ds vs → DenL K I (ds.eraseIdx i) (vs.eraseIdx i)
  | _, _, _, .nil => .nil
  | _, _, 0, .cons a b => b
  | _, _, i + 1, .cons a b => .cons a (DenL.eraseIdx i b)
theorem DenL.set {K : PySem.W.Frag} {I : Hp} {x : D} {v : V} (d : Den K I x v) : ∀ {ds : List D} {vs : List V} (i : Nat), DenL K I ds vs → DenL K I (ds.set i x) (vs.set i v)
  | _, _, _, .nil => .nil
  | _, _, 0, .cons a b => .cons d b
  | _, _, i + 1, .cons a b => .cons a (DenL.set d i b)
theorem ms_pop : MtS X rPop m_pop := by
  intro I H S Q o o' ds res v vs le dj th w dl e k
  unfold m_pop at e
  split at e
  · rename_i xs
    rw [Option.bind_eq_some_iff] at e
    obtain ⟨es, e1, e⟩ := e
    rw [Option.map_eq_some_iff] at e
    obtain ⟨y, e2, e3⟩ := e
    cases e3
    obtain ⟨a, us, rfl, sa, ha, du⟩ := w.lstD e1
    cases dl
    obtain ⟨u, e4, d⟩ := du.getX e2
    obtain ⟨h1, h2, h3⟩ := upd_facts (x := .lst us.dropLast) le dj th sa
    exact ⟨a, us, u, rfl, rfl, ha, by rw [du.len]; exact e4, k _ _ h1 h2 h3 (Own.ofD upd_same sa du.dropLast) d⟩
  · cases e
theorem ms_popAt : MtS X rPopAt m_popAt := by
  intro I H S Q o o' ds res v vs le dj th w dl e k
  unfold m_popAt at e
  split at e
  · rename_i xs i
    rw [Option.bind_eq_some_iff] at e
    obtain ⟨es, e1, e⟩ := e
    rw [Option.bind_eq_some_iff] at e
    obtain ⟨j, e5, e⟩ := e
    split at e
    · rename_i hz
      rw [Option.map_eq_some_iff] at e
      obtain ⟨y, e2, e3⟩ := e
      cases e3
      obtain ⟨a, us, rfl, sa, ha, du⟩ := w.lstD e1
      cases dl with
      | cons d0 r =>
        cases r
        cases d0
        obtain ⟨u, e4, d⟩ := du.getX e2
        obtain ⟨i1, i2, i3, i4⟩ := ixN_seq e5
        obtain ⟨h1, h2, h3⟩ := upd_facts (x := .lst (us.eraseIdx j)) le dj th sa
        exact ⟨a, us, i, j, u, rfl, rfl, ha, by omega, by omega, by rw [du.len]; exact i1, e4, k _ _ h1 h2 h3 (Own.ofD upd_same sa (du.eraseIdx j)) d⟩
    · cases e
  · cases e
theorem ms_clear : MtS X rClear m_clear := by
  intro I H S Q o o' ds res v vs le dj th w dl e k
  unfold m_clear at e
  split at e
  · cases e
    cases dl
    cases w with
    | lst a b c d q =>
      obtain ⟨h1, h2, h3⟩ := upd_facts (x := .lst []) le dj th b
      exact ⟨_, _, rfl, rfl, a, k _ _ h1 h2 h3 (Own.ofD (ds := []) upd_same b .nil) .non⟩
  · cases e
theorem ms_reverse : MtS X rReverse m_reverse := by
  intro I H S Q o o' ds res v vs le dj th w dl e k
  unfold m_reverse at e
  split at e
  · rw [Option.map_eq_some_iff] at e
    obtain ⟨es, e1, e2⟩ := e
    cases e2
    cases dl
    obtain ⟨a, us, rfl, sa, ha, du⟩ := w.lstD e1
    obtain ⟨h1, h2, h3⟩ := upd_facts (x := .lst us.reverse) le dj th sa
    exact ⟨a, us, rfl, rfl, ha, k _ _ h1 h2 h3 (Own.ofD upd_same sa du.rev) .non⟩
  · cases e
end

/-! ### stores -/
/-- x[i] = v -/
def StS (X : Cx) (r : TSet) (g : O → D → D → Option O) : Prop := ∀ (I H : Hp) (S : Pd) (Q : Hp → Prop) (o o' : O) (i x : D) (v vi vx : V),
  Same I H → (∀ a, S a → I a = none) → (∀ a, S a → H a ≠ none) → Own X.K X.mg I H o v S → Den X.K I i vi → Den X.K I x vx → g o i x = some o' →
  (∀ H', Same I H' → (∀ a x, ¬ S a → H a = some x → H' a = some x) → (∀ a, S a → H' a ≠ none) → Own X.K X.mg I H' o' v S → Q H') → r v vi vx H Q
/-- a dict's pairs behind d[k] = x, behind del d[k] -/
def putKD (ds : List (D × D)) (k x : D) : List (D × D) := if (ds.any fun p => PyData.eqv p.1 k) = true then ds.map (fun p => if PyData.eqv p.1 k = true then (p.1, x) else p) else ds ++ [(k, x)]
def dropKD (ds : List (D × D)) (k : D) : List (D × D) := ds.filter fun p => !PyData.eqv p.1 k
section
variable {K : PySem.W.Frag} {I : Hp}
theorem DenK.any {ds : List (D × D)} {kvs : List (Key × V)} (h : DenK K I ds kvs) (k : Key) : (ds.any fun p => PyData.eqv p.1 (keyD k)) = kvs.any fun kv => decide (kv.1 = k) := match h with
  | .nil => rfl
  | .cons (k := k') a b => by rw [List.any_cons, List.any_cons, DenK.any b k, eqv_keyD]
theorem DenK.mapPut {x : D} {v : V} (d : Den K I x v) (k : Key) : ∀ {ds : List (D × D)} {kvs : List (Key × V)}, DenK K I ds kvs →
    DenK K I (ds.map fun p => if PyData.eqv p.1 (keyD k) = true then (p.1, x) else p) (kvs.map fun kv => if kv.1 = k then (kv.1, v) else kv)
  | _, _, .nil => .nil
  | _, _, .cons (k := k') a b => by
    rw [List.map_cons, List.map_cons, eqv_keyD]
    by_cases e : k' = k
    · rw [if_pos (decide_eq_true e), if_pos e]
      exact .cons d (DenK.mapPut d k b)
    · rw [if_neg (by simpa using e), if_neg e]
      exact .cons a (DenK.mapPut d k b)
theorem DenK.snoc {x : D} {v : V} (d : Den K I x v) (k : Key) : ∀ {ds : List (D × D)} {kvs : List (Key × V)}, DenK K I ds kvs → DenK K I (ds ++ [(keyD k, x)]) (kvs ++ [(k, v)])
  | _, _, .nil => .cons d .nil
  | _, _, .cons a b => .cons a (DenK.snoc d k b)
theorem DenK.put {x : D} {v : V} {ds : List (D × D)} {kvs : List (Key × V)} (h : DenK K I ds kvs) (d : Den K I x v) (k : Key) : DenK K I (putKD ds (keyD k) x) (putK kvs k v) := by
  unfold putKD putK
  rw [h.any k]
  split
  · exact h.mapPut d k
  · exact h.snoc d k
theorem DenK.drop (k : Key) : ∀ {ds : List (D × D)} {kvs : List (Key × V)}, DenK K I ds kvs → DenK K I (dropKD ds (keyD k)) (dropK kvs k)
  | _, _, .nil => .nil
  | _, _, .cons (k := k') a b => by
    unfold dropKD dropK
    rw [List.filter_cons, List.filter_cons, eqv_keyD]
    by_cases e : k' = k
    · rw [if_neg (by simp [e]), if_neg (by simp [e])]
      exact DenK.drop k b
    · rw [if_pos (by simp [e]), if_pos (by simp [e])]
      exact .cons a (DenK.drop k b)
theorem DenT.any {ds : List (D × D)} {kvs : List (List Key × V)} (h : DenT K I ds kvs) (k : List Key) : (ds.any fun p => PyData.eqv p.1 (keyT k)) = kvs.any fun kv => decide (kv.1 = k) := match h with
  | .nil => rfl
  | .cons (k := k') a b => by rw [List.any_cons, List.any_cons, DenT.any b k, eqv_keyT]
theorem DenT.mapPut {x : D} {v : V} (d : Den K I x v) (k : List Key) : ∀ {ds : List (D × D)} {kvs : List (List Key × V)}, DenT K I ds kvs →
    DenT K I (ds.map fun p => if PyData.eqv p.1 (keyT k) = true then (p.1, x) else p) (kvs.map fun kv => if kv.1 = k then (kv.1, v) else kv)
  | _, _, .nil => .nil
  | _, _, .cons (k := k') a b => by
    rw [List.map_cons, List.map_cons, eqv_keyT]
    by_cases e : k' = k
    · rw [if_pos (decide_eq_true e), if_pos e]
      exact .cons d (DenT.mapPut d k b)
    · rw [if_neg (by simpa using e), if_neg e]
      exact .cons a (DenT.mapPut d k b)
theorem DenT.snoc {x : D} {v : V} (d : Den K I x v) (k : List Key) : ∀ {ds : List (D × D)} {kvs : List (List Key × V)}, DenT K I ds kvs → DenT K I (ds ++ [(keyT k, x)]) (kvs ++ [(k, v)])
  | _, _, .nil => .cons d .nil
  | _, _, .cons a b => .cons a (DenT.snoc d k b)
theorem DenT.put {x : D} {v : V} {ds : List (D × D)} {kvs : List (List Key × V)} (h : DenT K I ds kvs) (d : Den K I x v) (k : List Key) : DenT K I (putKD ds (keyT k) x) (putK kvs k v) := by
  unfold putKD putK
  rw [h.any k]
  split
  · exact h.mapPut d k
  · exact h.snoc d k
end
def st_any (o : O) (i x : D) : Option O := match o with
  | .lst xs => (match i with
    | .int i => (ixN xs.length i).map fun k => .lst (xs.set k (.d x))
    | _ => none)
  | .dic ds => if isK i && decide (ds.length < 1000000) then some (.dic (putKD ds i x)) else none
  | .dicT ds => (match i with
    | .tuple ks => if (keyT? ks).isSome && decide (ds.length < 1000000) then some (.dicT (putKD ds i x)) else none
    | _ => none)
  | _ => none
def rSetD : TSet := fun o i v H Q => ∃ a H', o = .ref a ∧ DPut H a i v H' ∧ Q H'
def rSetA : TSet := fun o i v H Q => rSetL o i v H Q ∨ rSetD o i v H Q
section
variable {X : Cx}
theorem set_dictA (hu : X.A.units + 100 < cLine) : PSet X rSetD := by
  intro pins s σ H o i v ov iv u Q I ro ri rv h
  obtain ⟨a, H', rfl, g, q⟩ := h
  obtain rfl : ov = Value.ref a := ro
  exact d_setItem (by omega) I g ri rv fun s4 I4 => ⟨H', I4, q⟩
theorem PSet.or {X : Cx} {r r' : TSet} (h : PSet X r) (h' : PSet X r') : PSet X (fun o i v H Q => r o i v H Q ∨ r' o i v H Q) := by
  intro pins s σ H o i v ov iv u Q I ro ri rv q
  rcases q with q | q
  · exact h pins s σ H o i v ov iv u Q I ro ri rv q
  · exact h' pins s σ H o i v ov iv u Q I ro ri rv q
theorem set_any (hu : X.A.units + 100 < cLine) : PSet X rSetA := PSet.or set_list (set_dictA hu)
theorem Owns.setD {K : PySem.W.Frag} {mg : Str → Option Value} {I H : Hp} {x : D} {vx : V} (dx : Den K I x vx) : ∀ {xs : List O} {vs : List V} {S : Pd} (k : Nat), Owns K mg I H xs vs S → Owns K mg I H (xs.set k (.d x)) (vs.set k vx) S
  | _, _, _, _, .nil => .nil
  | _, _, _, 0, .cons a b c d e => .cons (S1 := noP) (.d dx) b (fun _ q => q.elim) d (fun _ q => q.elim)
  | _, _, _, k + 1, .cons a b c d e => .cons a (Owns.setD dx k b) c d e
theorem ss_any : StS X rSetA st_any := by
  intro I H S Q o o' i x v vi vx le dj th w di dx e k
  unfold st_any at e
  split at e
  · rename_i xs
    split at e
    · rename_i i
      rw [Option.map_eq_some_iff] at e
      obtain ⟨j, e1, e3⟩ := e
      cases e3
      cases di
      cases w with
      | @lst a us _ _ S' ha sa os sub nin =>
        obtain ⟨h1, h2, h3⟩ := upd_facts (x := .lst (us.set j vx)) le dj th sa
        exact .inl ⟨a, us, i, j, rfl, rfl, ha, by rw [os.len]; exact e1, k _ h1 h2 h3 (.lst upd_same sa ((os.setD dx j).step (RdLe.of (Same.refl _)) fun b u q e => by rw [upd_ne (fun z => nin (by rw [← z]; exact q))]; exact e) sub nin)⟩
    · cases e
  · rename_i ds
    split at e
    · rename_i hk
      cases e
      rw [Bool.and_eq_true, decide_eq_true_eq] at hk
      obtain ⟨ky, rfl⟩ := isK_of hk.1
      have := di.key
      subst this
      cases w with
      | @dic a kvs _ _ ha sa dk =>
        obtain ⟨h1, h2, h3⟩ := upd_facts (x := .dK (putK kvs ky vx)) le dj th sa
        exact .inr ⟨a, _, rfl, .inl ⟨kvs, ky, ha, rfl, by rw [dk.len]; exact lt_mil hk.2, rfl⟩, k _ h1 h2 h3 (.dic upd_same sa (dk.put dx ky))⟩
    · cases e
  · rename_i ds
    split at e
    · rename_i ks
      split at e
      · rename_i hk
        cases e
        rw [Bool.and_eq_true, decide_eq_true_eq] at hk
        obtain ⟨kl, ek⟩ := Option.isSome_iff_exists.mp hk.1
        have := keyT?_of ek
        subst this
        cases di with
        | @tuple b bs _ sb db =>
          have := db.keys
          subst this
          cases w with
          | @dicT a kvs _ _ ha sa dk =>
            obtain ⟨h1, h2, h3⟩ := upd_facts (x := .dT (putK kvs kl vx)) le dj th sa
            exact .inr ⟨a, _, rfl, .inr ⟨kvs, kl, b, ha, rfl, le _ _ sb, by rw [dk.len]; exact lt_mil hk.2, rfl⟩, k _ h1 h2 h3 (.dicT upd_same sa (dk.put dx kl))⟩
      · cases e
    · cases e
  · cases e
/-- x[e] = v: e may do what it likes; x a slot -/
def G.sub (i : Nat) (g : O → D → D → Option O) (fi : M O) : O → M Unit := fun o ρ0 => match frz o, (Pl.slot i).get ρ0 with
  | some x, some _ => (fi.bind fun oi ρ => match frz oi, (Pl.slot i).get ρ with
    | some i', some o => (match g o i' x with
      | some o' => .ok () ((Pl.slot i).set o' ρ)
      | none => .stuck)
    | _, _ => .stuck) ρ0
  | _, _ => .stuck
def dat : O → Option D
  | .d x => some x
  | _ => none
theorem dat_ok {o : O} {x : D} (h : dat o = some x) : o = .d x := by
  cases o <;> simp [dat] at h
  rw [h]
/-- .. e a view; x any place -/
def G.subV (pl : Pl) (g : O → D → D → Option O) (fi : Env → Option O) : O → M Unit := fun o ρ => match frz o, (fi ρ).bind dat, pl.get ρ with
  | some x, some i, some o1 => (match g o1 i x with
    | some o' => .ok () (pl.set o' ρ)
    | none => .stuck)
  | _, _, _ => .stuck
theorem setG_fin {io : List Nat} {σ : St} {I H : Hp} {φ : Ph} {ρ : Env} {F : Pd} {Q : St → Hp → Prop} {pl : Pl} {o o' : O} {v : V} {S : Pd} (gd : Gd X.K X.mg I H φ ρ σ) (at_ : At X.K X.mg I H φ ρ σ pl o v S) (hf : ∀ a, al φ a → F a)
    (h : PostG X.K X.mg io σ I H F Q (.ok () (pl.set o' ρ))) {H' : Hp} (le : Same I H') (kp : ∀ a x, ¬ S a → H a = some x → H' a = some x) (th : ∀ a, S a → H' a ≠ none) (w : Own X.K X.mg I H' o' v S) : Q σ H' := by
  obtain ⟨i, hi⟩ := at_.sub
  exact h σ H' I φ (Keeps.refl _) ⟨Same.refl _, fun a x e nf => kp a x (fun q => nf (hf a ⟨i, hi a q⟩)) e, fun a q => .inl (hf a q), fun a x e => .inl e⟩ (at_.put H' o' le kp th w)
variable {io : List Nat} {o e : Expr} {pos np : Pos}
theorem eg_subV (pl : Pl) {r : TSet} {g : O → D → D → Option O} {fi : Env → Option O} (hs : PSet X r) (ok : StS X r g) (ho : PlE X o pl) (hi : VE X e fi)
    (ha : ∀ v, assign (.Subscript o e pos) X.env v = (do
      let ov ← holding [v] (eval o X.env)
      let iv ← holding [v, ov] (eval e X.env)
      standAt pos
      holding [v, ov, iv] (setItem ov iv v)
      release [v, ov, iv] []) := by intro _; rfl) : EG X io (.Subscript o e pos) (G.subV pl g fi) := by
  refine ⟨fun pins s σ H v u Q I0 r0 h => (pg_sub ho hi hs ha).run pins s σ H v u Q I0 r0 ?_⟩
  obtain ⟨ρ, I, φ, oo, G0, gd, tm, w, h⟩ := h
  unfold G.subV at h
  split at h
  · rename_i x i o1 e1 e2 e3
    split at h
    · rename_i o' e4
      obtain ⟨gd2, st2⟩ := gd.freeze tm
      have dx : Den X.K (addI I H G0) x v := w.den e1 tm.dj
      rw [Option.bind_eq_some_iff] at e2
      obtain ⟨oi, e2, e5⟩ := e2
      obtain ⟨v1, S1, hv1, at1⟩ := gd2.at e3
      refine ⟨v1, hv1, ρ, _, φ, gd2, ?_⟩
      rw [e2]
      intro vi Si I2 H2 g2 wi
      obtain ⟨v2, S2, hv2, at2⟩ := g2.gd.at e3
      have : v2 = v1 := by
        cases pl with
        | slot i =>
          have h1 : σ[i]? = some (some v1) := hv1
          have h2 : σ[i]? = some (some v2) := hv2
          rw [h1] at h2
          cases h2
          rfl
        | fld i c f =>
          obtain ⟨a, C, dx, fs, k1, k2, k3, k4⟩ := hv1
          obtain ⟨a', C', dx', fs', k1', k2', k3', k4'⟩ := hv2
          rw [k1] at k1'
          cases k1'
          rw [g2.st.kp a _ k2 (fun z => z)] at k2'
          cases k2'
          rw [k4] at k4'
          cases k4'
          rfl
        | item i n =>
          obtain ⟨a, ws', k1, k2, k3⟩ := hv1
          obtain ⟨a', ws2, k1', k2', k3'⟩ := hv2
          rw [k1] at k1'
          cases k1'
          rw [g2.st.kp a _ k2 (fun z => z)] at k2'
          cases k2'
          rw [k3] at k3'
          cases k3'
          rfl
      subst this
      have := dat_ok e5
      subst this
      have di : Den X.K I2 i vi := by
        cases wi with
        | d q => exact q
      obtain ⟨j, hj⟩ := at2.sub
      have h1 := h.shift (Keeps.refl _) (st2.trans (g2.stp gd2))
      exact ok I2 H2 S2 (fun H3 => Q σ H3) o1 o' i x v2 vi v g2.gd.le (fun a q => g2.gd.dj j a (hj a q)) (fun a q => g2.gd.th j a (hj a q)) at2.own di (dx.mono (RdLe.of g2.st.li)) e4 fun H' le kp th w' => setG_fin g2.gd at2 (fun _ z => z) h1 le kp th w'
    · exact h.elim
  · exact h.elim
theorem eg_sub (i : Nat) {x : Str} {r : TSet} {g : O → D → D → Option O} {fi : M O} (hs : PSet X r) (ok : StS X r g) (ho : PlE X (.Name x np) (.slot i)) (hi : EE X W0 e fi)
    (ha : ∀ v, assign (.Subscript (.Name x np) e pos) X.env v = (do
      let ov ← holding [v] (eval (.Name x np) X.env)
      let iv ← holding [v, ov] (eval e X.env)
      standAt pos
      holding [v, ov, iv] (setItem ov iv v)
      release [v, ov, iv] []) := by intro _; rfl) : EG X io (.Subscript (.Name x np) e pos) (G.sub i g fi) := by
  refine ⟨fun pins s σ H v u Q I0 r0 h => (pg_sub ho hi hs ha).run pins s σ H v u Q I0 r0 ?_⟩
  obtain ⟨ρ, I, φ, oo, G0, gd, tm, w, h⟩ := h
  unfold G.sub at h
  split at h
  · rename_i x o0 e1 e3
    obtain ⟨gd2, st2⟩ := gd.freeze tm
    have dx : Den X.K (addI I H G0) x v := w.den e1 tm.dj
    obtain ⟨v1, S1, hv1, at1⟩ := gd2.at e3
    refine ⟨v1, hv1, ?_⟩
    have h := h.shift (Keeps.refl _) st2
    refine bindE (P := PostG X.K X.mg io σ (addI I H G0) H (al φ) Q) gd2 h (fun _ _ z => z.elim) (fun z => z) fun oi ρ1 _ h vi H1 I1 φ1 G1 s1 gd3 t1 w1 => ?_
    have h := h.shift (Keeps.refl _) s1
    split at h
    · rename_i i' o1 e4 e5
      split at h
      · rename_i o' e6
        obtain ⟨gd4, st4⟩ := gd3.freeze t1
        have di : Den X.K (addI I1 H1 G1) i' vi := w1.den e4 t1.dj
        obtain ⟨v2, S2, hv2, at2⟩ := gd4.at e5
        have : v2 = v1 := by
          have h1 : σ[i]? = some (some v1) := hv1
          have h2 : σ[i]? = some (some v2) := hv2
          rw [h1] at h2
          cases h2
          rfl
        subst this
        obtain ⟨j, hj⟩ := at2.sub
        have h := h.shift (Keeps.refl _) st4
        exact ok _ H1 S2 (fun H3 => Q σ H3) o1 o' i' x v2 vi v gd4.le (fun a q => gd4.dj j a (hj a q)) (fun a q => gd4.th j a (hj a q)) at2.own di (dx.mono (RdLe.of (fun a u e => st4.li a u (s1.li a u e)))) e6 fun H' le kp th w' => setG_fin gd4 at2 (fun _ z => z) h le kp th w'
      · exact h.elim
    · exact h.elim
  · exact h.elim
end
end EV

/-! The layer EV, part Q: calls that leave the slots as they are. -/
namespace EV
open PySem PySem.Spec PyProof.Rows L2
/-- S without tuples -/
def noTup (H : Hp) (S : Pd) : Pd := fun a => S a ∧ ∀ vs, H a ≠ some (.tup vs)
section
variable {K : PySem.W.Frag} {mg : Str → Option Value} {I H : Hp}
mutual
theorem Own.tight : ∀ {o : O} {v : V} {S : Pd}, Own K mg I H o v S → Own K mg I H o v (noTup H S)
  | _, _, _, .un => .un
  | _, _, _, .scr q => .scr q
  | _, _, _, .d q => .d q
  | _, _, _, .kst q r => .kst q r
  | _, _, S, .lst a b c d e => .lst a ⟨b, fun vs z => by rw [a] at z; cases z⟩ (Owns.tight c) (fun x q => ⟨d x q.1, q.2⟩) (fun q => e q.1)
  | _, _, _, .tup a b => .tup a (Owns.tight b)
  | _, _, _, .dic a b c => .dic a ⟨b, fun vs z => by rw [a] at z; cases z⟩ c
  | _, _, _, .dicT a b c => .dicT a ⟨b, fun vs z => by rw [a] at z; cases z⟩ c
  | _, _, _, .obj a b c d e f => .obj a b ⟨c, fun vs z => by rw [a] at z; cases z⟩ (OwnF.tight d) (fun x q => ⟨e x q.1, q.2⟩) (fun q => f q.1)
theorem Owns.tight : ∀ {o : List O} {v : List V} {S : Pd}, Owns K mg I H o v S → Owns K mg I H o v (noTup H S)
  | _, _, _, .nil => .nil
  | _, _, _, .cons a b c d e => .cons (Own.tight a) (Owns.tight b) (fun x q => ⟨c x q.1, q.2⟩) (fun x q => ⟨d x q.1, q.2⟩) (fun x q r => e x q.1 r.1)
theorem OwnF.tight : ∀ {o : List (Str × O)} {v : List (Str × V)} {S : Pd}, OwnF K mg I H o v S → OwnF K mg I H o v (noTup H S)
  | _, _, _, .nil => .nil
  | _, _, _, .cons a b c d e => .cons (Own.tight a) (OwnF.tight b) (fun x q => ⟨c x q.1, q.2⟩) (fun x q => ⟨d x q.1, q.2⟩) (fun x q r => e x q.1 r.1)
end
end
/-! ### what holds no address but of tuples -/
mutual
def cleanD : D → Bool
  | .none | .bool _ | .int _ | .str _ => true
  | .tuple xs => cleanDs xs
  | .list _ => false
  | .dict _ => false
def cleanDs : List D → Bool
  | [] => true
  | x :: xs => cleanD x && cleanDs xs
end
mutual
def cleanO : O → Bool
  | .d x => cleanD x
  | .lst xs => cleanOs xs
  | .tup xs => cleanOs xs
  | .dic kvs => kvs.all fun p => cleanD p.2
  | _ => false
def cleanOs : List O → Bool
  | [] => true
  | x :: xs => cleanO x && cleanOs xs
end
section
variable {K : PySem.W.Frag} {mg : Str → Option Value} {I J H : Hp} (h : ∀ a vs, I a = some (.tup vs) → J a = some (.tup vs))
include h
mutual
theorem Den.clean : ∀ {x : D} {v : V}, Den K I x v → cleanD x = true → Den K J x v
  | _, _, .non, _ => .non
  | _, _, .bl b, _ => .bl b
  | _, _, .int i, _ => .int i
  | _, _, .str x, _ => .str x
  | _, _, .tuple s r, e => .tuple (h _ _ s) (DenL.clean r (by simpa [cleanD] using e))
  | _, _, .list _ _, e => by simp [cleanD] at e
  | _, _, .dict _ _, e => by simp [cleanD] at e
  | _, _, .dictT _ _ _, e => by simp [cleanD] at e
  | _, _, .exn _, e => by simp [cleanD] at e
theorem DenL.clean : ∀ {x : List D} {v : List V}, DenL K I x v → cleanDs x = true → DenL K J x v
  | _, _, .nil, _ => .nil
  | _, _, .cons a b, e => by
    simp only [cleanDs, Bool.and_eq_true] at e
    exact .cons (Den.clean a e.1) (DenL.clean b e.2)
end
theorem DenK.clean : ∀ {x : List (D × D)} {v : List (Key × V)}, DenK K I x v → (x.all fun p => cleanD p.2) = true → DenK K J x v
  | _, _, .nil, _ => .nil
  | _, _, .cons a b, e => by
    simp only [List.all_cons, Bool.and_eq_true] at e
    exact .cons (a.clean h e.1) (DenK.clean b e.2)
mutual
theorem Own.clean : ∀ {o : O} {v : V} {S : Pd}, Own K mg I H o v S → cleanO o = true → Own K mg J H o v S
  | _, _, _, .un, e => by simp [cleanO] at e
  | _, _, _, .scr q, e => by simp [cleanO] at e
  | _, _, _, .d q, e => .d (q.clean h (by simpa [cleanO] using e))
  | _, _, _, .kst q r, e => by simp [cleanO] at e
  | _, _, S, .lst a b c d x, e => .lst a b (Owns.clean c (by simpa [cleanO] using e)) d x
  | _, _, _, .tup a b, e => .tup (h _ _ a) (Owns.clean b (by simpa [cleanO] using e))
  | _, _, _, .dic a b c, e => .dic a b (c.clean h (by simpa [cleanO] using e))
  | _, _, _, .dicT a b c, e => by simp [cleanO] at e
  | _, _, _, .obj a b c d x f, e => by simp [cleanO] at e
theorem Owns.clean : ∀ {o : List O} {v : List V} {S : Pd}, Owns K mg I H o v S → cleanOs o = true → Owns K mg J H o v S
  | _, _, _, .nil, _ => .nil
  | _, _, _, .cons a b c d x, e => by
    simp only [cleanOs, Bool.and_eq_true] at e
    exact .cons (Own.clean a e.1) (Owns.clean b e.2) c d x
end
end
/-! ### arguments that are views of what the slots own -/
inductive VsT (K : PySem.W.Frag) (mg : Str → Option Value) (I H : Hp) (T : Pd) : List O → List V → Prop
  | nil : VsT K mg I H T [] []
  | cons {x : O} {xs : List O} {v : V} {vs : List V} {S : Pd} : Own K mg I H x v S → (∀ a, S a → T a) → VsT K mg I H T xs vs → VsT K mg I H T (x :: xs) (v :: vs)
section
variable {K : PySem.W.Frag} {mg : Str → Option Value} {I H I1 H1 : Hp} {φ : Ph} {ρ : Env} {σ : St}
theorem VsT.grow {T : Pd} (g : Grw K mg φ ρ σ I H I1 H1) : ∀ {os : List O} {vs : List V}, VsT K mg I H T os vs → VsT K mg I1 H1 T os vs
  | _, _, .nil => .nil
  | _, _, .cons a b c => .cons (a.grow g) b (VsT.grow g c)
theorem VsT.vws {T : Pd} : ∀ {os : List O} {vs : List V}, VsT K mg I H T os vs → Vws K mg I H os vs
  | _, _, .nil => .nil
  | _, _, .cons a b c => .cons a (VsT.vws c)
def VPb (K : PySem.W.Frag) (mg : Str → Option Value) (φ : Ph) (ρ : Env) (σ : St) (I H : Hp) (Q : List V → Hp → Prop) : Option (List O) → Prop
  | some os => ∀ vs I' H', Grw K mg φ ρ σ I H I' H' → VsT K mg I' H' (al φ) os vs → Q vs H'
  | none => False
theorem VPb.grow {Q : List V → Hp → Prop} (g : Grw K mg φ ρ σ I H I1 H1) {r : Option (List O)} (h : VPb K mg φ ρ σ I H Q r) : VPb K mg φ ρ σ I1 H1 Q r := by
  cases r with
  | none => exact h
  | some o => exact fun v I' H' g' w => h v I' H' (g.trans g') w
def rdVb (K : PySem.W.Frag) (mg : Str → Option Value) (f : Env → Option (List O)) : TA := fun σ H Q => ∃ ρ I φ, Gd K mg I H φ ρ σ ∧ VPb K mg φ ρ σ I H Q (f ρ)
end
abbrev VB (X : Cx) (es : List Expr) (f : Env → Option (List O)) : Prop := PA X es (rdVb X.K X.mg f)
def Vw.dat (f : Env → Option O) : Env → Option O := fun ρ => (f ρ).bind fun o => (EV.dat o).map .d
def Vw.pl (p : Pl) : Env → Option O := fun ρ => p.get ρ
section
variable {X : Cx} {W : WX} {pos : Pos} {a b c e : Expr} {es : List Expr} {f : Env → Option O} {g : Env → Option (List O)}
theorem vb_nil : VB X [] Vw.nil := PA.weak pa_nil fun _ _ _ ⟨_, _, _, gd, h⟩ => h [] _ _ (Grw.refl gd) .nil
/-- an argument that is data -/
theorem vb_d (ha : VE X e f) (hr : VB X es g) (hs : starEach (e :: es) X.env = (false, eval e X.env) :: starEach es X.env := by rfl) : VB X (e :: es) (Vw.cons (Vw.dat f) g) := by
  refine PA.weak (pa_cons ha hr hs) fun σ H Q ⟨ρ, I, φ, gd, h⟩ => ⟨ρ, I, φ, gd, ?_⟩
  unfold Vw.cons Vw.dat at h
  cases e1 : f ρ with
  | none => rw [e1] at h; exact h
  | some x =>
    rw [e1, Option.bind_some] at h
    intro v S I1 H1 g1 w
    cases e3 : EV.dat x with
    | none => rw [e3] at h; exact h.elim
    | some d =>
      rw [e3] at h
      have := dat_ok e3
      subst this
      refine ⟨ρ, I1, φ, g1.gd, ?_⟩
      cases e2 : g ρ with
      | none => rw [e2] at h; exact h
      | some xs =>
        rw [e2] at h
        exact fun vs I2 H2 g2 ws => h (v :: vs) I2 H2 (g1.trans g2) (.cons (S := noP) (w.grow g2).d_any (fun _ z => z.elim) ws)
/-- a place -/
theorem vb_pl {pl : Pl} (ha : PlE X e pl) (hr : VB X es g) (hs : starEach (e :: es) X.env = (false, eval e X.env) :: starEach es X.env := by rfl) : VB X (e :: es) (Vw.cons (Vw.pl pl) g) := by
  refine PA.weak (pa_cons ha hr hs) fun σ H Q ⟨ρ, I, φ, gd, h⟩ => ?_
  unfold Vw.cons Vw.pl at h
  cases e1 : pl.get ρ with
  | none => rw [e1] at h; exact h.elim
  | some x =>
    rw [e1, Option.bind_some] at h
    obtain ⟨v, S, hv, at_⟩ := gd.at e1
    refine ⟨v, hv, ρ, I, φ, gd, ?_⟩
    cases e2 : g ρ with
    | none => rw [e2] at h; exact h
    | some xs =>
      rw [e2] at h
      obtain ⟨i, hi⟩ := at_.sub
      exact fun vs I2 H2 g2 ws => h (v :: vs) I2 H2 g2 (.cons (at_.own.grow g2) (fun a q => ⟨i, hi a q⟩) ws)
theorem VsT.frz {T : Pd} {I H J : Hp} {K : PySem.W.Frag} {mg : Str → Option Value} (hi : RdLe I J) (hh : ∀ a o, T a → H a = some o → J a = some o) : ∀ {os xs : List O} {vs : List V}, VsT K mg I H T os vs → frzArgs os = some xs → Owns K mg J H xs vs noP
  | _, _, _, .nil, e => by rw [frzArgs] at e; cases e; exact .nil
  | _, _, _, .cons a b c, e => by
    rw [frzArgs] at e
    split at e
    · rename_i x xs e1 e2
      cases e
      refine .cons (S1 := noP) (S2 := noP) ?_ (VsT.frz hi hh c e2) (fun _ q => q) (fun _ q => q) (fun _ q => q.elim)
      rcases frzA_cases e1 with ⟨ys, rfl, rfl⟩ | ⟨y, e3, rfl⟩
      · cases a with
        | scr q => exact .scr (hi.sqL q)
      · exact .d (Own.frz hi (fun p o s q => hh p o (b p s) q) a e3)
    · cases e
theorem frzArgs_allD : ∀ {os xs : List O} {ds : List D}, allD os = some ds → frzArgs os = some xs → xs = os
  | [], _, _, _, e => by rw [frzArgs] at e; cases e; rfl
  | o :: os, _, _, h, e => by
    have e' : ∃ x, o = .d x := by cases o <;> simp [EV.allD] at h ⊢
    obtain ⟨x, rfl⟩ := e'
    rw [EV.allD, Option.map_eq_some_iff] at h
    obtain ⟨ys, e2, rfl⟩ := h
    rw [frzArgs] at e
    split at e
    · rename_i y xs e1 e3
      cases e
      have : frzA (O.d x) = some (O.d x) := rfl
      rw [this] at e1
      cases e1
      rw [frzArgs_allD e2 e3]
    · cases e
/-- a call's world: the arguments frozen ahead, as they were behind -/
theorem callP_core {I H : Hp} {φ : Ph} {ρ : Env} {σ : St} {os xs : List O} {vs : List V} {K : PySem.W.Frag} {mg : Str → Option Value} (gd : Gd K mg I H φ ρ σ) (ws : VsT K mg I H (al φ) os vs) (e : frzArgs os = some xs) :
    ∃ I0, Holds I0 H noP ∧ Owns K mg I0 H xs vs noP ∧ ∀ (v : V) (r : O) (I' H' : Hp) (G' : Pd), ((allD os).isSome || cleanO r) = true → Stp I0 H noP I' H' G' → Holds I' H' G' → Own K mg I' H' r v G' →
      ∃ I2, Stp I H noP I2 H' G' ∧ Gd K mg I2 H' φ ρ σ ∧ Tm I2 H' φ G' ∧ Own K mg I2 H' r v G' := by
  have tk : ∀ i a, φ i a → ∃ o, H a = some o := fun i a q => Option.ne_none_iff_exists'.mp (gd.th i a q)
  have tmOf : ∀ {I2 H' : Hp} {I0 I' : Hp} {G' : Pd}, Stp I0 H noP I' H' G' → (∀ a, G' a → I2 a = none) → (∀ a, G' a → H' a ≠ none) → Tm I2 H' φ G' := fun {I2 H' I0 I' G'} s h1 h2 => ⟨h1, h2, fun i a g q => by
    obtain ⟨o, ho⟩ := tk i a q
    rcases s.fr a g with z | z
    · exact z
    · rw [ho] at z; cases z⟩
  cases ea : allD os with
  | some ds =>
    refine ⟨I, ⟨gd.le, fun _ q => q.elim, fun _ q => q.elim⟩, ?_, fun v r I' H' G' _ s hd w => ?_⟩
    · have := frzArgs_allD ea e
      subst this
      have dl := ws.vws.allD ea
      have : xs = ds.map .d := by
        clear e ws dl
        induction xs generalizing ds with
        | nil => rw [EV.allD] at ea; cases ea; rfl
        | cons x xs ih =>
          have e' : ∃ y, x = .d y := by cases x <;> simp [EV.allD] at ea ⊢
          obtain ⟨y, rfl⟩ := e'
          rw [EV.allD, Option.map_eq_some_iff] at ea
          obtain ⟨ys, e2, rfl⟩ := ea
          rw [List.map_cons, ← ih _ e2]
      rw [this]
      exact Owns.ofDen dl
    · exact ⟨I', s, (gd.past s (fun _ _ z => z) hd.le).1, tmOf s hd.dj hd.th, w⟩
  | none =>
    -- the footprints without tuples are frozen
    have gt : Gd K mg I H (fun i => noTup H (φ i)) ρ σ := ⟨gd.le, fun i a q => gd.dj i a q.1, fun i a q => gd.th i a q.1, fun i j a q r => gd.sep i j a q.1 r.1, fun i o e n => by
      obtain ⟨v, e1, w⟩ := gd.sl i o e n
      exact ⟨v, e1, w.tight⟩⟩
    have T : Pd := al fun i => noTup H (φ i)
    have wt : VsT K mg I H (al fun i => noTup H (φ i)) os vs := by
      clear e ea
      induction ws with
      | nil => exact .nil
      | cons a b c ih => exact .cons a.tight (fun x q => by
          obtain ⟨i, q1⟩ := b x q.1
          exact ⟨i, q1, q.2⟩) ih
    have djT : ∀ a, al (fun i => noTup H (φ i)) a → I a = none := fun a ⟨i, q⟩ => gd.dj i a q.1
    refine ⟨addI I H (al fun i => noTup H (φ i)), ⟨addI_le gd.le, fun _ q => q.elim, fun _ q => q.elim⟩, wt.frz (RdLe.of (addI_same djT)) (fun a o q h => by rw [addI_in q]; exact h) e, fun v r I' H' G' hc s hd w => ?_⟩
    have hc : cleanO r = true := by simpa using hc
    -- back
    have off : ∀ a, al φ a → ∀ vs, I' a ≠ some (.tup vs) := by
      rintro a ⟨i, q⟩ vs z
      by_cases t : ∀ vs, H a ≠ some (.tup vs)
      · obtain ⟨o, ho⟩ := tk i a q
        have h1 : addI I H (al fun i => noTup H (φ i)) a = some o := by rw [addI_in ⟨i, q, t⟩]; exact ho
        have h2 := s.li a o h1
        rw [z] at h2
        cases h2
        exact t vs ho
      · have nt : ¬ al (fun i => noTup H (φ i)) a := fun ⟨j, q2⟩ => t q2.2
        rcases s.fi a _ z with y | y | y
        · rw [addI_out nt, gd.dj i a q] at y; cases y
        · exact y
        · obtain ⟨o, ho⟩ := tk i a q
          rw [ho] at y; cases y
    open Classical in
    let I2 : Hp := fun a => if al φ a then none else I' a
    have i2in : ∀ a, al φ a → I2 a = none := fun a q => if_pos q
    have i2out : ∀ a, ¬ al φ a → I2 a = I' a := fun a q => if_neg q
    have keep : ∀ a o, I a = some o → I2 a = some o := fun a o ho => by
      have na : ¬ al φ a := fun ⟨i, q⟩ => by rw [gd.dj i a q] at ho; cases ho
      rw [i2out a na]
      refine s.li a o ?_
      rw [addI_out fun z => by rw [djT a z] at ho; cases ho]
      exact ho
    have le2 : Same I2 H' := fun a o ho => by
      by_cases q : al φ a
      · rw [i2in a q] at ho; cases ho
      · rw [i2out a q] at ho; exact hd.le a o ho
    have kp : ∀ a o, H a = some o → H' a = some o := fun a o ho => s.kp a o ho id
    refine ⟨I2, ⟨keep, fun a o ho _ => kp a o ho, fun a q => ?_, fun a o ho => ?_⟩, ⟨le2, fun i a q => i2in a ⟨i, q⟩, fun i a q => ?_, gd.sep, fun i o e n => ?_⟩, tmOf s (fun a g => ?_) hd.th, w.clean (fun a vs z => ?_) hc⟩
    · exact s.fr a q
    · by_cases q : al φ a
      · rw [i2in a q] at ho; cases ho
      · rw [i2out a q] at ho
        rcases s.fi a o ho with y | y | y
        · rw [addI_out (fun z => q (let ⟨i, z⟩ := z; ⟨i, z.1⟩))] at y
          exact .inl y
        · exact y.elim
        · exact .inr (.inr y)
    · obtain ⟨o, ho⟩ := tk i a q
      rw [kp a o ho]; exact Option.some_ne_none _
    · obtain ⟨u, e1, w1⟩ := gd.sl i o e n
      exact ⟨u, e1, w1.step (RdLe.of keep) fun a x _ z => kp a x z⟩
    · by_cases q : al φ a
      · exact i2in a q
      · rw [i2out a q]; exact hd.dj a g
    · have na : ¬ al φ a := fun q => off a q vs z
      rw [i2out a na]; exact z

/-- a call whose arguments are views: nothing in the slots changes -/
def Vw.callP (n : Nat) (m : List O → FRes) (fs : Env → Option (List O)) : Env → Option O := fun ρ => (fs ρ).bind fun os => (frzArgs os).bind fun xs => if xs.length = n then (match m xs with
  | .ok r [] => if ((allD os).isSome || cleanO r) = true then (frz r).map .d else none
  | _ => none) else none
def E.callP (n : Nat) (m : List O → FRes) (fs : Env → Option (List O)) : M O := fun ρ => match (fs ρ).bind fun os => (frzArgs os).map fun xs => (os, xs) with
  | some (os, xs) => if xs.length = n then (match m xs with
    | .ok r [] => if ((allD os).isSome || cleanO r) = true then .ok r ρ else .stuck
    | .exc c [] => .exc c ρ
    | _ => .stuck) else .stuck
  | none => .stuck
theorem takesW0 : Takes X W0 := fun u s' ⟨_, _, _, _, _, _, _, _, _, _, _, _, _, _, _, _, w⟩ => w.elim
variable {k : Nat} {fa : Addr} {fd : FuncData} {ps : List Str} {m : List O → FRes} {x : Str} {p : Pos} {fs : Env → Option (List O)}
theorem ve_callP (F : FE X.prog X.w X.K X.mg X.base k fa fd ps [] m) (hr : Room k X.A) (hgd : X.A.guards = some []) (hg : Gl X x) (hm : X.mg x = some (.ref fa)) (hk : PySem.W.keepIn X.K (.ref fa) = true) (hb : Binds X.K fd ps []) (tk : Takes X W)
    (ha : VB X (e :: es) fs) (hdb : (x == ("__debug__" : Str)) = false := by decide) (he : starEach (e :: es) X.env = (false, eval e X.env) :: starEach es X.env := by rfl) (hpl : (backTo pos (starEach es X.env)).any (·.1) = false := by rfl) :
    VE X (.Call (.Name x p) (e :: es) [] pos) (Vw.callP ps.length m fs) := by
  refine PE.weak (pe_callG F hr hgd hg hm hk hb (fun σ => passAt tk σ) ha hdb he hpl) fun σ H Q ⟨ρ, I, φ, gd, h⟩ => ⟨ρ, I, φ, gd, ?_⟩
  unfold Vw.callP at h
  cases e1 : fs ρ with
  | none => rw [e1] at h; exact h.elim
  | some os =>
    rw [e1, Option.bind_some] at h
    intro vs I1 H1 g1 ws
    have h := h.grow g1
    cases e2 : frzArgs os with
    | none => rw [e2] at h; exact h.elim
    | some xs =>
      rw [e2, Option.bind_some] at h
      obtain ⟨I0, hd0, ow, back⟩ := callP_core g1.gd ws e2
      split at h
      case isFalse => exact h.elim
      rename_i hl
      refine ⟨xs, I0, noP, hl, hd0, ow, ?_⟩
      split at h
      · rename_i r em
        rw [em]
        split at h
        · rename_i hc
          cases e5 : EV.frz r with
          | none => rw [e5] at h; exact h.elim
          | some d =>
            rw [e5] at h
            intro v H' I' G' s hd w
            cases w with
            | cons a b c _ dis =>
              obtain ⟨I2, s2, g2, t2, w2⟩ := back v r I' H' G' hc s hd (a.mono c)
              obtain ⟨g3, _⟩ := g2.freeze t2
              refine h v noP (addI I2 H' G') H' ⟨⟨fun a x e => addI_same t2.dj a x (s2.li a x e), s2.kp, fun _ q => q.elim, fun a x e => ?_⟩, g3⟩ (.d (w2.den e5 t2.dj))
              by_cases g : G' a
              · exact .inr (s2.fr a g)
              · rw [addI_out g] at e; exact s2.fi a x e
        · exact h.elim
      · exact h.elim
theorem ee_callP (F : FE X.prog X.w X.K X.mg X.base k fa fd ps [] m) (hr : Room k X.A) (hgd : X.A.guards = some []) (hg : Gl X x) (hm : X.mg x = some (.ref fa)) (hk : PySem.W.keepIn X.K (.ref fa) = true) (hb : Binds X.K fd ps []) (tk : Takes X W)
    (ha : VB X (e :: es) fs) (hdb : (x == ("__debug__" : Str)) = false := by decide) (he : starEach (e :: es) X.env = (false, eval e X.env) :: starEach es X.env := by rfl) (hpl : (backTo pos (starEach es X.env)).any (·.1) = false := by rfl) :
    EE X W (.Call (.Name x p) (e :: es) [] pos) (E.callP ps.length m fs) := by
  refine PE.weak (pe_callG F hr hgd hg hm hk hb (fun σ => passAt tk σ) ha hdb he hpl) fun σ H Q ⟨ρ, I, φ, gd, h⟩ => ⟨ρ, I, φ, gd, ?_⟩
  unfold E.callP at h
  cases e1 : fs ρ with
  | none => rw [e1] at h; exact h.elim
  | some os =>
    rw [e1, Option.bind_some] at h
    intro vs I1 H1 g1 ws
    have h := h.shift (g1.stp gd)
    cases e2 : frzArgs os with
    | none => rw [e2] at h; exact h.elim
    | some xs =>
      rw [e2, Option.map_some] at h
      simp only at h
      obtain ⟨I0, hd0, ow, back⟩ := callP_core g1.gd ws e2
      split at h
      case isFalse => exact h.elim
      rename_i hl
      refine ⟨xs, I0, noP, hl, hd0, ow, ?_⟩
      have stp : ∀ {I2 H' : Hp} {G' : Pd}, Stp I1 H1 noP I2 H' G' → Stp I1 H1 (al φ) I2 H' (orP (al φ) G') := fun s => ((s.frame (G := al φ) fun a ⟨i, q⟩ => g1.gd.th i a q).from fun a q => q.elim False.elim id).sub fun a q => q.symm
      cases em : m xs with
      | stuck => rw [em] at h; exact h.elim
      | ok r outs =>
        rw [em] at h
        cases outs with
        | cons _ _ => exact h.elim
        | nil =>
          have h : PostE X.K X.mg W σ I1 H1 (al φ) Q (if ((allD os).isSome || cleanO r) = true then .ok r ρ else .stuck) := h
          split at h
          case isFalse => exact h.elim
          rename_i hc
          intro v H' I' G' s hd w
          cases w with
          | cons a b c d dis =>
            obtain ⟨I2, s2, g2, t2, w2⟩ := back v r I' H' G' hc s hd (a.mono c)
            exact h v H' I2 φ G' (stp s2) g2 t2 w2
      | exc c outs =>
        rw [em] at h
        cases outs with
        | cons _ _ => exact h.elim
        | nil =>
          intro C H' I' G' eC s hd w
          obtain ⟨I2, s2, g2, t2, w2⟩ := back .non (.d .none) I' H' G' (by simp [cleanO, cleanD]) s hd (.d .non)
          exact h C H' I2 φ eC ((stp s2).sub fun a q => .inl q) g2
end
end EV

/-! The layer EV, part R: what the top has written, a def with all that a call asks, the law's end. -/
namespace EV
open PySem PySem.Spec PyProof.Rows L2

/-- an atom of a module's tuple -/
def dvOf : D → He.Dv
  | .int i => .int i
  | .str x => .str x
  | .bool b => .bl b
  | _ => .non
def atomic : D → Bool
  | .int _ | .str _ | .bool _ | .none => true
  | _ => false
theorem den_dv {K : PySem.W.Frag} {I : Hp} {d : D} (h : atomic d = true) : Den K I d ((dvOf d).v K) := by
  cases d <;> first | (cases h; done) | constructor
theorem denL_dv {K : PySem.W.Frag} {I : Hp} : ∀ {ds : List D}, ds.all atomic = true → DenL K I ds ((ds.map dvOf).map (He.Dv.v K))
  | [], _ => .nil
  | d :: ds, h => by
    rw [List.all_cons, Bool.and_eq_true] at h
    exact .cons (den_dv h.1) (denL_dv h.2)
/-- what isinstance asks of an exception's class -/
def excB (K : PySem.W.Frag) (c : Str) : Bool := He.eqO (PySem.W.findIn K (.ref (He.ga K c)) "__getattribute__") (some (some (.builtin "BaseException.__getattribute__"))) &&
  (He.eqO (PySem.W.findIn K (.ref (He.ga K c)) "__getattr__") (some none) && (decide (PySem.W.subIn K (.ref (He.ga K c)) (.type "BaseException") = some true) && (PySem.W.hasDictIn K (He.ga K c) &&
  (He.eqO (PySem.W.findIn K (.ref (He.ga K c)) "__class__") (some (some (.builtin "object.__class__"))) && (He.eqO (PySem.W.specialIn K (.builtin "object.__class__") "__get__") (some (some (.builtin "getset_descriptor.__get__"))) &&
  (decide (PySem.W.takesIn K (.builtin "object.__class__") = some true) && decide (PySem.W.mroIn K (He.ga K c) (.type "object") = some true)))))))
theorem excB_ok {K : PySem.W.Frag} {c : Str} (h : excB K c = true) : ExcC K (He.ga K c) := by
  obtain ⟨h1, h⟩ := He.ba h
  obtain ⟨h2, h⟩ := He.ba h
  obtain ⟨h3, h⟩ := He.ba h
  obtain ⟨h4, h⟩ := He.ba h
  obtain ⟨h5, h⟩ := He.ba h
  obtain ⟨h6, h⟩ := He.ba h
  obtain ⟨h7, h8⟩ := He.ba h
  exact ⟨He.eqO_ok h1, He.eqO_ok h2, of_decide_eq_true h3, h4, He.eqO_ok h5, He.eqO_ok h6, of_decide_eq_true h7, of_decide_eq_true h8⟩
/-- the module's exception classes, each with those that stand above it (and itself) -/
def excsB (K : PySem.W.Frag) (xs : List (Str × List Str)) : Bool := xs.all fun p => excB K p.1 && (decide (PySem.W.kitOne K (.ref (He.ga K p.1)) (.type "ValueError") = some true) &&
  xs.all fun q => decide (PySem.W.kitOne K (.ref (He.ga K p.1)) (.ref (He.ga K q.1)) = some (p.2.contains q.1)))
/-- a module's tables: tuples, exception classes -/
structure Tb where
  tabs : List (Str × List D) := []
  excs : List (Str × List Str) := []
def tbB (K : PySem.W.Frag) (ts : Tb) : Bool := (ts.tabs.all fun t => He.tupB K t.1 (t.2.map dvOf)) && excsB K ts.excs
/-- the Hook: facts, defs, tuples -/
def obsT (fa : List He.Fa) (fn : List He.DefD) (ts : Tb) (K : PySem.W.Frag) : He.AlD × Bool := (He.obsD fa fn K, tbB K ts)
def obsTG (n : Nat) (fa : List He.Fa) (fn : List He.DefD) (ts : Tb) (g : Addr → Option Obj) : He.AlD × Bool := obsT fa fn ts (He.frG g (He.asD g n))
def hookT (n : Nat) (fa : List He.Fa) (fn : List He.DefD) (ts : Tb) : PySem.W.Hook where
  α := He.AlD × Bool
  obs := fun s => obsTG n fa fn ts s.heap.get?
  val := fun _ => (He.valD fn, true)
  says := fun _ h => ∃ K : PySem.W.Frag, K.In h ∧ He.SaysD fa fn K ∧ tbB K ts = true
  of := fun _ _ e => ⟨_, He.frG_in, congrArg Prod.fst e, congrArg Prod.snd e⟩
  keeps := fun _ _ _ ⟨K, hK, c⟩ k => ⟨K, PySem.W.Frag.In.keeps hK k, c⟩
theorem obsTG_eq {n : Nat} {fa : List He.Fa} {fn : List He.DefD} {ts : Tb} {g : Addr → Option Obj} {s : Shared} (h : ∀ a, g a = s.heap.get? a) : obsTG n fa fn ts g = (hookT n fa fn ts).obs s := by
  have e : g = s.heap.get? := funext h
  rw [e] <;> rfl
/-- what the top has written -/
structure Ya (fa : List He.Fa) (fn : List He.DefD) (ts : Tb) (K : PySem.W.Frag) (mg : Str → Option Value) : Prop where
  says : He.SaysD fa fn K
  tabs : tbB K ts = true
  ns : ∃ h : Heap, K.In h ∧ h.Ns mainGlobals mg
section
variable {fa : List He.Fa} {fn : List He.DefD} {ts : Tb} {K : PySem.W.Frag} {mg : Str → Option Value}
theorem Ya.glo (Y : Ya fa fn ts K mg) (i : Nat) {x : Str} (h : fa[i]? = some (.glo x) := by rfl) : mg x = some (.ref (He.ga K x)) := by
  obtain ⟨hp, h1, h2⟩ := Y.ns
  exact He.glo_ok h1 h2 (Y.says.fact i h)
theorem Ya.free (Y : Ya fa fn ts K mg) (i : Nat) {x : Str} (h : fa[i]? = some (.free x) := by rfl) : mg x = none := by
  obtain ⟨hp, h1, h2⟩ := Y.ns
  exact He.free_ok h1 h2 (Y.says.fact i h)
theorem Ya.int (Y : Ya fa fn ts K mg) (i : Nat) {x : Str} {n : Int} (h : fa[i]? = some (.int x n) := by rfl) : ∃ t, mg x = some (.int n t) := by
  obtain ⟨hp, h1, h2⟩ := Y.ns
  exact He.int_ok h1 h2 (Y.says.fact i h)
end
/-- a def of the module, with all that a call asks -/
def Fn (P : Program) (w : World) (K : PySem.W.Frag) (mg : Str → Option Value) (base : Heap) (x : Str) (k : Nat) (ps : List Str) (io : List Nat) (m : List O → FRes) : Prop :=
  ∃ (f : Addr) (fd : FuncData), mg x = some (.ref f) ∧ FE P w K mg base k f fd ps io m ∧ PySem.W.keepIn K (.ref f) = true ∧ Binds K fd ps [] ∧ (∃ oc od osl, K.lookup f = some ⟨oc, od, .func fd, osl⟩) ∧
    ∀ (s : Shared) (us : List Value), us.length = ps.length → BindsTo s fd ⟨us, []⟩ (ps.zip us)
theorem Fn.of {nm : Str} {P : Program} {w : World} {fa : List He.Fa} {fn : List He.DefD} {ts : Tb} {K : PySem.W.Frag} {mg : Str → Option Value} {base : Heap} {x : Str} {st : Stmt} {k : Nat} {N ps : List Str} {io : List Nat} {body : M Fl} (Y : Ya fa fn ts K mg) (i j : Nat)
    (hi : fn[i]? = some ⟨(x, none), nm, nm, defArgs st, defBody st, defScope st, [], []⟩) (hj : fa[j]? = some (.glo x)) (S : FnScope N ps (defScope st)) (hio : io.Nodup) (hps : ∀ i ∈ io, i < ps.length)
    (hb : ∀ (kV doc pm : Value) (an : Option Addr) (cdv ct : Value) (us : List Value), us.length = ps.length → bindArgs (PySem.W.fnOf nm nm (defArgs st) (defBody st) (defScope st) .none kV doc pm an cdv ct) ⟨us, []⟩ = pure (ps.zip us))
    (hbody : ∀ (f : Addr) (cdv : Value) (A : Around) (outer : List PySem.Env) (s : Shared) (H : Hp) (E : XK), Room k (cxOf (L2.CX P w) P w K mg base N nm (defScope st) f cdv A outer s H E).A → (cxOf (L2.CX P w) P w K mg base N nm (defScope st) f cdv A outer s H E).A.guards = some [] →
      Takes (cxOf (L2.CX P w) P w K mg base N nm (defScope st) f cdv A outer s H E) (fun cls d _ H => E cls d H) → EB (cxOf (L2.CX P w) P w K mg base N nm (defScope st) f cdv A outer s H E) (fun cls d _ H => E cls d H) io (defBody st) body) :
    Fn P w K mg base x (k + 1) ps io (runF io N.length body) := by
  obtain ⟨fd, F⟩ := Y.says.def_ i hi
  have F0 := F
  obtain ⟨⟨oc, od, dV, kV, doc, pm, an, cdv, ct, osl, rfl, lk, hcd, hD, hK⟩, kp⟩ := F
  rcases hD with ⟨_, rfl⟩ | ⟨e, _⟩
  · have F1 : Fun K nm nm st (He.fAd K (x, none)) _ := fun_mk lk hcd kp
    exact ⟨_, _, Y.glo j hj, fe_of F1 S hio hps (hbody _), kp, F1.binds hb, ⟨_, _, _, lk⟩, fun s us hl => .of_eq (hb kV doc pm an cdv ct us hl)⟩
  · exact absurd rfl e
section
variable {X : Cx} {W : WX} {pos p : Pos} {e : Expr} {es : List Expr} {x : Str} {k k0 : Nat} {ps : List Str} {m : List O → FRes}
theorem ve_fn {fs : Env → Option (List O)} (F : Fn X.prog X.w X.K X.mg X.base x k ps [] m) (hr : Room k0 X.A) (hgd : X.A.guards = some []) (ha : VB X (e :: es) fs) (hk : k ≤ k0 := by first | decide | omega) (hg : Gl X x := by rfl) (hdb : (x == ("__debug__" : Str)) = false := by decide)
    (he : starEach (e :: es) X.env = (false, eval e X.env) :: starEach es X.env := by rfl) (hpl : (backTo pos (starEach es X.env)).any (·.1) = false := by rfl) : VE X (.Call (.Name x p) (e :: es) [] pos) (Vw.callP ps.length m fs) := by
  obtain ⟨f, fd, hm, F, kp, hb, _⟩ := F
  exact ve_callP F (hr.mono hk) hgd hg hm kp hb takesW0 ha hdb he hpl
theorem ee_fnP {fs : Env → Option (List O)} (F : Fn X.prog X.w X.K X.mg X.base x k ps [] m) (hr : Room k0 X.A) (hgd : X.A.guards = some []) (tk : Takes X W) (ha : VB X (e :: es) fs) (hk : k ≤ k0 := by first | decide | omega) (hg : Gl X x := by rfl) (hdb : (x == ("__debug__" : Str)) = false := by decide)
    (he : starEach (e :: es) X.env = (false, eval e X.env) :: starEach es X.env := by rfl) (hpl : (backTo pos (starEach es X.env)).any (·.1) = false := by rfl) : EE X W (.Call (.Name x p) (e :: es) [] pos) (E.callP ps.length m fs) := by
  obtain ⟨f, fd, hm, F, kp, hb, _⟩ := F
  exact ee_callP F (hr.mono hk) hgd hg hm kp hb tk ha hdb he hpl
theorem ee_fn {fa : M (List O)} (F : Fn X.prog X.w X.K X.mg X.base x k ps [] m) (hr : Room k0 X.A) (hgd : X.A.guards = some []) (tk : Takes X W) (ha : EA X W (e :: es) fa) (hk : k ≤ k0 := by first | decide | omega) (hg : Gl X x := by rfl) (hdb : (x == ("__debug__" : Str)) = false := by decide)
    (he : starEach (e :: es) X.env = (false, eval e X.env) :: starEach es X.env := by rfl) (hpl : (backTo pos (starEach es X.env)).any (·.1) = false := by rfl) : EE X W (.Call (.Name x p) (e :: es) [] pos) (E.call ps.length m fa) := by
  obtain ⟨f, fd, hm, F, kp, hb, _⟩ := F
  exact ee_call F (hr.mono hk) hgd hg hm kp hb tk ha hdb he hpl
theorem ee_fnIO {fa : M (List O)} (i : Nat) {y : Str} {py : Pos} (F : Fn X.prog X.w X.K X.mg X.base x k ps [0] m) (hr : Room k0 X.A) (hgd : X.A.guards = some []) (tk : Takes X W) (hy : PlE X (.Name y py) (.slot i)) (ha : EA X W es fa) (hk : k ≤ k0 := by first | decide | omega) (hg : Gl X x := by rfl) (hdb : (x == ("__debug__" : Str)) = false := by decide)
    (he : starEach (.Name y py :: es) X.env = (false, eval (.Name y py) X.env) :: starEach es X.env := by rfl) (hpl : (backTo pos (starEach es X.env)).any (·.1) = false := by rfl) : EE X W (.Call (.Name x p) (.Name y py :: es) [] pos) (E.callIO ps.length m i fa) := by
  obtain ⟨f, fd, hm, F, kp, hb, _⟩ := F
  exact ee_callIO i F (hr.mono hk) hgd hg hm kp hb tk hy ha hdb he hpl
/-- a module's int -/
theorem ve_gint {n : Int} (hm : ∃ t, X.mg x = some (.int n t)) (hg : Gl X x := by rfl) (hd : (x == ("__debug__" : Str)) = false := by decide) : VE X (.Name x pos) (Vw.c (.int n)) := by
  obtain ⟨t, hm⟩ := hm
  exact ve_c (fun _ => .int n) (pe_glob hg hm ⟨t, rfl⟩ hd)
end

/-- a module's tuple of atoms -/
theorem ve_gtup {fa : List He.Fa} {fn : List He.DefD} {ts : Tb} {x : Str} {pos : Pos} {ds : List D} {X : Cx} (Y : Ya fa fn ts X.K X.mg) (i j : Nat) (hi : fa[i]? = some (.glo x) := by rfl) (hj : ts.tabs[j]? = some (x, ds) := by rfl) (ha : ds.all atomic = true := by rfl) (hg : Gl X x := by rfl) (hd : (x == ("__debug__" : Str)) = false := by decide) : VE X (.Name x pos) (fun _ => some (.kst ds)) := by
  refine PE.weak (pe_glob (v := .ref (He.ga X.K x)) hg (Y.glo i hi) rfl hd) fun σ H Q ⟨ρ, I, φ, gd, h⟩ => ?_
  have ht := List.all_eq_true.mp (He.ba Y.tabs).1 _ (List.mem_of_getElem? hj)
  exact h _ noP I H (Grw.refl gd) (.kst (He.tupB_ok ht I) (denL_dv ha))
theorem Fn.stuck {nm : Str} {P : Program} {w : World} {fa : List He.Fa} {fn : List He.DefD} {ts : Tb} {K : PySem.W.Frag} {mg : Str → Option Value} {base : Heap} {x : Str} {st : Stmt} {k : Nat} {ps : List Str} {io : List Nat} (Y : Ya fa fn ts K mg) (i j : Nat)
    (hi : fn[i]? = some ⟨(x, none), nm, nm, defArgs st, defBody st, defScope st, [], []⟩) (hj : fa[j]? = some (.glo x))
    (hb : ∀ (kV doc pm : Value) (an : Option Addr) (cdv ct : Value) (us : List Value), us.length = ps.length → bindArgs (PySem.W.fnOf nm nm (defArgs st) (defBody st) (defScope st) .none kV doc pm an cdv ct) ⟨us, []⟩ = pure (ps.zip us)) : Fn P w K mg base x k ps io (fun _ => .stuck) := by
  obtain ⟨fd, F⟩ := Y.says.def_ i hi
  obtain ⟨⟨oc, od, dV, kV, doc, pm, an, cdv, ct, osl, rfl, lk, hcd, hD, hK⟩, kp⟩ := F
  rcases hD with ⟨_, rfl⟩ | ⟨e, _⟩
  · have F1 : Fun K nm nm st (He.fAd K (x, none)) _ := fun_mk lk hcd kp
    refine ⟨_, _, Y.glo j hj, ⟨fun vs H Q E h => ?_, fun A outer s H args us vs Q E _ _ _ _ _ h => ?_⟩, kp, F1.binds hb, ⟨_, _, _, lk⟩, fun s us hl => .of_eq (hb kV doc pm an cdv ct us hl)⟩
    · obtain ⟨os, I, G, _, _, _, h⟩ := h
      exact h.elim
    · obtain ⟨os, I, G, _, _, _, h⟩ := h
      exact h.elim
  · exact absurd rfl e

/-! ### the end -/
theorem law_callG {P : Program} {w : World} {K : PySem.W.Frag} {mg mb : Str → Option Value} {k : Nat} {fa a : Addr} {fd : FuncData} {x : Str} {sp : Sp} {s₁ : Shared} {vs : List Value} {ns : List Int}
    (KX : K.In s₁.heap) (hns : s₁.heap.Ns mainGlobals mg) (hb : s₁.heap.Ns builtinsNs mb) (hbb : ∀ x : Str, x ≠ "__name__" → mb x = bootBuiltins x) (hlim : s₁.heap.NoLimit) (hg : s₁.gens = #[])
    (ha : s₁.heap.get? a = some { cls := .type "list", data := .seq vs.toArray }) (hi : IntsAre vs ns) (hl : ns.length ≤ sizeLine) (hr : Room k callerA)
    (F : ∀ base : Heap, K.In base → base.Ns mainGlobals mg → FnG P w K mg base k fa fd [x] sp) (hbind : ∀ (s : Shared) (u : Value), BindsTo s fd ⟨[u], []⟩ [(x, u)])
    (hsp : ∀ H : Hp, Only H → SqL K H a (ns.map V.int) → sp [.ref a] H (fun v _ => v = .bl true) fun _ _ _ => False)
    (hCX : ∀ H e s', L2.CX P w [] H s₁ (fun _ _ _ => False) e s' → False) :
    codeAny (model P w) callerA (.call (.ref fa) ⟨[.ref a], []⟩) (fun r s' => r = .ok (.ret (.bool true)) ∧ OldK s₁.heap s'.heap ∧ s'.os = s₁.os ∧ AllBare s'.gens) s₁ := by
  have rv := vals_ints hi
  have lenV := hi.length
  have core : ∀ H : Hp, Only H → SqL K H a (ns.map V.int) → HOk P w H s₁.heap → (∀ b, H b ≠ none → b = a) → (H a ≠ none → K.lookup a = none) →
      codeAny (model P w) callerA (.call (.ref fa) ⟨[.ref a], []⟩) (fun r s' => r = .ok (.ret (.bool true)) ∧ OldK s₁.heap s'.heap ∧ s'.os = s₁.os ∧ AllBare s'.gens) s₁ := by
    intro H hO hS hok hA hK
    have base_of : ∀ {b : Addr} {o : Obj}, s₁.heap.get? b = some o → H b = none → (hidT s₁.heap H).get? b = some o := fun e n => hidT_get e n
    have noA : ∀ {b : Addr} {o : Obj} {es : Array DictEntry} {ep : Nat}, s₁.heap.get? b = some o → o.data = .dict es ep → H b = none := fun {b o es ep} e d => by
      cases q : H b with
      | none => rfl
      | some u =>
        have e' : b = a := hA b (by rw [q]; simp)
        subst e'
        rw [ha] at e; cases e
        have d' : Data.seq vs.toArray _ = Data.dict es ep := d
        cases d'
    have nsK : ∀ {b : Addr} {m : Str → Option Value}, s₁.heap.Ns b m → (hidT s₁.heap H).Ns b m := fun {b m} ⟨o, es, ep, e, d, r⟩ => ⟨o, es, ep, base_of e (noA e d), d, r⟩
    have hKb : K.In (hidT s₁.heap H) := fun b o e => base_of (KX b o e) (by
      cases q : H b with
      | none => rfl
      | some u =>
        have e' : b = a := hA b (by rw [q]; simp)
        subst e'
        rw [hK (by rw [q]; simp)] at e; cases e)
    have hM : Mod K mg (hidT s₁.heap H) := ⟨hKb, nsK hns, ⟨mb, nsK hb, hbb⟩, let ⟨mc, h1, h2⟩ := hlim; ⟨mc, nsK h1, h2⟩⟩
    have e0 : Env0 P w K mg (hidT s₁.heap H) callerA [] s₁ H := ⟨rfl, hM, fun b o e => of_hidT e, Nat.le_of_eq (hidT_size _ _), trivial, fun b hb => absurd (show b ∈ ([] : List Addr) from hb) (by simp), hok, .of_eq hg⟩
    refine codeAny_mono ((F _ hKb (nsK hns)).run callerA [] s₁ H ⟨[.ref a], []⟩ [.ref a] [.ref a] _ _ hr rfl e0 (hbind s₁ (.ref a)) (.cons rfl .nil) (hsp H hO hS)) fun r s' h => ?_
    cases r with
    | error e => exact (hCX H e s' h).elim
    | ok fl =>
      cases fl with
      | next => exact False.elim h
      | brk => exact False.elim h
      | cont => exact False.elim h
      | ret u =>
        obtain ⟨v, H', os, bare, un, hok', r', q⟩ := h
        have q' : v = .bl true := q
        subst q'
        obtain rfl : u = Value.bool true := r'
        refine ⟨rfl, OldK.of_keep fun b o e => ?_, os, bare⟩
        cases q : H b with
        | none => exact un.keep b o e q (by intro z; exact absurd (show b ∈ ([] : List Addr) from z) (by simp)) (by simp)
        | some u =>
          rcases hO b with z | ⟨ob, xs, z⟩
          · rw [q] at z; cases z
          · have z2 := un.frzs b ob _ z
            obtain ⟨e1, _⟩ := hok b _ z
            obtain ⟨e2, _⟩ := hok' b _ z2
            rw [e] at e1; cases e1
            exact e2
  cases hk : K.lookup a with
  | some o =>
    have e := KX a o hk
    rw [ha] at e
    cases e
    refine core (fun _ => none) (fun _ => .inl rfl) (.inr ⟨_, vs.toArray, _, hk, rfl, rfl, rfl, by rw [List.size_toArray, lenV]; exact hl, by simpa using rv⟩) (fun b u z => by have z' : (none : Option HO) = some u := z; cases z') (fun b z => absurd rfl z) fun z => absurd rfl z
  | none =>
    refine core (fun b => if b = a then some (.frz { cls := .type "list", data := .seq vs.toArray } (.lst (ns.map V.int))) else none) (fun b => ?_) (.inl (.inr ⟨{ cls := .type "list", data := .seq vs.toArray }, if_pos rfl⟩)) (fun b u z => ?_) (fun b z => ?_) fun _ => hk
    · by_cases hb : b = a
      · exact .inr ⟨_, _, if_pos hb⟩
      · exact .inl (if_neg hb)
    · by_cases hb : b = a
      · have z' := (if_pos hb).symm.trans z
        cases z'
        subst hb
        exact ⟨ha, by rw [List.length_map]; exact hl, vs, _, rv, ha⟩
      · have z' := (if_neg hb).symm.trans z
        cases z'
    · by_cases hb : b = a
      · exact hb
      · exact absurd (if_neg hb) z
/-- the law's def is worth m, m answers True for every script -/
theorem walk_G {l : PySem.W.OpenLaw} {n k : Nat} {q : Program} {loose : List Str} {XP : (Str → Option Value) → Heap → Prop} {d : DefRec} {nn : Nat} {fa : List He.Fa} {fn : List He.DefD} {ts : Tb} {m : List O → FRes} {x : Str}
    (hn : l.most = some n) (hn2 : n ≤ sizeLine) (hdf : d.params.defaults = []) (hr : Room k callerA)
    (F : ∀ (w : World) (K : PySem.W.Frag) (mg : Str → Option Value) (base : Heap), Ya fa fn ts K mg → K.In base → base.Ns mainGlobals mg → Fn l.prog w K mg base d.name k [x] [] m)
    (hm : ∀ ns : List Int, ns.length ≤ n → m [.scr ns] = .ok (.d (.bool true)) []) :
    PySem.W.WalkO q loose XP (hookT nn fa fn ts).says l.row.toRowW d [] (fun f vs => PySem.call f vs) := by
  refine Att.attach_call hn hdf fun w s₀ s₁ mg mb fad o pm cd doc a vs ns G Y ho hd hcd hmg hobj hints hlen hg => ?_
  obtain ⟨K, KX, c⟩ := Y
  have Yy : Ya fa fn ts K mg := ⟨c.1, c.2, _, KX, G.T.g⟩
  -- the def's own object, once
  obtain ⟨f, fd, e1, _, kp, _, ⟨oc, od, osl, lk⟩, hb⟩ := F w K mg s₁.heap Yy KX G.T.g
  have : f = fad := by rw [hmg] at e1; cases e1; rfl
  subst this
  have hF : ∀ base : Heap, K.In base → base.Ns mainGlobals mg → FE l.prog w K mg base k f fd [x] [] m := fun base h1 h2 => by
    obtain ⟨f', fd', e2, F', _, _, ⟨oc', od', osl', lk'⟩, _⟩ := F w K mg base Yy h1 h2
    rw [e1] at e2
    cases e2
    rw [lk] at lk'
    cases lk'
    exact F'
  refine law_callG KX G.T.g G.T.b G.T.builtins G.T.nolimit hg hobj hints (Nat.le_trans hlen hn2) hr hF (fun s u => hb s [u] rfl) (fun H hO hS => ?_) fun H e s' h => by
    obtain ⟨_, _, _, _, _, _, _, _, _, _, _, _, h⟩ := h
    exact h.elim
  refine ⟨[.scr ns], H, noP, rfl, ⟨Same.refl _, fun _ q => q.elim, fun _ q => q.elim⟩, .cons (S1 := noP) (S2 := noP) (.scr hS) .nil (fun _ q => q) (fun _ q => q) (fun _ q => q.elim), ?_⟩
  rw [hm ns hlen]
  intro v H' I' G' s hd w
  cases w with
  | cons a b c d dis => exact a.bool
end EV

/-! The layer EV, part S: parallel stores, calls of built-ins on values in hand, raise. -/
namespace EV
open PySem PySem.Spec PyProof.Rows L2
theorem hu100 {k : Nat} {A : Around} (r : Room k A) : A.units + 100 < cLine := by have := r.un; omega
namespace S
def par2 (i j : Nat) (f : M (List O)) : M Fl := f.bind fun os => fun ρ => match os with
  | [x, y] => .ok .nx ((ρ.set i x).set j y)
  | _ => .stuck
def par3 (i j l : Nat) (f : M (List O)) : M Fl := f.bind fun os => fun ρ => match os with
  | [x, y, z] => .ok .nx (((ρ.set i x).set j y).set l z)
  | _ => .stuck
end S
section
variable {X : Cx} {W : WX} {io : List Nat} {pos : Pos} {a b c e : Expr} {es : List Expr}
/-- a value in hand is stored in a slot -/
theorem Gd.store {σ : St} {I H : Hp} {φ : Ph} {ρ : Env} {K : PySem.W.Frag} {mg : Str → Option Value} {i : Nat} {o : O} {v : V} {G : Pd} (gd : Gd K mg I H φ ρ σ) (tm : Tm I H φ G) (w : Own K mg I H o v G) (hσ : i < σ.length) :
    Gd K mg I H (setP φ i G) (ρ.set i o) (σ.set i (some v)) :=
  gd.upd tm.dj tm.th (fun j a g _ => tm.sp j a g) (fun j hj => List.getElem?_set_ne (Ne.symm hj)) fun _ _ => ⟨v, List.getElem?_set_self hσ, w⟩
theorem Tm.store {I H : Hp} {φ : Ph} {i : Nat} {G G2 : Pd} (tm : Tm I H φ G2) (dis : ∀ a, G2 a → ¬ G a) : Tm I H (setP φ i G) G2 := ⟨tm.dj, tm.th, fun j a g q => by
  by_cases z : j = i
  · subst z; rw [setP_same] at q; exact dis a g q
  · rw [setP_ne z] at q; exact tm.sp j a g q⟩
theorem Tm.sub {I H : Hp} {φ : Ph} {G G2 : Pd} (tm : Tm I H φ G) (h : ∀ a, G2 a → G a) : Tm I H φ G2 := ⟨fun a g => tm.dj a (h a g), fun a g => tm.th a (h a g), fun i a g => tm.sp i a (h a g)⟩
theorem es_par2 (i j : Nat) {x y : Str} {fa : M (List O)} {px py pt : Pos} {kt k2 pt2} (hN : X.N.Nodup) (ha : EA X W [a, b] fa) (hc : X.calm = true := by rfl) (hi : X.N[i]? = some x := by rfl) (hj : X.N[j]? = some y := by rfl) (hij : i ≠ j := by decide)
    (hx : X.env.scope.names.lookup x = some .local := by rfl) (hy : X.env.scope.names.lookup y = some .local := by rfl) (hio : i ∉ io := by decide) (hjo : j ∉ io := by decide)
    (hw : swappedStores [.Tuple [.Name x px, .Name y py] kt pt] (.Tuple [a, b] k2 pt2) X.env = pure (some [x, y]) := by rfl)
    (hs : swapsWithSole [.Tuple [.Name x px, .Name y py] kt pt] (.Tuple [a, b] k2 pt2) pos.line X.env = pure false := by rfl) :
    ES X W io (.Assign [.Tuple [.Name x px, .Name y py] kt pt] (.Tuple [a, b] k2 pt2) pos) (S.par2 i j fa) := by
  refine ⟨fun pins s σ H D I0 h => (ps_par hc hN hi hj hij hx hy ha hw hs).run pins s σ H D I0 ?_⟩
  have hlen : σ.length = X.N.length := I0.len
  have hil := (List.getElem?_eq_some_iff.mp hi).1
  have hjl := (List.getElem?_eq_some_iff.mp hj).1
  obtain ⟨ρ, I, φ, gd, h⟩ := h
  refine bindA (P := PostS X.K X.mg W io σ I H (al φ) D) gd h (fun _ _ z => z.exc) (fun z => z) fun os ρ1 _ h vs H1 I1 φ1 G1 s1 gd1 t1 w1 => ?_
  split at h
  · rename_i x y
    cases w1 with
    | @cons _ _ v vs' _ S1 S2 a1 b1 c1 d1 dis =>
      cases b1 with
      | @cons _ _ u vs'' _ S3 S4 a2 b2 c2 d2 dis2 =>
        cases b2
        refine ⟨v, u, rfl, ?_⟩
        have g1 := gd1.store (i := i) (t1.sub c1) a1 (by rw [hlen]; exact hil)
        have t2 : Tm I1 H1 (setP φ1 i S1) S3 := ((t1.sub d1).sub c2).store fun q g s => dis q s (c2 q g)
        have g2 := g1.store (i := j) t2 a2 (by rw [List.length_set, hlen]; exact hjl)
        refine h _ H1 I1 _ ((keeps_set hio).trans (keeps_set hjo)) (s1.sub fun q z => ?_) g2
        rcases al_setP z with z | z
        · exact .inr (d1 q (c2 q z))
        · rcases al_setP z with z | z
          · exact .inr (c1 q z)
          · exact .inl z
  · exact h.elim
theorem es_par3 (i j l : Nat) {x y z : Str} {fa : M (List O)} {px py pz pt : Pos} {kt k2 pt2} (hN : X.N.Nodup) (ha : EA X W [a, b, c] fa) (hc : X.calm = true := by rfl) (hi : X.N[i]? = some x := by rfl) (hj : X.N[j]? = some y := by rfl) (hl : X.N[l]? = some z := by rfl) (hij : i ≠ j := by decide) (hil' : i ≠ l := by decide) (hjl' : j ≠ l := by decide)
    (hx : X.env.scope.names.lookup x = some .local := by rfl) (hy : X.env.scope.names.lookup y = some .local := by rfl) (hz : X.env.scope.names.lookup z = some .local := by rfl) (hio : i ∉ io := by decide) (hjo : j ∉ io := by decide) (hlo : l ∉ io := by decide)
    (hw : swappedStores [.Tuple [.Name x px, .Name y py, .Name z pz] kt pt] (.Tuple [a, b, c] k2 pt2) X.env = pure (some [x, y, z]) := by rfl)
    (hs : swapsWithSole [.Tuple [.Name x px, .Name y py, .Name z pz] kt pt] (.Tuple [a, b, c] k2 pt2) pos.line X.env = pure false := by rfl) :
    ES X W io (.Assign [.Tuple [.Name x px, .Name y py, .Name z pz] kt pt] (.Tuple [a, b, c] k2 pt2) pos) (S.par3 i j l fa) := by
  refine ⟨fun pins s σ H D I0 h => (ps_par3 hc hN hi hj hl hij hil' hjl' hx hy hz ha hw hs).run pins s σ H D I0 ?_⟩
  have hlen : σ.length = X.N.length := I0.len
  have hil := (List.getElem?_eq_some_iff.mp hi).1
  have hjl := (List.getElem?_eq_some_iff.mp hj).1
  have hll := (List.getElem?_eq_some_iff.mp hl).1
  obtain ⟨ρ, I, φ, gd, h⟩ := h
  refine bindA (P := PostS X.K X.mg W io σ I H (al φ) D) gd h (fun _ _ z => z.exc) (fun z => z) fun os ρ1 _ h vs H1 I1 φ1 G1 s1 gd1 t1 w1 => ?_
  split at h
  · rename_i x y z
    cases w1 with
    | @cons _ _ v vs' _ S1 S2 a1 b1 c1 d1 dis =>
      cases b1 with
      | @cons _ _ u vs'' _ S3 S4 a2 b2 c2 d2 dis2 =>
        cases b2 with
        | @cons _ _ q vs3 _ S5 S6 a3 b3 c3 d3 dis3 =>
          cases b3
          refine ⟨v, u, q, rfl, ?_⟩
          have g1 := gd1.store (i := i) (t1.sub c1) a1 (by rw [hlen]; exact hil)
          have t2 : Tm I1 H1 (setP φ1 i S1) S3 := ((t1.sub d1).sub c2).store fun q g s => dis q s (c2 q g)
          have g2 := g1.store (i := j) t2 a2 (by rw [List.length_set, hlen]; exact hjl)
          have t3 : Tm I1 H1 (setP (setP φ1 i S1) j S3) S5 := ((((t1.sub d1).sub d2).sub c3).store fun q g s => dis q s (d2 q (c3 q g))).store fun q g s => dis2 q s (c3 q g)
          have g3 := g2.store (i := l) t3 a3 (by rw [List.length_set, List.length_set, hlen]; exact hll)
          refine h _ H1 I1 _ (((keeps_set hio).trans (keeps_set hjo)).trans (keeps_set hlo)) (s1.sub fun q z => ?_) g3
          rcases al_setP z with z | z
          · exact .inr (d1 q (d2 q (c3 q z)))
          · rcases al_setP z with z | z
            · exact .inr (d1 q (c2 q z))
            · rcases al_setP z with z | z
              · exact .inr (c1 q z)
              · exact .inl z
  · exact h.elim

/-! ### built-ins on values in hand -/
theorem opN_read {r : List V → Hp → VK → Prop} {g : List O → Option O} {fa : M (List O)} (ok : VwN X r g) (hd : ∀ xs z, g xs = some z → ∃ d, z = .d d) {σ : St} {H : Hp} {Q : VK} (h : rdE X.K X.mg W (E.opN g fa) σ H Q) : tCB r (rdA X.K X.mg W fa) σ H Q := by
  obtain ⟨ρ, I, φ, gd, h⟩ := h
  refine bindA (P := PostE X.K X.mg W σ I H (al φ) Q) gd h (fun _ _ z => z) (fun z => z) fun os ρ1 _ h vs H1 I1 φ1 G1 s1 gd1 t1 w1 => ?_
  have h' := h.shift s1
  cases e : g os with
  | none => simp only [e, M.opt, M.fail] at h'; exact h'.elim
  | some z =>
    simp only [e, M.opt, M.ret] at h'
    obtain ⟨d, rfl⟩ := hd os z e
    refine ok I1 H1 φ1 ρ1 σ Q os _ vs gd1 (Vws.own w1) e fun v S I' H' g w => ?_
    exact h' v H' I' φ1 noP (((g.stp gd1).sub fun c q => q.elim id False.elim).from fun c q => .inl q) g.gd Tm.none w.d_any
theorem frN_read {r : List V → Hp → VK → Prop} {g : List O → Option O} {fa : M (List O)} (ok : FrN X r g) {σ : St} {H : Hp} {Q : VK} (h : rdE X.K X.mg W (E.opN g fa) σ H Q) : tCB r (rdA X.K X.mg W fa) σ H Q := by
  obtain ⟨ρ, I, φ, gd, h⟩ := h
  refine bindA (P := PostE X.K X.mg W σ I H (al φ) Q) gd h (fun _ _ z => z) (fun z => z) fun os ρ1 _ h vs H1 I1 φ1 G1 s1 gd1 t1 w1 => ?_
  have h' := h.shift s1
  cases e : g os with
  | none => simp only [e, M.opt, M.fail] at h'; exact h'.elim
  | some z =>
    simp only [e, M.opt, M.ret] at h'
    refine ok I1 H1 φ1 ρ1 σ Q os z vs gd1 (Vws.own w1) e fun v I' H' G s gd' t w => ?_
    exact h' v H' I' φ1 G ((((s.frame (G := al φ1) fun x ⟨i, q⟩ => gd1.th i x q).from fun x q => q.elim False.elim id).sub fun x q => q.symm).from fun x q => .inl q) gd' t w
variable {x : Str} {p : Pos} {id T : String} {r : List V → Hp → VK → Prop} {g : List O → Option O} {fa : M (List O)}
theorem ee_callBE (hc : CallR X (.builtin id) r) (ok : VwN X r g) (hd : ∀ xs z, g xs = some z → ∃ d, z = .d d) (ha : EA X W (e :: es) fa) (hm : X.mg x = none) (hg : Gl X x := by rfl) (hv : bootBuiltins x = some (.builtin id) := by rfl) (hn : x ≠ "__name__" := by decide) (hdb : (x == ("__debug__" : Str)) = false := by decide)
    (he : starEach (e :: es) X.env = (false, eval e X.env) :: starEach es X.env := by rfl) (hpl : (backTo pos (starEach es X.env)).any (·.1) = false := by rfl) : EE X W (.Call (.Name x p) (e :: es) [] pos) (E.opN g fa) :=
  PE.weak (pe_callB hc hg hm hv ha hn hdb he hpl) fun _ _ _ h => opN_read ok hd h
theorem ee_callTyE (hc : CallR X (.type T) r) (ok : VwN X r g) (hd : ∀ xs z, g xs = some z → ∃ d, z = .d d) (ha : EA X W (e :: es) fa) (hm : X.mg x = none) (hg : Gl X x := by rfl) (hv : bootBuiltins x = some (.type T) := by rfl) (hn : x ≠ "__name__" := by decide) (hdb : (x == ("__debug__" : Str)) = false := by decide)
    (he : starEach (e :: es) X.env = (false, eval e X.env) :: starEach es X.env := by rfl) (hpl : (backTo pos (starEach es X.env)).any (·.1) = false := by rfl) : EE X W (.Call (.Name x p) (e :: es) [] pos) (E.opN g fa) :=
  PE.weak (pe_callTy hc hg hm hv ha hn hdb he hpl) fun _ _ _ h => opN_read ok hd h
theorem ee_frBE (hc : CallR X (.builtin id) r) (ok : FrN X r g) (ha : EA X W (e :: es) fa) (hm : X.mg x = none) (hg : Gl X x := by rfl) (hv : bootBuiltins x = some (.builtin id) := by rfl) (hn : x ≠ "__name__" := by decide) (hdb : (x == ("__debug__" : Str)) = false := by decide)
    (he : starEach (e :: es) X.env = (false, eval e X.env) :: starEach es X.env := by rfl) (hpl : (backTo pos (starEach es X.env)).any (·.1) = false := by rfl) : EE X W (.Call (.Name x p) (e :: es) [] pos) (E.opN g fa) :=
  PE.weak (pe_callB hc hg hm hv ha hn hdb he hpl) fun _ _ _ h => frN_read ok h
theorem ee_frTyE (hc : CallR X (.type T) r) (ok : FrN X r g) (ha : EA X W (e :: es) fa) (hm : X.mg x = none) (hg : Gl X x := by rfl) (hv : bootBuiltins x = some (.type T) := by rfl) (hn : x ≠ "__name__" := by decide) (hdb : (x == ("__debug__" : Str)) = false := by decide)
    (he : starEach (e :: es) X.env = (false, eval e X.env) :: starEach es X.env := by rfl) (hpl : (backTo pos (starEach es X.env)).any (·.1) = false := by rfl) : EE X W (.Call (.Name x p) (e :: es) [] pos) (E.opN g fa) :=
  PE.weak (pe_callTy hc hg hm hv ha hn hdb he hpl) fun _ _ _ h => frN_read ok h
/-- answers that are data -/
theorem isd_len (xs : List O) (z : O) (e : o_len xs = some z) : ∃ d, z = .d d := by
  unfold o_len at e
  repeat' split at e
  all_goals first | (cases e; done) | (cases e; exact ⟨_, rfl⟩)
theorem isd_int (xs : List O) (z : O) (e : b_int xs = some z) : ∃ d, z = .d d := by
  unfold b_int at e
  repeat' split at e
  all_goals first | (cases e; done) | (cases e; exact ⟨_, rfl⟩)
theorem isd_abs (xs : List O) (z : O) (e : b_abs xs = some z) : ∃ d, z = .d d := by
  unfold b_abs at e
  repeat' split at e
  all_goals first | (cases e; done) | (cases e; exact ⟨_, rfl⟩)
theorem isd_max (xs : List O) (z : O) (e : b_max xs = some z) : ∃ d, z = .d d := by
  unfold b_max at e
  split at e
  · cases e; exact ⟨_, rfl⟩
  · rw [Option.bind_eq_some_iff] at e
    obtain ⟨ns, _, e⟩ := e
    split at e
    · cases e
    · cases e; exact ⟨_, rfl⟩
  · cases e
theorem isd_min (xs : List O) (z : O) (e : b_min xs = some z) : ∃ d, z = .d d := by
  unfold b_min at e
  split at e
  · cases e; exact ⟨_, rfl⟩
  · rw [Option.bind_eq_some_iff] at e
    obtain ⟨ns, _, e⟩ := e
    split at e
    · cases e
    · cases e; exact ⟨_, rfl⟩
  · cases e
theorem isd_sum (xs : List O) (z : O) (e : b_sum xs = some z) : ∃ d, z = .d d := by
  unfold b_sum at e
  split at e
  · rw [Option.map_eq_some_iff] at e; obtain ⟨_, _, rfl⟩ := e; exact ⟨_, rfl⟩
  · cases e
theorem isd_any (xs : List O) (z : O) (e : b_any xs = some z) : ∃ d, z = .d d := by
  unfold b_any at e
  split at e
  · rw [Option.map_eq_some_iff] at e; obtain ⟨_, _, rfl⟩ := e; exact ⟨_, rfl⟩
  · cases e
theorem isd_all (xs : List O) (z : O) (e : b_all xs = some z) : ∃ d, z = .d d := by
  unfold b_all at e
  split at e
  · rw [Option.map_eq_some_iff] at e; obtain ⟨_, _, rfl⟩ := e; exact ⟨_, rfl⟩
  · cases e
/-! ### tuple(x) -/
def b_tuple : List O → Option O
  | [x] => (match G.titems x with
    | some xs => (allD xs).map fun ds => .d (.tuple ds)
    | none => (listD x).map fun ds => .d (.tuple ds))
  | _ => none
theorem isd_tuple (xs : List O) (z : O) (e : b_tuple xs = some z) : ∃ d, z = .d d := by
  unfold b_tuple at e
  split at e
  · split at e <;> (rw [Option.map_eq_some_iff] at e; obtain ⟨_, _, rfl⟩ := e; exact ⟨_, rfl⟩)
  · cases e
theorem vw_tuple : VwN X (fun xs H Q => ∃ p ys, xs = [V.ref p] ∧ ((SqL X.K H p ys ∧ ∀ l, H l = none → Q (.ref l) (upd H l (.tup ys))) ∨ (SqT X.K H p ys ∧ Q (.ref p) H))) b_tuple := by
  intro I H φ ρ σ Q xs z as gd ws e h
  unfold b_tuple at e
  split at e
  · obtain ⟨v, S, rfl, w⟩ := ws.one
    split at e
    · rename_i xs e1
      rw [Option.map_eq_some_iff] at e
      obtain ⟨ds, e2, rfl⟩ := e
      obtain ⟨a, vs, rfl, q, o⟩ := w.titems e1
      exact ⟨a, vs, rfl, .inr ⟨SqT.of (gd.le _ _ q), h.d gd (.tuple q (o.allD e2))⟩⟩
    · rw [Option.map_eq_some_iff] at e
      obtain ⟨ds, e2, rfl⟩ := e
      obtain ⟨a, vs, rfl, q, o⟩ := w.listD gd.le e2
      exact ⟨a, vs, rfl, .inl ⟨q, fun l hl => h.tup gd o hl⟩⟩
  · cases e
end
/-! ### the built-ins' names -/
theorem bt_int : bootBuiltins "int" = some (.type "int") := by rfl
theorem bt_bool : bootBuiltins "bool" = some (.type "bool") := by rfl
theorem bt_str : bootBuiltins "str" = some (.type "str") := by rfl
theorem bt_list : bootBuiltins "list" = some (.type "list") := by rfl
theorem bt_tuple : bootBuiltins "tuple" = some (.type "tuple") := by rfl
theorem bt_dict : bootBuiltins "dict" = some (.type "dict") := by rfl
theorem bt_set : bootBuiltins "set" = some (.type "set") := by rfl
theorem bt_len : bootBuiltins "len" = some (.builtin "len") := by rfl
theorem bt_abs : bootBuiltins "abs" = some (.builtin "abs") := by rfl
theorem bt_max : bootBuiltins "max" = some (.builtin "max") := by rfl
theorem bt_min : bootBuiltins "min" = some (.builtin "min") := by rfl
theorem bt_sum : bootBuiltins "sum" = some (.builtin "sum") := by rfl
theorem bt_any : bootBuiltins "any" = some (.builtin "any") := by rfl
theorem bt_all : bootBuiltins "all" = some (.builtin "all") := by rfl
theorem bt_sorted : bootBuiltins "sorted" = some (.builtin "sorted") := by rfl
theorem bt_repr : bootBuiltins "repr" = some (.builtin "repr") := by rfl
theorem bt_isinstance : bootBuiltins "isinstance" = some (.builtin "isinstance") := by rfl
/-! ### raise, by the facts -/
theorem es_raiseY {fa : List He.Fa} {fn : List He.DefD} {ts : Tb} {X : Cx} {W : WX} {io : List Nat} {x m : Str} {j : Nat} {p p2 pos rpos : Pos} (Y : Ya fa fn ts X.K X.mg) (i i2 : Nat) (tk : Takes X W) (h1 : fa[i]? = some (.exc x) := by rfl) (h2 : fa[i2]? = some (.glo x) := by rfl) (hc : X.calm = true := by rfl) (hg : Gl X x := by rfl)
    (hdb : (x == ("__debug__" : Str)) = false := by decide) : ES X W io (.Raise (some (.Call (.Name x p) [.Constant (.str m) j p2] [] pos)) none rpos) (S.raise x) := by
  obtain ⟨q, kC, s1, s2⟩ := He.exc_ok (Y.says.fact i h1)
  exact es_raise (bm := []) hc tk PySem.F.excBase_ValueError q (Y.glo i2 h2) kC (raises_own s1 s2) hg hdb
end EV

/-! The layer EV, part T: dict displays, get, count, index, list(range). -/
namespace EV
open PySem PySem.Spec PyProof.Rows L2
/-! ### {k: v, ..} -/
def Vw.pairs : List ((Env → Option O) × (Env → Option O)) → Env → Option (List (D × D))
  | [], _ => some []
  | (fk, fv) :: r, ρ => (fk ρ).bind fun k => (EV.dat k).bind fun dk => (fv ρ).bind fun v => (EV.dat v).bind fun dv => if isK dk then (Vw.pairs r ρ).map ((dk, dv) :: ·) else none
def mergeKD (ds more : List (D × D)) : List (D × D) := more.foldl (fun acc p => putKD acc p.1 p.2) ds
inductive VPairs (X : Cx) (pos : Pos) : List (Option Expr) → List Expr → List ((Env → Option O) × (Env → Option O)) → Prop
  | nil : VPairs X pos [] [] []
  | cons {k v : Expr} {ks : List (Option Expr)} {vs : List Expr} {fk fv : Env → Option O} {fs : List ((Env → Option O) × (Env → Option O))} : VE X k fk → VE X v fv → VPairs X pos ks vs fs → VPairs X pos (some k :: ks) (v :: vs) ((fk, fv) :: fs)
def rdPs (K : PySem.W.Frag) (mg : Str → Option Value) (fs : List ((Env → Option O) × (Env → Option O))) : List (TE × TE) := fs.map fun p => (rdV K mg p.1, rdV K mg p.2)
section
variable {X : Cx} {W : WX} {pos : Pos} {keys : List (Option Expr)} {values : List Expr} {fs : List ((Env → Option O) × (Env → Option O))}
theorem VPairs.pps : ∀ {ks : List (Option Expr)} {vs : List Expr} {fs : List ((Env → Option O) × (Env → Option O))}, VPairs X pos ks vs fs → PPs X pos ks vs (rdPs X.K X.mg fs)
  | _, _, _, .nil => pps_nil
  | _, _, _, .cons a b c => pps_cons a b c.pps
theorem VPairs.len : ∀ {ks : List (Option Expr)} {vs : List Expr} {fs : List ((Env → Option O) × (Env → Option O))}, VPairs X pos ks vs fs → ks.length = vs.length ∧ ks.all (·.isSome) = true ∧ ks.length = fs.length
  | _, _, _, .nil => ⟨rfl, rfl, rfl⟩
  | _, _, _, .cons a b c => by
    obtain ⟨h1, h2, h3⟩ := c.len
    exact ⟨by simp [h1], by simp [h2], by simp [h3]⟩
theorem DenK.merge {K : PySem.W.Frag} {I : Hp} : ∀ {more : List (D × D)} {mk : List (Key × V)} {ds : List (D × D)} {kvs : List (Key × V)}, DenK K I more mk → DenK K I ds kvs → DenK K I (mergeKD ds more) (mergeK kvs mk)
  | _, _, _, _, .nil, h => h
  | _, _, _, _, .cons (k := k) a b, h => by
    have := DenK.merge b (h.put a k)
    exact this
theorem DenK.grow {K : PySem.W.Frag} {I J : Hp} (h : RdLe I J) {ds : List (D × D)} {kvs : List (Key × V)} (d : DenK K I ds kvs) : DenK K J ds kvs := d.mono h
/-- the pairs, read -/
theorem pairs_read {σ : St} {ρ : Env} {φ : Ph} : ∀ {fs : List ((Env → Option O) × (Env → Option O))} {ds : List (D × D)} {I H : Hp} {Q : List (V × V) → Hp → Prop}, Gd X.K X.mg I H φ ρ σ → Vw.pairs fs ρ = some ds →
    (∀ kvs I1 H1, Grw X.K X.mg φ ρ σ I H I1 H1 → DenK X.K I1 ds kvs → Q (kvs.map fun kv => (kV kv.1, kv.2)) H1) → tPairs (rdPs X.K X.mg fs) σ H Q
  | [], _, I, H, Q, gd, e, k => by
    rw [Vw.pairs] at e; cases e
    exact k [] I H (Grw.refl gd) .nil
  | (fk, fv) :: r, _, I, H, Q, gd, e, k => by
    rw [Vw.pairs] at e
    simp only [Option.bind_eq_some_iff] at e
    obtain ⟨ok, e1, dk, e2, ov, e3, dv, e4, e⟩ := e
    split at e
    case isFalse => cases e
    rename_i hk
    rw [Option.map_eq_some_iff] at e
    obtain ⟨ds, e5, rfl⟩ := e
    have := dat_ok e2
    subst this
    have := dat_ok e4
    subst this
    obtain ⟨ky, rfl⟩ := isK_of hk
    refine ⟨ρ, I, φ, gd, ?_⟩
    show VP X.K X.mg φ ρ σ I H _ (fk ρ)
    rw [e1]
    intro v S I1 H1 g1 w
    refine ⟨ρ, I1, φ, g1.gd, ?_⟩
    show VP X.K X.mg φ ρ σ I1 H1 _ (fv ρ)
    rw [e3]
    intro u T I2 H2 g2 w2
    refine pairs_read g2.gd e5 fun kvs I3 H3 g3 dk3 => ?_
    have hv : v = kV ky := by
      cases w with
      | d q => exact q.key
    subst hv
    have du : Den X.K I3 dv u := by
      cases w2 with
      | d q => exact q.mono (RdLe.of g3.st.li)
    exact k ((ky, u) :: kvs) I3 H3 ((g1.trans g2).trans g3) (.cons du dk3)
theorem pairs_len {ρ : Env} : ∀ {fs : List ((Env → Option O) × (Env → Option O))} {ds : List (D × D)}, Vw.pairs fs ρ = some ds → ds.length = fs.length
  | [], _, e => by rw [Vw.pairs] at e; cases e; rfl
  | (fk, fv) :: r, _, e => by
    rw [Vw.pairs] at e
    simp only [Option.bind_eq_some_iff] at e
    obtain ⟨_, _, _, _, _, _, _, _, e⟩ := e
    split at e
    · rw [Option.map_eq_some_iff] at e
      obtain ⟨ds, e5, rfl⟩ := e
      rw [List.length_cons, List.length_cons, pairs_len e5]
    · cases e
def Vw.disp (fs : List ((Env → Option O) × (Env → Option O))) : Env → Option O := fun ρ => (Vw.pairs fs ρ).map fun ds => .dic (mergeKD [] ds)
theorem ee_disp (h : VPairs X pos keys values fs) (h0 : keys ≠ [] := by intro z; cases z) (h15 : keys.length ≤ 15 := by decide) : EE X W (.Dict keys values pos) (E.fr (Vw.disp fs)) := by
  obtain ⟨l1, l2, l3⟩ := h.len
  refine PE.weak (pe_disp h.pps l2 l1 h0 h15) fun σ H Q ⟨ρ, I, φ, gd, h⟩ => ?_
  unfold E.fr Vw.disp at h
  cases e : Vw.pairs fs ρ with
  | none => rw [e] at h; exact h.elim
  | some ds =>
    rw [e] at h
    intro p hp
    have gd1 : Gd X.K X.mg I (upd H p (.dK [])) φ ρ σ := gd.new hp
    have hl : ds.length = fs.length := pairs_len e
    refine pairs_read gd1 e fun kvs I1 H1 g1 dk => ?_
    have hp1 : H1 p = some (.dK []) := g1.st.kp p _ upd_same (fun z => z)
    refine ⟨hp1, kvs, rfl, by rw [dk.len, hl, ← l3]; exact h15, ?_⟩
    have i1p : I1 p = none := by
      cases e1 : I1 p with
      | none => rfl
      | some x =>
        rcases g1.st.fi p x e1 with z | z | z
        · rw [gd.free hp] at z; cases z
        · exact z.elim
        · rw [upd_same] at z; cases z
    have np : ¬ al φ p := gd.nfree hp
    have s3 : Stp I1 H1 (fun a => a = p) I1 (upd H1 p (.dK (mergeK [] kvs))) (fun a => a = p) := ⟨Same.refl _, fun a x ea na => by rw [upd_ne na]; exact ea, fun a q => .inl q, fun a x ea => .inl ea⟩
    have s2 : Stp I (upd H p (.dK [])) (orP (al φ) fun a => a = p) I1 H1 (orP (al φ) fun a => a = p) := ((g1.st.frame (G := orP (al φ) fun a => a = p) fun a q => by
      rcases q with ⟨i, q⟩ | rfl
      · exact gd1.th i a q
      · rw [upd_same]; exact Option.some_ne_none _).from fun a q => q.elim False.elim id).sub fun a q => .inr q
    have s1 : Stp I H (al φ) I (upd H p (.dK [])) (orP (al φ) fun a => a = p) := Stp.new hp fun a q => q
    have s3' : Stp I1 H1 (orP (al φ) fun a => a = p) I1 (upd H1 p (.dK (mergeK [] kvs))) (orP (al φ) fun a => a = p) := ((s3.frame (G := al φ) fun a ⟨i, q⟩ => g1.gd.th i a q).from fun a q => q.symm).sub fun a q => q.symm
    have le : Same I1 (upd H1 p (.dK (mergeK [] kvs))) := fun a x ea => by
      rw [upd_ne (fun z => by rw [z, i1p] at ea; cases ea)]
      exact g1.gd.le a x ea
    have gd2 : Gd X.K X.mg I1 (upd H1 p (.dK (mergeK [] kvs))) φ ρ σ := ⟨le, g1.gd.dj, fun i a q => by
      rw [upd_ne (fun z => np ⟨i, by rw [← z]; exact q⟩)]; exact g1.gd.th i a q, g1.gd.sep, fun i o eo no => by
      obtain ⟨v, e1, w⟩ := g1.gd.sl i o eo no
      exact ⟨v, e1, w.step (RdLe.of (Same.refl _)) fun a x q ea => by rw [upd_ne (fun z => np ⟨i, by rw [← z]; exact q⟩)]; exact ea⟩⟩
    refine h (.ref p) _ I1 φ (fun a => a = p) ((s1.trans s2).trans s3') gd2 ⟨fun a e => by rw [e]; exact i1p, fun a e => by rw [e, upd_same]; exact Option.some_ne_none _, fun i a e q => np ⟨i, e ▸ q⟩⟩ ?_
    exact .dic upd_same rfl (dk.merge .nil)
/-- {} -/
theorem ee_dict0 : EE X W (.Dict [] [] pos) (fun ρ => .ok (.dic []) ρ) := by
  refine PE.weak pe_dnewK fun σ H Q ⟨ρ, I, φ, gd, h⟩ => fun p hp => ?_
  refine h (.ref p) _ I φ (fun a => a = p) (Stp.new hp fun a q => q) (gd.new hp) ⟨fun a e => by rw [e]; exact gd.free hp, fun a e => by rw [e, upd_same]; exact Option.some_ne_none _, fun i a e q => gd.nfree hp ⟨i, e ▸ q⟩⟩ ?_
  exact .dic upd_same rfl .nil
theorem ee_dict0T : EE X W (.Dict [] [] pos) (fun ρ => .ok (.dicT []) ρ) := by
  refine PE.weak pe_dnewT fun σ H Q ⟨ρ, I, φ, gd, h⟩ => fun p hp => ?_
  refine h (.ref p) _ I φ (fun a => a = p) (Stp.new hp fun a q => q) (gd.new hp) ⟨fun a e => by rw [e]; exact gd.free hp, fun a e => by rw [e, upd_same]; exact Option.some_ne_none _, fun i a e q => gd.nfree hp ⟨i, e ▸ q⟩⟩ ?_
  exact .dicT upd_same rfl .nil
end

/-! ### d.get(k, x) -/
def g_get (x y z : O) : Option O := match getO x y with
  | some (some d) => some (.d d)
  | some none => some z
  | none => none
theorem isD_of {K : PySem.W.Frag} {mg : Str → Option Value} {I H : Hp} {x y : O} {v : V} {S : Pd} {r : Option D} (le : Same I H) (w : Own K mg I H x v S) (e : getO x y = some r) : ∃ a, v = .ref a ∧ IsD H a := by
  unfold getO at e
  split at e
  · rw [Option.bind_eq_some_iff] at e
    obtain ⟨ks, e1, e⟩ := e
    rw [Option.bind_eq_some_iff] at e
    obtain ⟨kvs, e2, e⟩ := e
    obtain ⟨p, kv, rfl, r1, _⟩ := w.dTO le e2
    exact ⟨p, rfl, .inr ⟨kv, r1⟩⟩
  · split at e
    · rw [Option.bind_eq_some_iff] at e
      obtain ⟨kvs, e2, e⟩ := e
      split at e
      · rename_i hko
        obtain ⟨p, kv, rfl, r1, _⟩ := w.dK le e2 hko
        exact ⟨p, rfl, .inl ⟨kv, r1⟩⟩
      · cases e
    · cases e
  · cases e
def Vw.op3 (g : O → O → O → Option O) (f1 f2 f3 : Env → Option O) : Env → Option O := fun ρ => (f1 ρ).bind fun x => (f2 ρ).bind fun y => (f3 ρ).bind fun z => g x y z
section
variable {X : Cx} {apos cpos : Pos} {o e f : Expr} {f1 f2 f3 : Env → Option O}
theorem ve_get2 (hu : X.A.units + 100 < cLine) (ho : VE X o f1) (he : VE X e f2) (hf : VE X f f3) (m : M2 X o "get" apos e f cpos := by exact ⟨rfl, rfl, rfl, rfl⟩) : VE X (.Call (.Attribute o "get" apos) [e, f] [] cpos) (Vw.op3 g_get f1 f2 f3) := by
  refine PE.weak (pe_dget2 (by omega) ho he hf m) fun σ H Q ⟨ρ, I, φ, gd, h⟩ => ?_
  refine h.some fun r er h => ?_
  unfold Vw.op3 at er
  simp only [Option.bind_eq_some_iff] at er
  obtain ⟨x, e1, y, e2, z, e3, er⟩ := er
  have hg : ∃ r, getO x y = some r := by
    unfold g_get at er
    cases eg : getO x y with
    | none => rw [eg] at er; cases er
    | some r => exact ⟨r, rfl⟩
  obtain ⟨r0, hg⟩ := hg
  refine ⟨ρ, I, φ, gd, ?_⟩
  rw [e1]
  intro v S I1 H1 g1 w
  obtain ⟨a, rfl, hd⟩ := isD_of g1.gd.le w hg
  refine ⟨a, rfl, hd, ρ, I1, φ, g1.gd, ?_⟩
  rw [e2]
  intro u T I2 H2 g2 w2
  refine ⟨ρ, I2, φ, g2.gd, ?_⟩
  rw [e3]
  intro t T3 I3 H3 g3 w3
  obtain ⟨p, oo, ep, g, hh⟩ := getO_spec g3.gd.le ((w.grow g2).grow g3) (w2.grow g3) hg
  cases ep
  refine ⟨oo, g, ?_⟩
  have h := ((h.grow g1).grow g2).grow g3
  unfold g_get at er
  rw [hg] at er
  rcases hh with ⟨rfl, rfl⟩ | ⟨d, v, rfl, rfl, q⟩
  · cases er
    exact h t T3 I3 H3 (Grw.refl g3.gd) w3
  · cases er
    exact h.d g3.gd q
end

/-! ### xs.count(x) -/
def rCountD (K : PySem.W.Frag) : V → List V → Hp → VK → Prop := fun x xs H Q => ∃ (a : Addr) (y : V) (d : PyData) (ds : List PyData), x = V.ref a ∧ xs = [y] ∧ Dp K H (V.ref a) (.list ds) ∧ Dp K H y d ∧ PyData.plainAll ds = true ∧ d.plain = true ∧ min (PyData.depthAll ds) d.depth ≤ 64 ∧ Q (.int ((ds.countP fun z => PyData.eqv z d : Nat))) H
theorem countP_map' {α β : Type} (p : β → Bool) (g : α → β) : ∀ l : List α, (l.map g).countP p = l.countP fun x => p (g x)
  | [] => rfl
  | x :: l => by rw [List.map_cons, List.countP_cons, List.countP_cons, countP_map' p g l]
section
variable {X : Cx}
theorem mt_countD (hu : X.A.units + 100 < cLine) : MtR X "list.count" (rCountD X.K) := by
  intro pins s σ H x xs v us Q I rx rxs h
  obtain ⟨a, y, d, ds, rfl, rfl, hl, hy, sl, sd, hm, q⟩ := h
  cases rx
  obtain ⟨uy, rfl, ry⟩ := rxs.one
  obtain ⟨bs, r1⟩ := Dp.reads I d y uy hy ry
  cases hl with
  | lst hs ha =>
    obtain ⟨its, rv, ⟨⟨cls, dd, data, sls⟩, n, ho, hc, hdn, hdt⟩, hlen⟩ := I.list hs
    simp only at hc hdt
    subst hc hdt
    obtain ⟨as, h4⟩ := Dp.readsAll I ds _ its ha rv
    have hmap : its.map (SeqAt.readOf s.heap) = ds := SeqAt.readsAll_map_plain ds its as sl h4
    refine call_meets PySem.F.slot_list_count ⟨_, ho, rfl⟩ PySem.F.entry_list_count (PySem.F.args_list_count_2 _ _)
      (SeqAt.list_countAt a its.toArray n dd sls uy (fun u => PyData.eqv (SeqAt.readOf s.heap u) d)) ⟨ho, SeqAt.items_plain (vs := its.toArray) (by simpa using h4) r1 sl sd (by omega), ?_⟩
    have ec : its.toArray.toList.countP (fun u => PyData.eqv (SeqAt.readOf s.heap u) d) = ds.countP fun z => PyData.eqv z d := by
      rw [← hmap, countP_map']
    refine ⟨.int ((ds.countP fun z => PyData.eqv z d : Nat)), H, I.tok _, ⟨s.toks, ?_⟩, q⟩
    rw [ec]

def g_count (x y : O) : Option O := match listO x, rdO x, rdO y with
  | some _, some (.list ds), some d => if d.plain && PyData.plainAll ds && decide (min (PyData.depthAll ds) d.depth ≤ 64) then some (.d (.int ((ds.countP fun z => PyData.eqv z d : Nat)))) else none
  | _, _, _ => none
def g_index (x y : O) : Option O := match listO x, rdO x, rdO y with
  | some _, some (.list ds), some d => if SeqAt.shaped d && SeqAt.shaped (.list ds) then (ds.findIdx? fun z => PyData.eqv z d).map fun j => .d (.int (j : Nat)) else none
  | _, _, _ => none
/-- a list's method of one argument that reads -/
theorem ve_m1 {name : Str} {id : String} {apos cpos : Pos} {o e : Expr} {f1 f2 : Env → Option O} {r : V → List V → Hp → VK → Prop} {g : O → O → Option O} (slot : Slot "list" name id) (hty : typeOf (.builtin id) = pure (.type "method_descriptor")) (hm : MtR X id r)
    (hl : ∀ x y z, g x y = some z → ∃ xs, listO x = some xs)
    (ok : ∀ (I H : Hp) (φ : Ph) (ρ : Env) (σ : St) (Q : VK) (x y z : O) (a b : V) (S1 S2 : Pd), Gd X.K X.mg I H φ ρ σ → Own X.K X.mg I H x a S1 → Own X.K X.mg I H y b S2 → g x y = some z → VP X.K X.mg φ ρ σ I H Q (some z) → r a [b] H Q)
    (ho : VE X o f1) (he : VE X e f2)
    (hbase : attributeBase o name X.env (eval o X.env) = eval o X.env := by rfl)
    (hfew : ((backTo cpos (starEach [e] X.env)).all (fun x => !x.1) && (backToKw cpos (keywordEach [] X.env)).all (fun x => x.1.isSome)
      && decide ([e].length + ([] : List Keyword).length + (if ([] : List Keyword).isEmpty then 0 else 1) < 30)) = true := by rfl)
    (hline : (apos.endLine == cpos.line) = true := by rfl) (hs : starEach [e] X.env = (false, eval e X.env) :: starEach [] X.env := by rfl) (hplain : (backTo cpos (starEach [] X.env)).any (·.1) = false := by rfl) :
    VE X (.Call (.Attribute o name apos) [e] [] cpos) (Vw.op2 g f1 f2) := by
  refine PE.weak (pe_bm PySem.F.plainAttrs_list slot hty hm ho (va_cons he va_nil hs) hbase hfew hline hs hplain) fun σ H Q ⟨ρ, I, φ, gd, h⟩ => ?_
  refine h.some fun z er h => ?_
  unfold Vw.op2 at er
  simp only [Option.bind_eq_some_iff] at er
  obtain ⟨x, e1, y, e2, er⟩ := er
  obtain ⟨xs, el⟩ := hl x y z er
  refine ⟨ρ, I, φ, gd, ?_⟩
  rw [e1]
  intro v S I1 H1 g1 w
  obtain ⟨a, vs, rfl, hq, _⟩ := w.listO g1.gd.le el
  refine ⟨.inl ⟨rfl, vs, hq⟩, ρ, I1, φ, g1.gd, ?_⟩
  have ev : Vw.cons f2 Vw.nil ρ = some [y] := by
    unfold Vw.cons Vw.nil
    rw [e2]
    rfl
  rw [ev]
  intro us I2 H2 g2 w2
  obtain ⟨u, T, rfl, w3⟩ := w2.one
  exact ok I2 H2 φ ρ σ Q x y z (.ref a) u S T g2.gd (w.grow g2) w3 er ((h.grow g1).grow g2)
theorem ve_count {apos cpos : Pos} {o e : Expr} {f1 f2 : Env → Option O} (hu : X.A.units + 100 < cLine) (ho : VE X o f1) (he : VE X e f2)
    (hbase : attributeBase o "count" X.env (eval o X.env) = eval o X.env := by rfl)
    (hfew : ((backTo cpos (starEach [e] X.env)).all (fun x => !x.1) && (backToKw cpos (keywordEach [] X.env)).all (fun x => x.1.isSome)
      && decide ([e].length + ([] : List Keyword).length + (if ([] : List Keyword).isEmpty then 0 else 1) < 30)) = true := by rfl)
    (hline : (apos.endLine == cpos.line) = true := by rfl) (hs : starEach [e] X.env = (false, eval e X.env) :: starEach [] X.env := by rfl) (hplain : (backTo cpos (starEach [] X.env)).any (·.1) = false := by rfl) :
    VE X (.Call (.Attribute o "count" apos) [e] [] cpos) (Vw.op2 g_count f1 f2) := by
  refine ve_m1 PySem.F.slot_list_count PySem.F.type_list_count (mt_countD hu) (fun x y z e => ?_) (fun I H φ ρ σ Q x y z a b S1 S2 gd w1 w2 e h => ?_) ho he hbase hfew hline hs hplain
  · unfold g_count at e
    split at e
    · rename_i e1 e2 e3; exact ⟨_, e1⟩
    · cases e
  · unfold g_count at e
    split at e
    · rename_i xs ds d e1 e2 e3
      split at e
      · rename_i hc
        cases e
        simp only [Bool.and_eq_true, decide_eq_true_eq] at hc
        obtain ⟨p, vs, rfl, hq, _⟩ := w1.listO gd.le e1
        exact ⟨p, b, d, ds, rfl, rfl, w1.dp gd.le e2 (by simpa [PyData.plain] using hc.1.2), w2.dp gd.le e3 hc.1.1, hc.1.2, hc.1.1, hc.2, h.d gd (.int _)⟩
      · cases e
    · cases e
theorem ve_index {apos cpos : Pos} {o e : Expr} {f1 f2 : Env → Option O} (hu : X.A.units + 100 < cLine) (ho : VE X o f1) (he : VE X e f2)
    (hbase : attributeBase o "index" X.env (eval o X.env) = eval o X.env := by rfl)
    (hfew : ((backTo cpos (starEach [e] X.env)).all (fun x => !x.1) && (backToKw cpos (keywordEach [] X.env)).all (fun x => x.1.isSome)
      && decide ([e].length + ([] : List Keyword).length + (if ([] : List Keyword).isEmpty then 0 else 1) < 30)) = true := by rfl)
    (hline : (apos.endLine == cpos.line) = true := by rfl) (hs : starEach [e] X.env = (false, eval e X.env) :: starEach [] X.env := by rfl) (hplain : (backTo cpos (starEach [] X.env)).any (·.1) = false := by rfl) :
    VE X (.Call (.Attribute o "index" apos) [e] [] cpos) (Vw.op2 g_index f1 f2) := by
  refine ve_m1 PySem.F.slot_list_index PySem.F.type_list_index (mt_indexD (by omega)) (fun x y z e => ?_) (fun I H φ ρ σ Q x y z a b S1 S2 gd w1 w2 e h => ?_) ho he hbase hfew hline hs hplain
  · unfold g_index at e
    split at e
    · rename_i e1 e2 e3; exact ⟨_, e1⟩
    · cases e
  · unfold g_index at e
    split at e
    · rename_i xs ds d e1 e2 e3
      split at e
      · rename_i hc
        rw [Option.map_eq_some_iff] at e
        obtain ⟨j, e4, rfl⟩ := e
        rw [Bool.and_eq_true] at hc
        obtain ⟨p, vs, rfl, hq, _⟩ := w1.listO gd.le e1
        rw [List.findIdx?_eq_some_iff_getElem] at e4
        obtain ⟨hj, hz, hno⟩ := e4
        have pl : PyData.plain (.list ds) = true := PyData.plain_of_canLay0 _ (SeqAt.canLay_of_shaped hc.2)
        have pd : d.plain = true := PyData.plain_of_canLay0 _ (SeqAt.canLay_of_shaped hc.1)
        exact ⟨p, b, d, ds, j, ds[j], rfl, rfl, w1.dp gd.le e2 pl, w2.dp gd.le e3 pd, hc.2, hc.1, List.getElem?_eq_getElem hj, hz, fun m z' hm hz' => by
          obtain ⟨hm', rfl⟩ := List.getElem?_eq_some_iff.mp hz'
          simpa using hno m hm, h.d gd (.int _)⟩
      · cases e
    · cases e
end
/-! ### list(range(..)) -/

def rgD (a b : Int) : Option (List D) := if -1000000000000 ≤ a ∧ a ≤ 1000000000000 ∧ -1000000000000 ≤ b ∧ b ≤ 1000000000000 ∧ (b - a).toNat ≤ 1000000 then some ((List.range (b - a).toNat).map fun i => .int (a + (i : Nat))) else none
theorem denL_ints {K : PySem.W.Frag} {I : Hp} (g : Nat → Int) : ∀ l : List Nat, DenL K I (l.map fun i => .int (g i)) (l.map fun i => V.int (g i))
  | [] => .nil
  | _ :: l => .cons (.int _) (denL_ints g l)
theorem rgD_ok {K : PySem.W.Frag} {I : Hp} {a b : Int} {ds : List D} (h : rgD a b = some ds) : RgOk a b ∧ DenL K I ds (rgV a b) := by
  unfold rgD at h
  split at h
  · rename_i hc
    cases h
    exact ⟨⟨by omega, by omega, by omega, by omega, by omega⟩, denL_ints (fun i => a + (i : Nat)) _⟩
  · cases h
def l_range1 (x : O) : Option (List D) := match x with
  | .d (.int n) => rgD 0 n
  | _ => none
def l_range2 (x y : O) : Option (List D) := match x, y with
  | .d (.int a), .d (.int b) => rgD a b
  | _, _ => none
section
variable {X : Cx} {W : WX} {a b : Expr} {f1 f2 : Env → Option O} {p q pos rpos : Pos}
theorem ve_listR1 (ha : VE X a f1) (hml : X.mg "list" = none) (hmr : X.mg "range" = none) (hc : X.calm = true := by rfl) (hgl : Gl X "list" := by rfl) (hgr : Gl X "range" := by rfl) (na : starEach [a] X.env = (false, eval a X.env) :: starEach [] X.env := by rfl)
    (nb : starEach [.Call (.Name "range" q) [a] [] rpos] X.env = (false, eval (.Call (.Name "range" q) [a] [] rpos) X.env) :: starEach [] X.env := by rfl) : VE X (.Call (.Name "list" p) [.Call (.Name "range" q) [a] [] rpos] [] pos) (Vw.op1 (fun x => (l_range1 x).map dl) f1) := by
  refine PE.weak (pe_listRg hc hgl hml (prg_1 hgr hmr ha na) nb) fun σ H Q ⟨ρ, I, φ, gd, h⟩ => ?_
  refine vbind gd h fun x v S I1 H1 g1 w h => ?_
  refine h.some fun z e h5 => ?_
  rw [Option.map_eq_some_iff] at e
  obtain ⟨ds, e, rfl⟩ := e
  unfold l_range1 at e
  split at e
  · cases w.int
    obtain ⟨h1, h2⟩ := rgD_ok (K := X.K) (I := I1) e
    exact ⟨_, rfl, h1, fun q hq => h5.lst g1.gd h2 hq⟩
  · cases e
theorem ee_listR1 (ha : VE X a f1) (hml : X.mg "list" = none) (hmr : X.mg "range" = none) (hc : X.calm = true := by rfl) (hgl : Gl X "list" := by rfl) (hgr : Gl X "range" := by rfl) (na : starEach [a] X.env = (false, eval a X.env) :: starEach [] X.env := by rfl)
    (nb : starEach [.Call (.Name "range" q) [a] [] rpos] X.env = (false, eval (.Call (.Name "range" q) [a] [] rpos) X.env) :: starEach [] X.env := by rfl) : EE X W (.Call (.Name "list" p) [.Call (.Name "range" q) [a] [] rpos] [] pos) (E.fr (Vw.op1 (fun x => (l_range1 x).map ol) f1)) := by
  refine PE.weak (pe_listRg hc hgl hml (prg_1 hgr hmr ha na) nb) fun σ H Q ⟨ρ, I, φ, gd, h⟩ => ?_
  refine fr_bind gd h fun x v S I1 H1 g1 w h => ?_
  cases e : l_range1 x with
  | none => rw [e] at h; exact h.elim
  | some ds =>
    rw [e] at h
    unfold l_range1 at e
    split at e
    · cases w.int
      obtain ⟨h1, h2⟩ := rgD_ok (K := X.K) (I := I1) e
      exact ⟨_, rfl, h1, fun q hq => (FP.of gd g1 h).lst g1.gd h2 hq⟩
    · cases e
theorem ve_listR2 (ha : VE X a f1) (hb : VE X b f2) (hml : X.mg "list" = none) (hmr : X.mg "range" = none) (hc : X.calm = true := by rfl) (hgl : Gl X "list" := by rfl) (hgr : Gl X "range" := by rfl) (na : starEach [a, b] X.env = (false, eval a X.env) :: starEach [b] X.env := by rfl)
    (nb' : starEach [b] X.env = (false, eval b X.env) :: starEach [] X.env := by rfl) (hp : (backTo rpos (starEach [b] X.env)).any (·.1) = false := by rfl)
    (nb : starEach [.Call (.Name "range" q) [a, b] [] rpos] X.env = (false, eval (.Call (.Name "range" q) [a, b] [] rpos) X.env) :: starEach [] X.env := by rfl) : VE X (.Call (.Name "list" p) [.Call (.Name "range" q) [a, b] [] rpos] [] pos) (Vw.op2 (fun x y => (l_range2 x y).map dl) f1 f2) := by
  refine PE.weak (pe_listRg hc hgl hml (prg_2 hgr hmr ha hb na nb' hp) nb) fun σ H Q ⟨ρ, I, φ, gd, h⟩ => ?_
  refine vbind gd h fun x v S I1 H1 g1 w h => ?_
  refine vbind g1.gd h fun y u T I2 H2 g2 w2 h => ?_
  refine h.some fun z e h5 => ?_
  rw [Option.map_eq_some_iff] at e
  obtain ⟨ds, e, rfl⟩ := e
  unfold l_range2 at e
  split at e
  · cases w.int
    cases w2.int
    obtain ⟨h1, h2⟩ := rgD_ok (K := X.K) (I := I2) e
    exact ⟨_, _, rfl, rfl, h1, fun q hq => h5.lst g2.gd h2 hq⟩
  · cases e
end

/-! ### repr -/
def isSeqD : D → Bool
  | .list _ => true
  | .tuple _ => true
  | _ => false
mutual
theorem noDict_plain : ∀ d : D, d.plain = true → d.hasDict = false
  | .none, _ => rfl
  | .bool _, _ => rfl
  | .int _, _ => rfl
  | .str _, _ => rfl
  | .list xs, h => by
    simp only [PyData.hasDict]
    exact noDict_plains xs (by simpa [PyData.plain] using h)
  | .tuple xs, h => by
    simp only [PyData.hasDict]
    exact noDict_plains xs (by simpa [PyData.plain] using h)
  | .dict _, h => by simp [PyData.plain] at h
theorem noDict_plains : ∀ xs : List D, PyData.plainAll xs = true → PyData.hasDictAll xs = false
  | [], _ => rfl
  | x :: xs, h => by
    simp only [PyData.plainAll, Bool.and_eq_true] at h
    simp only [PyData.hasDictAll, noDict_plain x h.1, noDict_plains xs h.2, Bool.or_self]
end
def g_repr : List O → Option O
  | [x] => (match rdO x with
    | some d => if d.plain && d.showable && decide (d.depth ≤ 64) && decide (d.shown.length ≤ 1000000) && isSeqD d then some (.d (.str d.shown)) else none
    | none => none)
  | _ => none
def rRepr (K : PySem.W.Frag) : List V → Hp → VK → Prop := fun xs H Q => ∃ (a : Addr) (d : PyData), xs = [V.ref a] ∧ Dp K H (V.ref a) d ∧ d.plain = true ∧ d.showable = true ∧ d.depth ≤ 64 ∧ d.shown.length ≤ sizeLine ∧ Q (.str d.shown) H
section
variable {X : Cx}
theorem cr_repr (hu : X.A.units + 100 < cLine) (hg : X.A.guards = some []) : CallR X (.builtin "repr") (rRepr X.K) := by
  intro pins s σ H xs us Q I r h
  obtain ⟨a, d, rfl, hd, hp, hs, hdp, hl, q⟩ := h
  rw [Vals.ref1 r]
  obtain ⟨as, rr⟩ := Dp.reads I d _ (.ref a) hd rfl
  exact PySem.repr_of_reads' rr hs (fun z => by rw [noDict_plain d hp] at z; cases z) hg (by omega) (fun _ _ z => z) (fun h' u tk hk => ⟨.str d.shown, H, I.kept hk, ⟨u, rfl⟩, q⟩) hl
theorem vw_repr : VwN X (rRepr X.K) g_repr := by
  intro I H φ ρ σ Q xs z as gd ws e h
  unfold g_repr at e
  split at e
  · rename_i x
    obtain ⟨v, S, rfl, w⟩ := ws.one
    split at e
    · rename_i d e1
      split at e
      · rename_i hc
        cases e
        simp only [Bool.and_eq_true, decide_eq_true_eq] at hc
        have dp := w.dp gd.le e1 hc.1.1.1.1
        have hr : ∃ a, v = .ref a := by
          cases dp with
          | lst _ _ => exact ⟨_, rfl⟩
          | tup _ _ => exact ⟨_, rfl⟩
          | _ => exact absurd hc.2 (by simp [isSeqD])
        obtain ⟨a, rfl⟩ := hr
        exact ⟨a, d, rfl, dp, hc.1.1.1.1, hc.1.1.1.2, hc.1.1.2, mil hc.1.2, h.d gd (.str _)⟩
      · cases e
    · cases e
  · cases e
theorem isd_repr (xs : List O) (z : O) (e : g_repr xs = some z) : ∃ d, z = .d d := by
  unfold g_repr at e
  repeat' split at e
  all_goals first | (cases e; done) | (cases e; exact ⟨_, rfl⟩)
end
end EV

/-! The layer EV, part U: x += e of ints; items of a tuple in a slot. -/
namespace EV
open PySem PySem.Spec PyProof.Rows L2
def S.augI (i : Nat) (g : Int → Int → Int) (f : M O) : M Fl := fun ρ0 => match ρ0[i]? with
  | some (.d (.int a)) => (f.bind fun o => fun ρ => match o with
    | .d (.int b) => .ok .nx (ρ.set i (.d (.int (g a b))))
    | _ => .stuck) ρ0
  | _ => .stuck
section
variable {X : Cx} {W : WX} {io : List Nat} {pos pos' : Pos} {e : Expr} {x : Str}
theorem es_aug (i : Nat) {op : Operator} {g : Int → Int → Int} {f : M O} (ho : PIp X op (ipI g)) (hN : X.N.Nodup) (he : EE X W e f) (hi : X.N[i]? = some x := by rfl) (hx : Loc X.env.scope x := by first | exact Or.inl rfl | exact Or.inr rfl) (hio : i ∉ io := by first | decide | exact not_notIn (by decide))
    (hf : X.fn x = true ∨ X.env.scope.names.lookup x = some .local := by first | exact .inl rfl | exact .inr rfl | assumption) : ES X W io (.AugAssign (.Name x pos') op e pos) (S.augI i g f) := by
  refine ⟨fun pins s σ H D I0 h => (ps_aug hN hi hx he ho hf).run pins s σ H D I0 ?_⟩
  have hσ : i < σ.length := by rw [I0.len]; exact (List.getElem?_eq_some_iff.mp hi).1
  obtain ⟨ρ, I, φ, gd, h⟩ := h
  unfold S.augI at h
  split at h
  · rename_i a ea
    obtain ⟨v, ev, w⟩ := gd.sl i _ ea (by intro z; cases z)
    cases w.int
    refine ⟨_, ev, ?_⟩
    refine bindE (P := PostS X.K X.mg W io σ I H (al φ) D) gd h (fun _ _ z => z.exc) (fun z => z) fun o ρ1 _ h u H1 I1 φ1 G1 s1 gd1 t1 w1 => ?_
    split at h
    · rename_i b
      cases w1.int
      refine ⟨a, _, rfl, rfl, ?_⟩
      exact h _ H1 I1 _ (keeps_set hio) (s1.sub fun q z => by
        rcases al_setP z with z | z
        · exact z.elim
        · exact .inl z) (gd1.store (G := noP) Tm.none (.d (.int _)) hσ)
    · exact h.elim
  · exact h.elim
end
end EV

/-! The layer EV, part V: exception objects as values. -/
namespace EV
open PySem PySem.Spec PyProof.Rows L2
/-- isinstance(e, c), e an exception object that nobody has raised -/
def rIsEx (K : PySem.W.Frag) : List V → Hp → VK → Prop := fun xs H Q => ∃ (a D : Addr) (c : V) (cv : Value) (b : Bool), xs = [.ref a, c] ∧ H a = some (ExO (.ref D) a) ∧ ExcC K D ∧ (∀ u, RelV c u → u = cv) ∧ PySem.W.kitOne K (.ref D) cv = some b ∧ Q (.bl b) H
theorem call_isEx {X : Cx} : CallR X (.builtin "isinstance") (rIsEx X.K) := by
  intro pins s σ H xs us Q I r h
  obtain ⟨a, D, c, cv, b, rfl, ha, C, hcv, e, q⟩ := h
  cases r with
  | cons rx rr =>
    cases rr with
    | cons rt rr =>
      cases rr
      cases rx
      have ec := hcv _ rt
      subst ec
      obtain ⟨⟨oe, vs, hget, hz, hv, _⟩, _, _⟩ := (show ObjOk X.prog X.w H s.heap a (ExO (.ref D) a) from I.hok a _ ha)
      have J : PySem.W.InstAt s.heap a oe D none := by
        obtain ⟨oc, od, oda, osl⟩ := oe
        obtain ⟨h1, h2⟩ := hz
        dsimp only at h1 h2 hv
        subst h1 h2 hv
        exact ⟨hget, rfl, rfl, trivial⟩
      exact PySem.W.kia_one (PySem.W.handS_kitx_exc C.hg C.hk C.hs C.hd C.ha C.hn C.ht C.hm) I.kIn J e (fun z => nomatch z) fun tk => ⟨.bl b, H, I.kept (t' := tk) fun _ _ z => z, rfl, q⟩
/-- which exception -/
def exC : O → Option Str
  | .d (.dict [(.none, .str e)]) => some e
  | _ => none
theorem exC_ok {o : O} {e : Str} (h : exC o = some e) : o = .d (exnD e) := by
  unfold exC at h
  split at h
  · cases h; rfl
  · cases h
def lookX : List (Str × List Str) → Str → Option (List Str)
  | [], _ => none
  | (g, o) :: r, f => if g = f then some o else lookX r f
theorem lookX_mem : ∀ {xs : List (Str × List Str)} {e : Str} {bs : List Str}, lookX xs e = some bs → (e, bs) ∈ xs
  | (g, o) :: r, e, bs, h => by
    unfold lookX at h
    split at h
    · rename_i z; subst z; cases h; exact List.mem_cons_self
    · exact List.mem_cons_of_mem _ (lookX_mem h)
def isX (xs : List (Str × List Str)) (c : Str) (x : O) : Option O := (exC x).bind fun e => (lookX xs e).bind fun bs => some (.d (.bool (bs.contains c)))
def isXV (xs : List (Str × List Str)) (x : O) : Option O := (exC x).bind fun e => (lookX xs e).bind fun _ => some (.d (.bool true))
def Vw.exc (c : Str) (f : Env → Option O) : Env → Option O := fun ρ => (f ρ).bind fun _ => some (.d (exnD c))
section
variable {fa : List He.Fa} {fn : List He.DefD} {ts : Tb} {X : Cx} {W : WX} {pos p p2 : Pos} {a e : Expr} {f : Env → Option O}
theorem Own.exn {K : PySem.W.Frag} {mg : Str → Option Value} {I H : Hp} {c : Str} {v : V} {S : Pd} (w : Own K mg I H (.d (exnD c)) v S) : ∃ q, v = .ref q ∧ I q = some (ExO (.ref (He.ga K c)) q) := by
  cases w with
  | d q =>
    cases q with
    | dict r k =>
      have h := k.keys _ List.mem_cons_self
      cases h
    | dictT r k n => cases k
    | exn h => exact ⟨_, rfl, h⟩
/-- X(e): a new exception object -/
theorem ve_exc {c : Str} (Y : Ya fa fn ts X.K X.mg) (i j : Nat) (ha : VE X e f) (h1 : fa[i]? = some (.exc c) := by rfl) (h2 : fa[j]? = some (.glo c) := by rfl) (hg : Gl X c := by rfl)
    (hs : starEach [e] X.env = (false, eval e X.env) :: starEach [] X.env := by rfl) (hdb : (c == ("__debug__" : Str)) = false := by decide) : VE X (.Call (.Name c p) [e] [] pos) (Vw.exc c f) := by
  obtain ⟨q, kC, s1, s2⟩ := He.exc_ok (Y.says.fact i h1)
  refine PE.weak (pe_exc1 PySem.F.excBase_ValueError q (Y.glo j h2) kC hg ha hs hdb) fun σ H Q ⟨ρ, I, φ, gd, h⟩ => ?_
  refine vbind gd h fun x v S I1 H1 g1 w h => ?_
  intro q hq
  exact h _ noP _ _ (Grw.new g1.gd hq) (.d (.exn upd_same))
/-- isinstance(e, X) -/
theorem ve_isX {c : Str} {bs : List Str} (Y : Ya fa fn ts X.K X.mg) (i j : Nat) (hm : X.mg "isinstance" = none) (ha : VE X a f) (h2 : fa[i]? = some (.glo c) := by rfl) (hj : ts.excs[j]? = some (c, bs) := by rfl) (hg : Gl X "isinstance" := by rfl) (hgt : Gl X c := by rfl) (hd : (c == ("__debug__" : Str)) = false := by decide)
    (hs : starEach [a, .Name c p2] X.env = (false, eval a X.env) :: starEach [.Name c p2] X.env := by rfl) (hs2 : starEach [.Name c p2] X.env = (false, eval (.Name c p2) X.env) :: starEach [] X.env := by rfl) (hpl : (backTo pos (starEach [.Name c p2] X.env)).any (·.1) = false := by rfl) :
    VE X (.Call (.Name "isinstance" p) [a, .Name c p2] [] pos) (Vw.op1 (isX ts.excs c) f) := by
  refine PE.weak (pe_callB call_isEx hg hm (id := "isinstance") (by rfl) (pa_cons ha (pa_cons (pe_glob (v := .ref (He.ga X.K c)) hgt (Y.glo i h2) rfl hd) pa_nil hs2) hs) (by decide) (by decide) hs hpl) fun σ H Q ⟨ρ, I, φ, gd, h⟩ => ?_
  refine vbind gd h fun x v S I1 H1 g1 w h => ?_
  refine h.some fun z e hz => ?_
  unfold isX at e
  rw [Option.bind_eq_some_iff] at e
  obtain ⟨d, e1, e⟩ := e
  rw [Option.bind_eq_some_iff] at e
  obtain ⟨ds, e2, e⟩ := e
  cases e
  have := exC_ok e1
  subst this
  obtain ⟨q, rfl, hq⟩ := w.exn
  have hx := List.all_eq_true.mp (He.ba Y.tabs).2 _ (lookX_mem e2)
  obtain ⟨k1, k2⟩ := He.ba hx
  obtain ⟨_, k3⟩ := He.ba k2
  have k4 := of_decide_eq_true (List.all_eq_true.mp k3 _ (List.mem_of_getElem? hj))
  exact ⟨q, _, .ref (He.ga X.K c), .ref (He.ga X.K c), _, rfl, g1.gd.le _ _ hq, excB_ok k1, fun u r => r, k4, hz.d g1.gd (.bl _)⟩
/-- isinstance(e, ValueError) -/
theorem ve_isXV (Y : Ya fa fn ts X.K X.mg) (hm : X.mg "isinstance" = none) (hmt : X.mg "ValueError" = none) (ha : VE X a f) (hg : Gl X "isinstance" := by rfl) (hgt : Gl X "ValueError" := by rfl)
    (hs : starEach [a, .Name "ValueError" p2] X.env = (false, eval a X.env) :: starEach [.Name "ValueError" p2] X.env := by rfl) (hs2 : starEach [.Name "ValueError" p2] X.env = (false, eval (.Name "ValueError" p2) X.env) :: starEach [] X.env := by rfl) (hpl : (backTo pos (starEach [.Name "ValueError" p2] X.env)).any (·.1) = false := by rfl) :
    VE X (.Call (.Name "isinstance" p) [a, .Name "ValueError" p2] [] pos) (Vw.op1 (isXV ts.excs) f) := by
  refine PE.weak (pe_callB call_isEx hg hm (id := "isinstance") (by rfl) (pa_cons ha (pa_cons (pe_bltn (v := .ty "ValueError") hgt hmt (by rfl) rfl (by decide) (by decide)) pa_nil hs2) hs) (by decide) (by decide) hs hpl) fun σ H Q ⟨ρ, I, φ, gd, h⟩ => ?_
  refine vbind gd h fun x v S I1 H1 g1 w h => ?_
  refine h.some fun z e hz => ?_
  unfold isXV at e
  rw [Option.bind_eq_some_iff] at e
  obtain ⟨d, e1, e⟩ := e
  rw [Option.bind_eq_some_iff] at e
  obtain ⟨ds, e2, e⟩ := e
  cases e
  have := exC_ok e1
  subst this
  obtain ⟨q, rfl, hq⟩ := w.exn
  have hx := List.all_eq_true.mp (He.ba Y.tabs).2 _ (lookX_mem e2)
  obtain ⟨k1, k2⟩ := He.ba hx
  obtain ⟨k3, _⟩ := He.ba k2
  exact ⟨q, _, .ty "ValueError", .type "ValueError", _, rfl, g1.gd.le _ _ hq, excB_ok k1, fun u r => r, of_decide_eq_true k3, hz.d g1.gd (.bl _)⟩
end
/-! ### a text times an int -/
def repStr (x : Str) (n : Int) : Str := ⟨(List.replicate n.toNat x.cps).foldl (· ++ ·) #[]⟩
theorem foldl_size {α : Type} : ∀ (n : Nat) (xs acc : Array α), ((List.replicate n xs).foldl (· ++ ·) acc).size = acc.size + n * xs.size
  | 0, _, _ => by simp
  | n + 1, xs, acc => by
    rw [List.replicate_succ, List.foldl_cons, foldl_size n, Array.size_append, Nat.succ_mul]
    omega
def rMulS : R2 := fun x y H Q => ∃ (s : Str) (n : Int), x = .str s ∧ y = .int n ∧ 2 ≤ n ∧ n ≤ 1000 ∧ 1 ≤ s.length ∧ s.length ≤ 1000 ∧ Q (.str (repStr s n)) H
theorem op_mulS {X : Cx} : OpR X (binaryOp .Mult) rMulS := by
  intro pins s σ H x y v u Q I rx ry h
  obtain ⟨z, n, rfl, rfl, h1, h2, h3, h4, q⟩ := h
  obtain ⟨t, rfl⟩ := rx
  obtain ⟨t2, rfl⟩ := ry
  have hm : z.length * n.toNat ≤ 1000 * 1000 := Nat.mul_le_mul h4 (by omega)
  have hm2 : (z.length : Int) * n ≤ 1000000 := by
    have a1 : (z.length : Int) * n ≤ 1000 * n := Int.mul_le_mul_of_nonneg_right (by omega) (by omega)
    omega
  refine PySem.P.mul_str (by rw [decide_eq_false (by omega), decide_eq_false (by omega)]; rfl) (fun _ _ => ?_) (fun _ _ => ?_) ?_
  · have : (z.length : Int) ≤ (2 ^ 63 - 1) / n := Int.le_ediv_of_mul_le (by omega) (by omega)
    omega
  · show decide (_ > sizeLine) = false
    rw [decide_eq_false]
    rw [sizeLine_eq]
    omega
  · rw [if_neg (by omega)]
    have hc : (n == 1 || z.length == 0) = false := by
      rw [Bool.or_eq_false_iff, beq_eq_false_iff_ne, beq_eq_false_iff_ne]
      exact ⟨by omega, by omega⟩
    rw [if_neg (by rw [hc]; exact Bool.false_ne_true)]
    refine ⟨?_, .str (repStr z n), H, I.tok _, ⟨_, rfl⟩, q⟩
    show ((List.replicate n.toNat z.cps).foldl (· ++ ·) #[]).size ≤ sizeLine
    rw [foldl_size, sizeLine_eq]
    have e : z.length = z.cps.size := rfl
    rw [← e, Nat.mul_comm]
    simp
    omega
def v_mulS (x y : O) : Option O := match x, y with
  | .d (.str s), .d (.int n) => if 2 ≤ n ∧ n ≤ 1000 ∧ 1 ≤ s.length ∧ s.length ≤ 1000 then some (.d (.str (repStr s n))) else none
  | _, _ => none
theorem vw_mulS {X : Cx} : Vw2 X rMulS v_mulS := by
  intro I H φ ρ σ Q x y z a b S1 S2 gd w1 w2 e h
  unfold v_mulS at e
  split at e
  · split at e
    · rename_i hk
      cases e
      cases w1.str
      cases w2.int
      exact ⟨_, _, rfl, rfl, hk.1, hk.2.1, hk.2.2.1, hk.2.2.2, h.d gd (.str _)⟩
    · cases e
  · cases e
end EV

/-! The layer EV, part W: the laws' pen: what its three defs are worth. -/
namespace EV.Pen
open PySem PySem.Spec PyProof.Rows L2
def b_open : M Fl := (S.seq (S.asg (E.fr (Vw.opN (fun xs => (l_list xs).map ol) (Vw.cons (Vw.sl (Vw.var 0) Vw.noPart (Vw.part (Vw.c (.int 12))) s_view) Vw.nil))) (G.nm 1))
  (S.seq (S.for (Wk.enum (A.cons (E.fr (Vw.sl (Vw.var 0) (Vw.part (Vw.c (.int 12))) (Vw.part (Vw.c (.int 63))) s_new)) A.nil)) (G.tup 2 (G.cons (G.nm 2) (G.cons (G.nm 3) G.nil))) (S.asg (E.view (Vw.op2 v_add (Vw.op2 o_ix (Vw.var 1) (Vw.op2 o_mod (Vw.opN b_int (Vw.cons (Vw.var 2) Vw.nil)) (Vw.c (.int 12)))) (Vw.var 3))) (G.subV (.slot 1) st_any (Vw.op2 o_mod (Vw.opN b_int (Vw.cons (Vw.var 2) Vw.nil)) (Vw.c (.int 12))))))
  (S.ret (E.lst (A.cons (E.move 1) (A.cons (E.view (Vw.c (.int 0))) (A.cons (E.view (Vw.c (.int 0))) A.nil)))))))
def open_ : List O → FRes := runF [] 4 b_open
def b_spread : M Fl := (S.seq (S.ifS (T.view (Vw.op2 o_ge (Vw.var 0) (Vw.op2 o_pow (Vw.c (.int 10)) (Vw.c (.int 18))))) (S.ret (E.move 0)) S.nx)
  (S.seq (S.asg (E.lst (A.cons (E.view (Vw.c (.int 2147483629))) (A.cons (E.view (Vw.c (.int 2147483587))) (A.cons (E.view (Vw.c (.int 2147483579))) (A.cons (E.view (Vw.c (.int 2147483563))) (A.cons (E.view (Vw.c (.int 2147483549))) (A.cons (E.view (Vw.c (.int 2147483543))) (A.cons (E.view (Vw.c (.int 2147483497))) (A.cons (E.view (Vw.c (.int 2147483489))) A.nil))))))))) (G.nm 2))
  (S.seq (S.asg (E.fr (Vw.op2 (fun x y => (l_add x y).map ol) (Vw.var 2) (Vw.lst (Vw.cons (Vw.c (.int 2147483477)) (Vw.cons (Vw.c (.int 2147483423)) (Vw.cons (Vw.c (.int 2147483399)) (Vw.cons (Vw.c (.int 2147483353)) (Vw.cons (Vw.c (.int 2147483323)) Vw.nil)))))))) (G.nm 2))
  (S.seq (S.asg (E.view (Vw.op2 v_add (Vw.op2 v_add (Vw.op2 v_mulA (Vw.op2 o_mod (Vw.opN b_int (Vw.cons (Vw.var 0) Vw.nil)) (Vw.c (.int 1000000007))) (Vw.op2 v_add (Vw.op2 v_mulA (Vw.c (.int 2)) (Vw.var 1)) (Vw.c (.int 69069)))) (Vw.op2 v_mulA (Vw.var 1) (Vw.c (.int 40503)))) (Vw.c (.int 977)))) (G.nm 3))
  (S.seq (S.asg (E.view (Vw.op2 o_mod (Vw.opN b_int (Vw.cons (Vw.op2 o_pow (Vw.var 3) (Vw.c (.int 3))) Vw.nil)) (Vw.op2 o_ix (Vw.var 2) (Vw.op2 o_mod (Vw.opN b_int (Vw.cons (Vw.var 1) Vw.nil)) (Vw.c (.int 13)))))) (G.nm 3))
  (S.seq (S.asg (E.view (Vw.op2 o_mod (Vw.opN b_int (Vw.cons (Vw.op2 o_pow (Vw.op2 v_add (Vw.op2 v_add (Vw.op2 v_mulA (Vw.var 3) (Vw.op2 v_add (Vw.var 1) (Vw.c (.int 3)))) (Vw.op2 o_mod (Vw.opN b_int (Vw.cons (Vw.var 0) Vw.nil)) (Vw.c (.int 65537)))) (Vw.c (.int 5))) (Vw.c (.int 5))) Vw.nil)) (Vw.op2 o_ix (Vw.var 2) (Vw.op2 o_mod (Vw.opN b_int (Vw.cons (Vw.op2 v_add (Vw.var 1) (Vw.c (.int 5))) Vw.nil)) (Vw.c (.int 13)))))) (G.nm 4))
  (S.seq (S.asg (E.view (Vw.op2 o_mod (Vw.opN b_int (Vw.cons (Vw.op2 o_pow (Vw.op2 v_add (Vw.op2 v_add (Vw.var 4) (Vw.op2 o_mod (Vw.opN b_int (Vw.cons (Vw.var 3) Vw.nil)) (Vw.c (.int 1009)))) (Vw.var 1)) (Vw.c (.int 3))) Vw.nil)) (Vw.op2 o_ix (Vw.var 2) (Vw.op2 o_mod (Vw.opN b_int (Vw.cons (Vw.op2 v_add (Vw.var 1) (Vw.c (.int 7))) Vw.nil)) (Vw.c (.int 13)))))) (G.nm 5))
  (S.ret (E.view (Vw.op2 v_add (Vw.op2 v_mulA (Vw.op2 v_add (Vw.op2 v_mulA (Vw.var 3) (Vw.c (.int 2147483647))) (Vw.var 4)) (Vw.c (.int 2147483647))) (Vw.var 5)))))))))))
def spread : List O → FRes := runF [] 6 b_spread
def b_spread2 : M Fl := (S.seq (S.ifS (T.view (Vw.op2 o_ge (Vw.var 0) (Vw.op2 o_pow (Vw.c (.int 10)) (Vw.c (.int 18))))) (S.ret (E.move 0)) S.nx)
  (S.seq (S.asg (E.lst (A.cons (E.view (Vw.c (.int 2147483629))) (A.cons (E.view (Vw.c (.int 2147483587))) (A.cons (E.view (Vw.c (.int 2147483579))) (A.cons (E.view (Vw.c (.int 2147483563))) (A.cons (E.view (Vw.c (.int 2147483549))) (A.cons (E.view (Vw.c (.int 2147483543))) (A.cons (E.view (Vw.c (.int 2147483497))) (A.cons (E.view (Vw.c (.int 2147483489))) A.nil))))))))) (G.nm 2))
  (S.seq (S.asg (E.fr (Vw.op2 (fun x y => (l_add x y).map ol) (Vw.var 2) (Vw.lst (Vw.cons (Vw.c (.int 2147483477)) (Vw.cons (Vw.c (.int 2147483423)) (Vw.cons (Vw.c (.int 2147483399)) (Vw.cons (Vw.c (.int 2147483353)) (Vw.cons (Vw.c (.int 2147483323)) Vw.nil)))))))) (G.nm 2))
  (S.seq (S.asg (E.view (Vw.op2 v_mulA (Vw.op2 o_mod (Vw.opN b_int (Vw.cons (Vw.var 0) Vw.nil)) (Vw.c (.int 1000000007))) (Vw.op2 v_add (Vw.op2 v_mulA (Vw.c (.int 2)) (Vw.var 1)) (Vw.c (.int 69069))))) (G.nm 3))
  (S.seq (S.asg (E.view (Vw.op2 o_mod (Vw.opN b_int (Vw.cons (Vw.op2 o_pow (Vw.op2 v_add (Vw.op2 v_add (Vw.var 3) (Vw.op2 v_mulA (Vw.var 1) (Vw.c (.int 40503)))) (Vw.c (.int 977))) (Vw.c (.int 3))) Vw.nil)) (Vw.op2 o_ix (Vw.var 2) (Vw.op2 o_mod (Vw.opN b_int (Vw.cons (Vw.var 1) Vw.nil)) (Vw.c (.int 13)))))) (G.nm 3))
  (S.seq (S.asg (E.view (Vw.op2 o_mod (Vw.opN b_int (Vw.cons (Vw.op2 o_pow (Vw.op2 v_add (Vw.op2 v_add (Vw.op2 v_mulA (Vw.var 3) (Vw.op2 v_add (Vw.var 1) (Vw.c (.int 3)))) (Vw.op2 o_mod (Vw.opN b_int (Vw.cons (Vw.var 0) Vw.nil)) (Vw.c (.int 65537)))) (Vw.c (.int 5))) (Vw.c (.int 5))) Vw.nil)) (Vw.op2 o_ix (Vw.var 2) (Vw.op2 o_mod (Vw.opN b_int (Vw.cons (Vw.op2 v_add (Vw.var 1) (Vw.c (.int 5))) Vw.nil)) (Vw.c (.int 13)))))) (G.nm 4))
  (S.seq (S.asg (E.view (Vw.op2 o_mod (Vw.opN b_int (Vw.cons (Vw.op2 o_pow (Vw.op2 v_add (Vw.op2 v_add (Vw.var 4) (Vw.op2 o_mod (Vw.opN b_int (Vw.cons (Vw.var 3) Vw.nil)) (Vw.c (.int 1009)))) (Vw.var 1)) (Vw.c (.int 3))) Vw.nil)) (Vw.op2 o_ix (Vw.var 2) (Vw.op2 o_mod (Vw.opN b_int (Vw.cons (Vw.op2 v_add (Vw.var 1) (Vw.c (.int 7))) Vw.nil)) (Vw.c (.int 13)))))) (G.nm 5))
  (S.ret (E.view (Vw.op2 v_add (Vw.op2 v_mulA (Vw.op2 v_add (Vw.op2 v_mulA (Vw.var 3) (Vw.c (.int 2147483647))) (Vw.var 4)) (Vw.c (.int 2147483647))) (Vw.var 5)))))))))))
def spread2 : List O → FRes := runF [] 6 b_spread2
def b_take (sp : List O → FRes) : M Fl := (S.seq (S.ifS (T.view (Vw.op2 o_lt (Vw.op2 o_ix (Vw.var 0) (Vw.c (.int 2))) (Vw.var 1))) (S.seq (S.asg (E.view (Vw.op2 o_ix (Vw.var 0) (Vw.c (.int 1)))) (G.nm 2))
  (S.seq (S.asg (E.view (Vw.c (.int 0))) (G.nm 3))
  (S.seq (S.ifS (T.view (Vw.op2 o_lt (Vw.var 2) (Vw.opN o_len (Vw.cons (Vw.op2 o_ix (Vw.var 0) (Vw.c (.int 0))) Vw.nil)))) (S.asg (E.view (Vw.op2 o_ix (Vw.op2 o_ix (Vw.var 0) (Vw.c (.int 0))) (Vw.var 2))) (G.nm 3)) (S.ifS (T.view (Vw.op2 o_gt (Vw.opN o_len (Vw.cons (Vw.op2 o_ix (Vw.var 0) (Vw.c (.int 0))) Vw.nil)) (Vw.c (.int 0)))) (S.asg (E.view (Vw.op2 o_mod (Vw.opN b_int (Vw.cons (Vw.op2 o_ix (Vw.op2 o_ix (Vw.var 0) (Vw.c (.int 0))) (Vw.op2 o_mod (Vw.opN b_int (Vw.cons (Vw.op2 v_add (Vw.op2 v_mulA (Vw.var 2) (Vw.c (.int 5))) (Vw.c (.int 3))) Vw.nil)) (Vw.opN o_len (Vw.cons (Vw.op2 o_ix (Vw.var 0) (Vw.c (.int 0))) Vw.nil)))) Vw.nil)) (Vw.op2 v_add (Vw.op2 o_pow (Vw.c (.int 10)) (Vw.c (.int 17))) (Vw.var 2)))) (G.nm 3)) S.nx))
  (S.seq (S.asg (E.view (Vw.op2 v_add (Vw.var 2) (Vw.c (.int 1)))) (G.subV (.slot 0) st_any (Vw.c (.int 1))))
  (S.asg (E.callP 2 sp (Vw.cons (Vw.pl (.slot 3)) (Vw.cons (Vw.pl (.slot 2)) Vw.nil))) (G.subV (.slot 0) st_any (Vw.c (.int 2)))))))) S.nx)
  (S.seq (S.asg (E.view (Vw.op2 o_mod (Vw.opN b_int (Vw.cons (Vw.op2 o_ix (Vw.var 0) (Vw.c (.int 2))) Vw.nil)) (Vw.var 1))) (G.nm 4))
  (S.seq (S.asg (E.view (Vw.op2 o_fdiv (Vw.op2 o_ix (Vw.var 0) (Vw.c (.int 2))) (Vw.var 1))) (G.subV (.slot 0) st_any (Vw.c (.int 2))))
  (S.ret (E.move 4)))))
def take (sp : List O → FRes) : List O → FRes := runF [0] 5 (b_take sp)

def ois (xs : List Int) : List O := xs.map fun i => .d (.int i)
abbrev pen (xs : List Int) (p q : Int) : O := .lst [.lst (ois xs), .d (.int p), .d (.int q)]
theorem ois_len (xs : List Int) : (ois xs).length = xs.length := by simp [ois]
theorem atI_nat {xs : List Int} {p : Int} (h0 : 0 ≤ p) (h1 : p < xs.length) : ∃ c, atI (ois xs) p = some (.d (.int c)) := by
  have hl : p.toNat < xs.length := by omega
  refine ⟨xs[p.toNat], ?_⟩
  unfold atI ixN
  rw [if_pos h0, if_pos (by rw [ois_len]; exact h1)]
  simp [ois, hl]
theorem at0 (a b c : O) : atI [a, b, c] 0 = some a := rfl
theorem at1 (a b c : O) : atI [a, b, c] 1 = some b := rfl
theorem at2 (a b c : O) : atI [a, b, c] 2 = some c := rfl
def SpOk (sp : List O → FRes) : Prop := ∀ c k : Int, 0 ≤ k → k ≤ 100000 → ∃ z, sp [.d (.int c), .d (.int k)] = .ok (.d (.int z)) []
theorem fdiv_ok {i j : Int} (h1 : 0 < j) (h2 : j < 1073741824) : o_fdiv (.d (.int i)) (.d (.int j)) = some (.d (.int (i / j))) := by
  unfold o_fdiv o_ii
  simp [h1, h2]
theorem mod_ok {i j : Int} (h1 : 0 < j) : o_mod (.d (.int i)) (.d (.int j)) = some (.d (.int (i % j))) := by
  unfold o_mod o_ii
  simp [h1]
theorem pow_ok {i j : Int} (h1 : 0 ≤ j) (h2 : j ≤ 1000) (h3 : -18446744073709551616 < i) (h4 : i < 18446744073709551616) : o_pow (.d (.int i)) (.d (.int j)) = some (.d (.int (i ^ j.toNat))) := by
  unfold o_pow o_ii
  simp [h1, h2, h3, h4]
theorem lt_ok {i j : Int} : o_lt (.d (.int i)) (.d (.int j)) = some (.d (.bool (decide (i < j)))) := rfl
theorem gt_ok {i j : Int} : o_gt (.d (.int i)) (.d (.int j)) = some (.d (.bool (decide (j < i)))) := rfl
theorem ge_ok {i j : Int} : o_ge (.d (.int i)) (.d (.int j)) = some (.d (.bool (decide (j ≤ i)))) := rfl
theorem add_ok {i j : Int} : v_add (.d (.int i)) (.d (.int j)) = some (.d (.int (i + j))) := rfl
theorem mul_ok {i j : Int} (h : -18446744073709551616 < j) (h2 : j < 18446744073709551616) : v_mulA (.d (.int i)) (.d (.int j)) = some (.d (.int (i * j))) := by
  unfold v_mulA v_mul
  simp [h, h2]
theorem int_ok {i : Int} : b_int [.d (.int i)] = some (.d (.int i)) := rfl
theorem ix_lst {xs : List O} {i : Int} : o_ix (.lst xs) (.d (.int i)) = atI xs i := rfl
theorem len_lst {xs : List O} : o_len [.lst xs] = some (.d (.int xs.length)) := rfl
/-- the end of a take -/
def b_tail : M Fl := (S.seq (S.asg (E.view (Vw.op2 o_mod (Vw.opN b_int (Vw.cons (Vw.op2 o_ix (Vw.var 0) (Vw.c (.int 2))) Vw.nil)) (Vw.var 1))) (G.nm 4))
  (S.seq (S.asg (E.view (Vw.op2 o_fdiv (Vw.op2 o_ix (Vw.var 0) (Vw.c (.int 2))) (Vw.var 1))) (G.subV (.slot 0) st_any (Vw.c (.int 2))))
  (S.ret (E.move 4))))
theorem take_end {sp : List O → FRes} {xs : List Int} {p q many : Int} {a b c : O} (h1 : 0 < many) (h2 : many < 1073741824) :
    b_tail [pen xs p q, .d (.int many), a, b, c] = .ok (.ret (.d (.int (q % many)))) [pen xs p (q / many), .d (.int many), a, b, .un] := by
  have e1 : o_mod (.d (.int q)) (.d (.int many)) = _ := mod_ok h1
  have e2 : o_fdiv (.d (.int q)) (.d (.int many)) = _ := fdiv_ok h1 h2
  have f1 : (S.asg (E.view (Vw.op2 o_mod (Vw.opN b_int (Vw.cons (Vw.op2 o_ix (Vw.var 0) (Vw.c (.int 2))) Vw.nil)) (Vw.var 1))) (G.nm 4)) [pen xs p q, .d (.int many), a, b, c] = .ok .nx [pen xs p q, .d (.int many), a, b, .d (.int (q % many))] := by
    have : (Vw.op2 o_mod (Vw.opN b_int (Vw.cons (Vw.op2 o_ix (Vw.var 0) (Vw.c (.int 2))) Vw.nil)) (Vw.var 1)) [pen xs p q, .d (.int many), a, b, c] = o_mod (.d (.int q)) (.d (.int many)) := rfl
    unfold S.asg M.bind E.view
    rw [this, e1]
    rfl
  have f2 : (S.asg (E.view (Vw.op2 o_fdiv (Vw.op2 o_ix (Vw.var 0) (Vw.c (.int 2))) (Vw.var 1))) (G.subV (.slot 0) st_any (Vw.c (.int 2)))) [pen xs p q, .d (.int many), a, b, .d (.int (q % many))] = .ok .nx [pen xs p (q / many), .d (.int many), a, b, .d (.int (q % many))] := by
    have : (Vw.op2 o_fdiv (Vw.op2 o_ix (Vw.var 0) (Vw.c (.int 2))) (Vw.var 1)) [pen xs p q, .d (.int many), a, b, .d (.int (q % many))] = o_fdiv (.d (.int q)) (.d (.int many)) := rfl
    unfold S.asg M.bind E.view
    rw [this, e2]
    rfl
  unfold b_tail S.seq
  rw [f1]
  simp only
  rw [f2]
  rfl

theorem seq_ok {f g : M Fl} {ρ ρ' : EV.Env} (h : f ρ = .ok .nx ρ') : S.seq f g ρ = g ρ' := by unfold S.seq; rw [h]
theorem if_ok {t : M Bool} {f g : M Fl} {ρ ρ' : EV.Env} {b : Bool} (h : t ρ = .ok b ρ') : S.ifS t f g ρ = if b then f ρ' else g ρ' := by
  unfold S.ifS M.bind
  rw [h]
  cases b <;> rfl
theorem asg_v {f : EV.Env → Option O} {i : Nat} {ρ : EV.Env} {x : D} (h : f ρ = some (.d x)) : S.asg (E.view f) (G.nm i) ρ = .ok .nx (ρ.set i (.d x)) := by
  unfold S.asg M.bind E.view
  rw [h]
  rfl
theorem op2_ok {o : O → O → Option O} {f g : EV.Env → Option O} {ρ : EV.Env} {x y z : O} (h1 : f ρ = some x) (h2 : g ρ = some y) (h : o x y = some z) : Vw.op2 o f g ρ = some z := by
  unfold Vw.op2
  rw [h1, h2]
  exact h
theorem opN_ok {o : List O → Option O} {f : EV.Env → Option O} {ρ : EV.Env} {x z : O} (h1 : f ρ = some x) (h : o [x] = some z) : Vw.opN o (Vw.cons f Vw.nil) ρ = some z := by
  unfold Vw.opN Vw.cons
  rw [h1]
  exact h
def b_take1 : M Fl := (S.ifS (T.view (Vw.op2 o_lt (Vw.var 2) (Vw.opN o_len (Vw.cons (Vw.op2 o_ix (Vw.var 0) (Vw.c (.int 0))) Vw.nil)))) (S.asg (E.view (Vw.op2 o_ix (Vw.op2 o_ix (Vw.var 0) (Vw.c (.int 0))) (Vw.var 2))) (G.nm 3)) (S.ifS (T.view (Vw.op2 o_gt (Vw.opN o_len (Vw.cons (Vw.op2 o_ix (Vw.var 0) (Vw.c (.int 0))) Vw.nil)) (Vw.c (.int 0)))) (S.asg (E.view (Vw.op2 o_mod (Vw.opN b_int (Vw.cons (Vw.op2 o_ix (Vw.op2 o_ix (Vw.var 0) (Vw.c (.int 0))) (Vw.op2 o_mod (Vw.opN b_int (Vw.cons (Vw.op2 v_add (Vw.op2 v_mulA (Vw.var 2) (Vw.c (.int 5))) (Vw.c (.int 3))) Vw.nil)) (Vw.opN o_len (Vw.cons (Vw.op2 o_ix (Vw.var 0) (Vw.c (.int 0))) Vw.nil)))) Vw.nil)) (Vw.op2 v_add (Vw.op2 o_pow (Vw.c (.int 10)) (Vw.c (.int 17))) (Vw.var 2)))) (G.nm 3)) S.nx))
theorem take1_ok {xs : List Int} {p q many : Int} {e : O} (hp : 0 ≤ p) (hp2 : p ≤ 100000) : ∃ c : Int, b_take1 [pen xs p q, .d (.int many), .d (.int p), .d (.int 0), e] = .ok .nx [pen xs p q, .d (.int many), .d (.int p), .d (.int c), e] := by
  unfold b_take1
  have t1 : (T.view (Vw.op2 o_lt (Vw.var 2) (Vw.opN o_len (Vw.cons (Vw.op2 o_ix (Vw.var 0) (Vw.c (.int 0))) Vw.nil)))) [pen xs p q, .d (.int many), .d (.int p), .d (.int 0), e] = .ok (decide (p < ((ois xs).length : Nat))) [pen xs p q, .d (.int many), .d (.int p), .d (.int 0), e] := rfl
  rw [if_ok t1]
  by_cases h : p < ((ois xs).length : Nat)
  · rw [decide_eq_true h, if_pos rfl]
    obtain ⟨c, hc⟩ := atI_nat (xs := xs) hp (by rw [← ois_len]; exact h)
    refine ⟨c, asg_v ?_⟩
    have : (Vw.op2 o_ix (Vw.op2 o_ix (Vw.var 0) (Vw.c (.int 0))) (Vw.var 2)) [pen xs p q, .d (.int many), .d (.int p), .d (.int 0), e] = atI (ois xs) p := rfl
    rw [this, hc]
  · rw [decide_eq_false h, if_neg Bool.false_ne_true]
    have t2 : (T.view (Vw.op2 o_gt (Vw.opN o_len (Vw.cons (Vw.op2 o_ix (Vw.var 0) (Vw.c (.int 0))) Vw.nil)) (Vw.c (.int 0)))) [pen xs p q, .d (.int many), .d (.int p), .d (.int 0), e] = .ok (decide (0 < (((ois xs).length : Nat) : Int))) [pen xs p q, .d (.int many), .d (.int p), .d (.int 0), e] := rfl
    rw [if_ok t2]
    by_cases h0 : 0 < (((ois xs).length : Nat) : Int)
    · rw [decide_eq_true h0, if_pos rfl]
      have e1 : v_mulA (.d (.int p)) (.d (.int 5)) = some (.d (.int (p * 5))) := mul_ok (by decide) (by decide)
      have e2 : o_mod (.d (.int (p * 5 + 3))) (.d (.int (((ois xs).length : Nat) : Int))) = some (.d (.int ((p * 5 + 3) % (((ois xs).length : Nat) : Int)))) := mod_ok h0
      obtain ⟨c, hc⟩ := atI_nat (xs := xs) (p := (p * 5 + 3) % (((ois xs).length : Nat) : Int)) (Int.emod_nonneg _ (by omega)) (by rw [← ois_len]; exact Int.emod_lt_of_pos _ h0)
      have e3 : o_pow (.d (.int 10)) (.d (.int 17)) = some (.d (.int (10 ^ 17))) := rfl
      have e4 : o_mod (.d (.int c)) (.d (.int (10 ^ 17 + p))) = some (.d (.int (c % (10 ^ 17 + p)))) := mod_ok (by omega)
      refine ⟨c % (10 ^ 17 + p), asg_v ?_⟩
      exact op2_ok (opN_ok (op2_ok (op2_ok rfl rfl ix_lst) (op2_ok (opN_ok (op2_ok (op2_ok rfl rfl e1) rfl add_ok) int_ok) (opN_ok (op2_ok rfl rfl ix_lst) len_lst) e2) hc) int_ok) (op2_ok (op2_ok rfl rfl e3) rfl add_ok) e4
    · rw [decide_eq_false h0, if_neg Bool.false_ne_true]
      exact ⟨0, rfl⟩
theorem callP2 {sp : List O → FRes} {ρ : EV.Env} {i j : Nat} {c k z : Int} (h1 : (Pl.slot i).get ρ = some (.d (.int c))) (h2 : (Pl.slot j).get ρ = some (.d (.int k))) (h : sp [.d (.int c), .d (.int k)] = .ok (.d (.int z)) []) :
    E.callP 2 sp (Vw.cons (Vw.pl (.slot i)) (Vw.cons (Vw.pl (.slot j)) Vw.nil)) ρ = .ok (.d (.int z)) ρ := by
  have e : (Vw.cons (Vw.pl (.slot i)) (Vw.cons (Vw.pl (.slot j)) Vw.nil)) ρ = some [.d (.int c), .d (.int k)] := by
    unfold Vw.cons Vw.pl Vw.nil
    rw [h1, h2]
    rfl
  unfold E.callP
  rw [e]
  show (if _ then (match sp [.d (.int c), .d (.int k)] with
    | .ok r [] => _
    | .exc c [] => _
    | _ => _) else _) = _
  rw [h]
  rfl
theorem take_ok {sp : List O → FRes} (hs : SpOk sp) {xs : List Int} {p q many : Int} (h1 : 0 < many) (h2 : many < 1073741824) (hp : 0 ≤ p) (hp2 : p ≤ 100000) :
    ∃ r p' q' : Int, take sp [pen xs p q, .d (.int many)] = .ok (.d (.int r)) [pen xs p' q'] ∧ 0 ≤ r ∧ r < many ∧ 0 ≤ p' ∧ p' ≤ p + 1 := by
  have fin : ∀ {p' q' : Int} {a b c : O} {ρ : EV.Env}, ρ = [pen xs p' q', .d (.int many), a, b, c] → 0 ≤ p' → p' ≤ p + 1 → b_take sp [pen xs p q, .d (.int many), .un, .un, .un] = b_tail ρ → _ := fun {p' q' a b c ρ} e1 e2 e3 e4 => (show ∃ r p'' q'' : Int, take sp [pen xs p q, .d (.int many)] = .ok (.d (.int r)) [pen xs p'' q''] ∧ 0 ≤ r ∧ r < many ∧ 0 ≤ p'' ∧ p'' ≤ p + 1 from by
    subst e1
    refine ⟨q' % many, p', q' / many, ?_, Int.emod_nonneg _ (by omega), Int.emod_lt_of_pos _ h1, e2, e3⟩
    show (match b_take sp [pen xs p q, .d (.int many), .un, .un, .un] with
      | .ok (.ret r) ρ => FRes.ok r ([0].map fun i => ρ.getD i .un)
      | .ok .nx ρ => .ok (.d .none) ([0].map fun i => ρ.getD i .un)
      | .exc c ρ => .exc c ([0].map fun i => ρ.getD i .un)
      | _ => .stuck) = _
    rw [e4, take_end (a := a) (b := b) (c := c) h1 h2 (sp := sp)]
    rfl)
  have t1 : (T.view (Vw.op2 o_lt (Vw.op2 o_ix (Vw.var 0) (Vw.c (.int 2))) (Vw.var 1))) [pen xs p q, .d (.int many), .un, .un, .un] = .ok (decide (q < many)) [pen xs p q, .d (.int many), .un, .un, .un] := rfl
  by_cases h : q < many
  · obtain ⟨c, hc⟩ := take1_ok (xs := xs) (q := q) (many := many) (e := .un) hp hp2
    obtain ⟨z, hz⟩ := hs c p hp hp2
    refine fin (p' := p + 1) (q' := z) (a := .d (.int p)) (b := .d (.int c)) (c := .un) rfl (by omega) (by omega) ?_
    show S.seq _ b_tail _ = b_tail _
    refine seq_ok ?_
    rw [if_ok t1, decide_eq_true h, if_pos rfl]
    refine (seq_ok (ρ' := [pen xs p q, .d (.int many), .d (.int p), .un, .un]) rfl).trans ?_
    refine (seq_ok (ρ' := [pen xs p q, .d (.int many), .d (.int p), .d (.int 0), .un]) rfl).trans ?_
    refine (seq_ok (ρ' := [pen xs p q, .d (.int many), .d (.int p), .d (.int c), .un]) hc).trans ?_
    refine (seq_ok (ρ' := [pen xs (p + 1) q, .d (.int many), .d (.int p), .d (.int c), .un]) rfl).trans ?_
    unfold S.asg M.bind
    rw [callP2 (c := c) (k := p) (z := z) rfl rfl hz]
    rfl
  · refine fin (p' := p) (q' := q) (a := .un) (b := .un) (c := .un) rfl hp (by omega) ?_
    show S.seq _ b_tail _ = b_tail _
    refine seq_ok ?_
    rw [if_ok t1, decide_eq_false h, if_neg Bool.false_ne_true]
    rfl

def prs : List O := [.d (.int 2147483629), .d (.int 2147483587), .d (.int 2147483579), .d (.int 2147483563), .d (.int 2147483549), .d (.int 2147483543), .d (.int 2147483497), .d (.int 2147483489), .d (.int 2147483477), .d (.int 2147483423), .d (.int 2147483399), .d (.int 2147483353), .d (.int 2147483323)]
theorem at_prs {i : Int} (h0 : 0 ≤ i) (h1 : i < 13) : ∃ pr : Int, atI prs i = some (.d (.int pr)) ∧ 0 < pr ∧ pr < 2147483648 := by
  have : i = 0 ∨ i = 1 ∨ i = 2 ∨ i = 3 ∨ i = 4 ∨ i = 5 ∨ i = 6 ∨ i = 7 ∨ i = 8 ∨ i = 9 ∨ i = 10 ∨ i = 11 ∨ i = 12 := by omega
  rcases this with h | h | h | h | h | h | h | h | h | h | h | h | h <;> (subst h; exact ⟨_, rfl, by decide, by decide⟩)

theorem prs_ok {ρ : EV.Env} {f : EV.Env → Option O} {k : Int} (h2 : Vw.var 2 ρ = some (.lst prs)) (hf : f ρ = some (.d (.int k))) : ∃ pr : Int, (Vw.op2 o_ix (Vw.var 2) (Vw.op2 o_mod (Vw.opN b_int (Vw.cons f Vw.nil)) (Vw.c (.int 13)))) ρ = some (.d (.int pr)) ∧ 0 < pr ∧ pr < 2147483648 := by
  have e : o_mod (.d (.int k)) (.d (.int 13)) = some (.d (.int (k % 13))) := mod_ok (by decide)
  obtain ⟨pr, h, a, b⟩ := at_prs (i := k % 13) (Int.emod_nonneg _ (by decide)) (Int.emod_lt_of_pos _ (by decide))
  exact ⟨pr, op2_ok h2 (op2_ok (opN_ok hf int_ok) rfl e) h, a, b⟩
/-- int(e ** n) % primes[..] -/
theorem pw_ok {ρ : EV.Env} {f g : EV.Env → Option O} {i pr n : Int} (hn : 0 ≤ n) (hn2 : n ≤ 1000) (hi : 0 ≤ i) (hi2 : i < 18446744073709551616) (hf : f ρ = some (.d (.int i))) (hg : g ρ = some (.d (.int pr))) (h1 : 0 < pr) (h2 : pr < 2147483648) :
    ∃ u : Int, (Vw.op2 o_mod (Vw.opN b_int (Vw.cons (Vw.op2 o_pow f (Vw.c (.int n))) Vw.nil)) g) ρ = some (.d (.int u)) ∧ 0 ≤ u ∧ u < 2147483648 := by
  have e : o_pow (.d (.int i)) (.d (.int n)) = some (.d (.int (i ^ n.toNat))) := pow_ok hn hn2 (by omega) hi2
  have h3 : i ^ n.toNat % pr < pr := Int.emod_lt_of_pos _ h1
  exact ⟨i ^ n.toNat % pr, op2_ok (opN_ok (op2_ok hf rfl e) int_ok) hg (mod_ok h1), Int.emod_nonneg _ (by omega), by omega⟩
theorem modv {ρ : EV.Env} {f : EV.Env → Option O} {i m : Int} (hf : f ρ = some (.d (.int i))) (h : 0 < m) : (Vw.op2 o_mod (Vw.opN b_int (Vw.cons f Vw.nil)) (Vw.c (.int m))) ρ = some (.d (.int (i % m))) := op2_ok (opN_ok hf int_ok) rfl (mod_ok h)
theorem addv {ρ : EV.Env} {f g : EV.Env → Option O} {i j : Int} (hf : f ρ = some (.d (.int i))) (hg : g ρ = some (.d (.int j))) : Vw.op2 v_add f g ρ = some (.d (.int (i + j))) := op2_ok hf hg add_ok
theorem mulv {ρ : EV.Env} {f g : EV.Env → Option O} {i j : Int} (hf : f ρ = some (.d (.int i))) (hg : g ρ = some (.d (.int j))) (h : -18446744073709551616 < j) (h2 : j < 18446744073709551616) : Vw.op2 v_mulA f g ρ = some (.d (.int (i * j))) := op2_ok hf hg (mul_ok h h2)
theorem mul_bd {a b m n : Int} (h1 : 0 ≤ a) (h2 : a ≤ m) (h3 : 0 ≤ b) (h4 : b ≤ n) : 0 ≤ a * b ∧ a * b ≤ m * n := ⟨Int.mul_nonneg h1 h3, Int.mul_le_mul h2 h4 h3 (by omega)⟩
theorem spread_if {c k : Int} : (T.view (Vw.op2 o_ge (Vw.var 0) (Vw.op2 o_pow (Vw.c (.int 10)) (Vw.c (.int 18))))) [.d (.int c), .d (.int k), .un, .un, .un, .un] = .ok (decide (10 ^ 18 ≤ c)) [.d (.int c), .d (.int k), .un, .un, .un, .un] := by
  have e : o_pow (.d (.int 10)) (.d (.int 18)) = some (.d (.int (10 ^ 18))) := rfl
  have h : (Vw.op2 o_ge (Vw.var 0) (Vw.op2 o_pow (Vw.c (.int 10)) (Vw.c (.int 18)))) [.d (.int c), .d (.int k), .un, .un, .un, .un] = some (.d (.bool (decide (10 ^ 18 ≤ c)))) := op2_ok rfl (op2_ok rfl rfl e) ge_ok
  unfold T.view
  rw [h]
theorem spread_ok : SpOk spread := by
  intro c k hk hk2
  have run : ∀ {z : Int} {ρ : EV.Env}, b_spread [.d (.int c), .d (.int k), .un, .un, .un, .un] = .ok (.ret (.d (.int z))) ρ → ∃ z, spread [.d (.int c), .d (.int k)] = .ok (.d (.int z)) [] := fun {z ρ} h => ⟨z, by
    show (match b_spread [.d (.int c), .d (.int k), .un, .un, .un, .un] with
      | .ok (.ret r) ρ => FRes.ok r (([] : List Nat).map fun i => ρ.getD i .un)
      | .ok .nx ρ => .ok (.d .none) (([] : List Nat).map fun i => ρ.getD i .un)
      | .exc c ρ => .exc c (([] : List Nat).map fun i => ρ.getD i .un)
      | _ => .stuck) = _
    rw [h]
    rfl⟩
  by_cases hc : 10 ^ 18 ≤ c
  · refine run (z := c) (ρ := [.un, .d (.int k), .un, .un, .un, .un]) ?_
    unfold b_spread S.seq
    rw [if_ok spread_if, decide_eq_true hc, if_pos rfl]
    rfl
  · have c1 : 0 ≤ c % 1000000007 := Int.emod_nonneg _ (by decide)
    have c2 : c % 1000000007 < 1000000007 := Int.emod_lt_of_pos _ (by decide)
    have c3 : 0 ≤ c % 65537 := Int.emod_nonneg _ (by decide)
    have c4 : c % 65537 < 65537 := Int.emod_lt_of_pos _ (by decide)
    obtain ⟨b1, b2⟩ := mul_bd (a := c % 1000000007) (b := 2 * k + 69069) (m := 1000000007) (n := 300000) c1 (by omega) (by omega) (by omega)
    obtain ⟨p1, q1, q2, q3⟩ := prs_ok (ρ := [.d (.int c), .d (.int k), .lst prs, .d (.int (c % 1000000007 * (2 * k + 69069) + k * 40503 + 977)), .un, .un]) (f := Vw.var 1) (k := k) rfl rfl
    obtain ⟨u, u1, u2, u3⟩ := pw_ok (ρ := [.d (.int c), .d (.int k), .lst prs, .d (.int (c % 1000000007 * (2 * k + 69069) + k * 40503 + 977)), .un, .un]) (f := Vw.var 3) (n := 3) (by decide) (by decide) (by omega) (by omega) rfl q1 q2 q3
    obtain ⟨b3, b4⟩ := mul_bd (a := u) (b := k + 3) (m := 2147483648) (n := 200000) u2 (by omega) (by omega) (by omega)
    obtain ⟨p2, r1, r2, r3⟩ := prs_ok (ρ := [.d (.int c), .d (.int k), .lst prs, .d (.int u), .un, .un]) (f := Vw.op2 v_add (Vw.var 1) (Vw.c (.int 5))) (k := k + 5) rfl (addv rfl rfl)
    obtain ⟨v, v1, v2, v3⟩ := pw_ok (ρ := [.d (.int c), .d (.int k), .lst prs, .d (.int u), .un, .un]) (n := 5) (by decide) (by decide) (by omega) (by omega) (addv (addv (mulv (f := Vw.var 3) (i := u) rfl (addv (f := Vw.var 1) (g := Vw.c (.int 3)) (i := k) (j := 3) rfl rfl) (by omega) (by omega)) (modv (f := Vw.var 0) (i := c) (m := 65537) rfl (by decide))) (g := Vw.c (.int 5)) (j := 5) rfl) r1 r2 r3
    have c5 : 0 ≤ u % 1009 := Int.emod_nonneg _ (by decide)
    have c6 : u % 1009 < 1009 := Int.emod_lt_of_pos _ (by decide)
    obtain ⟨p3, s1, s2, s3⟩ := prs_ok (ρ := [.d (.int c), .d (.int k), .lst prs, .d (.int u), .d (.int v), .un]) (f := Vw.op2 v_add (Vw.var 1) (Vw.c (.int 7))) (k := k + 7) rfl (addv rfl rfl)
    obtain ⟨w, w1, w2, w3⟩ := pw_ok (ρ := [.d (.int c), .d (.int k), .lst prs, .d (.int u), .d (.int v), .un]) (n := 3) (by decide) (by decide) (by omega) (by omega) (addv (addv (f := Vw.var 4) (i := v) rfl (modv (f := Vw.var 3) (i := u) (m := 1009) rfl (by decide))) (g := Vw.var 1) (j := k) rfl) s1 s2 s3
    refine run (z := (u * 2147483647 + v) * 2147483647 + w) (ρ := [.d (.int c), .d (.int k), .lst prs, .d (.int u), .d (.int v), .d (.int w)]) ?_
    unfold b_spread
    refine (seq_ok (ρ' := [.d (.int c), .d (.int k), .un, .un, .un, .un]) (by rw [if_ok spread_if, decide_eq_false hc, if_neg Bool.false_ne_true]; rfl)).trans ?_
    refine (seq_ok rfl).trans ?_
    refine (seq_ok (ρ' := [.d (.int c), .d (.int k), .lst prs, .un, .un, .un]) rfl).trans ?_
    refine (seq_ok (asg_v (addv (addv (mulv (modv rfl (by decide)) (addv (mulv rfl rfl (by omega) (by omega)) rfl) (by omega) (by omega)) (mulv rfl rfl (by decide) (by decide))) rfl))).trans ?_
    refine (seq_ok (asg_v u1)).trans ?_
    refine (seq_ok (asg_v v1)).trans ?_
    refine (seq_ok (asg_v w1)).trans ?_
    have fin : (Vw.op2 v_add (Vw.op2 v_mulA (Vw.op2 v_add (Vw.op2 v_mulA (Vw.var 3) (Vw.c (.int 2147483647))) (Vw.var 4)) (Vw.c (.int 2147483647))) (Vw.var 5)) [.d (.int c), .d (.int k), .lst prs, .d (.int u), .d (.int v), .d (.int w)] = some (.d (.int ((u * 2147483647 + v) * 2147483647 + w))) :=
      addv (mulv (addv (mulv rfl rfl (by decide) (by decide)) rfl) rfl (by decide) (by decide)) rfl
    show S.ret (E.view _) [.d (.int c), .d (.int k), .lst prs, .d (.int u), .d (.int v), .d (.int w)] = _
    unfold S.ret M.bind E.view
    rw [fin]
    rfl
theorem spread2_ok : SpOk spread2 := by
  intro c k hk hk2
  have run : ∀ {z : Int} {ρ : EV.Env}, b_spread2 [.d (.int c), .d (.int k), .un, .un, .un, .un] = .ok (.ret (.d (.int z))) ρ → ∃ z, spread2 [.d (.int c), .d (.int k)] = .ok (.d (.int z)) [] := fun {z ρ} h => ⟨z, by
    show (match b_spread2 [.d (.int c), .d (.int k), .un, .un, .un, .un] with
      | .ok (.ret r) ρ => FRes.ok r (([] : List Nat).map fun i => ρ.getD i .un)
      | .ok .nx ρ => .ok (.d .none) (([] : List Nat).map fun i => ρ.getD i .un)
      | .exc c ρ => .exc c (([] : List Nat).map fun i => ρ.getD i .un)
      | _ => .stuck) = _
    rw [h]
    rfl⟩
  by_cases hc : 10 ^ 18 ≤ c
  · refine run (z := c) (ρ := [.un, .d (.int k), .un, .un, .un, .un]) ?_
    unfold b_spread2 S.seq
    rw [if_ok spread_if, decide_eq_true hc, if_pos rfl]
    rfl
  · have c1 : 0 ≤ c % 1000000007 := Int.emod_nonneg _ (by decide)
    have c2 : c % 1000000007 < 1000000007 := Int.emod_lt_of_pos _ (by decide)
    have c3 : 0 ≤ c % 65537 := Int.emod_nonneg _ (by decide)
    have c4 : c % 65537 < 65537 := Int.emod_lt_of_pos _ (by decide)
    obtain ⟨b1, b2⟩ := mul_bd (a := c % 1000000007) (b := 2 * k + 69069) (m := 1000000007) (n := 300000) c1 (by omega) (by omega) (by omega)
    obtain ⟨p1, q1, q2, q3⟩ := prs_ok (ρ := [.d (.int c), .d (.int k), .lst prs, .d (.int (c % 1000000007 * (2 * k + 69069))), .un, .un]) (f := Vw.var 1) (k := k) rfl rfl
    obtain ⟨u, u1, u2, u3⟩ := pw_ok (ρ := [.d (.int c), .d (.int k), .lst prs, .d (.int (c % 1000000007 * (2 * k + 69069))), .un, .un]) (n := 3) (i := c % 1000000007 * (2 * k + 69069) + k * 40503 + 977) (by decide) (by decide) (by omega) (by omega) (addv (addv (f := Vw.var 3) (i := c % 1000000007 * (2 * k + 69069)) rfl (mulv (f := Vw.var 1) (g := Vw.c (.int 40503)) (i := k) (j := 40503) rfl rfl (by decide) (by decide))) (g := Vw.c (.int 977)) (j := 977) rfl) q1 q2 q3
    obtain ⟨b3, b4⟩ := mul_bd (a := u) (b := k + 3) (m := 2147483648) (n := 200000) u2 (by omega) (by omega) (by omega)
    obtain ⟨p2, r1, r2, r3⟩ := prs_ok (ρ := [.d (.int c), .d (.int k), .lst prs, .d (.int u), .un, .un]) (f := Vw.op2 v_add (Vw.var 1) (Vw.c (.int 5))) (k := k + 5) rfl (addv rfl rfl)
    obtain ⟨v, v1, v2, v3⟩ := pw_ok (ρ := [.d (.int c), .d (.int k), .lst prs, .d (.int u), .un, .un]) (n := 5) (by decide) (by decide) (by omega) (by omega) (addv (addv (mulv (f := Vw.var 3) (i := u) rfl (addv (f := Vw.var 1) (g := Vw.c (.int 3)) (i := k) (j := 3) rfl rfl) (by omega) (by omega)) (modv (f := Vw.var 0) (i := c) (m := 65537) rfl (by decide))) (g := Vw.c (.int 5)) (j := 5) rfl) r1 r2 r3
    have c5 : 0 ≤ u % 1009 := Int.emod_nonneg _ (by decide)
    have c6 : u % 1009 < 1009 := Int.emod_lt_of_pos _ (by decide)
    obtain ⟨p3, s1, s2, s3⟩ := prs_ok (ρ := [.d (.int c), .d (.int k), .lst prs, .d (.int u), .d (.int v), .un]) (f := Vw.op2 v_add (Vw.var 1) (Vw.c (.int 7))) (k := k + 7) rfl (addv rfl rfl)
    obtain ⟨w, w1, w2, w3⟩ := pw_ok (ρ := [.d (.int c), .d (.int k), .lst prs, .d (.int u), .d (.int v), .un]) (n := 3) (by decide) (by decide) (by omega) (by omega) (addv (addv (f := Vw.var 4) (i := v) rfl (modv (f := Vw.var 3) (i := u) (m := 1009) rfl (by decide))) (g := Vw.var 1) (j := k) rfl) s1 s2 s3
    refine run (z := (u * 2147483647 + v) * 2147483647 + w) (ρ := [.d (.int c), .d (.int k), .lst prs, .d (.int u), .d (.int v), .d (.int w)]) ?_
    unfold b_spread2
    refine (seq_ok (ρ' := [.d (.int c), .d (.int k), .un, .un, .un, .un]) (by rw [if_ok spread_if, decide_eq_false hc, if_neg Bool.false_ne_true]; rfl)).trans ?_
    refine (seq_ok rfl).trans ?_
    refine (seq_ok (ρ' := [.d (.int c), .d (.int k), .lst prs, .un, .un, .un]) rfl).trans ?_
    refine (seq_ok (asg_v (mulv (modv rfl (by decide)) (addv (mulv rfl rfl (by omega) (by omega)) rfl) (by omega) (by omega)))).trans ?_
    refine (seq_ok (asg_v u1)).trans ?_
    refine (seq_ok (asg_v v1)).trans ?_
    refine (seq_ok (asg_v w1)).trans ?_
    have fin : (Vw.op2 v_add (Vw.op2 v_mulA (Vw.op2 v_add (Vw.op2 v_mulA (Vw.var 3) (Vw.c (.int 2147483647))) (Vw.var 4)) (Vw.c (.int 2147483647))) (Vw.var 5)) [.d (.int c), .d (.int k), .lst prs, .d (.int u), .d (.int v), .d (.int w)] = some (.d (.int ((u * 2147483647 + v) * 2147483647 + w))) :=
      addv (mulv (addv (mulv rfl rfl (by decide) (by decide)) rfl) rfl (by decide) (by decide)) rfl
    show S.ret (E.view _) [.d (.int c), .d (.int k), .lst prs, .d (.int u), .d (.int v), .d (.int w)] = _
    unfold S.ret M.bind E.view
    rw [fin]
    rfl

def b_add : M Fl := (S.asg (E.view (Vw.op2 v_add (Vw.op2 o_ix (Vw.var 1) (Vw.op2 o_mod (Vw.opN b_int (Vw.cons (Vw.var 2) Vw.nil)) (Vw.c (.int 12)))) (Vw.var 3))) (G.subV (.slot 1) st_any (Vw.op2 o_mod (Vw.opN b_int (Vw.cons (Vw.var 2) Vw.nil)) (Vw.c (.int 12)))))
theorem set_ois {xs : List Int} {j : Nat} {x : Int} : (ois xs).set j (.d (.int x)) = ois (xs.set j x) := by
  unfold ois
  rw [List.map_set]
theorem add_step {s : O} {kept : List Int} {k z : Int} (hk : kept.length = 12) : ∃ kept' : List Int, kept'.length = 12 ∧ b_add [s, .lst (ois kept), .d (.int k), .d (.int z)] = .ok .nx [s, .lst (ois kept'), .d (.int k), .d (.int z)] := by
  have h0 : 0 ≤ k % 12 := Int.emod_nonneg _ (by decide)
  have h1 : k % 12 < 12 := Int.emod_lt_of_pos _ (by decide)
  obtain ⟨c, hc⟩ := atI_nat (xs := kept) h0 (by rw [hk]; exact h1)
  have vi : (Vw.op2 o_mod (Vw.opN b_int (Vw.cons (Vw.var 2) Vw.nil)) (Vw.c (.int 12))) [s, .lst (ois kept), .d (.int k), .d (.int z)] = some (.d (.int (k % 12))) := modv rfl (by decide)
  have vv : (Vw.op2 v_add (Vw.op2 o_ix (Vw.var 1) (Vw.op2 o_mod (Vw.opN b_int (Vw.cons (Vw.var 2) Vw.nil)) (Vw.c (.int 12)))) (Vw.var 3)) [s, .lst (ois kept), .d (.int k), .d (.int z)] = some (.d (.int (c + z))) := addv (op2_ok rfl vi hc) rfl
  refine ⟨kept.set (k % 12).toNat (c + z), by rw [List.length_set, hk], ?_⟩
  unfold b_add S.asg M.bind E.view
  rw [vv]
  have hx : ixN (ois kept).length (k % 12) = some (k % 12).toNat := by
    unfold ixN
    rw [if_pos h0, if_pos (by rw [ois_len, hk]; exact h1)]
  have : G.subV (.slot 1) st_any (Vw.op2 o_mod (Vw.opN b_int (Vw.cons (Vw.var 2) Vw.nil)) (Vw.c (.int 12))) (.d (.int (c + z))) [s, .lst (ois kept), .d (.int k), .d (.int z)] = .ok () [s, .lst (ois (kept.set (k % 12).toNat (c + z))), .d (.int k), .d (.int z)] := by
    unfold G.subV
    rw [vi]
    show (match st_any (.lst (ois kept)) (.int (k % 12)) (.int (c + z)) with
      | some o' => R.ok () ((Pl.slot 1).set o' [s, .lst (ois kept), .d (.int k), .d (.int z)])
      | none => .stuck) = _
    have : st_any (.lst (ois kept)) (.int (k % 12)) (.int (c + z)) = some (.lst (ois (kept.set (k % 12).toNat (c + z)))) := by
      show (ixN (ois kept).length (k % 12)).map _ = _
      rw [hx, Option.map_some, set_ois]
    rw [this]
    rfl
  simp only [this]
theorem add_loop {s : O} : ∀ (l : List (Int × Int)) (kept : List Int) (a b : O), kept.length = 12 → ∃ (kept' : List Int) (a' b' : O),
    loopF (G.tup 2 (G.cons (G.nm 2) (G.cons (G.nm 3) G.nil))) b_add (l.map fun p => PyData.tuple [.int p.1, .int p.2]) [s, .lst (ois kept), a, b] = .ok .nx [s, .lst (ois kept'), a', b']
  | [], kept, a, b, _ => ⟨kept, a, b, rfl⟩
  | (k, z) :: l, kept, a, b, hk => by
    obtain ⟨kept1, h1, e1⟩ := add_step (s := s) (k := k) (z := z) hk
    obtain ⟨kept2, a2, b2, e2⟩ := add_loop l kept1 (.d (.int k)) (.d (.int z)) h1
    refine ⟨kept2, a2, b2, ?_⟩
    rw [List.map_cons]
    unfold loopF
    have eg : (G.tup 2 (G.cons (G.nm 2) (G.cons (G.nm 3) G.nil))) (.d (.tuple [.int k, .int z])) [s, .lst (ois kept), a, b] = .ok () [s, .lst (ois kept), .d (.int k), .d (.int z)] := rfl
    rw [eg]
    show (match b_add [s, .lst (ois kept), .d (.int k), .d (.int z)] with
      | .ok .nx ρ2 => _
      | .ok .cnt ρ2 => _
      | .ok .brk ρ2 => _
      | r => _) = _
    rw [e1]
    exact e2

theorem frzL_map : ∀ ds : List D, frzL (ds.map .d) = some ds
  | [] => rfl
  | d :: ds => by
    rw [List.map_cons, frzL, frzL_map ds]
    rfl
theorem frz_ol (ds : List D) : frz (ol ds) = some (.list ds) := by
  unfold ol
  rw [frz, frzL_map]
  rfl
theorem allD_ints (ns : List Int) : allD (ns.map fun i => O.d (.int i)) = some (ns.map PyData.int) := by
  have := allD_map (ns.map PyData.int)
  rw [List.map_map] at this
  exact this
theorem listD_scr (ns : List Int) : listD (.scr ns) = some (ns.map PyData.int) := by
  show (some (ns.map fun i => O.d (.int i))).bind allD = _
  rw [Option.bind_some, allD_ints]
theorem cut1 (ns : List Int) : cutD (ns.map PyData.int) none (some 12) = (ns.take 12).map PyData.int := by
  unfold cutD
  have : HT.sIx (ns.map PyData.int).length (ns.map PyData.int).length (some 12) = min 12 (ns.map PyData.int).length := HT.sIx_nat _ _ 12
  rw [this, HT.sIx_none, List.drop_zero, Nat.sub_zero, List.map_take, ← List.take_take, List.take_length]
theorem cut2 (ns : List Int) : ∃ zs : List Int, cutD (ns.map PyData.int) (some 12) (some 63) = zs.map PyData.int ∧ (ns.length < 12 → zs = []) := by
  unfold cutD
  have h1 : HT.sIx (ns.map PyData.int).length (ns.map PyData.int).length (some 63) = min 63 (ns.map PyData.int).length := HT.sIx_nat _ _ 63
  have h2 : HT.sIx (ns.map PyData.int).length 0 (some 12) = min 12 (ns.map PyData.int).length := HT.sIx_nat _ _ 12
  rw [h1, h2, List.length_map]
  refine ⟨(ns.drop (min 12 ns.length)).take (min 63 ns.length - min 12 ns.length), by rw [List.map_take, List.map_drop], fun h => ?_⟩
  have : min 12 ns.length = ns.length := by omega
  rw [this, List.drop_length, List.take_nil]
theorem enums_ints (zs : List Int) : ∃ l : List (Int × Int), Wk.enums (zs.map PyData.int) = l.map fun p => PyData.tuple [.int p.1, .int p.2] := by
  refine ⟨zs.zipIdx.map fun p => ((p.2 : Nat), p.1), ?_⟩
  unfold Wk.enums
  rw [List.zipIdx_map, List.map_map, List.map_map]
  rfl
theorem enums_nil : Wk.enums (([] : List Int).map PyData.int) = [] := rfl
theorem open_ok (ns : List Int) : ∃ xs : List Int, open_ [.scr ns] = .ok (pen xs 0 0) [] := by
  have s1 : (Vw.opN (fun xs => (l_list xs).map ol) (Vw.cons (Vw.sl (Vw.var 0) Vw.noPart (Vw.part (Vw.c (.int 12))) s_view) Vw.nil)) [.scr ns, .un, .un, .un] = some (.lst (ois (ns.take 12))) := by
    have e : (Vw.sl (Vw.var 0) Vw.noPart (Vw.part (Vw.c (.int 12))) s_view) [.scr ns, .un, .un, .un] = some (dl ((ns.take 12).map PyData.int)) := by
      show s_view (.scr ns) none (some 12) = _
      unfold s_view s_list
      rw [listD_scr, Option.map_some, cut1]
    refine opN_ok e ?_
    show ((match seqD (dl ((ns.take 12).map PyData.int)) with | some ds => some ds | none => none).map ol) = _
    have : seqD (dl ((ns.take 12).map PyData.int)) = some ((ns.take 12).map PyData.int) := by
      show (some (((ns.take 12).map PyData.int).map O.d)).bind allD = _
      rw [Option.bind_some, allD_map]
    rw [this]
    show some (O.lst _) = _
    rw [List.map_map]
    rfl
  obtain ⟨zs, hz, hzn⟩ := cut2 ns
  have s2 : ∀ k : List O, (Vw.sl (Vw.var 0) (Vw.part (Vw.c (.int 12))) (Vw.part (Vw.c (.int 63))) s_new) (.scr ns :: k) = some (ol (zs.map PyData.int)) := fun k => by
    show s_new (.scr ns) (some 12) (some 63) = _
    unfold s_new s_list
    rw [listD_scr, Option.map_some, Option.map_some, hz]
  have s3 : ∀ ρ : EV.Env, (Vw.sl (Vw.var 0) (Vw.part (Vw.c (.int 12))) (Vw.part (Vw.c (.int 63))) s_new) ρ = some (ol (zs.map PyData.int)) → (Wk.enum (A.cons (E.fr (Vw.sl (Vw.var 0) (Vw.part (Vw.c (.int 12))) (Vw.part (Vw.c (.int 63))) s_new)) A.nil)) ρ = .ok (Wk.enums (zs.map PyData.int)) ρ := fun ρ h => by
    have e1 : (A.cons (E.fr (Vw.sl (Vw.var 0) (Vw.part (Vw.c (.int 12))) (Vw.part (Vw.c (.int 63))) s_new)) A.nil) ρ = .ok [ol (zs.map PyData.int)] ρ := by
      unfold A.cons M.bind E.fr
      rw [h]
      rfl
    unfold Wk.enum M.bind
    rw [e1]
    show M.opt ((oseq (ol (zs.map PyData.int))).map Wk.enums) ρ = _
    have : oseq (ol (zs.map PyData.int)) = some (zs.map PyData.int) := by
      unfold oseq
      rw [frz_ol]
      rfl
    rw [this]
    rfl
  have loop : ∃ (kept' : List Int) (a' b' : O), loopF (G.tup 2 (G.cons (G.nm 2) (G.cons (G.nm 3) G.nil))) b_add (Wk.enums (zs.map PyData.int)) [.scr ns, .lst (ois (ns.take 12)), .un, .un] = .ok .nx [.scr ns, .lst (ois kept'), a', b'] := by
    by_cases h : ns.length < 12
    · rw [hzn h]
      exact ⟨_, .un, .un, rfl⟩
    · obtain ⟨l, hl⟩ := enums_ints zs
      rw [hl]
      exact add_loop l _ .un .un (by rw [List.length_take]; omega)
  obtain ⟨kept, a, b, hl⟩ := loop
  refine ⟨kept, ?_⟩
  have body : b_open [.scr ns, .un, .un, .un] = .ok (.ret (pen kept 0 0)) [.scr ns, .un, a, b] := by
    unfold b_open
    refine (seq_ok (ρ' := [.scr ns, .lst (ois (ns.take 12)), .un, .un]) ?_).trans ?_
    · unfold S.asg M.bind E.fr
      rw [s1]
      rfl
    refine (seq_ok (ρ' := [.scr ns, .lst (ois kept), a, b]) ?_).trans ?_
    · unfold S.for M.bind
      rw [s3 _ (s2 _)]
      exact hl
    rfl
  show (match b_open [.scr ns, .un, .un, .un] with
    | .ok (.ret r) ρ => FRes.ok r (([] : List Nat).map fun i => ρ.getD i .un)
    | .ok .nx ρ => .ok (.d .none) (([] : List Nat).map fun i => ρ.getD i .un)
    | .exc c ρ => .exc c (([] : List Nat).map fun i => ρ.getD i .un)
    | _ => .stuck) = _
  rw [body]
  rfl

theorem acons_ok {f : M O} {g : M (List O)} {ρ ρ1 ρ2 : EV.Env} {x : O} {xs : List O} (h1 : f ρ = .ok x ρ1) (h2 : g ρ1 = .ok xs ρ2) : A.cons f g ρ = .ok (x :: xs) ρ2 := by
  unfold A.cons M.bind
  rw [h1]
  simp only [h2]
  rfl
theorem view_ok {f : EV.Env → Option O} {ρ : EV.Env} {x : D} (h : f ρ = some (.d x)) : E.view f ρ = .ok (.d x) ρ := by
  unfold E.view
  rw [h]
theorem callIO_ok {m : List O → FRes} {n i : Nat} {fa : M (List O)} {ρ0 ρ : EV.Env} {os xs : List O} {o0 o o' r : O} (h0 : ρ0[i]? = some o0) (hn : o0 ≠ .un) (hf : fa ρ0 = .ok os ρ) (hx : frzArgs os = some xs) (hi : ρ[i]? = some o) (hl : xs.length + 1 = n) (hm : m (o :: xs) = .ok r [o']) : E.callIO n m i fa ρ0 = .ok r (ρ.set i o') := by
  unfold E.callIO
  split
  · rename_i h; rw [h0] at h; exact (hn (Option.some.inj h)).elim
  · rename_i h; rw [h0] at h; cases h
  · unfold M.bind
    rw [hf]
    simp only [hx, hi]
    rw [if_pos hl, hm]
def b_one (tk : List O → FRes) : M Fl := (S.ret (E.op2 o_ixd (E.var 1) (E.callIO 2 tk 0 (A.cons (E.view (Vw.opN o_len (Vw.cons (Vw.var 1) Vw.nil))) A.nil))))
def one (tk : List O → FRes) : List O → FRes := runF [0] 2 (b_one tk)
theorem one_ok {sp : List O → FRes} (hs : SpOk sp) {xs : List Int} {p q : Int} {ds : List D} (h1 : 0 < ds.length) (h2 : ds.length < 1073741824) (hp : 0 ≤ p) (hp2 : p ≤ 100000) :
    ∃ (r : Nat) (d : D) (p' q' : Int), ds[r]? = some d ∧ one (take sp) [pen xs p q, .d (.list ds)] = .ok (.d d) [pen xs p' q'] ∧ 0 ≤ p' ∧ p' ≤ p + 1 := by
  obtain ⟨r, p', q', e, r0, r1, a1, a2⟩ := take_ok hs (xs := xs) (p := p) (q := q) (many := ds.length) (by omega) (by omega) hp hp2
  have hl : r.toNat < ds.length := by omega
  refine ⟨r.toNat, ds[r.toNat], p', q', by simp [hl], ?_, a1, a2⟩
  have hlen : (Vw.opN o_len (Vw.cons (Vw.var 1) Vw.nil)) [pen xs p q, .d (.list ds)] = some (.d (.int ds.length)) := by
    refine opN_ok (x := .d (.list ds)) rfl ?_
    show some (O.d (.int ((ds.map O.d).length : Nat))) = _
    rw [List.length_map]
  have c : E.callIO 2 (take sp) 0 (A.cons (E.view (Vw.opN o_len (Vw.cons (Vw.var 1) Vw.nil))) A.nil) [pen xs p q, .d (.list ds)] = .ok (.d (.int r)) ([pen xs p q, .d (.list ds)].set 0 (pen xs p' q')) :=
    callIO_ok rfl (fun z => by cases z) (acons_ok (view_ok hlen) rfl) rfl rfl rfl e
  have ix : o_ixd (.d (.list ds)) (.d (.int r)) = some (.d ds[r.toNat]) := by
    have : o_ix (.d (.list ds)) (.d (.int r)) = some (.d ds[r.toNat]) := by
      show atI (ds.map O.d) r = _
      unfold atI ixN
      rw [if_pos r0, if_pos (by rw [List.length_map]; exact r1)]
      simp [hl]
    unfold o_ixd
    rw [this]
  have body : b_one (take sp) [pen xs p q, .d (.list ds)] = .ok (.ret (.d ds[r.toNat])) [pen xs p' q', .d (.list ds)] := by
    unfold b_one S.ret E.op2 M.bind
    have e1 : E.var 1 [pen xs p q, .d (.list ds)] = .ok (.d (.list ds)) [pen xs p q, .d (.list ds)] := rfl
    rw [e1]
    simp only [c]
    rw [ix]
    rfl
  show (match b_one (take sp) [pen xs p q, .d (.list ds)] with
    | .ok (.ret r) ρ => FRes.ok r ([0].map fun i => ρ.getD i .un)
    | .ok .nx ρ => .ok (.d .none) ([0].map fun i => ρ.getD i .un)
    | .exc c ρ => .exc c ([0].map fun i => ρ.getD i .un)
    | _ => .stuck) = _
  rw [body]
  rfl
theorem cleanOs_ois : ∀ xs : List Int, cleanOs (ois xs) = true
  | [] => rfl
  | x :: xs => by
    show (true && cleanOs (ois xs)) = true
    rw [cleanOs_ois xs]
    rfl
theorem call_open {f : List O → FRes} {ns xs : List Int} {ρ : EV.Env} (h : f [.scr ns] = .ok (pen xs 0 0) []) : E.callP 1 f (Vw.cons (Vw.pl (.slot 0)) Vw.nil) (.scr ns :: ρ) = .ok (pen xs 0 0) (.scr ns :: ρ) := by
  unfold E.callP
  have e : (Vw.cons (Vw.pl (.slot 0)) Vw.nil) (.scr ns :: ρ) = some [.scr ns] := rfl
  rw [e]
  show (if _ then (match f [.scr ns] with
    | .ok r [] => if ((allD [O.scr ns]).isSome || cleanO r) = true then R.ok r (.scr ns :: ρ) else .stuck
    | .exc c [] => _
    | _ => _) else _) = _
  rw [h, if_pos (show ([O.scr ns] : List O).length = 1 from rfl)]
  have : cleanO (pen xs 0 0) = true := by
    show (cleanOs (ois xs) && _) = true
    rw [cleanOs_ois]
    rfl
  simp only [this, Bool.or_true, if_true]
def isNx : R Fl → Bool
  | .ok .nx _ => true
  | _ => false
theorem isNx_ok {r : R Fl} (h : isNx r = true) : ∃ ρ, r = .ok .nx ρ := by
  unfold isNx at h
  split at h
  · exact ⟨_, rfl⟩
  · cases h

theorem for_ok {f : M (List D)} {g : O → M Unit} {fb : M Fl} {ds : List D} {ρ ρ1 ρ2 : EV.Env} (h1 : f ρ = .ok ds ρ1) (h2 : loopF g fb ds ρ1 = .ok .nx ρ2) : S.for f g fb ρ = .ok .nx ρ2 := by
  unfold S.for M.bind
  rw [h1]
  exact h2

theorem wseq_ok {f : M (List O)} {os : List O} {ds : List D} {ρ ρ1 : EV.Env} (h1 : f ρ = .ok os ρ1) (hl : os.length ≤ 1000000) (h2 : oseq (.lst os) = some ds) : Wk.seq (E.lst f) ρ = .ok ds ρ1 := by
  have e : E.lst f ρ = .ok (.lst os) ρ1 := by
    unfold E.lst M.bind
    rw [h1]
    simp only
    rw [if_pos hl]
    rfl
  unfold Wk.seq M.bind
  rw [e]
  simp only [h2]
  rfl
end EV.Pen

/-! The layer EV, part X: calls by names of arguments. -/
namespace EV
open PySem PySem.Spec PyProof.Rows L2
/-- the values in the parameters' order -/
def permL {α : Type} (pm : List Nat) (l : List α) : List α := pm.filterMap fun i => l[i]?
def Vw.perm (pm : List Nat) (fs : Env → Option (List O)) : Env → Option (List O) := fun ρ => (fs ρ).bind fun os => if os.length = pm.length then some (permL pm os) else none
section
variable {K : PySem.W.Frag} {mg : Str → Option Value} {I H : Hp}
theorem VsT.at {T : Pd} : ∀ {os : List O} {vs : List V} (i : Nat), VsT K mg I H T os vs → (os[i]? = none ∧ vs[i]? = none) ∨ ∃ o v S, os[i]? = some o ∧ vs[i]? = some v ∧ Own K mg I H o v S ∧ ∀ a, S a → T a
  | _, _, _, .nil => .inl ⟨rfl, rfl⟩
  | _, _, 0, .cons a b _ => .inr ⟨_, _, _, rfl, rfl, a, b⟩
  | _, _, i + 1, .cons _ _ c => by
    rcases VsT.at i c with ⟨h1, h2⟩ | ⟨o, v, S, h1, h2, h3⟩
    · exact .inl ⟨by simpa using h1, by simpa using h2⟩
    · exact .inr ⟨o, v, S, by simpa using h1, by simpa using h2, h3⟩
theorem VsT.perm {T : Pd} {os : List O} {vs : List V} (w : VsT K mg I H T os vs) : ∀ pm : List Nat, VsT K mg I H T (permL pm os) (permL pm vs)
  | [] => .nil
  | i :: pm => by
    have ih := VsT.perm w pm
    unfold permL at ih ⊢
    rw [List.filterMap_cons, List.filterMap_cons]
    rcases w.at i with ⟨h1, h2⟩ | ⟨o, v, S, h1, h2, h3, h4⟩
    · rw [h1, h2]; exact ih
    · rw [h1, h2]; exact .cons h3 h4 ih
theorem vals_perm {vs : List V} {us : List Value} (r : Vals vs us) : ∀ pm : List Nat, Vals (permL pm vs) (permL pm us)
  | [] => .nil
  | i :: pm => by
    have ih := vals_perm r pm
    unfold permL at ih ⊢
    rw [List.filterMap_cons, List.filterMap_cons]
    cases e : vs[i]? with
    | none =>
      have : us[i]? = none := by
        rw [List.getElem?_eq_none_iff] at e ⊢
        rw [← r.length]; exact e
      rw [this]; exact ih
    | some v =>
      obtain ⟨u, hu, ru⟩ := r.get e
      rw [hu]; exact .cons ru ih
end
/-- keywords' values as views -/
abbrev VKw (X : Cx) (kws : List Keyword) (f : Env → Option (List O)) : Prop := PK X kws (rdVb X.K X.mg f)
section
variable {X : Cx} {W : WX} {pos kpos p : Pos} {e : Expr} {kws : List Keyword} {f : Env → Option O} {g : Env → Option (List O)} {nm : Option Str}
theorem PK.weak {t t' : TA} (h : PK X kws t) (hw : ∀ σ H Q, t' σ H Q → t σ H Q) : PK X kws t' := ⟨fun pos pins s σ H Q I q => h.run pos pins s σ H Q I (hw σ H Q q)⟩
theorem vk_nil : VKw X [] Vw.nil := PK.weak pk_nil fun _ _ _ ⟨_, _, _, gd, h⟩ => h [] _ _ (Grw.refl gd) .nil
theorem vk_d (ha : VE X e f) (hr : VKw X kws g) : VKw X (⟨nm, e, kpos⟩ :: kws) (Vw.cons (Vw.dat f) g) := by
  refine PK.weak (pk_cons ha hr) fun σ H Q ⟨ρ, I, φ, gd, h⟩ => ⟨ρ, I, φ, gd, ?_⟩
  unfold Vw.cons Vw.dat at h
  cases e1 : f ρ with
  | none => rw [e1] at h; exact h
  | some x =>
    rw [e1, Option.bind_some] at h
    intro v S I1 H1 g1 w
    cases e3 : EV.dat x with
    | none => rw [e3] at h; exact h.elim
    | some d =>
      rw [e3] at h
      have := dat_ok e3
      subst this
      refine ⟨ρ, I1, φ, g1.gd, ?_⟩
      cases e2 : g ρ with
      | none => rw [e2] at h; exact h
      | some xs =>
        rw [e2] at h
        exact fun vs I2 H2 g2 ws => h (v :: vs) I2 H2 (g1.trans g2) (.cons (S := noP) (w.grow g2).d_any (fun _ z => z.elim) ws)
theorem vk_pl {pl : Pl} (ha : PlE X e pl) (hr : VKw X kws g) : VKw X (⟨nm, e, kpos⟩ :: kws) (Vw.cons (Vw.pl pl) g) := by
  refine PK.weak (pk_cons ha hr) fun σ H Q ⟨ρ, I, φ, gd, h⟩ => ?_
  unfold Vw.cons Vw.pl at h
  cases e1 : pl.get ρ with
  | none => rw [e1] at h; exact h.elim
  | some x =>
    rw [e1, Option.bind_some] at h
    obtain ⟨v, S, hv, at_⟩ := gd.at e1
    refine ⟨v, hv, ρ, I, φ, gd, ?_⟩
    cases e2 : g ρ with
    | none => rw [e2] at h; exact h
    | some xs =>
      rw [e2] at h
      obtain ⟨i, hi⟩ := at_.sub
      exact fun vs I2 H2 g2 ws => h (v :: vs) I2 H2 g2 (.cons (at_.own.grow g2) (fun a q => ⟨i, hi a q⟩) ws)
/-- a call, however its arguments come -/
theorem ve_callGen {ex : Expr} {n : Nat} {m : List O → FRes} {fs : Env → Option (List O)} {pm : List Nat} (hp : PE X ex (fun σ H Q => rdVb X.K X.mg fs σ H fun vs H1 => vs.length = pm.length ∧ spF X.K X.mg n [] m (permL pm vs) H1 Q (WE W0 σ))) : VE X ex (Vw.callP n m (Vw.perm pm fs)) := by
  refine PE.weak hp fun σ H Q ⟨ρ, I, φ, gd, h⟩ => ⟨ρ, I, φ, gd, ?_⟩
  unfold Vw.callP Vw.perm at h
  cases e1 : fs ρ with
  | none => rw [e1] at h; exact h.elim
  | some os0 =>
    rw [e1, Option.bind_some] at h
    by_cases hl0 : os0.length = pm.length
    case neg => rw [if_neg hl0] at h; exact h.elim
    rw [if_pos hl0, Option.bind_some] at h
    intro vs0 I1 H1 g1 ws0
    refine ⟨by rw [ws0.vws.len]; exact hl0, ?_⟩
    have ws := ws0.perm pm
    generalize permL pm os0 = os at h ws
    generalize permL pm vs0 = vs at ws
    have h := h.grow g1
    cases e2 : frzArgs os with
    | none => rw [e2] at h; exact h.elim
    | some xs =>
      rw [e2, Option.bind_some] at h
      obtain ⟨I0, hd0, ow, back⟩ := callP_core g1.gd ws e2
      split at h
      case isFalse => exact h.elim
      rename_i hl
      refine ⟨xs, I0, noP, hl, hd0, ow, ?_⟩
      split at h
      · rename_i r em
        rw [em]
        split at h
        · rename_i hc
          cases e5 : EV.frz r with
          | none => rw [e5] at h; exact h.elim
          | some d =>
            rw [e5] at h
            intro v H' I' G' s hd w
            cases w with
            | cons a b c _ dis =>
              obtain ⟨I2, s2, g2, t2, w2⟩ := back v r I' H' G' hc s hd (a.mono c)
              obtain ⟨g3, _⟩ := g2.freeze t2
              refine h v noP (addI I2 H' G') H' ⟨⟨fun a x e => addI_same t2.dj a x (s2.li a x e), s2.kp, fun _ q => q.elim, fun a x e => ?_⟩, g3⟩ (.d (w2.den e5 t2.dj))
              by_cases g : G' a
              · exact .inr (s2.fr a g)
              · rw [addI_out g] at e; exact s2.fi a x e
        · exact h.elim
      · exact h.elim
theorem ee_callGen {ex : Expr} {n : Nat} {m : List O → FRes} {fs : Env → Option (List O)} {pm : List Nat} (hp : PE X ex (fun σ H Q => rdVb X.K X.mg fs σ H fun vs H1 => vs.length = pm.length ∧ spF X.K X.mg n [] m (permL pm vs) H1 Q (WE W σ))) : EE X W ex (E.callP n m (Vw.perm pm fs)) := by
  refine PE.weak hp fun σ H Q ⟨ρ, I, φ, gd, h⟩ => ⟨ρ, I, φ, gd, ?_⟩
  unfold E.callP Vw.perm at h
  cases e1 : fs ρ with
  | none => rw [e1] at h; exact h.elim
  | some os0 =>
    rw [e1, Option.bind_some] at h
    by_cases hl0 : os0.length = pm.length
    case neg => rw [if_neg hl0] at h; exact h.elim
    rw [if_pos hl0, Option.bind_some] at h
    intro vs0 I1 H1 g1 ws0
    refine ⟨by rw [ws0.vws.len]; exact hl0, ?_⟩
    have ws := ws0.perm pm
    generalize permL pm os0 = os at h ws
    generalize permL pm vs0 = vs at ws
    have h := h.shift (g1.stp gd)
    cases e2 : frzArgs os with
    | none => rw [e2] at h; exact h.elim
    | some xs =>
      rw [e2, Option.map_some] at h
      simp only at h
      obtain ⟨I0, hd0, ow, back⟩ := callP_core g1.gd ws e2
      split at h
      case isFalse => exact h.elim
      rename_i hl
      refine ⟨xs, I0, noP, hl, hd0, ow, ?_⟩
      have stp : ∀ {I2 H' : Hp} {G' : Pd}, Stp I1 H1 noP I2 H' G' → Stp I1 H1 (al φ) I2 H' (orP (al φ) G') := fun s => ((s.frame (G := al φ) fun a ⟨i, q⟩ => g1.gd.th i a q).from fun a q => q.elim False.elim id).sub fun a q => q.symm
      cases em : m xs with
      | stuck => rw [em] at h; exact h.elim
      | ok r outs =>
        rw [em] at h
        cases outs with
        | cons _ _ => exact h.elim
        | nil =>
          have h : PostE X.K X.mg W σ I1 H1 (al φ) Q (if ((allD os).isSome || cleanO r) = true then .ok r ρ else .stuck) := h
          split at h
          case isFalse => exact h.elim
          rename_i hc
          intro v H' I' G' s hd w
          cases w with
          | cons a b c d dis =>
            obtain ⟨I2, s2, g2, t2, w2⟩ := back v r I' H' G' hc s hd (a.mono c)
            exact h v H' I2 φ G' (stp s2) g2 t2 w2
      | exc c outs =>
        rw [em] at h
        cases outs with
        | cons _ _ => exact h.elim
        | nil =>
          intro C H' I' G' eC s hd w
          obtain ⟨I2, s2, g2, t2, w2⟩ := back .non (.d .none) I' H' G' (by simp [cleanO, cleanD]) s hd (.d .non)
          exact h C H' I2 φ eC ((stp s2).sub fun a q => .inl q) g2
/-- f(k = e, ..) -/
theorem pe_callGK {k : Nat} {f : Addr} {fd : FuncData} {ps ks : List Str} {pm : List Nat} {sp : Sp} {E : St → XK} {x : Str} {t : TA} (F : FnG X.prog X.w X.K X.mg X.base k f fd ps sp) (hr : Room k X.A) (hgd : X.A.guards = some []) (hg : Gl X x) (hm : X.mg x = some (.ref f)) (hk : PySem.W.keepIn X.K (.ref f) = true)
    (hb : ∀ (s : Shared) (ws : List Value), ws.length = ks.length → BindsTo s fd ⟨[], ks.zip ws⟩ (ps.zip (permL pm ws))) (hkl : pm.length = ks.length) (hx : ∀ σ, PassesAt (L2.CX X.prog X.w) X σ (E σ)) (hkw : PK X kws t)
    (hall : (backToKw pos (keywordEach kws X.env)).all (·.1.isSome) = true := by rfl) (hks : (backToKw pos (keywordEach kws X.env)).filterMap (·.1) = ks := by rfl) (hdb : (x == ("__debug__" : Str)) = false := by decide)
    (hpl : ((backTo pos (starEach [] X.env)).any (·.1) || (backToKw pos (keywordEach kws X.env)).any (·.1.isNone)) = false := by rfl) :
    PE X (.Call (.Name x p) [] kws pos) (fun σ H Q => t σ H fun vs H1 => vs.length = pm.length ∧ sp (permL pm vs) H1 Q (E σ)) := by
  refine ⟨fun pins s σ H Q I h => ?_⟩
  refine wpAny_Call_Name_kw (ld_glob I hg hm ?_ hdb)
  refine PySem.W.callWith_KW0 (h₀ := X.base) I.ok.mod.kin hk hall ?_ hpl
  refine thn (hkw.run pos pins s σ H _ I h) fun us s1 ⟨vs, H1, I1, r, l0, q⟩ => ⟨I1.kIn, ?_⟩
  rw [hks]
  have l1 : vs.length = ks.length := l0.trans hkl
  refine wpAny_call (codeAny_mono (F.run X.A X.stack s1 H1 ⟨[], ks.zip us⟩ (permL pm us) (permL pm vs) Q (E σ) hr hgd I1.env0 (hb s1 us (by rw [← r.length]; exact l1)) (vals_perm r pm) q) fun rr s' hq => ?_)
  cases rr with
  | error e => exact hx σ pins H1 s1 e s' I1 hq
  | ok fl =>
    cases fl with
    | ret u => exact I1.after hq
    | next => exact False.elim hq
    | brk => exact False.elim hq
    | cont => exact False.elim hq
end
/-- how a def of the module takes its arguments by name -/
theorem Fn.kb {nm : Str} {P : Program} {w : World} {fa : List He.Fa} {fn : List He.DefD} {ts : Tb} {K : PySem.W.Frag} {mg : Str → Option Value} {base : Heap} {x : Str} {st : Stmt} {k : Nat} {ps : List Str} {io : List Nat} {m : List O → FRes} (F : Fn P w K mg base x k ps io m) (Y : Ya fa fn ts K mg) (i j : Nat)
    (hi : fn[i]? = some ⟨(x, none), nm, nm, defArgs st, defBody st, defScope st, [], []⟩) (hj : fa[j]? = some (.glo x)) {ks : List Str} {pm : List Nat}
    (hb : ∀ (kV doc pmm : Value) (an : Option Addr) (cdv ct : Value) (ws : List Value), ws.length = ks.length → bindArgs (PySem.W.fnOf nm nm (defArgs st) (defBody st) (defScope st) .none kV doc pmm an cdv ct) ⟨[], ks.zip ws⟩ = pure (ps.zip (permL pm ws))) :
    ∃ (f : Addr) (fd : FuncData), mg x = some (.ref f) ∧ FE P w K mg base k f fd ps io m ∧ PySem.W.keepIn K (.ref f) = true ∧ ∀ (s : Shared) (ws : List Value), ws.length = ks.length → BindsTo s fd ⟨[], ks.zip ws⟩ (ps.zip (permL pm ws)) := by
  obtain ⟨f, fd, h1, h2, h3, h4, ⟨oc, od, osl, h5⟩, h6⟩ := F
  obtain ⟨fd', F'⟩ := Y.says.def_ i hi
  obtain ⟨⟨oc', od', dV, kV, doc, pmm, an, cdv, ct, osl', rfl, lk, hcd, hD, hK⟩, kp⟩ := F'
  have e := Y.glo j hj
  rw [h1] at e
  have e2 : f = He.ga K x := by cases e; rfl
  subst e2
  have e3 : K.lookup (He.ga K x) = _ := lk
  rw [h5] at e3
  rcases hD with ⟨_, rfl⟩ | ⟨e, _⟩
  · cases e3
    exact ⟨_, _, h1, h2, h3, fun s ws hl => .of_eq (hb kV doc pmm an cdv ct ws hl)⟩
  · exact absurd rfl e
section
variable {X : Cx} {W : WX} {pos p : Pos} {kws : List Keyword} {x nm : Str} {k k0 : Nat} {ps ks : List Str} {pm : List Nat} {m : List O → FRes} {fs : Env → Option (List O)} {fa : List He.Fa} {fn : List He.DefD} {ts : Tb} {st : Stmt}
theorem ee_fnK (F : Fn X.prog X.w X.K X.mg X.base x k ps [] m) (hr : Room k0 X.A) (hgd : X.A.guards = some []) (tk : Takes X W) (Y : Ya fa fn ts X.K X.mg) (i j : Nat) (hkw : VKw X kws fs) (pm : List Nat) (ks : List Str)
    (hb : ∀ (kV doc pmm : Value) (an : Option Addr) (cdv ct : Value) (ws : List Value), ws.length = ks.length → bindArgs (PySem.W.fnOf nm nm (defArgs st) (defBody st) (defScope st) .none kV doc pmm an cdv ct) ⟨[], ks.zip ws⟩ = pure (ps.zip (permL pm ws)))
    (hi : fn[i]? = some ⟨(x, none), nm, nm, defArgs st, defBody st, defScope st, [], []⟩ := by rfl) (hj : fa[j]? = some (.glo x) := by rfl) (hkl : pm.length = ks.length := by rfl) (hk : k ≤ k0 := by first | decide | omega) (hg : Gl X x := by rfl)
    (hall : (backToKw pos (keywordEach kws X.env)).all (·.1.isSome) = true := by rfl) (hks : (backToKw pos (keywordEach kws X.env)).filterMap (·.1) = ks := by rfl) (hdb : (x == ("__debug__" : Str)) = false := by decide)
    (hpl : ((backTo pos (starEach [] X.env)).any (·.1) || (backToKw pos (keywordEach kws X.env)).any (·.1.isNone)) = false := by rfl) :
    EE X W (.Call (.Name x p) [] kws pos) (E.callP ps.length m (Vw.perm pm fs)) := by
  obtain ⟨f, fd, hm, F, kp, hb2⟩ := F.kb Y i j hi hj hb
  exact ee_callGen (pe_callGK F (hr.mono hk) hgd hg hm kp hb2 hkl (fun σ => passAt tk σ) hkw hall hks hdb hpl)
theorem ve_fnK (F : Fn X.prog X.w X.K X.mg X.base x k ps [] m) (hr : Room k0 X.A) (hgd : X.A.guards = some []) (Y : Ya fa fn ts X.K X.mg) (i j : Nat) (hkw : VKw X kws fs) (pm : List Nat) (ks : List Str)
    (hb : ∀ (kV doc pmm : Value) (an : Option Addr) (cdv ct : Value) (ws : List Value), ws.length = ks.length → bindArgs (PySem.W.fnOf nm nm (defArgs st) (defBody st) (defScope st) .none kV doc pmm an cdv ct) ⟨[], ks.zip ws⟩ = pure (ps.zip (permL pm ws)))
    (hi : fn[i]? = some ⟨(x, none), nm, nm, defArgs st, defBody st, defScope st, [], []⟩ := by rfl) (hj : fa[j]? = some (.glo x) := by rfl) (hkl : pm.length = ks.length := by rfl) (hk : k ≤ k0 := by first | decide | omega) (hg : Gl X x := by rfl)
    (hall : (backToKw pos (keywordEach kws X.env)).all (·.1.isSome) = true := by rfl) (hks : (backToKw pos (keywordEach kws X.env)).filterMap (·.1) = ks := by rfl) (hdb : (x == ("__debug__" : Str)) = false := by decide)
    (hpl : ((backTo pos (starEach [] X.env)).any (·.1) || (backToKw pos (keywordEach kws X.env)).any (·.1.isNone)) = false := by rfl) :
    VE X (.Call (.Name x p) [] kws pos) (Vw.callP ps.length m (Vw.perm pm fs)) := by
  obtain ⟨f, fd, hm, F, kp, hb2⟩ := F.kb Y i j hi hj hb
  exact ve_callGen (pe_callGK F (hr.mono hk) hgd hg hm kp hb2 hkl (fun σ => passAt takesW0 σ) hkw hall hks hdb hpl)
end
end EV

/-! The layer EV, part Y: sorted(set(..)). -/
namespace EV
open PySem PySem.Spec PyProof.Rows L2
/-! ### strictly ascending lists -/
def insS (x : Int) : List Int → List Int
  | [] => [x]
  | y :: r => if x < y then x :: y :: r else if x = y then y :: r else y :: insS x r
def sd (xs : List Int) : List Int := xs.foldr insS []
theorem mem_insS {x z : Int} : ∀ {l : List Int}, z ∈ insS x l ↔ z = x ∨ z ∈ l
  | [] => by simp [insS]
  | y :: r => by
    unfold insS
    by_cases h1 : x < y
    · rw [if_pos h1]; simp
    · rw [if_neg h1]
      by_cases h2 : x = y
      · rw [if_pos h2]; subst h2; simp
      · rw [if_neg h2, List.mem_cons, mem_insS (l := r), List.mem_cons]
        constructor
        · rintro (a | a | a)
          · exact .inr (.inl a)
          · exact .inl a
          · exact .inr (.inr a)
        · rintro (a | a | a)
          · exact .inr (.inl a)
          · exact .inl a
          · exact .inr (.inr a)
theorem pw_insS {x : Int} : ∀ {l : List Int}, l.Pairwise (· < ·) → (insS x l).Pairwise (· < ·)
  | [], _ => by unfold insS; exact List.pairwise_singleton _ _
  | y :: r, h => by
    obtain ⟨h1, h2⟩ := List.pairwise_cons.mp h
    unfold insS
    by_cases c1 : x < y
    · rw [if_pos c1]
      refine List.pairwise_cons.mpr ⟨fun z hz => ?_, h⟩
      rcases List.mem_cons.mp hz with rfl | hz
      · exact c1
      · exact Int.lt_trans c1 (h1 z hz)
    · rw [if_neg c1]
      by_cases c2 : x = y
      · rw [if_pos c2]; exact h
      · rw [if_neg c2]
        refine List.pairwise_cons.mpr ⟨fun z hz => ?_, pw_insS h2⟩
        rcases mem_insS.mp hz with rfl | hz
        · omega
        · exact h1 z hz
theorem mem_sd {z : Int} : ∀ {xs : List Int}, z ∈ sd xs ↔ z ∈ xs
  | [] => by simp [sd]
  | x :: xs => by
    have ih : z ∈ sd xs ↔ z ∈ xs := mem_sd
    show z ∈ insS x (sd xs) ↔ _
    rw [mem_insS, ih, List.mem_cons]
theorem pw_sd : ∀ (xs : List Int), (sd xs).Pairwise (· < ·)
  | [] => List.Pairwise.nil
  | x :: xs => pw_insS (pw_sd xs)
theorem asc_ext : ∀ {xs ys : List Int}, xs.Pairwise (· < ·) → ys.Pairwise (· < ·) → (∀ z, z ∈ xs ↔ z ∈ ys) → xs = ys
  | [], [], _, _, _ => rfl
  | [], y :: ys, _, _, h => by have := (h y).mpr List.mem_cons_self; cases this
  | x :: xs, [], _, _, h => by have := (h x).mp List.mem_cons_self; cases this
  | x :: xs, y :: ys, h1, h2, h => by
    obtain ⟨a1, a2⟩ := List.pairwise_cons.mp h1
    obtain ⟨b1, b2⟩ := List.pairwise_cons.mp h2
    have e : x = y := by
      have p1 := (h x).mp List.mem_cons_self
      have p2 := (h y).mpr List.mem_cons_self
      rcases List.mem_cons.mp p1 with p1 | p1
      · exact p1
      · rcases List.mem_cons.mp p2 with p2 | p2
        · exact p2.symm
        · have q1 := b1 x p1
          have q2 := a1 y p2
          omega
    subst e
    rw [asc_ext a2 b2 fun z => ?_]
    constructor
    · intro hz
      rcases List.mem_cons.mp ((h z).mp (List.mem_cons_of_mem _ hz)) with e | e
      · have := a1 z hz; omega
      · exact e
    · intro hz
      rcases List.mem_cons.mp ((h z).mpr (List.mem_cons_of_mem _ hz)) with e | e
      · have := b1 z hz; omega
      · exact e

/-! ### pairs of small ints -/
def pcode : D → Option Int
  | .tuple [.int x, .int y] => if 0 ≤ x ∧ x < 64 ∧ 0 ≤ y ∧ y < 64 then some (x * 64 + y) else none
  | _ => none
def pcodes : List D → Option (List Int)
  | [] => some []
  | d :: r => (pcode d).bind fun c => (pcodes r).map fun cs => c :: cs
def unp (c : Int) : D := .tuple [.int (c / 64), .int (c % 64)]
def v_setP (x : O) : Option O := (listD x).bind fun ds => (pcodes ds).bind fun cs => if cs.length < 64 then some (.d (.list ((sd cs).map unp))) else none
section
variable {K : PySem.W.Frag} {I : Hp}
def PairAt (I : Hp) (p : Addr × List Int) : Prop := ∃ x y : Int, p.2 = [x, y] ∧ (0 ≤ x ∧ x < 64) ∧ (0 ≤ y ∧ y < 64) ∧ I p.1 = some (.tup [.int x, .int y])
theorem pairs_at : ∀ {ds : List D} {vs : List V} {cs : List Int}, DenL K I ds vs → pcodes ds = some cs → ∃ ks : List (Addr × List Int), vs = ks.map (fun p => V.ref p.1) ∧ (∀ p ∈ ks, PairAt I p) ∧ ks.map (fun p => TS.code 64 p.2) = cs
  | _, _, _, .nil, e => by
    unfold pcodes at e; cases e
    exact ⟨[], rfl, fun _ h => (by cases h), rfl⟩
  | d :: ds, v :: vs, _, .cons a b, e => by
    unfold pcodes at e
    rw [Option.bind_eq_some_iff] at e
    obtain ⟨c, e1, e⟩ := e
    rw [Option.map_eq_some_iff] at e
    obtain ⟨cs, e2, rfl⟩ := e
    obtain ⟨ks, h1, h2, h3⟩ := pairs_at b e2
    unfold pcode at e1
    split at e1
    · rename_i x y
      split at e1
      · rename_i hb
        cases e1
        cases a with
        | @tuple q vs' _ t r =>
          cases r with
          | cons r1 r =>
            cases r with
            | cons r2 r =>
              cases r
              cases r1
              cases r2
              refine ⟨(q, [x, y]) :: ks, by rw [h1]; rfl, fun p hp => ?_, by rw [List.map_cons, h3, code_pair]⟩
              rcases List.mem_cons.mp hp with rfl | hp
              · exact ⟨x, y, rfl, ⟨hb.1, hb.2.1⟩, ⟨hb.2.2.1, hb.2.2.2⟩, t⟩
              · exact h2 p hp
      · cases e1
    · cases e1
theorem PairAt.unp {p : Addr × List Int} (h : PairAt I p) : Den K I (EV.unp (TS.code 64 p.2)) (.ref p.1) := by
  obtain ⟨x, y, e, hx, hy, t⟩ := h
  rw [e, code_pair]
  unfold EV.unp
  have e1 : (x * 64 + y) / 64 = x := by omega
  have e2 : (x * 64 + y) % 64 = y := by omega
  rw [e1, e2]
  exact .tuple t (.cons (.int x) (.cons (.int y) .nil))
theorem denL_unp : ∀ {L : List (Addr × List Int)}, (∀ p ∈ L, PairAt I p) → DenL K I ((L.map fun p => TS.code 64 p.2).map EV.unp) (L.map fun p => V.ref p.1)
  | [], _ => .nil
  | p :: L, h => .cons (h p List.mem_cons_self).unp (denL_unp fun q hq => h q (List.mem_cons_of_mem _ hq))
theorem codes_sd {L ks : List (Addr × List Int)} (hk : ∀ p ∈ ks, PairAt I p) (h1 : ∀ p ∈ L, p ∈ ks) (h2 : ∀ p ∈ ks, p.2 ∈ L.map (·.2)) (nd : (L.map (·.2)).Nodup) (pw : L.Pairwise fun q r => TS.code 64 q.2 ≤ TS.code 64 r.2) :
    L.map (fun p => TS.code 64 p.2) = sd (ks.map fun p => TS.code 64 p.2) := by
  refine asc_ext ?_ (pw_sd _) fun z => ?_
  · rw [List.pairwise_map]
    rw [List.Nodup, List.pairwise_map] at nd
    refine List.Pairwise.imp_of_mem (fun {p q} hp hq h => ?_) (List.Pairwise.and nd pw)
    obtain ⟨n, le⟩ := h
    obtain ⟨x, y, e, hx, hy, _⟩ := hk p (h1 p hp)
    obtain ⟨x', y', e', hx', hy', _⟩ := hk q (h1 q hq)
    rw [e, e'] at n le ⊢
    have := pair_lt le n hx hy hx' hy'
    rw [code_pair, code_pair]
    omega
  · rw [mem_sd, List.mem_map, List.mem_map]
    constructor
    · rintro ⟨p, hp, rfl⟩
      exact ⟨p, h1 p hp, rfl⟩
    · rintro ⟨p, hp, rfl⟩
      obtain ⟨q, hq, e⟩ := List.mem_map.mp (h2 p hp)
      exact ⟨q, hq, by rw [e]⟩
end
section
variable {X : Cx} {pos pos2 p p2 : Pos} {e : Expr} {f : Env → Option O}
/-- sorted(set(xs)), xs a list of pairs of ints from 0 to 63 -/
theorem ve_setP (ha : VE X e f) (hu : X.A.units + 100 < cLine) (hm1 : X.mg "sorted" = none) (hm2 : X.mg "set" = none) (hc : X.calm = true := by rfl) (hg1 : Gl X "sorted" := by rfl) (hg2 : Gl X "set" := by rfl)
    (hs : starEach [e] X.env = (false, eval e X.env) :: starEach [] X.env := by rfl) (hs2 : starEach [.Call (.Name "set" p2) [e] [] pos2] X.env = (false, eval (.Call (.Name "set" p2) [e] [] pos2) X.env) :: starEach [] X.env := by rfl) :
    VE X (.Call (.Name "sorted" p) [.Call (.Name "set" p2) [e] [] pos2] [] pos) (Vw.op1 v_setP f) := by
  refine PE.weak (pe_callB (cr_sortedT hc) hg1 hm1 (id := "sorted") bt_sorted (pa_cons (pe_callTy (cr_setOfT hc (by omega)) hg2 hm2 bt_set (pa_cons ha pa_nil hs) (by decide) (by decide) hs (by rfl)) pa_nil hs2) (by decide) (by decide) hs2 (by rfl)) fun σ H Q ⟨ρ, I, φ, gd, h⟩ => ?_
  refine vbind gd h fun x v S I1 H1 g1 w h => ?_
  refine h.some fun z ez hz => ?_
  unfold v_setP at ez
  rw [Option.bind_eq_some_iff] at ez
  obtain ⟨ds, e1, ez⟩ := ez
  rw [Option.bind_eq_some_iff] at ez
  obtain ⟨cs, e2, ez⟩ := ez
  split at ez
  case isFalse => cases ez
  rename_i hlen
  cases ez
  obtain ⟨l, vs, rfl, hl, dl⟩ := w.listD g1.gd.le e1
  obtain ⟨ks, rfl, hk, hcs⟩ := pairs_at dl e2
  have tup : ∀ {H2 : Hp} {q : Addr × List Int}, Same I1 H2 → PairAt I1 q → SqT X.K H2 q.1 (q.2.map V.int) := fun {H2 q} le hq => by
    obtain ⟨x, y, e, _, _, t⟩ := hq
    rw [e]
    exact SqT.of (le _ _ t)
  refine ⟨l, ks, rfl, hl, fun q hq => tup g1.gd.le (hk q hq), by rw [← hcs, List.length_map] at hlen; exact hlen, fun a L hA hL1 hL2 => ?_⟩
  have g2 : Grw X.K X.mg φ ρ σ I1 H1 I1 (upd H1 a (SetTO X.prog X.w a L)) := ⟨⟨Same.refl _, fun b o e _ => by rw [upd_ne (ne_of_none e hA)]; exact e, fun _ q => q.elim, fun _ _ e => .inl e⟩, g1.gd.new hA⟩
  refine ⟨a, L, 2, 64, rfl, upd_same, fun q hq => tup g2.gd.le (hk q (hL1 q hq)), by decide, fun q hq => ?_, fun L' b pm nd _ pw hb => ?_⟩
  · obtain ⟨x, y, e, hx, hy, _⟩ := hk q (hL1 q hq)
    rw [e]
    refine ⟨rfl, fun m hm => ?_⟩
    rcases List.mem_cons.mp hm with rfl | hm
    · exact hx
    · rcases List.mem_cons.mp hm with rfl | hm
      · exact hy
      · cases hm
  · have k1 : ∀ q ∈ L', q ∈ ks := fun q hq => hL1 q (pm.mem_iff.mp hq)
    have k2 : ∀ q ∈ ks, q.2 ∈ L'.map (·.2) := fun q hq => (pm.map (·.2)).mem_iff.mpr (hL2 q hq)
    have ec := codes_sd hk k1 k2 nd pw
    have hz2 := hz.grow g2
    rw [← hcs, ← ec] at hz2
    exact hz2.lst g2.gd (denL_unp fun q hq => hk q (k1 q hq)) hb
end
end EV

/-! The layer EV, part Z: zip(xs, ys, strict=True) over two of one length. -/
namespace EV
open PySem PySem.Spec PyProof.Rows L2
/-- a zip that is strict -/
abbrev ZipS (h : Heap) (z TI TO : Addr) (f0 : Value) : Prop := h.get? z = some ⟨.type "zip", none, .fields #[f0, .bool false, .bool true, .ref TI, .ref TO], #[]⟩
section
variable {P : Program} {w : World} {A : Around} {E : Value → Shared → Prop} {s : Shared}
theorem oe_item {it : Addr} {fp : List Addr} {n i : Nat} {Pi : Nat → Value → Prop} {St : Nat → Heap → Prop} {Q : Option Value → Shared → Prop} (D : Draws P w A it fp n Pi St) (hi : i < n) (st : St i s.heap)
    (h : ∀ x h' tk, Pi i x → St (i + 1) h' → Heap.SameBut it s.heap h' → Q (some x) { s with heap := h', toks := tk }) : wpAny (model P w) A (Builtin.SmallTypes.nextOrEnd (.ref it)) Q E s := by
  unfold Builtin.SmallTypes.nextOrEnd
  exact wpAny_bind (wpAny_attempt (D.item i s _ _ hi st fun x h' tk a b c => wpAny_pure (h x h' tk a b c)))
theorem oe_end {it : Addr} {fp : List Addr} {n : Nat} {Pi : Nat → Value → Prop} {St : Nat → Heap → Prop} {Q : Option Value → Shared → Prop} (D : Draws P w A it fp n Pi St) (st : St n s.heap)
    (h : ∀ h', Heap.ExtBut it s.heap h' → Q none { s with heap := h' }) : wpAny (model P w) A (Builtin.SmallTypes.nextOrEnd (.ref it)) Q E s := by
  unfold Builtin.SmallTypes.nextOrEnd
  refine wpAny_bind (wpAny_attempt (D.done s _ _ st fun h' e hx he => ?_))
  obtain ⟨o, ho, hc⟩ := he
  exact wpAny_bind (wpAny_isInstance (T := "StopIteration") (b := true) ⟨o, ho, hc⟩ isSubtype_stop (wpAny_pure (h h' hx)))
variable {z TI TO i1 i2 : Addr} {f1 f2 : List Addr} {n i : Nat} {P1 P2 : Nat → Value → Prop} {S1 S2 : Nat → Heap → Prop} {a1 a2 : Value}
/-- one turn -/
theorem zipS_item {Q : Value → Shared → Prop} (S : ZipSep2 z TI TO i1 i2 f1 f2) (D1 : Draws P w A i1 f1 n P1 S1) (D2 : Draws P w A i2 f2 n P2 S2) (hz : ZipS s.heap z TI TO .none) (hI : IsTupOf2 s.heap TI (.ref i1) (.ref i2)) (hO : IsTupOf2 s.heap TO a1 a2)
    (t1 : S1 i s.heap) (t2 : S2 i s.heap) (hi : i < n)
    (hQ : ∀ x y h' tk, P1 i x → P2 i y → ZipS h' z TI TO (rawInt s.heap.objs.size) → IsTupOf2 h' TO x y → S1 (i + 1) h' → S2 (i + 1) h' → IsTupOf2 h' s.heap.objs.size x y → h'.objs.size = s.heap.objs.size + 1 →
      (∀ b o, b ≠ z → b ≠ TO → b ≠ i1 → b ≠ i2 → s.heap.get? b = some o → h'.get? b = some o) → Q (.ref s.heap.objs.size) { s with heap := h', toks := tk }) :
    wpAny (model P w) A (Builtin.«zip.__next__» ⟨[.ref z], []⟩) (fun r s' => ∃ v, r = .done (.ret v) ∧ Q v s') E s := by
  obtain ⟨q0, gg, dd, t0, oo⟩ := s
  show wpAny _ _ (field (.ref z) 2 >>= _) _ _ _
  refine wpAny_bind (wpAny_field hz rfl (x := .bool true) rfl ?_)
  show wpAny _ _ (field (.ref z) 3 >>= _) _ _ _
  refine wpAny_bind (wpAny_field hz rfl (x := .ref TI) rfl (wpAny_bind (wpAny_seqItems hI rfl ?_)))
  show wpAny _ _ (Builtin.SmallTypes.ownedTupleIsFree (.ref z) >>= _) _ _ _
  unfold Builtin.SmallTypes.ownedTupleIsFree
  refine wpAny_bind (wpAny_bind (wpAny_field hz rfl (x := .none) rfl (wpAny_pure ?_)))
  simp only [if_true]
  refine wpAny_bind (wpAny_rule (wpAny_bind (wpAny_field hz rfl (x := .ref TO) rfl (wpAny_bind (wpAny_setField_rec hz (by simp) fun r0 k0 m0 => ?_)))))
  replace k0 : ZipS r0 z TI TO .ellipsis := k0
  replace m0 : Heap.SameBut z q0 r0 := m0
  refine wpAny_bind ?_
  simp only [List.zipIdx_cons, List.zipIdx_nil, List.forIn_cons, List.forIn_nil]
  refine wpAny_bind (wpAny_bind (wpAny_onRaise ?_))
  show wpAny _ _ (Builtin.SmallTypes.nextOrEnd (.ref i1)) _ _ ⟨r0, gg, dd, t0, oo⟩
  refine oe_item D1 hi (D1.over t1 m0 S.zf1) fun x c1 u1 hx e1 w1 => ?_
  replace w1 : Heap.SameBut i1 r0 c1 := w1
  have o1 : IsTupOf2 c1 TO a1 a2 := w1.extBut _ _ S.Ti1 (m0.extBut _ _ S.TOz hO)
  refine wpAny_bind (wpAny_seqItems (s := ⟨c1, gg, dd, u1, oo⟩) o1 rfl (wpAny_bind (updateSeq_IsTupOf2 (s := ⟨c1, gg, dd, u1, oo⟩) o1 fun r1 o2 m1 => ?_)))
  replace o2 : IsTupOf2 r1 TO x a2 := o2
  replace m1 : Heap.SameBut TO c1 r1 := m1
  refine wpAny_bind (wpAny_letGo (wpAny_pure (wpAny_bind (wpAny_bind (wpAny_onRaise ?_)))))
  show wpAny _ _ (Builtin.SmallTypes.nextOrEnd (.ref i2)) _ _ ⟨r1, gg, dd, u1, oo⟩
  refine oe_item D2 hi (D2.over (D2.over (D2.over t2 m0 S.zf2) w1 S.sep1_2) m1 S.Tf2) fun y c2 u2 hy e2 w2 => ?_
  replace w2 : Heap.SameBut i2 r1 c2 := w2
  have o3 : IsTupOf2 c2 TO x a2 := w2.extBut _ _ S.Ti2 o2
  refine wpAny_bind (wpAny_seqItems (s := ⟨c2, gg, dd, u2, oo⟩) o3 rfl (wpAny_bind (updateSeq_IsTupOf2 (s := ⟨c2, gg, dd, u2, oo⟩) o3 fun r2 o4 m2 => ?_)))
  replace o4 : IsTupOf2 r2 TO x y := o4
  replace m2 : Heap.SameBut TO c2 r2 := m2
  refine wpAny_bind (wpAny_letGo (wpAny_pure (wpAny_pure (wpAny_bind (wpAny_seqItems (s := ⟨r2, gg, dd, u2, oo⟩) o4 rfl (wpAny_bind (wpAny_newTuple ?_)))))))
  have sz : r2.objs.size = q0.objs.size := by rw [m2.1, w2.1, m1.1, w1.1, m0.1]
  have kz : ZipS r2 z TI TO .ellipsis := m2.extBut _ _ S.TOz.symm (w2.extBut _ _ S.zi2 (m1.extBut _ _ S.TOz.symm (w1.extBut _ _ S.zi1 k0)))
  have old : ∀ b o, b ≠ z → b ≠ TO → b ≠ i1 → b ≠ i2 → q0.get? b = some o → r2.get? b = some o := fun b o p1 p2 p3 p4 e => m2.extBut _ _ p2 (w2.extBut _ _ p4 (m1.extBut _ _ p2 (w1.extBut _ _ p3 (m0.extBut _ _ p1 e))))
  have v1 : S1 (i + 1) r2 := D1.over (D1.over (D1.over e1 m1 S.Tf1) w2 S.sep2_1) m2 S.Tf1
  have v2 : S2 (i + 1) r2 := D2.over e2 m2 S.Tf2
  have lz : z < r2.objs.size := Heap.lt_size kz
  show wpAny _ _ (Builtin.SmallTypes.ownedTupleHandOut (.ref z) (.ref r2.objs.size) >>= _) _ _ ⟨r2.push { cls := .type "tuple", data := .seq #[x, y] }, gg, dd, u2, oo⟩
  unfold Builtin.SmallTypes.ownedTupleHandOut
  have k6 : ZipS (r2.push { cls := .type "tuple", data := .seq #[x, y] }) z TI TO .ellipsis := Heap.get?_push_of_some _ kz
  refine wpAny_bind (wpAny_bind (wpAny_setField_rec k6 (by simp) fun r7 k7 m7 => ?_))
  replace k7 : ZipS r7 z TI TO (rawInt r2.objs.size) := k7
  refine wpAny_setField_rec k7 (by simp) fun r8 k8 m8 => ?_
  replace k8 : ZipS r8 z TI TO (rawInt r2.objs.size) := k8
  replace m7 : Heap.SameBut z (r2.push { cls := .type "tuple", data := .seq #[x, y] }) r7 := m7
  replace m8 : Heap.SameBut z r7 r8 := m8
  have up : ∀ b o, b ≠ z → r2.get? b = some o → r8.get? b = some o := fun b o p e => m8.extBut _ _ p (m7.extBut _ _ p (Heap.get?_push_of_some _ e))
  have kT : IsTupOf2 r8 r2.objs.size x y := m8.extBut _ _ (Nat.ne_of_gt lz) (m7.extBut _ _ (Nat.ne_of_gt lz) (Heap.get?_push_size _ rfl))
  have k9 : r8.objs.size = r2.objs.size + 1 := by rw [m8.1, m7.1, Heap.size_push]
  rw [sz] at k8 kT k9
  refine wpAny_pure ⟨_, rfl, ?_⟩
  show Q (.ref r2.objs.size) ⟨r8, gg, dd, u2, oo⟩
  rw [sz]
  exact hQ x y r8 u2 hx hy k8 (up _ _ S.TOz o4) (D1.frame _ _ _ v1 fun b hb o e => up b o (fun q => S.zf1 (q ▸ hb)) e) (D2.frame _ _ _ v2 fun b hb o e => up b o (fun q => S.zf2 (q ▸ hb)) e) kT k9 fun b o p1 p2 p3 p4 e => up b o p1 (old b o p1 p2 p3 p4 e)
/-- the end: both are through -/
theorem zipS_end {Q : PySem.Fin → Shared → Prop} (hh : A.handled = none) (S : ZipSep2 z TI TO i1 i2 f1 f2) (D1 : Draws P w A i1 f1 n P1 S1) (D2 : Draws P w A i2 f2 n P2 S2) (hz : ZipS s.heap z TI TO .none) (hI : IsTupOf2 s.heap TI (.ref i1) (.ref i2)) (hO : IsTupOf2 s.heap TO a1 a2)
    (t1 : S1 n s.heap) (t2 : S2 n s.heap)
    (hE : ∀ h' tk e, (∀ b o, b ≠ z → b ≠ TO → b ≠ i1 → b ≠ i2 → s.heap.get? b = some o → h'.get? b = some o) → (∃ o, h'.get? e = some o ∧ o.cls = .type "StopIteration") → E (.ref e) { s with heap := h', toks := tk }) :
    wpAny (model P w) A (Builtin.«zip.__next__» ⟨[.ref z], []⟩) Q E s := by
  obtain ⟨q0, gg, dd, t0, oo⟩ := s
  show wpAny _ _ (field (.ref z) 2 >>= _) _ _ _
  refine wpAny_bind (wpAny_field hz rfl (x := .bool true) rfl ?_)
  show wpAny _ _ (field (.ref z) 3 >>= _) _ _ _
  refine wpAny_bind (wpAny_field hz rfl (x := .ref TI) rfl (wpAny_bind (wpAny_seqItems hI rfl ?_)))
  show wpAny _ _ (Builtin.SmallTypes.ownedTupleIsFree (.ref z) >>= _) _ _ _
  unfold Builtin.SmallTypes.ownedTupleIsFree
  refine wpAny_bind (wpAny_bind (wpAny_field hz rfl (x := .none) rfl (wpAny_pure ?_)))
  simp only [if_true]
  refine wpAny_bind (wpAny_rule (wpAny_bind (wpAny_field hz rfl (x := .ref TO) rfl (wpAny_bind (wpAny_setField_rec hz (by simp) fun r0 k0 m0 => ?_)))))
  replace k0 : ZipS r0 z TI TO .ellipsis := k0
  replace m0 : Heap.SameBut z q0 r0 := m0
  refine wpAny_bind ?_
  simp only [List.zipIdx_cons, List.zipIdx_nil, List.forIn_cons, List.forIn_nil]
  refine wpAny_bind (wpAny_bind (wpAny_onRaise ?_))
  show wpAny _ _ (Builtin.SmallTypes.nextOrEnd (.ref i1)) _ _ ⟨r0, gg, dd, t0, oo⟩
  refine oe_end D1 (D1.over t1 m0 S.zf1) fun c1 w1 => ?_
  replace w1 : Heap.ExtBut i1 r0 c1 := w1
  have kc : ZipS c1 z TI TO .ellipsis := w1 _ _ S.zi1 k0
  refine wpAny_bind (wpAny_setField_rec (s := ⟨c1, gg, dd, t0, oo⟩) kc (by simp) fun r1 k1 m1 => ?_)
  replace m1 : Heap.SameBut z c1 r1 := m1
  refine wpAny_bind ?_
  show wpAny _ _ (((Builtin.SmallTypes.nextOrEnd (.ref i2) >>= _) >>= _) >>= _) _ _ _
  have d2 : S2 n r1 := D2.over (D2.frame _ _ _ (D2.over t2 m0 S.zf2) fun b hb o e => w1 b o (fun q => S.sep1_2 (q ▸ hb)) e) m1 S.zf2
  refine wpAny_bind (wpAny_bind (wpAny_bind (oe_end (s := ⟨r1, gg, dd, t0, oo⟩) D2 d2 fun c2 w2 => wpAny_pure ?_)))
  replace w2 : Heap.ExtBut i2 r1 c2 := w2
  show wpAny _ _ (pure _) _ _ _
  refine wpAny_pure ?_
  refine wpAny_bind (wpAny_rule ?_)
  show wpAny _ _ (newExc (.type "StopIteration") [] >>= (raiseNew : Value → Sem PySem.Fin)) _ _ ⟨c2, gg, dd, t0, oo⟩
  refine wpAny_bind ?_; simp only [newExc, newTuple]
  refine wpAny_bind (wpAny_newObj_type (wpAny_bind (m := firstArgMember _ _) (wpAny_of_eq (a := Value.none) (by first | rfl | (simp only [firstArgMember]; rfl)) (wpAny_newObj_type ?_ (by size_fits)))) (by size_fits))
  simp only [raiseNew]; refine wpAny_bind (wpAny_handled ?_); rw [hh]
  refine wpAny_bind (wpAny_pure (wpAny_throw ?_))
  have far : ∀ b o, b ≠ z → b ≠ TO → b ≠ i1 → b ≠ i2 → q0.get? b = some o → c2.get? b = some o := fun b o p1 p2 p3 p4 e => w2 _ _ p4 (m1.extBut _ _ p1 (w1 _ _ p3 (m0.extBut _ _ p1 e)))
  exact hE _ _ _ (fun b o p1 p2 p3 p4 e => Heap.get?_push_of_some _ (Heap.get?_push_of_some _ (far b o p1 p2 p3 p4 e))) ⟨_, Heap.get?_push_size _ rfl, rfl⟩
theorem zipS_iter {f0 : Value} {Q : Value → Shared → Prop} (hz : ZipS s.heap z TI TO f0) (h : Q (.ref z) s) : wpAny (model P w) A (pyIter (.ref z)) Q E s := by
  have ty : s.TypeIs (.ref z) "zip" := ⟨_, hz, rfl⟩
  refine wpAny_pyIter_slot ty F.slot_zip_iter (wpAny_call_entry F.slot_zip_iter ty F.entry_zip_iter (?_ : wpAny _ _ (ret (.ref z)) _ _ s) (F.args_zip_iter_1 _))
  exact wpAny_pure ⟨_, rfl, "zip", _, ty, F.slot_zip_next.lookup, h⟩
theorem zipS_go {elts : List Expr} {kk : Nat} {pos : Pos} {T : Addr} {Q : Unit → Shared → Prop} (hz : ZipS s.heap z TI TO (rawInt T)) (hQ : ∀ h', ZipS h' z TI TO .none → Heap.SameBut z s.heap h' → Q () { s with heap := h' }) :
    wpAny (model P w) A (letOwnedTupleGo (.Tuple elts kk pos) (.ref z) (.ref T)) Q E s := by
  unfold letOwnedTupleGo; refine wpAny_bind (wpAny_load hz ?_)
  show wpAny _ _ (ite ((["enumerate", "zip", "dict_itemiterator", "dict_reverseitemiterator", "odict_iterator", "itertools.zip_longest", "itertools.pairwise"].contains "zip" && (#[rawInt T, .bool false, .bool true, .ref TI, .ref TO] : Array Value)[0]? == some (rawInt T)) = true) _ _) Q E s
  rw [if_pos (by simp)]; refine wpAny_bind (wpAny_rule ?_)
  exact wpAny_setField_rec hz (by simp) fun r k m => hQ r k m
/-- pyNext of it -/
theorem zipS_nextItem {Q : Option Value → Shared → Prop} (S : ZipSep2 z TI TO i1 i2 f1 f2) (D1 : Draws P w A.in1 i1 f1 n P1 S1) (D2 : Draws P w A.in1 i2 f2 n P2 S2) (hz : ZipS s.heap z TI TO .none) (hI : IsTupOf2 s.heap TI (.ref i1) (.ref i2)) (hO : IsTupOf2 s.heap TO a1 a2)
    (t1 : S1 i s.heap) (t2 : S2 i s.heap) (hi : i < n)
    (hQ : ∀ x y h' tk, P1 i x → P2 i y → ZipS h' z TI TO (rawInt s.heap.objs.size) → IsTupOf2 h' TO x y → S1 (i + 1) h' → S2 (i + 1) h' → IsTupOf2 h' s.heap.objs.size x y → h'.objs.size = s.heap.objs.size + 1 →
      (∀ b o, b ≠ z → b ≠ TO → b ≠ i1 → b ≠ i2 → s.heap.get? b = some o → h'.get? b = some o) → Q (some (.ref s.heap.objs.size)) { s with heap := h', toks := tk }) :
    wpAny (model P w) A (pyNext (.ref z)) Q E s := by
  have ty : s.TypeIs (.ref z) "zip" := ⟨_, hz, rfl⟩
  unfold pyNext
  exact wpAny_bind (wpAny_attempt (wpAny_callSpecial?_slot (name := Str.ofString "__next__") ty F.slot_zip_next (wpAny_call_entry F.slot_zip_next ty F.entry_zip_next
    (zipS_item S D1 D2 hz hI hO t1 t2 hi fun x y h' tk c1 c2 c3 c4 c5 c6 c7 c8 c9 => wpAny_pure (hQ x y h' tk c1 c2 c3 c4 c5 c6 c7 c8 c9)) (F.args_zip_next_1 _))))
theorem zipS_nextEnd {Q : Option Value → Shared → Prop} (hh : A.in1.handled = none) (S : ZipSep2 z TI TO i1 i2 f1 f2) (D1 : Draws P w A.in1 i1 f1 n P1 S1) (D2 : Draws P w A.in1 i2 f2 n P2 S2) (hz : ZipS s.heap z TI TO .none) (hI : IsTupOf2 s.heap TI (.ref i1) (.ref i2)) (hO : IsTupOf2 s.heap TO a1 a2)
    (t1 : S1 n s.heap) (t2 : S2 n s.heap)
    (hQ : ∀ h' tk, (∀ b o, b ≠ z → b ≠ TO → b ≠ i1 → b ≠ i2 → s.heap.get? b = some o → h'.get? b = some o) → Q none { s with heap := h', toks := tk }) : wpAny (model P w) A (pyNext (.ref z)) Q E s := by
  have ty : s.TypeIs (.ref z) "zip" := ⟨_, hz, rfl⟩
  unfold pyNext
  refine wpAny_bind (wpAny_attempt (wpAny_callSpecial?_slot (name := Str.ofString "__next__") ty F.slot_zip_next (wpAny_call_entry F.slot_zip_next ty F.entry_zip_next (zipS_end hh S D1 D2 hz hI hO t1 t2 fun h' tk e hk he => ?_) (F.args_zip_next_1 _))))
  obtain ⟨o, ho, hc⟩ := he
  exact wpAny_bind (wpAny_isInstance (T := "StopIteration") (b := true) ⟨o, ho, hc⟩ isSubtype_stop (wpAny_pure (hQ _ _ hk)))
end
/-! ### its beginning -/
abbrev zs1 (h : Heap) (o1 o2 : Obj) : Heap := ((h.push o1).push o2).push { cls := .type "tuple", data := .seq #[.ref h.objs.size, .ref (h.push o1).objs.size] }
abbrev zs2 (h : Heap) (o1 o2 : Obj) : Heap := (zs1 h o1 o2).push { cls := .type "tuple", data := .seq #[.none, .none] }
abbrev zs3 (h : Heap) (o1 o2 : Obj) : Heap := (zs2 h o1 o2).push ⟨.type "zip", none, .fields #[.none, .bool false, .bool true, .ref ((h.push o1).push o2).objs.size, .ref (zs1 h o1 o2).objs.size], #[]⟩
abbrev kwS : List (Str × Value) := [(Str.ofString "strict", .bool true)]
theorem zipS_tc (a b : Value) : checkTypeCall "zip" ⟨[a, b], kwS⟩ = pure () := by kernel_rfl
theorem zipS_nc (a b : Value) : checkBuiltinCall "zip.__new__" ⟨[.type "zip", a, b], kwS⟩ = pure () := by kernel_rfl
theorem zipS_oi (obj a b : Value) : argsOk "object.__init__" ⟨[obj, a, b], kwS⟩ := by unfold argsOk; kernel_rfl
theorem zipS_new {v1 v2 : Value} {o1 o2 : Obj} {H1 H2 : Heap → Prop} (B1 : Begins v1 o1 H1) (B2 : Begins v2 o2 H2) :
    Meets (Builtin.«zip.__new__» ⟨[.type "zip", v1, v2], kwS⟩) (fun _ R s => (H1 s.heap ∧ H2 s.heap) ∧ R (.ok (.ret (.ref (zs2 s.heap o1 o2).objs.size))) { s with heap := zs3 s.heap o1 o2 }) :=
  .of_wp fun P w A R s h => by
    obtain ⟨q0, gg, dd, t0, oo⟩ := s
    obtain ⟨⟨g1, g2⟩, h⟩ := h
    have sb := sub_zip
    have e1 : ∀ {A' : Around} {E Q : Value → Shared → Prop}, Q (.ref q0.objs.size) ⟨q0.push o1, gg, dd, t0, oo⟩ → wpAny (model P w) A' (pyIter v1) Q E ⟨q0, gg, dd, t0, oo⟩ := fun q => B1.iter P w _ _ ⟨q0, gg, dd, t0, oo⟩ _ g1 q
    have e2 : ∀ {A' : Around} {E Q : Value → Shared → Prop}, Q (.ref (q0.push o1).objs.size) ⟨(q0.push o1).push o2, gg, dd, t0, oo⟩ → wpAny (model P w) A' (pyIter v2) Q E ⟨q0.push o1, gg, dd, t0, oo⟩ := fun q => B2.iter P w _ _ ⟨q0.push o1, gg, dd, t0, oo⟩ _ (B2.keeps _ _ g2 fun b o' e => Heap.get?_push_of_some _ e) q
    wp_walk using e1, e2
    exact ⟨_, rfl, h⟩
section
variable {P : Program} {w : World} {A : Around} {E : Value → Shared → Prop} {s : Shared}
theorem zipS_begins {v1 v2 : Value} {o1 o2 : Obj} {H1 H2 : Heap → Prop} {Q : Value → Shared → Prop} (B1 : Begins v1 o1 H1) (B2 : Begins v2 o2 H2) (g1 : H1 s.heap) (g2 : H2 s.heap)
    (h : ∀ h', ZipS h' (s.heap.objs.size + 4) (s.heap.objs.size + 2) (s.heap.objs.size + 3) .none → IsTupOf2 h' (s.heap.objs.size + 2) (.ref s.heap.objs.size) (.ref (s.heap.objs.size + 1)) →
      IsTupOf2 h' (s.heap.objs.size + 3) .none .none → h'.get? s.heap.objs.size = some o1 → h'.get? (s.heap.objs.size + 1) = some o2 → (∀ c o, s.heap.get? c = some o → h'.get? c = some o) → Q (.ref (s.heap.objs.size + 4)) { s with heap := h' }) :
    wpAny (model P w) A (call (.type "zip") [v1, v2] kwS) Q E s := by
  refine callType_newKw F.called_zip (by decide) (zipS_tc _ _) (zipS_nc _ _) (fun obj => zipS_oi obj _ _) F.entry_zip_new (zipS_new B1 B2) ⟨⟨g1, g2⟩, ?_⟩
  have l1 : (s.heap.push o1).objs.size = s.heap.objs.size + 1 := Heap.size_push ..
  have l2 : ((s.heap.push o1).push o2).objs.size = s.heap.objs.size + 2 := by rw [Heap.size_push, l1]
  have l3 : (zs1 s.heap o1 o2).objs.size = s.heap.objs.size + 3 := by rw [Heap.size_push, l2]
  have l4 : (zs2 s.heap o1 o2).objs.size = s.heap.objs.size + 4 := by rw [Heap.size_push, l3]
  have kZ : (zs3 s.heap o1 o2).get? (zs2 s.heap o1 o2).objs.size = some ⟨.type "zip", none, .fields #[.none, .bool false, .bool true, .ref ((s.heap.push o1).push o2).objs.size, .ref (zs1 s.heap o1 o2).objs.size], #[]⟩ := Heap.get?_push_size _ rfl
  have kO : (zs3 s.heap o1 o2).get? (zs1 s.heap o1 o2).objs.size = some { cls := .type "tuple", data := .seq #[.none, .none] } := Heap.get?_push_of_some _ (Heap.get?_push_size _ rfl)
  have kT : (zs3 s.heap o1 o2).get? ((s.heap.push o1).push o2).objs.size = some { cls := .type "tuple", data := .seq #[.ref s.heap.objs.size, .ref (s.heap.push o1).objs.size] } := Heap.get?_push_of_some _ (Heap.get?_push_of_some _ (Heap.get?_push_size _ rfl))
  have k1 : (zs3 s.heap o1 o2).get? s.heap.objs.size = some o1 := Heap.get?_push_of_some _ (Heap.get?_push_of_some _ (Heap.get?_push_of_some _ (Heap.get?_push_of_some _ (Heap.get?_push_size _ B1.free))))
  have k2 : (zs3 s.heap o1 o2).get? (s.heap.push o1).objs.size = some o2 := Heap.get?_push_of_some _ (Heap.get?_push_of_some _ (Heap.get?_push_of_some _ (Heap.get?_push_size _ B2.free)))
  rw [l4, l3, l2] at kZ
  rw [l3] at kO
  rw [l2, l1] at kT
  rw [l1] at k2
  show _ ∧ _
  rw [l4]
  exact ⟨⟨_, kZ, rfl⟩, h _ kZ kT kO k1 k2 fun c o e => Heap.get?_push_of_some _ (Heap.get?_push_of_some _ (Heap.get?_push_of_some _ (Heap.get?_push_of_some _ (Heap.get?_push_of_some _ e))))⟩
end
/-! ### the walk -/
def ItZS (k1 k2 : SK) (K : PySem.W.Frag) (a b : Addr) : It :=
  ⟨fun i H => ∃ (xs ys : List V) (x y : V), SqA k1 K H a xs ∧ SqA k2 K H b ys ∧ xs[i]? = some x ∧ ys[i]? = some y ∧ xs.length = ys.length,
    fun i H v H' => ∃ T x y, v = .ref T ∧ H T = none ∧ H' = upd H T (.tup [x, y]) ∧ (∀ xs, SqA k1 K H a xs → xs[i]? = some x) ∧ ∀ ys, SqA k2 K H b ys → ys[i]? = some y,
    fun i H => ∃ xs ys : List V, SqA k1 K H a xs ∧ SqA k2 K H b ys ∧ i = xs.length ∧ i = ys.length⟩
theorem turn_zipS {P : Program} {w : World} {K : PySem.W.Frag} {elts : List Expr} {kk : Nat} {tpos : Pos} (k1 k2 : SK) {a b z TI TO i1 i2 : Addr} (D : ZipSep2 z TI TO i1 i2 [i1, a] [i2, b]) :
    Turn P w K (.Tuple elts kk tpos) (ItZS k1 k2 K a b) [z, TI, TO, i1, i2] z (fun i h => ZipS h z TI TO .none ∧ IsTupOf2 h TI (.ref i1) (.ref i2) ∧ (∃ x y, IsTupOf2 h TO x y) ∧ ItAt k1 h i1 a i ∧ ItAt k2 h i2 b i) where
  mem := by simp
  obj := fun i h st c hc => by
    obtain ⟨hz, hTI, ⟨x, y, hTO⟩, h1, h2⟩ := st
    have e' : c = z ∨ c = TI ∨ c = TO ∨ c = i1 ∨ c = i2 := by simpa using hc
    rcases e' with q | q | q | q | q
    · rw [q]; exact ⟨_, hz, fun v q => nomatch q⟩
    · rw [q]; exact ⟨_, hTI, fun v q => nomatch q⟩
    · rw [q]; exact ⟨_, hTO, fun v q => nomatch q⟩
    · rw [q]; exact h1.there
    · rw [q]; exact h2.there
  keep := fun i h h' st k => by
    obtain ⟨hz, hTI, ⟨x, y, hTO⟩, h1, h2⟩ := st
    exact ⟨k z (by simp) _ hz, k TI (by simp) _ hTI, ⟨x, y, k TO (by simp) _ hTO⟩, h1.at fun o q => k i1 (by simp) o q, h2.at fun o q => k i2 (by simp) o q⟩
  item := by
    intro X hP hw hK hc i pins s σ H E I hf st hg
    subst hP hw hK
    obtain ⟨hz, hTI, ⟨x0, y0, hTO⟩, h1, h2⟩ := st
    obtain ⟨xs, ys, x, y, hqx, hqy, hx, hy, hll⟩ := hg
    obtain ⟨its, rv, p, _⟩ := inv_sq I hqx
    obtain ⟨its2, rv2, p2, _⟩ := inv_sq I hqy
    obtain ⟨u, hu, ru⟩ := rv.get hx
    obtain ⟨u2, hu2, ru2⟩ := rv2.get hy
    have hzl : z < s.heap.objs.size := Heap.lt_size hz
    have l1 : i < its.toArray.size := by
      have := (List.getElem?_eq_some_iff.mp hu).1
      simpa using this
    have hsz : its2.toArray.size = its.toArray.size := by rw [List.size_toArray, List.size_toArray, ← rv.length, ← rv2.length, hll]
    have D2 := draws_sq (prog := X.prog) (w := X.w) (A := X.A.in1) (I.ok.hd hc) k2 i2 b (h2.ne p2) its2.toArray
    rw [hsz] at D2
    refine zipS_nextItem D (draws_sq (A := X.A.in1) (I.ok.hd hc) k1 i1 a (h1.ne p) its.toArray) D2 hz hTI hTO ⟨h1, p⟩ ⟨h2, p2⟩ l1 fun v1 v2 h' tk e1 e2 z' TO' h1' h2' hT hs hk => ?_
    have e1' : v1 = u := by
      have q : its.toArray[i]? = some v1 := e1
      have q2 : its[i]? = some v1 := by simpa using q
      rw [hu] at q2; exact (Option.some.inj q2).symm
    have e2' : v2 = u2 := by
      have q : its2.toArray[i]? = some v2 := e2
      have q2 : its2[i]? = some v2 := by simpa using q
      rw [hu2] at q2; exact (Option.some.inj q2).symm
    subst e1' e2'
    refine ⟨_, rfl, zipS_go (s := { s with heap := h', toks := tk }) z' fun h'' z'' sb => ?_⟩
    have hT2 : h''.get? s.heap.objs.size = some { cls := .type "tuple", data := .seq #[v1, v2] } := (sb.2 _ (Nat.ne_of_gt hzl)).trans hT
    have new : ObjOk X.prog X.w (upd H s.heap.objs.size (.tup [x, y])) h'' s.heap.objs.size (.tup [x, y]) :=
      ⟨by show 2 ≤ sizeLine; decide, [v1, v2], .cons ru (.cons ru2 .nil), ⟨_, hT2, rfl, _, rfl⟩⟩
    have I1 : Inv X pins σ (upd H s.heap.objs.size (.tup [x, y])) { s with heap := h'', toks := tk } :=
      I.turnedNew (t' := tk) (ch := [z, TI, TO, i1, i2]) (fun c o hb q => (sb.2 c (fun q' => hb (by simp [q']))).trans (hk c o (fun q' => hb (by simp [q'])) (fun q' => hb (by simp [q'])) (fun q' => hb (by simp [q'])) (fun q' => hb (by simp [q'])) q)) hf (Nat.le_refl _) new
    have nz1 : i1 ≠ z := fun q => D.zf1 (by rw [← q]; exact D.mem1)
    have nz2 : i2 ≠ z := fun q => D.zf2 (by rw [← q]; exact D.mem2)
    refine ⟨.ref s.heap.objs.size, _, I1, rfl, ⟨_, x, y, rfl, I.hok.fresh (Nat.le_refl _), rfl, fun l hl => by rw [inv_sq_inj I hl hqx]; exact hx, fun l hl => by rw [inv_sq_inj I hl hqy]; exact hy⟩, ⟨z'', ?_, ⟨v1, v2, ?_⟩, ?_, ?_⟩, fun c hcm => ?_⟩
    · exact (sb.2 _ D.TIz).trans (hk _ _ D.TIz D.TITO D.TIi1 D.TIi2 hTI)
    · exact (sb.2 _ D.TOz).trans TO'
    · exact h1'.1.at fun o q => (sb.2 _ nz1).trans q
    · exact h2'.1.at fun o q => (sb.2 _ nz2).trans q
    · have hlt : c < s.heap.objs.size := by
        have e' : c = z ∨ c = TI ∨ c = TO ∨ c = i1 ∨ c = i2 := by simpa using hcm
        rcases e' with q | q | q | q | q
        · rw [q]; exact hzl
        · rw [q]; exact Heap.lt_size hTI
        · rw [q]; exact Heap.lt_size hTO
        · rw [q]; obtain ⟨_, e1, _⟩ := h1.there; exact Heap.lt_size e1
        · rw [q]; obtain ⟨_, e2, _⟩ := h2.there; exact Heap.lt_size e2
      rw [upd_ne (Nat.ne_of_lt hlt)]
      exact (hf c hcm).1
  done := by
    intro X hP hw hK hc i pins s σ H E I hf st hg
    subst hP hw hK
    obtain ⟨hz, hTI, ⟨x0, y0, hTO⟩, h1, h2⟩ := st
    obtain ⟨xs, ys, hqx, hqy, e1, e2⟩ := hg
    obtain ⟨its, rv, p, _⟩ := inv_sq I hqx
    obtain ⟨its2, rv2, p2, _⟩ := inv_sq I hqy
    have m1 : its.toArray.size = i := by rw [List.size_toArray, ← rv.length, e1]
    have m2 : its2.toArray.size = i := by rw [List.size_toArray, ← rv2.length, e2]
    have D1 := draws_sq (prog := X.prog) (w := X.w) (A := X.A.in1) (I.ok.hd hc) k1 i1 a (h1.ne p) its.toArray
    have D2 := draws_sq (prog := X.prog) (w := X.w) (A := X.A.in1) (I.ok.hd hc) k2 i2 b (h2.ne p2) its2.toArray
    rw [m1] at D1
    rw [m2] at D2
    exact zipS_nextEnd (I.ok.hd hc) D D1 D2 hz hTI hTO ⟨h1, p⟩ ⟨h2, p2⟩ fun h' tk hk => ⟨rfl, I.turnedL (t' := tk) (ch := [z, TI, TO, i1, i2]) (fun c o hb q =>
      hk c o (fun q' => hb (by simp [q'])) (fun q' => hb (by simp [q'])) (fun q' => hb (by simp [q'])) (fun q' => hb (by simp [q'])) q) hf⟩
  self := fun A i s Q E st h => zipS_iter st.1 h
theorem callWith_tyKw {M : Model} {A : Around} {E : Value → Shared → Prop} {s : Shared} {env : PySem.Env} {pos : Pos} {T : String} {e : Expr} {rest : List Expr} {kws : List Keyword} {Q : Value → Shared → Prop} (hall : (backToKw pos (keywordEach kws env)).all (·.1.isSome) = true)
    (h : wpAny M A (spliced (backTo pos (starEach (e :: rest) env))) (fun vs s₁ => wpAny M A (evalAll ((backToKw pos (keywordEach kws env)).map (·.2))) (fun ks s₂ => wpAny M A (call (.type T) vs (((backToKw pos (keywordEach kws env)).filterMap (·.1)).zip ks)) Q E s₂) E s₁) E s)
    (he : starEach (e :: rest) env = (false, eval e env) :: starEach rest env) (hpl : (backTo pos (starEach (e :: rest) env)).any (·.1) = false) (hkw : (backToKw pos (keywordEach kws env)).any (·.1.isNone) = false) :
    wpAny M A (callWith pos (.type T) [] (backTo pos (starEach (e :: rest) env)) (backToKw pos (keywordEach kws env))) Q E s := by
  unfold callWith
  refine wpAny_bind (wpAny_holding (wpAny_mono (evalArgs_kw2 (Q := fun a s₁ => wpAny M A (call (.type T) a.pos a.kw) Q E s₁) hall h he) (fun a s₁ k => wpAny_bind (wpAny_standAt ?_)) fun _ _ x => x))
  simp only [hpl, hkw, Bool.or_false]
  exact wpAny_bind (wpAny_pure (wpAny_bind (wpAny_mono k (fun r s₂ hr => wpAny_bind (wpAny_holding (wpAny_point (wpAny_pure hr)))) fun _ _ x => x)))
def iZipS (K : PySem.W.Frag) (ta : TA) : TI := fun σ H R => ta σ H fun vs H1 => ∃ k1 k2 a b xs ys, vs = [.ref a, .ref b] ∧ SqA k1 K H1 a xs ∧ SqA k2 K H1 b ys ∧ R (ItZS k1 k2 K a b) H1
theorem pi_zipS {X : Cx} {e e2 : Expr} {ta : TA} {p pos tpos bp kp : Pos} {elts : List Expr} {kk kb} (hg : Gl X "zip") (hm : X.mg "zip" = none) (ha : PA X [e, e2] ta)
    (hs : starEach [e, e2] X.env = (false, eval e X.env) :: starEach [e2] X.env := by rfl) (hpl : (backTo pos (starEach [e, e2] X.env)).any (·.1) = false := by rfl)
    (hall : (backToKw pos (keywordEach [⟨some "strict", .Constant (.bool true) kb bp, kp⟩] X.env)).all (·.1.isSome) = true := by rfl) (hkw : (backToKw pos (keywordEach [⟨some "strict", .Constant (.bool true) kb bp, kp⟩] X.env)).any (·.1.isNone) = false := by rfl)
    (hks : (backToKw pos (keywordEach [⟨some "strict", .Constant (.bool true) kb bp, kp⟩] X.env)).filterMap (·.1) = [Str.ofString "strict"] := by rfl) :
    PI X (.Tuple elts kk tpos) (.Call (.Name "zip" p) [e, e2] [⟨some "strict", .Constant (.bool true) kb bp, kp⟩] pos) (iZipS X.K ta) := by
  refine ⟨fun pins s σ H R I h => ?_⟩
  refine wpAny_Call_Name_kw (ld_blt I hg hm PyProof.Rows.boot_zip (callWith_tyKw hall (thn (ha.run pos pins s σ H _ I h) fun us s0 ⟨vs, H0, I0, r1, q1⟩ => thn ((pk_cons (nm := some "strict") (kpos := kp) (show PE X (.Constant (.bool true) kb bp) (tC (.bl true)) from pe_bl) pk_nil).run pos pins s0 σ H0 (fun zs H2 => zs = [.bl true] ∧ H2 = H0) I0 ⟨rfl, rfl⟩) fun ws s1 ⟨zs, H1, I1, r2, ez, eH⟩ => ?_) hs hpl hkw))
  rw [hks]
  subst ez eH
  have ew : ws = [.bool true] := by
    cases r2 with
    | cons r rr => cases rr; cases r; rfl
  subst ew
  obtain ⟨k1, k2, a, b, xs, ys, ex, hqx, hqy, q⟩ := q1
  subst ex
  cases r1 with
  | cons r rr =>
    cases rr with
    | cons r' rr =>
      cases rr
      cases r
      cases r'
      obtain ⟨its, rv, p1, _⟩ := inv_sq I1 hqx
      obtain ⟨its2, rv2, p2, _⟩ := inv_sq I1 hqy
      have la : a < s1.heap.objs.size := p1.lt
      have lb : b < s1.heap.objs.size := p2.lt
      refine zipS_begins (begins_sq k1 a its.toArray) (begins_sq k2 b its2.toArray) p1 p2 fun h' hz hTI hTO h1 h2 hk => zipS_iter hz ?_
      have I2 : Inv X pins σ H1 { s1 with heap := h' } := I1.kept (t' := s1.toks) hk
      have t1 : ItAt k1 h' s1.heap.objs.size a 0 := by
        cases k1 with
        | l => exact ⟨_, h1, rfl, rfl⟩
        | t => exact ⟨_, h1, rfl, rfl⟩
      have t2 : ItAt k2 h' (s1.heap.objs.size + 1) b 0 := by
        cases k2 with
        | l => exact ⟨_, h2, rfl, rfl⟩
        | t => exact ⟨_, h2, rfl, rfl⟩
      refine ⟨s1.heap.objs.size + 4, [s1.heap.objs.size + 4, s1.heap.objs.size + 2, s1.heap.objs.size + 3, s1.heap.objs.size, s1.heap.objs.size + 1], _, _, H1, rfl, I2, turn_zipS k1 k2 (zip_sep2 (fun c hc => by rw [List.mem_singleton.mp hc]; exact la) (fun c hc => by rw [List.mem_singleton.mp hc]; exact lb)), ⟨hz, hTI, ⟨_, _, hTO⟩, t1, t2⟩, fun c hcm => ?_, q⟩
      have e' : c = s1.heap.objs.size + 4 ∨ c = s1.heap.objs.size + 2 ∨ c = s1.heap.objs.size + 3 ∨ c = s1.heap.objs.size ∨ c = s1.heap.objs.size + 1 := by simpa using hcm
      have hle : s1.heap.objs.size ≤ c := by
        rcases e' with z | z | z | z | z
        · rw [z]; exact Nat.le_add_right _ _
        · rw [z]; exact Nat.le_add_right _ _
        · rw [z]; exact Nat.le_add_right _ _
        · rw [z]; exact Nat.le_refl _
        · rw [z]; exact Nat.le_add_right _ _
      exact I1.fpOk hle (I1.hok.fresh hle)
def Wk.zipS (f : M (List O)) : M (List D) := f.bind fun os => match os with
  | [o, p] => (match oseq o, oseq p with
    | some xs, some ys => if xs.length = ys.length then M.ret (Wk.zips xs ys) else M.fail
    | _, _ => M.fail)
  | _ => M.fail
theorem walk_zipS {K : PySem.W.Frag} {I : Hp} {xs ys : List D} {vs ws : List V} {a b : Addr} {k1 k2 : SK} (hl : xs.length = ys.length) (q : SqA k1 K I a vs) (r : DenL K I xs vs) (q2 : SqA k2 K I b ws) (r2 : DenL K I ys ws) : IsWalk K (ItZS k1 k2 K a b) (Wk.zips xs ys) I := by
  have w := walk_zip q r q2 r2
  have sq : ∀ {H2 I2 : Hp}, Same I I2 → Same I2 H2 → SqA k1 K H2 a vs := fun h1 h2 => sqA_le (h1.trans h2) q
  have sq2 : ∀ {H2 I2 : Hp}, Same I I2 → Same I2 H2 → SqA k2 K H2 b ws := fun h1 h2 => sqA_le (h1.trans h2) q2
  have ln : (Wk.zips xs ys).length = xs.length := by unfold Wk.zips; simp [hl]
  refine ⟨fun H2 I2 i h1 h2 hi => ?_, fun H2 I2 h1 h2 => ⟨vs, ws, sq h1 h2, sq2 h1 h2, by rw [r.len, ln], by rw [r2.len, ln, hl]⟩, fun H2 I2 i x H3 d h1 h2 e y => w.yld H2 I2 i x H3 d h1 h2 e y⟩
  rw [ln] at hi
  have l1 : i < vs.length := by rw [r.len]; exact hi
  have l2 : i < ws.length := by rw [r2.len, ← hl]; exact hi
  exact ⟨vs, ws, vs[i], ws[i], sq h1 h2, sq2 h1 h2, by simp [l1], by simp [l2], by rw [r.len, r2.len, hl]⟩
theorem ei_zipS {X : Cx} {W : WX} {e e2 : Expr} {fa : M (List O)} {p pos tpos bp kp : Pos} {elts : List Expr} {kk kb} (hg : Gl X "zip") (hm : X.mg "zip" = none) (ha : EA X W [e, e2] fa)
    (hs : starEach [e, e2] X.env = (false, eval e X.env) :: starEach [e2] X.env := by rfl) (hpl : (backTo pos (starEach [e, e2] X.env)).any (·.1) = false := by rfl)
    (hall : (backToKw pos (keywordEach [⟨some "strict", .Constant (.bool true) kb bp, kp⟩] X.env)).all (·.1.isSome) = true := by rfl) (hkw : (backToKw pos (keywordEach [⟨some "strict", .Constant (.bool true) kb bp, kp⟩] X.env)).any (·.1.isNone) = false := by rfl)
    (hks : (backToKw pos (keywordEach [⟨some "strict", .Constant (.bool true) kb bp, kp⟩] X.env)).filterMap (·.1) = [Str.ofString "strict"] := by rfl) :
    EI X W (.Tuple elts kk tpos) (.Call (.Name "zip" p) [e, e2] [⟨some "strict", .Constant (.bool true) kb bp, kp⟩] pos) (Wk.zipS fa) := by
  refine ⟨fun pins s σ H R' I0 h => (pi_zipS hg hm ha hs hpl hall hkw hks).run pins s σ H R' I0 ?_⟩
  obtain ⟨ρ, I, φ, gd, h⟩ := h
  refine bindA (P := PostI X.K X.mg W σ I H (al φ) R') gd h (fun _ _ z => z) (fun z => z) fun x ρ1 hx0 h v1 H1 I1 φ1 G1 s1 gd1 t1 w1 => ?_
  clear hx0
  split at h
  · rename_i o o2
    cases w1 with
    | @cons _ _ v vs' _ S1 S2 a b c d _ =>
      cases b with
      | @cons _ _ v2 vs2 _ S3 S4 a2 b2 c2 _ _ =>
      cases b2
      cases eo : oseq o with
      | none => rw [eo] at h; exact h.elim
      | some xs =>
      cases eo2 : oseq o2 with
      | none => rw [eo, eo2] at h; exact h.elim
      | some ys =>
        rw [eo, eo2] at h
        simp only at h
        split at h
        case isFalse => exact h.elim
        rename_i hl
        obtain ⟨x', ex, ed⟩ := frz_oseq eo
        obtain ⟨y', ey, ed2⟩ := frz_oseq eo2
        obtain ⟨gd2, st2⟩ := gd1.freeze t1
        obtain ⟨k, a', vs, rfl, q, r⟩ := den_seq ((a.mono c).den ex t1.dj) ed
        obtain ⟨k2, a2', vs2, rfl, q2, r2⟩ := den_seq ((a2.mono fun z hz => d z (c2 z hz)).den ey t1.dj) ed2
        exact ⟨k, k2, a', a2', vs, vs2, rfl, sqA_le gd2.le q, sqA_le gd2.le q2, h _ H1 _ φ1 (s1.trans st2) gd2 (walk_zipS hl q r q2 r2)⟩
  · exact h.elim
end EV

/-! The layer EV, part AA: min of a list of alike data. -/
namespace EV
open PySem PySem.Spec PyProof.Rows L2
def rMinL (K : PySem.W.Frag) : List V → Hp → VK → Prop := fun xs H Q => ∃ (l : Addr) (vs : List V) (x : D) (ds : List D), xs = [.ref l] ∧ SqL K H l vs ∧ DpAll K H vs (x :: ds) ∧ PySem.W.AlikeAll (x :: ds) ∧ PyData.depthAll (x :: ds) ≤ 64 ∧
  ∀ (i : Nat) (v : V), vs[i]? = some v → (x :: ds)[i]? = some (PySem.W.minD x ds) → Q v H
theorem cr_minL {X : Cx} (hc : X.calm = true) (hu : X.A.units + 100 < cLine) : CallR X (.builtin "min") (rMinL X.K) := by
  intro pins s σ H xs us Q I r h
  obtain ⟨l, vs, x, ds, rfl, hl, dp, al, dep, q⟩ := h
  rw [Vals.ref1 r]
  obtain ⟨its, rv, pl, hz⟩ := I.list hl
  obtain ⟨as, ra⟩ := Dp.readsAll I (x :: ds) vs its dp rv
  refine PySem.W.min_list_data (I.ok.hd hc) pl.isList (by simpa using ra) al (by omega) fun i v h' tk bs hi hr hk => ?_
  have hi' : its[i]? = some v := by simpa using hi
  obtain ⟨u, hu1, ru⟩ : ∃ u, vs[i]? = some u ∧ RelV u v := by
    have hlt : i < vs.length := by rw [rv.length]; exact (List.getElem?_eq_some_iff.mp hi').1
    obtain ⟨u, e⟩ : ∃ u, vs[i]? = some u := ⟨vs[i], by simp [hlt]⟩
    obtain ⟨w, e2, r2⟩ := rv.get e
    rw [hi'] at e2; cases e2
    exact ⟨u, e, r2⟩
  refine ⟨u, H, I.kept (t' := tk) hk, ru, q i u hu1 ?_⟩
  obtain ⟨bs2, r1, hlt, _, _⟩ := PySem.W.readsAll_atA (vs := its.toArray) (by simpa using ra) i v hi
  have e : PySem.W.minD x ds = (x :: ds).getD i .none := (PyProof.Rows.reads_det (fun b o e _ => e) (PySem.W.reads_keeps hk r1) hr).1
  rw [e, List.getD_eq_getElem?_getD]
  simp [List.getElem?_eq_getElem hlt]
def notNon : D → Bool
  | .none => false
  | _ => true
def minOk (ds : List D) : Bool := (ds.all fun d => ds.all fun e => PySem.W.alike d e) && (ds.all notNon) && PyData.plainAll ds && decide (PyData.depthAll ds ≤ 64)
/-- min of a list of alike data -/
def b_minL : List O → Option O
  | [x] => (listD x).bind fun ds => (match ds with
    | [] => none
    | d :: r => if minOk (d :: r) then some (.d (PySem.W.minD d r)) else none)
  | _ => none
theorem vw_minL {X : Cx} : VwN X (rMinL X.K) b_minL := by
  intro I H φ ρ σ Q xs z as gd ws e h
  unfold b_minL at e
  split at e
  · rw [Option.bind_eq_some_iff] at e
    obtain ⟨ds, e1, e2⟩ := e
    split at e2
    · cases e2
    · rename_i d r
      split at e2
      · rename_i hk
        cases e2
        simp only [minOk, Bool.and_eq_true, List.all_eq_true, decide_eq_true_eq] at hk
        obtain ⟨⟨⟨k1, k2⟩, k3⟩, k4⟩ := hk
        obtain ⟨v, S, rfl, w⟩ := ws.one
        obtain ⟨a, vs, rfl, hs, q⟩ := w.listD gd.le e1
        refine ⟨a, vs, d, r, rfl, hs, DenL.dp gd.le q k3, ⟨fun x hx y hy => k1 x hx y hy, fun x hx z => ?_⟩, k4, fun i u hu hi => ?_⟩
        · have := k2 x hx
          rw [z] at this; cases this
        · obtain ⟨u', hu', du⟩ := q.get hi
          rw [hu] at hu'; cases hu'
          exact h.d gd du
      · cases e2
  · cases e
end EV

/-! The layer EV, part AB: dict comprehensions. -/
namespace EV
open PySem PySem.Spec PyProof.Rows L2
def dcF (vs : List Nat) (g : O → M Unit) (t : M Bool) (fk fv : M O) : List D → List (D × D) → M (List (D × D))
  | [], acc => M.ret acc
  | x :: xs, acc => fun ρ => match g (.d x) ρ with
    | .ok _ ρ1 => (match t ρ1 with
      | .ok true ρ2 => (match fk ρ2 with
        | .ok (.d k) ρ3 => if isK k then (match fv ρ3 with
          | .ok y ρ4 => (match frz y with
            | some yd => if acc.length < 1000000 then dcF vs g t fk fv xs (putKD acc k yd) (wipeE ρ4 vs) else .stuck
            | none => .stuck)
          | _ => .stuck) else .stuck
        | _ => .stuck)
      | .ok false ρ2 => dcF vs g t fk fv xs acc (wipeE ρ2 vs)
      | _ => .stuck)
    | _ => .stuck
def E.dc (vs : List Nat) (fi : M (List D)) (g : O → M Unit) (t : M Bool) (fk fv : M O) : M O := fi.bind fun ds => fun ρ =>
  if calmE ρ vs then (match dcF vs g t fk fv ds [] (wipeE ρ vs) with
    | .ok acc ρ' => .ok (.dic acc) (backE ρ ρ' vs)
    | _ => .stuck) else .stuck
section
variable {X : Cx} {W : WX} {vs : List Nat} {fi : M (List D)} {g : O → M Unit} {t : M Bool} {fk fv : M O}
theorem dc_read {σ : St} {H : Hp} {Q : VK} (hσ : σ.length = X.N.length) (h : rdE X.K X.mg W (E.dc vs fi g t fk fv) σ H Q) :
    tDc (rdI X.K X.mg W fi) (rdG X.K X.mg (notIn X.N.length vs) g) (rdT X.K X.mg W0 t) (rdE X.K X.mg W0 fk) (rdE X.K X.mg W0 fv) vs σ H Q := by
  obtain ⟨ρ, I, φ, gd, h⟩ := h
  refine ⟨ρ, I, φ, gd, ?_⟩
  unfold E.dc M.bind at h
  cases e : fi ρ with
  | stuck => rw [e] at h; exact h
  | exc c ρ1 => rw [e] at h; exact h
  | ok ds ρ1 =>
    rw [e] at h
    intro J H1 I1 φ1 s1 gd1 wk Dd hD
    have h' := PostE.shift s1 h
    simp only at h'
    by_cases hc : calmE ρ1 vs = true
    case neg => rw [if_neg hc] at h'; exact h'.elim
    rw [if_pos hc] at h'
    cases er : dcF vs g t fk fv ds [] (wipeE ρ1 vs) with
    | stuck => rw [er] at h'; exact h'.elim
    | exc c ρF => rw [er] at h'; exact h'.elim
    | ok accF ρF =>
      rw [er] at h'
      let GD : Pd := fun a => a = Dd
      refine ⟨fun i m H2 => m = ds.length - i ∧ i ≤ ds.length ∧ ∃ ρ2 I2 φ2 acc kvs, Gd X.K X.mg I2 H2 φ2 ρ2 (wipe σ vs) ∧ Same I1 I2 ∧ H2 Dd = some (.dK kvs) ∧ DenK X.K I2 acc kvs ∧
          Tm I2 H2 φ2 GD ∧ Stp I1 H1 (al φ1) I2 H2 (orP (al φ2) GD) ∧ dcF vs g t fk fv (ds.drop i) acc ρ2 = .ok accF ρF,
        ⟨_, rfl, Nat.zero_le _, wipeE ρ1 vs, I1, fun i => if i ∈ vs then noP else φ1 i, [], [], (gd1.wipe).new hD, Same.refl _, upd_same, .nil, ⟨fun a q => ?_, fun a q => ?_, fun i a q z => ?_⟩, Stp.new hD fun a q => ?_, er⟩, ?_⟩
      · rw [show a = Dd from q]; exact gd1.free hD
      · rw [show a = Dd from q, upd_same]; exact Option.some_ne_none _
      · split at z
        · exact z
        · rw [show a = Dd from q] at z; exact gd1.th i _ z hD
      · rcases q with ⟨i, q⟩ | q
        · split at q
          · exact q.elim
          · exact .inl ⟨i, q⟩
        · exact .inr q
      rintro i m H2 ⟨rfl, hi, ρ2, I2, φ2, acc, kvs, gd2, le, hDd, wA, tA, st, hr⟩
      have sm : ∀ (φ : Ph) (a : Addr), al (fun i => if i ∈ vs then noP else φ i) a → al φ a := fun φ a ⟨j, q⟩ => by
        simp only at q
        split at q
        · exact q.elim
        · exact ⟨j, q⟩
      by_cases hlt : i < ds.length
      · rw [drop_cons hlt] at hr
        refine .inr ⟨wk.go H2 I2 i le gd2.le hlt, _, fun H' q => q, fun x H3 y => ?_⟩
        obtain ⟨I3, a1, a2, a3, a4, den⟩ := wk.yld H2 I2 i x H3 _ le gd2.le (List.getElem?_eq_getElem hlt) y
        obtain ⟨gd3, st3⟩ := gd2.grow a1 a2 a3 a4
        have tA3 : Tm I3 H3 φ2 GD := by
          refine ⟨fun a q => ?_, fun a q z => ?_, tA.sp⟩
          · cases ea : I3 a with
            | none => rfl
            | some o =>
              rcases a4 a o ea with z | z
              · rw [tA.dj a q] at z; cases z
              · exact (tA.th a q z).elim
          · obtain ⟨o, ho⟩ := Option.ne_none_iff_exists'.mp (tA.th a q)
            rw [a3 a o ho] at z; cases z
        have st3' : Stp I1 H1 (al φ1) I3 H3 (orP (al φ2) GD) := st.trans ((st3 (al φ2) fun _ q => q).frame (G := GD) tA.th)
        have hD3 : H3 Dd = some (.dK kvs) := a3 _ _ hDd
        unfold dcF at hr
        refine ⟨ρ2, I3, φ2, .d ds[i], noP, gd3, Tm.none, .d den, ?_⟩
        cases eg : g (.d ds[i]) ρ2 with
        | stuck => rw [eg] at hr; cases hr
        | exc c ρ4 => rw [eg] at hr; cases hr
        | ok _ ρ4 =>
          rw [eg] at hr
          intro σ4 H4 I4 φ4 k4 s4 gd4
          have s4' : Stp I3 H3 (al φ2) I4 H4 (al φ4) := s4.from fun a q => q.elim id False.elim
          have hw : wipe σ4 vs = wipe σ vs := wipe_keep (by rw [hσ]; exact k4)
          refine ⟨hw, ρ4, I4, φ4, gd4, ?_⟩
          have tA4 : Tm I4 H4 φ4 GD := (tA3.step (G' := noP) (s4'.sub fun a q => q.elim id False.elim) Tm.none).1.mono fun a => .inl
          have hD4 : H4 Dd = some (.dK kvs) := s4'.kp _ _ hD3 fun ⟨j, z⟩ => tA3.sp j Dd rfl z
          have st4 := st3'.trans (s4'.frame (G := GD) tA3.th)
          simp only at hr
          cases et : t ρ4 with
          | stuck => rw [et] at hr; cases hr
          | exc c ρ5 => rw [et] at hr; cases hr
          | ok b ρ5 =>
            rw [et] at hr
            intro H5 I5 φ5 s5 gd5
            have tA5 : Tm I5 H5 φ5 GD := (tA4.step (G' := noP) (s5.sub fun a q => q.elim id False.elim) Tm.none).1.mono fun a => .inl
            have hD5 : H5 Dd = some (.dK kvs) := s5.kp _ _ hD4 fun ⟨j, z⟩ => tA4.sp j Dd rfl z
            have st5 := st4.trans (s5.frame (G := GD) tA4.th)
            have li25 : Same I2 I5 := (a1.trans s4.li).trans s5.li
            cases b with
            | false =>
              rw [if_neg Bool.false_ne_true]
              simp only at hr
              have gw := gd5.wipe (vs := vs)
              rw [hw] at gw
              refine ⟨ds.length - (i + 1), by omega, rfl, hlt, wipeE ρ5 vs, I5, _, acc, kvs, gw, le.trans li25, hD5, wA.grow (RdLe.of li25), ⟨tA5.dj, tA5.th, fun j a q z => ?_⟩, st5.sub fun a q => q.imp (sm _ a) id, hr⟩
              obtain ⟨j', z'⟩ := sm φ5 a ⟨j, z⟩
              exact tA5.sp j' a q z'
            | true =>
              rw [if_pos rfl]
              simp only at hr
              refine ⟨ρ5, I5, φ5, gd5, ?_⟩
              cases ek : fk ρ5 with
              | stuck => rw [ek] at hr; cases hr
              | exc c ρ6 => rw [ek] at hr; cases hr
              | ok ko ρ6 =>
                rw [ek] at hr
                intro kv H6 I6 φ6 G6 s6 gd6 t6 w6
                cases ko with
                | d kd =>
                  simp only at hr
                  split at hr
                  case isFalse => cases hr
                  rename_i hkk
                  obtain ⟨key, rfl⟩ := isK_of hkk
                  have ekv : kv = kV key := by
                    cases w6 with
                    | d q => exact q.key
                  have s6' : Stp I5 H5 (al φ5) I6 H6 (al φ6) := s6.sub fun a q => .inl q
                  have tA6 : Tm I6 H6 φ6 GD := (tA5.step (G' := noP) (s6'.sub fun a q => q.elim id False.elim) Tm.none).1.mono fun a => .inl
                  have hD6 : H6 Dd = some (.dK kvs) := s6'.kp _ _ hD5 fun ⟨j, z⟩ => tA5.sp j Dd rfl z
                  have st6 := st5.trans (s6'.frame (G := GD) tA5.th)
                  refine ⟨ρ6, I6, φ6, gd6, ?_⟩
                  cases ef : fv ρ6 with
                  | stuck => rw [ef] at hr; cases hr
                  | exc c ρ7 => rw [ef] at hr; cases hr
                  | ok y ρ7 =>
                    rw [ef] at hr
                    intro v H7 I7 φ7 G7 s7 gd7 t7 w7
                    simp only at hr
                    cases ey : EV.frz y with
                    | none => rw [ey] at hr; cases hr
                    | some yd =>
                      rw [ey] at hr
                      simp only at hr
                      split at hr
                      case isFalse => cases hr
                      rename_i hz
                      obtain ⟨tt, dis⟩ := tA6.step s7 t7
                      obtain ⟨gd8, st8⟩ := gd7.freeze t7
                      have hD7 : H7 Dd = some (.dK kvs) := s7.kp _ _ hD6 fun ⟨j, z⟩ => tA6.sp j Dd rfl z
                      have dv : Den X.K (addI I7 H7 G7) yd v := w7.den ey t7.dj
                      have nGD : ¬ G7 Dd := fun q => dis Dd rfl q
                      have i8 : addI I7 H7 G7 Dd = none := by rw [addI_out nGD]; exact tt.dj Dd (.inl rfl)
                      have s8 : Stp I6 H6 (al φ6) (addI I7 H7 G7) H7 (al φ7) := s7.trans st8
                      have li28 : Same I2 (addI I7 H7 G7) := (li25.trans s6.li).trans s8.li
                      have st8' := st6.trans (s8.frame (G := GD) tA6.th)
                      refine ⟨kvs, key, ekv, hD7, by rw [wA.len, sizeLine_eq]; omega, ?_⟩
                      have nD : ∀ j, ¬ φ7 j Dd := fun j => tt.sp j Dd (.inl rfl)
                      have gw := gd8.wipe (vs := vs)
                      rw [hw] at gw
                      have gw2 := gw.other (p := Dd) (o := .dK (putK kvs key v)) i8 fun j z => by
                        obtain ⟨j', z'⟩ := sm φ7 Dd ⟨j, z⟩
                        exact nD j' z'
                      refine ⟨ds.length - (i + 1), by omega, rfl, hlt, wipeE ρ7 vs, addI I7 H7 G7, _, putKD acc (keyD key) yd, putK kvs key v, gw2, le.trans li28, upd_same, (wA.grow (RdLe.of li28)).put dv key, ⟨fun a q => ?_, fun a q => ?_, fun j a q z => ?_⟩, ?_, hr⟩
                      · rw [show a = Dd from q]; exact i8
                      · rw [show a = Dd from q, upd_same]; exact Option.some_ne_none _
                      · obtain ⟨j', z'⟩ := sm φ7 a ⟨j, z⟩
                        rw [show a = Dd from q] at z'
                        exact nD j' z'
                      · have s9 : Stp (addI I7 H7 G7) H7 (orP (al φ7) GD) (addI I7 H7 G7) (upd H7 Dd (.dK (putK kvs key v))) (orP (al φ7) GD) :=
                          ⟨Same.refl _, fun a o e nF => by rw [upd_ne (fun z => nF (.inr z))]; exact e, fun a q => .inl q, fun a o e => .inl e⟩
                        exact (st8'.trans s9).sub fun a q => q.imp (sm φ7 a) id
                | _ => cases hr
      · have ei : i = ds.length := by omega
        subst ei
        rw [List.drop_length] at hr
        refine .inl ⟨wk.stop H2 I2 le gd2.le, ?_⟩
        unfold dcF M.ret at hr
        cases hr
        have gu := gd1.unwipe (vs := vs) le hc gd2
        refine h' (.ref Dd) H2 I2 _ GD (st.sub fun a q => q.imp (sm φ2 a) id) gu ⟨tA.dj, tA.th, fun j a q z => ?_⟩ (.dic hDd rfl wA)
        obtain ⟨j', z'⟩ := sm φ2 a ⟨j, z⟩
        exact tA.sp j' a q z'
theorem ee_dc {kx vx tg iter : Expr} {ifs : List Expr} {scope : Scope} {own : List (Str × Nat)} {pos : Pos} {fi : M (List D)} {g : O → M Unit} {t : M Bool} {fk fv : M O} (hc : X.calm = true) (hN : X.N.Nodup) (hi : EI X W tg iter fi) (ok : BlkOk X.N X.env.scope scope own)
    (hg : ∀ (s : Shared) (H : Hp) (C : Addr) (cl : List (Str × Addr)) (fp : List Addr), PG (X.blk s H scope (compEnvC scope cl C X.env) fp) tg (rdG X.K X.mg (notIn X.N.length (own.map (·.2))) g))
    (ht : ∀ (s : Shared) (H : Hp) (C : Addr) (cl : List (Str × Addr)) (fp : List Addr), PTs (X.blk s H scope (compEnvC scope cl C X.env) fp) ifs (rdT X.K X.mg W0 t))
    (hk : ∀ (s : Shared) (H : Hp) (C : Addr) (cl : List (Str × Addr)) (fp : List Addr), PE (X.blk s H scope (compEnvC scope cl C X.env) fp) kx (rdE X.K X.mg W0 fk))
    (he : ∀ (s : Shared) (H : Hp) (C : Addr) (cl : List (Str × Addr)) (fp : List Addr), PE (X.blk s H scope (compEnvC scope cl C X.env) fp) vx (rdE X.K X.mg W0 fv)) (hs : ∀ x, foldedSetIterable iter X.env x = pure x := by intro _; rfl) :
    EE X W (.DictComp kx vx [⟨tg, iter, ifs, 0⟩] scope pos) (E.dc (own.map (·.2)) fi g t fk fv) :=
  ⟨fun pins s σ H Q I h => (pe_dc hc hN hi ok hg ht hk he hs).run pins s σ H Q I (dc_read I.len h)⟩
end
end EV

/-! The layer EV, part AC: {**a, **b}. -/
namespace EV
open PySem PySem.Spec PyProof.Rows L2
section
variable {P : Program} {w : World} {A : Around} {E : Value → Shared → Prop} {s : Shared}
theorem put_pairs {d : Addr} {kvs : List (Key × Value)} {k : Key} {key v : Value} {Q : Unit → Shared → Prop} (hkey : (mixKind P w).is k key = true) (hm : s.heap.DictOf (mixKind P w) d kvs) (hsz : kvs.length ≤ sizeLine)
    (hQ : ∀ h', h'.DictOf (mixKind P w) d (stored kvs k v) → Heap.SameBut d s.heap h' → Q () { s with heap := h' }) : wpAny (model P w) A (dictPut d ((mixKind P w).hash k) key v) Q E s := by
  obtain ⟨o, es, ep, ho, hc, hd, hk, hp, hn⟩ := hm
  have hes : es.size ≤ sizeLine := by
    have e1 := hp.length
    rw [Array.length_toList] at e1
    omega
  unfold dictPut
  refine wpAny_bind (wpAny_dictFind_of hkey ho hd hk ?_)
  have hidx : (es.findIdx? fun e => (mixKind P w).is k e.key) = kvs.findIdx? fun kv => decide (kv.1 = k) := by rw [← hp.findIdx k]; cases es; simp
  cases hi : es.findIdx? fun e => (mixKind P w).is k e.key with
  | some i =>
    have any : (kvs.any fun kv => decide (kv.1 = k)) = true := any_of_findIdx_some (hidx ▸ hi)
    refine wpAny_updateDict ho hd (hQ _ ⟨_, _, ep, Heap.get?_update_self _ ho (Obj.isFreed_of_dict (Obj.data_mapDict hd _)), hc.mapDict _, Obj.data_mapDict hd _, hk.modify _ _, ?_, ?_⟩ (Heap.SameBut.update ..))
    · have hl : (es.toList.findIdx? fun e => (mixKind P w).is k e.key) = some i := by rw [← hi]; cases es; simp
      have z := hp.modify hn hl v
      rw [stored, if_pos any]
      cases es; simpa using z
    · rw [stored, if_pos any, keys_map_store]; exact hn
  | none =>
    have hnot : k ∉ kvs.map (·.1) := not_mem_of_findIdx_none (hidx ▸ hi)
    have hany : ¬ (kvs.any fun kv => decide (kv.1 = k)) = true := fun z => by
      obtain ⟨kv, h1, h2⟩ := List.any_eq_true.mp z
      exact hnot (List.mem_map.mpr ⟨kv, h1, of_decide_eq_true h2⟩)
    refine wpAny_updateDictKeys (hz := hes) ho hd (hQ _ ⟨_, _, ep + 1, Heap.get?_update_self _ ho (Obj.isFreed_of_dict (Obj.data_mapDictKeys hd _)), hc.mapDictKeys _, Obj.data_mapDictKeys hd _, hk.push hkey _, ?_, ?_⟩ (Heap.SameBut.update ..))
    · have z := hp.append hkey ((mixKind P w).hash k) v
      rw [stored, if_neg hany]
      cases es; simpa using z
    · rw [stored, if_neg hany, List.map_append, List.nodup_append]
      refine ⟨hn, by simp, fun a ha b hb => ?_⟩
      simp only [List.map_cons, List.map_nil, List.mem_singleton] at hb
      subst hb
      exact fun e => hnot (e ▸ ha)
theorem merge_map {d o : Addr} {kvs more : List (Key × Value)} {Q : Unit → Shared → Prop} (hdo : d ≠ o) (hoS : (o == sysModules) = false) (hd : s.heap.DictOf (mixKind P w) d kvs) (ho : s.heap.DictOf (mixKind P w) o more) (hsz : kvs.length + more.length ≤ sizeLine)
    (hQ : ∀ h', h'.DictOf (mixKind P w) d (merged kvs more) → Heap.SameBut d s.heap h' → Q () { s with heap := h' }) : wpAny (model P w) A (mergeMapping d (.ref o) false) Q E s := by
  obtain ⟨od, esd, epd, hod, hcd, hdd, hkd, hpd, hnd⟩ := id hd
  obtain ⟨oo, eso, epo, hoo, hco, hdo', hko, hpo, hno⟩ := id ho
  unfold mergeMapping
  refine wpAny_bind (wpAny_isInstance ho.typeIs isSubtype_dict_dict ?_)
  rw [if_pos rfl]
  refine wpAny_bind (wpAny_specialOf ho.typeIs F.slot_dict_iter.lookup ?_)
  simp only [beq_self_eq_true]
  refine wpAny_bind (wpAny_pure ?_)
  show wpAny _ _ (ite ((o == sysModules) = true) _ _) _ _ _
  rw [if_neg (by rw [hoS]; exact Bool.false_ne_true)]
  refine wpAny_bind (wpAny_dictEntries hod hdd ?_)
  have loop : wpAny (model P w) A (do
      let l ← dictEntries o
      let epoch ← dictEpoch o
      forIn (List.range l.size) PUnit.unit fun i (_ : PUnit) => (do
        let l' ← dictEntries o
        match l'[i]? with
          | some e => do
            holding [e.key, e.val] (dictPut d e.hash e.key e.val)
            let ep' ← dictEpoch o
            if (ep' != epoch) = true then do
              (unsupported "dict.changed-during-merge" : Sem PUnit)
              pure (ForInStep.yield PUnit.unit)
            else pure (ForInStep.yield PUnit.unit)
          | _ => do
            (unsupported "dict.changed-during-merge" : Sem PUnit)
            pure (ForInStep.yield PUnit.unit) : Sem (ForInStep PUnit))
      pure ()) Q E s := by
    have hlen : more.length = eso.size := by rw [← hpo.length, Array.length_toList]
    refine wpAny_bind (wpAny_dictEntries hoo hdo' (wpAny_bind (wpAny_dictEpoch hoo hdo' (wpAny_bind ?_))))
    refine wpAny_forIn_list _ (fun rest _ s' => ∃ h' i, s' = { s with heap := h' } ∧ rest = (List.range eso.size).drop i ∧ i ≤ eso.size ∧ h'.DictOf (mixKind P w) d (merged kvs (more.take i)) ∧ h'.get? o = some oo ∧ Heap.SameBut d s.heap h') _ ?_ ?_ _ _ ⟨s.heap, 0, rfl, by simp, Nat.zero_le _, by simpa [merged] using hd, hoo, Heap.SameBut.refl _ _⟩
    · rintro x rest b s' ⟨h', i, rfl, hr, hi, hd', hoo', hs'⟩
      have hlt : i < eso.size := by
        rcases Nat.lt_or_ge i eso.size with h | h
        · exact h
        · rw [List.drop_of_length_le (by simpa using h)] at hr; cases hr
      rw [drop_cons (by simpa using hlt), List.getElem_range] at hr
      injection hr with e1 e2
      subst e1
      refine wpAny_bind (wpAny_dictEntries hoo' hdo' ?_)
      rw [Array.getElem?_eq_getElem hlt]
      obtain ⟨⟨k, v⟩, hkv⟩ : ∃ kv, more[x]? = some kv := ⟨more[x]'(by rw [hlen]; exact hlt), List.getElem?_eq_getElem _⟩
      obtain ⟨hkey, hval⟩ := hpo.get? (e := eso[x]) (by simp [hlt]) hkv
      obtain ⟨k', hkey', hhash⟩ := hko eso[x] (Array.getElem_mem hlt)
      obtain rfl : k' = k := (mixKind P w).inj _ _ _ hkey' hkey
      show wpAny _ _ (holding [eso[x].key, eso[x].val] (dictPut d eso[x].hash eso[x].key eso[x].val) >>= _) _ _ _
      rw [hhash, hval]
      have hmx : (merged kvs (more.take x)).length ≤ sizeLine := by
        have e1 := merged_length_le kvs (more.take x)
        have e2 : (more.take x).length ≤ more.length := by rw [List.length_take]; omega
        omega
      refine wpAny_bind (wpAny_holding (put_pairs hkey hd' hmx fun h2 hd2 hs2 => ?_))
      have hoo2 : h2.get? o = some oo := (hs2.2 o (Ne.symm hdo)).trans hoo'
      refine wpAny_bind (wpAny_dictEpoch hoo2 hdo' ?_)
      rw [if_neg (by simp)]
      exact wpAny_pure ⟨h2, x + 1, rfl, e2, hlt, by rw [merged_take_succ kvs more x (k', v) hkv]; exact hd2, hoo2, hs'.trans hs2⟩
    · rintro b s' ⟨h', i, rfl, hr, hi, hd', hoo', hs'⟩
      have hin : i = eso.size := by
        rcases Nat.lt_or_ge i eso.size with h | h
        · rw [drop_cons (by simpa using h)] at hr; cases hr
        · omega
      refine wpAny_pure (hQ h' ?_ hs')
      rw [hin, ← hlen, List.take_length] at hd'; exact hd'
  split
  · refine wpAny_bind (wpAny_dictEntries hoo hdo' ?_)
    refine wpAny_bind ?_
    rw [← Array.forIn_toList]
    refine wpAny_forIn_list _ (fun rest _ s' => (∀ e ∈ rest, ∃ k, (mixKind P w).is k e.key = true) ∧ s' = s) _ ?_ ?_ _ _ ⟨fun e he => ?_, rfl⟩
    · rintro e rest b s' ⟨hk, rfl⟩
      obtain ⟨k, hk1⟩ := hk e List.mem_cons_self
      rcases keyIs_shape hk1 with ⟨i, u, _, ek⟩ | ⟨i, u, _, ek⟩ <;> (rw [ek]; exact wpAny_pure ⟨fun e he => hk e (List.mem_cons_of_mem _ he), rfl⟩)
    · rintro b s' ⟨_, rfl⟩
      exact loop
    · obtain ⟨k, h1, _⟩ := hko e (Array.mem_toList_iff.mp he)
      exact ⟨k, h1⟩
  · exact loop
end
section
variable {X : Cx} {pins : List (Addr × Obj)} {σ : St} {H : Hp} {s : Shared} {A : Around} {E : Value → Shared → Prop}
theorem d_merge {d a : Addr} {kvs more : List (Key × V)} {Q : Unit → Shared → Prop} (I : Inv X pins σ H s) (ed : H d = some (.dK kvs)) (ea : Rd H a (.dK more)) (ne : d ≠ a) (hl : kvs.length + more.length ≤ sizeLine)
    (h : ∀ s', Inv X pins σ (upd H d (.dK (mergeK kvs more))) s' → Q () s') : wpAny (model X.prog X.w) A (mergeMapping d (.ref a) false) Q E s := by
  obtain ⟨z1, y1, vs, r1, d1⟩ := dk_of I.hok ed
  obtain ⟨z2, y2, ws, r2, d2⟩ := dk_rd I.hok ea
  refine merge_map ne y2 d1 d2 (by rw [← r1.length, ← r2.length]; exact hl) fun h' hd hs => ?_
  have ll : (mergeK kvs more).length ≤ sizeLine := Nat.le_trans (length_mergeK more kvs) hl
  have there : ∃ u, h'.get? d = some u := let ⟨o, _, _, e, _⟩ := hd; ⟨o, e⟩
  exact h _ (I.write (x := d) (e := d) (t' := s.toks) (by rw [ed]; trivial) (.inl rfl) (fun b u hb hu => (hs.2 b hb).trans hu) there (dk_new ll y1 (KV.merge r2 r1) hd))
def tMerge2 (t1 t2 : TE) : TE := fun σ H Q => ∀ d, H d = none → t1 σ (upd H d (.dK [])) fun x H1 => ∃ a kvs, x = .ref a ∧ d ≠ a ∧ Rd H1 a (.dK kvs) ∧ H1 d = some (.dK []) ∧ kvs.length ≤ 1000 ∧ t2 σ (upd H1 d (.dK (mergeK [] kvs))) fun y H2 => ∃ b more, y = .ref b ∧ d ≠ b ∧ Rd H2 b (.dK more) ∧
  H2 d = some (.dK (mergeK [] kvs)) ∧ more.length ≤ 1000 ∧ Q (.ref d) (upd H2 d (.dK (mergeK (mergeK [] kvs) more)))
theorem pe_merge2 {e1 e2 : Expr} {t1 t2 : TE} {pos : Pos} (h1 : PE X e1 t1) (h2 : PE X e2 t2) : PE X (.Dict [none, none] [e1, e2] pos) (tMerge2 t1 t2) := by
  refine ⟨fun pins s σ H Q I h => ?_⟩
  rw [arm_eval_Dict]
  refine wpAny_bind (wpAny_standAt ?_)
  show wpAny _ _ (dictDisplay [(none, do let x ← eval e1 X.env; standAt pos; pure x), (none, do let x ← eval e2 X.env; standAt pos; pure x)]) _ _ s
  have q0 := h s.heap.objs.size (I.hok.fresh (Nat.le_refl _))
  have I0 : Inv X pins σ (upd H s.heap.objs.size (.dK [])) { s with heap := s.heap.push { cls := .type "dict", data := .dict #[] } } := I.laid (a := s.heap.objs.size) (o := .dK []) (t' := s.toks) (fun _ _ q => Heap.get?_push_of_some _ q) (Nat.le_refl _) (dk_empty s.heap I.big)
  unfold dictDisplay
  simp only [List.forIn_cons, List.forIn_nil]
  refine wpAny_bind (wpAny_bind (wpAny_bind ?_))
  rw [if_pos (show ([] : List (Sem Value × Sem Value)).isEmpty = true from rfl)]
  refine wpAny_pure ?_
  refine wpAny_bind (wpAny_alloc (wpAny_bind (wpAny_holding (wpAny_bind (thn (h1.run pins _ σ _ _ I0 q0) fun u s1 ⟨x, H1, I1, rx, a, kvs, ex, na, ea, ed, l1, q1⟩ => wpAny_bind (wpAny_standAt (wpAny_pure ?_)))))))
  subst ex
  obtain rfl : u = Value.ref a := rx
  refine wpAny_bind (wpAny_onRaise (wpAny_tryCatch (wpAny_onRaise (wpAny_holding (d_merge I1 ed ea na (by rw [sizeLine_eq]; simp; omega) fun s2 I2 => ?_)))))
  refine wpAny_pure ?_
  dsimp only
  refine wpAny_bind (wpAny_bind ?_)
  rw [if_pos (show ([] : List (Sem Value × Sem Value)).isEmpty = true from rfl)]
  refine wpAny_pure ?_
  dsimp only
  refine wpAny_bind (wpAny_pure (wpAny_bind (wpAny_holding (wpAny_bind (thn (h2.run pins _ σ _ _ I2 q1) fun u s3 ⟨y, H3, I3, ry, b, more, ey, nb, eb, ed2, l2, q2⟩ => wpAny_bind (wpAny_standAt (wpAny_pure ?_)))))))
  subst ey
  obtain rfl : u = Value.ref b := ry
  have lm : (mergeK [] kvs).length ≤ 1000 := Nat.le_trans (length_mergeK kvs []) (by simpa using l1)
  refine wpAny_bind (wpAny_onRaise (wpAny_tryCatch (wpAny_onRaise (wpAny_holding (d_merge I3 ed2 eb nb (by rw [sizeLine_eq]; omega) fun s4 I4 => ?_)))))
  refine wpAny_pure ?_
  dsimp only
  refine wpAny_pure ?_
  dsimp only
  refine wpAny_bind ?_
  rw [if_pos (show ([] : List (Sem Value × Sem Value)).isEmpty = true from rfl)]
  refine wpAny_pure ?_
  exact wpAny_pure ⟨.ref s.heap.objs.size, _, I4, rfl, q2⟩
end
def mergeD (acc ds : List (D × D)) : List (D × D) := ds.foldl (fun acc p => putKD acc p.1 p.2) acc
theorem DenK.mrg {K : PySem.W.Frag} {I : Hp} : ∀ {ds : List (D × D)} {more : List (Key × V)} {acc : List (D × D)} {kvs : List (Key × V)}, DenK K I ds more → DenK K I acc kvs → DenK K I (mergeD acc ds) (mergeK kvs more)
  | _, _, _, _, .nil, h => h
  | _, _, acc, kvs, .cons (k := k) (x := x) (xs := xs) (v := v) (vs := vs) a b, h => show DenK K I (mergeD (putKD acc (keyD k) x) xs) (mergeK (putK kvs k v) vs) from DenK.mrg b (h.put a k)
/-- {**x, **y}, x and y names -/
def E.merge2 (i j : Nat) : M O := fun ρ => match (Pl.slot i).get ρ, (Pl.slot j).get ρ with
  | some x, some y => (match dO x, dO y with
    | some ds, some es => if keysOk ds && keysOk es && decide (ds.length ≤ 1000) && decide (es.length ≤ 1000) then .ok (.dic (mergeD (mergeD [] ds) es)) ρ else .stuck
    | _, _ => .stuck)
  | _, _ => .stuck
theorem ee_merge2 {X : Cx} {W : WX} {x y : Str} {px py pos : Pos} (i j : Nat) (hx : PlE X (.Name x px) (.slot i)) (hy : PlE X (.Name y py) (.slot j)) : EE X W (.Dict [none, none] [.Name x px, .Name y py] pos) (E.merge2 i j) := by
  refine PE.weak (pe_merge2 hx hy) fun σ H Q ⟨ρ, I, φ, gd, h⟩ => ?_
  unfold E.merge2 at h
  split at h
  case h_2 => exact h.elim
  rename_i o1 o2 g1 g2
  split at h
  case h_2 => exact h.elim
  rename_i ds es e1 e2
  split at h
  case isFalse => exact h.elim
  rename_i hk
  simp only [Bool.and_eq_true, decide_eq_true_eq] at hk
  obtain ⟨⟨⟨k1, k2⟩, l1⟩, l2⟩ := hk
  intro d hd
  obtain ⟨v1, S1, hv1, at1⟩ := gd.at g1
  obtain ⟨v2, S2, hv2, at2⟩ := gd.at g2
  obtain ⟨a, kvs, rfl, r1, d1⟩ := at1.own.dK gd.le e1 k1
  obtain ⟨b, more, rfl, r2, d2⟩ := at2.own.dK gd.le e2 k2
  have ne : ∀ {c : Addr} {u : HO}, Rd H c u → d ≠ c := fun r z => by
    subst z
    rcases r with r | ⟨_, r⟩ <;> (rw [hd] at r; cases r)
  have keep : ∀ {H2 : Hp} {c : Addr} {u o : HO}, Rd H2 c u → d ≠ c → Rd (upd H2 d o) c u := fun r n => r.imp (fun e => by rw [upd_ne (Ne.symm n)]; exact e) fun ⟨z, e⟩ => ⟨z, by rw [upd_ne (Ne.symm n)]; exact e⟩
  have iD : I d = none := gd.free hd
  have nD : ∀ i, ¬ φ i d := fun i q => gd.th i d q hd
  have gw := ((gd.new (o := .dK []) hd).other (o := .dK (mergeK [] kvs)) iD nD).other (o := .dK (mergeK (mergeK [] kvs) more)) iD nD
  refine ⟨.ref a, hv1, a, kvs, rfl, ne r1, keep r1 (ne r1), upd_same, by rw [d1.len]; exact l1, .ref b, hv2, b, more, rfl, ne r2, keep (keep r2 (ne r2)) (ne r2), upd_same, by rw [d2.len]; exact l2, ?_⟩
  refine h (.ref d) _ I φ (fun a => a = d) ⟨Same.refl _, fun c o e _ => ?_, fun c q => ?_, fun c o e => .inl e⟩ gw ⟨fun c q => by rw [show c = d from q]; exact iD, fun c q => by rw [show c = d from q, upd_same]; exact Option.some_ne_none _, fun i c q => by rw [show c = d from q]; exact nD i⟩ (.dic upd_same rfl (DenK.mrg d2 (DenK.mrg d1 .nil)))
  · have n : c ≠ d := fun z => by rw [z, hd] at e; cases e
    rw [upd_ne n, upd_ne n, upd_ne n]; exact e
  · rcases q with q | q
    · exact .inl q
    · exact .inr (by rw [show c = d from q]; exact hd)
end EV

/-! The layer EV, part AD: calls without arguments. -/
namespace EV
open PySem PySem.Spec PyProof.Rows L2
section
variable {X : Cx} {W : WX} {p pos : Pos} {x : Str} {k k0 : Nat} {m : List O → FRes}
theorem pe_callG0 {f : Addr} {fd : FuncData} {sp : Sp} {E : St → XK} (F : FnG X.prog X.w X.K X.mg X.base k f fd [] sp) (hr : Room k X.A) (hgd : X.A.guards = some []) (hg : Gl X x) (hm : X.mg x = some (.ref f)) (hk : PySem.W.keepIn X.K (.ref f) = true) (hb : Binds X.K fd [] []) (hx : ∀ σ, PassesAt (L2.CX X.prog X.w) X σ (E σ))
    (hdb : (x == ("__debug__" : Str)) = false := by decide) : PE X (.Call (.Name x p) [] [] pos) (fun σ H Q => sp [] H Q (E σ)) := by
  refine ⟨fun pins s σ H Q I h => ?_⟩
  refine wpAny_Call_Name_kw (ld_glob I hg hm ?_ hdb)
  exact PySem.W.callWith_K0 (first := []) I.kIn hk (run_fnG (us := []) (vs := []) F hr hgd hb (hx σ) I .nil h)
theorem nil_read {σ : St} {H : Hp} {Q : VK} {E : XK} (h : rdVb X.K X.mg Vw.nil σ H fun vs H1 => vs.length = ([] : List Nat).length ∧ spF X.K X.mg 0 [] m (permL [] vs) H1 Q E) : spF X.K X.mg 0 [] m [] H Q E := by
  obtain ⟨ρ, I, φ, gd, h⟩ := h
  exact (h [] I H (Grw.refl gd) .nil).2
theorem ve_fn0 (F : Fn X.prog X.w X.K X.mg X.base x k [] [] m) (hr : Room k0 X.A) (hgd : X.A.guards = some []) (hk : k ≤ k0 := by first | decide | omega) (hg : Gl X x := by rfl) (hdb : (x == ("__debug__" : Str)) = false := by decide) : VE X (.Call (.Name x p) [] [] pos) (Vw.callP 0 m (Vw.perm [] Vw.nil)) := by
  obtain ⟨f, fd, hm, F, kp, hb, _⟩ := F
  exact ve_callGen (PE.weak (pe_callG0 F (hr.mono hk) hgd hg hm kp hb (fun σ => passAt takesW0 σ) hdb) fun σ H Q h => nil_read h)
theorem ee_fn0 (F : Fn X.prog X.w X.K X.mg X.base x k [] [] m) (hr : Room k0 X.A) (hgd : X.A.guards = some []) (tk : Takes X W) (hk : k ≤ k0 := by first | decide | omega) (hg : Gl X x := by rfl) (hdb : (x == ("__debug__" : Str)) = false := by decide) : EE X W (.Call (.Name x p) [] [] pos) (E.callP 0 m (Vw.perm [] Vw.nil)) := by
  obtain ⟨f, fd, hm, F, kp, hb, _⟩ := F
  exact ee_callGen (PE.weak (pe_callG0 F (hr.mono hk) hgd hg hm kp hb (fun σ => passAt tk σ) hdb) fun σ H Q h => nil_read h)
end
end EV

/-! The layer EV, part AE: stores that bring data to a canonical form first, so that equal evaluations are met again. -/
namespace EV
open PySem PySem.Spec PyProof.Rows L2
universe u
def cN {α : Type} (n : Nat) (k : Nat → α) : α := match n with
  | 0 => k 0
  | m + 1 => k (m + 1)
theorem cN_eq {α : Type} (n : Nat) (k : Nat → α) : cN n k = k n := by cases n <;> rfl
def cI {α : Type} (i : Int) (k : Int → α) : α := match i with
  | .ofNat n => cN n fun n => k (.ofNat n)
  | .negSucc n => cN n fun n => k (.negSucc n)
theorem cI_eq {α : Type} (i : Int) (k : Int → α) : cI i k = k i := by cases i <;> (unfold cI; exact cN_eq _ _)
mutual
def cD {α : Type} : D → (D → α) → α
  | .int i, k => cI i fun i => k (.int i)
  | .bool b, k => (match b with
    | true => k (.bool true)
    | false => k (.bool false))
  | .tuple xs, k => cDs xs fun xs => k (.tuple xs)
  | .list xs, k => cDs xs fun xs => k (.list xs)
  | .dict xs, k => cKs xs fun xs => k (.dict xs)
  | x, k => k x
def cDs {α : Type} : List D → (List D → α) → α
  | [], k => k []
  | x :: xs, k => cD x fun x => cDs xs fun xs => k (x :: xs)
def cKs {α : Type} : List (D × D) → (List (D × D) → α) → α
  | [], k => k []
  | x :: xs, k => cP x fun x => cKs xs fun xs => k (x :: xs)
def cP {α : Type} : D × D → (D × D → α) → α
  | (x, y), k => cD x fun x => cD y fun y => k (x, y)
end
mutual
theorem cD_eq {α : Type} : ∀ (x : D) (k : D → α), cD x k = k x
  | .int i, k => by rw [cD, cI_eq]
  | .bool b, k => by cases b <;> rfl
  | .tuple xs, k => by rw [cD, cDs_eq xs]
  | .list xs, k => by rw [cD, cDs_eq xs]
  | .dict xs, k => by rw [cD, cKs_eq xs]
  | .none, k => rfl
  | .str x, k => rfl
theorem cDs_eq {α : Type} : ∀ (x : List D) (k : List D → α), cDs x k = k x
  | [], k => rfl
  | x :: xs, k => by rw [cDs, cD_eq x, cDs_eq xs]
theorem cKs_eq {α : Type} : ∀ (x : List (D × D)) (k : List (D × D) → α), cKs x k = k x
  | [], k => rfl
  | x :: xs, k => by rw [cKs, cP_eq x, cKs_eq xs]
theorem cP_eq {α : Type} : ∀ (x : D × D) (k : D × D → α), cP x k = k x
  | (x, y), k => by rw [cP, cD_eq x, cD_eq y]
end
def cOs {α : Type} : List O → (List O → α) → α
  | [], k => k []
  | .d x :: r, k => cD x fun x => cOs r fun r => k (.d x :: r)
  | o :: r, k => cOs r fun r => k (o :: r)
theorem cOs_eq {α : Type} : ∀ (x : List O) (k : List O → α), cOs x k = k x
  | [], k => rfl
  | .d x :: r, k => by rw [cOs, cD_eq, cOs_eq r]
  | .un :: r, k | .lst _ :: r, k | .tup _ :: r, k | .dic _ :: r, k | .dicT _ :: r, k | .obj _ _ :: r, k | .exn _ :: r, k | .scr _ :: r, k | .kst _ :: r, k => by
    rw [cOs, cOs_eq r]
    all_goals (intro x z; cases z)
def cO {α : Type} (o : O) (k : O → α) : α := match o with
  | .d x => cD x fun x => k (.d x)
  | .lst xs => cOs xs fun xs => k (.lst xs)
  | .dic xs => cKs xs fun xs => k (.dic xs)
  | o => k o
theorem cO_eq {α : Type} (o : O) (k : O → α) : cO o k = k o := by
  unfold cO
  split
  · rw [cD_eq]
  · rw [cOs_eq]
  · rw [cKs_eq]
  · rfl
/-- a name, which holds the canonical form -/
def G.nmC (i : Nat) : O → M Unit := fun o ρ => cO o fun o => .ok () (ρ.set i o)
theorem nmC_eq (i : Nat) : G.nmC i = G.nm i := by
  funext o ρ
  unfold G.nmC
  rw [cO_eq]
  rfl
theorem eg_nmC {X : Cx} {io : List Nat} {pos : Pos} (i : Nat) {x : Str} (hN : X.N.Nodup) (hi : X.N[i]? = some x := by rfl) (hx : Loc X.env.scope x := by first | exact Or.inl rfl | exact Or.inr rfl) (hio : i ∉ io := by first | decide | exact not_notIn (by decide))
    (hf : X.fn x = true ∨ X.env.scope.names.lookup x = some .local := by first | exact .inl rfl | exact .inr rfl | assumption) : EG X io (.Name x pos) (G.nmC i) := by
  rw [nmC_eq]
  exact eg_nm i hN hi hx hio hf
theorem es_canon {X : Cx} {W : WX} {io : List Nat} {st : Stmt} {i : Nat} {f : M O} (h : ES X W io st (S.asg f (G.nm i))) : ES X W io st (S.asg f (G.nmC i)) := by
  rw [nmC_eq]
  exact h
end EV

/-! The layer EV, part AJ: loops over known lists, reckoned; dicts from numbers to lists of numbers. -/
namespace EV
open PySem PySem.Spec PyProof.Rows L2
theorem lcF_map {α : Type} {vs : List Nat} {g : O → M Unit} {t : M Bool} {f : M O} (mk : α → D) (h : α → Option D) {ρ : Env} : ∀ (xs : List α) (acc : List O)
    (hs : ∀ x ∈ xs, ∃ ρ1 : Env, g (.d (mk x)) ρ = .ok () ρ1 ∧ ((h x = none ∧ ∃ ρ2 : Env, t ρ1 = .ok false ρ2 ∧ wipeE ρ2 vs = ρ) ∨ ∃ (y : D) (ρ2 ρ3 : Env), h x = some y ∧ t ρ1 = .ok true ρ2 ∧ f ρ2 = .ok (.d y) ρ3 ∧ wipeE ρ3 vs = ρ))
    (hb : acc.length + xs.length < 1000000), lcF vs g t f (xs.map mk) acc ρ = .ok (acc ++ (xs.filterMap h).map .d) ρ
  | [], acc, _, _ => by
    show R.ok acc ρ = _
    rw [List.filterMap_nil, List.map_nil, List.append_nil]
  | x :: xs, acc, hs, hb => by
    obtain ⟨ρ1, h1, h2⟩ := hs x (.head _)
    rw [List.length_cons] at hb
    rw [List.map_cons, lcF]
    simp only [h1]
    rcases h2 with ⟨hn, ρ2, h3, h4⟩ | ⟨y, ρ2, ρ3, hy, h3, h4, h5⟩
    · rw [h3]
      simp only
      rw [h4, lcF_map mk h xs acc (fun z q => hs z (.tail _ q)) (by omega), List.filterMap_cons, hn]
    · rw [h3]
      simp only
      rw [h4]
      simp only
      rw [if_pos (by omega), h5]
      refine (lcF_map mk h xs (acc ++ [.d y]) (fun z q => hs z (.tail _ q)) (by rw [List.length_append, List.length_singleton]; omega)).trans ?_
      rw [List.filterMap_cons, hy]
      simp
theorem lc_map {α : Type} {vs : List Nat} {fi : M (List D)} {g : O → M Unit} {t : M Bool} {f : M O} (mk : α → D) (h : α → Option D) {ρ : Env} (xs : List α) (hi : fi ρ = .ok (xs.map mk) ρ) (hc : calmE ρ vs = true) (hw : wipeE ρ vs = ρ) (hk : backE ρ ρ vs = ρ)
    (hs : ∀ x ∈ xs, ∃ ρ1 : Env, g (.d (mk x)) ρ = .ok () ρ1 ∧ ((h x = none ∧ ∃ ρ2 : Env, t ρ1 = .ok false ρ2 ∧ wipeE ρ2 vs = ρ) ∨ ∃ (y : D) (ρ2 ρ3 : Env), h x = some y ∧ t ρ1 = .ok true ρ2 ∧ f ρ2 = .ok (.d y) ρ3 ∧ wipeE ρ3 vs = ρ))
    (hb : xs.length < 1000000) : E.lc vs fi g t f ρ = .ok (.lst ((xs.filterMap h).map .d)) ρ := by
  unfold E.lc M.bind
  rw [hi]
  simp only
  rw [if_pos hc, hw, lcF_map mk h xs [] hs (by simpa using hb)]
  simp only [hk, List.nil_append]
theorem lc_mapW {α : Type} {vs : List Nat} {fi : M (List D)} {g : O → M Unit} {t : M Bool} {f : M O} (mk : α → D) (h : α → Option D) {ρ ρ' : Env} (xs : List α) (hi : fi ρ = .ok (xs.map mk) ρ) (hc : calmE ρ vs = true) (hw : wipeE ρ vs = ρ')
    (hs : ∀ x ∈ xs, ∃ ρ1 : Env, g (.d (mk x)) ρ' = .ok () ρ1 ∧ ((h x = none ∧ ∃ ρ2 : Env, t ρ1 = .ok false ρ2 ∧ wipeE ρ2 vs = ρ') ∨ ∃ (y : D) (ρ2 ρ3 : Env), h x = some y ∧ t ρ1 = .ok true ρ2 ∧ f ρ2 = .ok (.d y) ρ3 ∧ wipeE ρ3 vs = ρ'))
    (hb : xs.length < 1000000) : E.lc vs fi g t f ρ = .ok (.lst ((xs.filterMap h).map .d)) (backE ρ ρ' vs) := by
  unfold E.lc M.bind
  rw [hi]
  simp only
  rw [if_pos hc, hw, lcF_map mk h xs [] hs (by simpa using hb)]
  simp only [List.nil_append]
theorem dcF_map {α : Type} {vs : List Nat} {g : O → M Unit} {t : M Bool} {fk fv : M O} (mk : α → D) (h : α → Option (D × D)) {ρ : Env} : ∀ (xs : List α) (acc : List (D × D))
    (hs : ∀ x ∈ xs, ∃ ρ1 : Env, g (.d (mk x)) ρ = .ok () ρ1 ∧ ((h x = none ∧ ∃ ρ2 : Env, t ρ1 = .ok false ρ2 ∧ wipeE ρ2 vs = ρ) ∨ ∃ (k y : D) (o : O) (ρ2 ρ3 ρ4 : Env), h x = some (k, y) ∧ t ρ1 = .ok true ρ2 ∧ fk ρ2 = .ok (.d k) ρ3 ∧ isK k = true ∧ fv ρ3 = .ok o ρ4 ∧ frz o = some y ∧ wipeE ρ4 vs = ρ))
    (hb : acc.length + xs.length < 1000000), dcF vs g t fk fv (xs.map mk) acc ρ = .ok ((xs.filterMap h).foldl (fun acc p => putKD acc p.1 p.2) acc) ρ
  | [], acc, _, _ => rfl
  | x :: xs, acc, hs, hb => by
    obtain ⟨ρ1, h1, h2⟩ := hs x (.head _)
    rw [List.length_cons] at hb
    rw [List.map_cons, dcF]
    simp only [h1]
    rcases h2 with ⟨hn, ρ2, h3, h4⟩ | ⟨k, y, o, ρ2, ρ3, ρ4, hy, h3, h4, hk, h5, h6, h7⟩
    · rw [h3]
      simp only
      rw [h4, dcF_map mk h xs acc (fun z q => hs z (.tail _ q)) (by omega), List.filterMap_cons, hn]
    · rw [h3]
      simp only
      rw [h4]
      simp only [hk, if_true, h5, h6]
      have hl : (putKD acc k y).length ≤ acc.length + 1 := by
        unfold putKD
        split
        · rw [List.length_map]; omega
        · rw [List.length_append, List.length_singleton]; omega
      rw [if_pos (by omega), h7, dcF_map mk h xs (putKD acc k y) (fun z q => hs z (.tail _ q)) (by omega), List.filterMap_cons, hy, List.foldl_cons]
theorem dc_map {α : Type} {vs : List Nat} {fi : M (List D)} {g : O → M Unit} {t : M Bool} {fk fv : M O} (mk : α → D) (h : α → Option (D × D)) {ρ : Env} (xs : List α) (hi : fi ρ = .ok (xs.map mk) ρ) (hc : calmE ρ vs = true) (hw : wipeE ρ vs = ρ) (hk : backE ρ ρ vs = ρ)
    (hs : ∀ x ∈ xs, ∃ ρ1 : Env, g (.d (mk x)) ρ = .ok () ρ1 ∧ ((h x = none ∧ ∃ ρ2 : Env, t ρ1 = .ok false ρ2 ∧ wipeE ρ2 vs = ρ) ∨ ∃ (k y : D) (o : O) (ρ2 ρ3 ρ4 : Env), h x = some (k, y) ∧ t ρ1 = .ok true ρ2 ∧ fk ρ2 = .ok (.d k) ρ3 ∧ isK k = true ∧ fv ρ3 = .ok o ρ4 ∧ frz o = some y ∧ wipeE ρ4 vs = ρ))
    (hb : xs.length < 1000000) : E.dc vs fi g t fk fv ρ = .ok (.dic ((xs.filterMap h).foldl (fun acc p => putKD acc p.1 p.2) [])) ρ := by
  unfold E.dc M.bind
  rw [hi]
  simp only
  rw [if_pos hc, hw, dcF_map mk h xs [] hs (by simpa using hb)]
  simp only [hk]
theorem loopF_fold {α σ τ : Type} {g : O → M Unit} {fb : M Fl} (mk : α → D) (step : σ → α → σ) (e : σ → τ → Env) (ok : List α → σ → Prop) (hs : ∀ s v x xs, ok (x :: xs) s → ∃ (ρ1 : Env) (v' : τ), g (.d (mk x)) (e s v) = .ok () ρ1 ∧ fb ρ1 = .ok .nx (e (step s x) v') ∧ ok xs (step s x)) :
    ∀ (xs : List α) (s : σ) (v : τ), ok xs s → ∃ v', loopF g fb (xs.map mk) (e s v) = .ok .nx (e (xs.foldl step s) v')
  | [], s, v, h0 => ⟨v, rfl⟩
  | x :: xs, s, v, h0 => by
    obtain ⟨ρ1, v1, h1, h2, h3⟩ := hs s v x xs h0
    obtain ⟨v2, h4⟩ := loopF_fold mk step e ok hs xs (step s x) v1 h3
    refine ⟨v2, ?_⟩
    rw [List.map_cons, loopF]
    simp only [h1, h2]
    exact h4
namespace Wy
def iD (p : Nat) : D := .int (p : Int)
def lD (w : List Nat) : D := .list (w.map iD)
abbrev Kn := List (Nat × List Nat)
def kD (kn : Kn) : List (D × D) := kn.map fun e => (iD e.1, lD e.2)
theorem eqv_i (a b : Nat) : PyData.eqv (iD a) (iD b) = (a == b) := by
  unfold iD
  rw [PyData.eqv]
  by_cases h : a = b
  · rw [h, beq_self_eq_true, beq_self_eq_true]
  · have h2 : ¬ ((a : Int) = b) := by omega
    rw [beq_eq_false_iff_ne.mpr h, beq_eq_false_iff_ne.mpr h2]
def lk : Kn → Nat → Option (List Nat)
  | [], _ => none
  | e :: r, p => if e.1 == p then some e.2 else lk r p
theorem lookK_kD : ∀ (kn : Kn) (p : Nat), lookK (kD kn) (iD p) = (lk kn p).map lD
  | [], _ => rfl
  | e :: r, p => by
    show (if PyData.eqv (iD e.1) (iD p) then some (lD e.2) else lookK (kD r) (iD p)) = _
    rw [eqv_i, lookK_kD r p, lk]
    split <;> rfl
def pt (kn : Kn) (p : Nat) (w : List Nat) : Kn := if kn.any (fun e => e.1 == p) then kn.map (fun e => if e.1 == p then (e.1, w) else e) else kn ++ [(p, w)]
theorem putKD_kD (kn : Kn) (p : Nat) (w : List Nat) : putKD (kD kn) (iD p) (lD w) = kD (pt kn p w) := by
  unfold putKD pt kD
  rw [List.any_map]
  have e1 : ((fun q : D × D => PyData.eqv q.1 (iD p)) ∘ fun e : Nat × List Nat => (iD e.1, lD e.2)) = fun e => e.1 == p := by
    funext e
    exact eqv_i _ _
  rw [e1]
  split
  · rw [List.map_map, List.map_map]
    congr 1
    funext e
    show (if PyData.eqv (iD e.1) (iD p) = true then (iD e.1, lD w) else (iD e.1, lD e.2)) = (fun e : Nat × List Nat => (iD e.1, lD e.2)) (if (e.1 == p) = true then (e.1, w) else e)
    rw [eqv_i]
    split <;> rfl
  · rw [List.map_append]
    rfl
def mg (a b : Kn) : Kn := b.foldl (fun acc e => pt acc e.1 e.2) a
theorem mergeD_kD : ∀ (b a : Kn), mergeD (kD a) (kD b) = kD (mg a b)
  | [], a => rfl
  | e :: b, a => by
    show mergeD (putKD (kD a) (iD e.1) (lD e.2)) (kD b) = kD (mg (pt a e.1 e.2) b)
    rw [putKD_kD, mergeD_kD b]
theorem keysOk_kD (kn : Kn) : keysOk (kD kn) = true := by
  unfold keysOk kD
  rw [List.all_map]
  exact List.all_eq_true.mpr fun _ _ => rfl
def minN (x : List Nat) (xs : List (List Nat)) : List Nat := xs.foldl (fun a y => if PySem.W.dataLt (lD y) (lD a) then y else a) x
theorem minD_lD : ∀ (xs : List (List Nat)) (x : List Nat), PySem.W.minD (lD x) (xs.map lD) = lD (minN x xs)
  | [], x => rfl
  | y :: xs, x => by
    show PySem.W.minD (if PySem.W.dataLt (lD y) (lD x) = true then lD y else lD x) (xs.map lD) = lD (minN (if PySem.W.dataLt (lD y) (lD x) then y else x) xs)
    split
    · exact minD_lD xs y
    · exact minD_lD xs x
theorem alike_i : ∀ (a b : List Nat), PySem.W.alikeAll (a.map iD) (b.map iD) = true
  | [], b => by cases b <;> simp [PySem.W.alikeAll]
  | x :: a, [] => by simp [PySem.W.alikeAll]
  | x :: a, y :: b => by
    have := alike_i a b
    simp [PySem.W.alikeAll, this, iD, PySem.W.alike]
theorem plain_i : ∀ (a : List Nat), PyData.plainAll (a.map iD) = true
  | [] => by simp [PyData.plainAll]
  | x :: a => by
    have := plain_i a
    simp [PyData.plainAll, this, iD, PyData.plain]
theorem plain_l : ∀ (a : List (List Nat)), PyData.plainAll (a.map lD) = true
  | [] => by simp [PyData.plainAll]
  | x :: a => by
    have := plain_l a
    have h2 := plain_i x
    simp [PyData.plainAll, this, lD, PyData.plain, h2]
theorem depth_i : ∀ (a : List Nat), PyData.depthAll (a.map iD) ≤ 1
  | [] => by simp [PyData.depthAll]
  | x :: a => by
    have := depth_i a
    simp [PyData.depthAll, iD, PyData.depth]
    omega
theorem depth_l : ∀ (a : List (List Nat)), PyData.depthAll (a.map lD) ≤ 2
  | [] => by simp [PyData.depthAll]
  | x :: a => by
    have := depth_l a
    have h2 := depth_i x
    simp [PyData.depthAll, lD, PyData.depth]
    omega
theorem minOk_lD (ws : List (List Nat)) : minOk (ws.map lD) = true := by
  unfold minOk
  simp only [Bool.and_eq_true, List.all_eq_true, decide_eq_true_eq, List.mem_map]
  refine ⟨⟨⟨?_, ?_⟩, plain_l ws⟩, by have := depth_l ws; omega⟩
  · rintro _ ⟨a, _, rfl⟩ _ ⟨b, _, rfl⟩
    show PySem.W.alike (.list _) (.list _) = true
    rw [PySem.W.alike]
    exact alike_i a b
  · rintro _ ⟨a, _, rfl⟩
    rfl
end Wy
end EV

namespace k65
open PySem PySem.Spec PyProof.Rows L2 EV
def top (i : Nat) : Stmt := PySem.Challenge.pw_reachrows_k65_islands_and_orders_by_name.main.body.getD i (.Pass ⟨0, 0, 0, 0⟩)
abbrev s_is_integer : Stmt := top 13
abbrev s_is_machine : Stmt := top 14
abbrev s_need_machine : Stmt := top 15
abbrev s_is_row : Stmt := top 16
abbrev s_goes_on : Stmt := top 17
abbrev s_is_jump : Stmt := top 18
abbrev s_jumps_of : Stmt := top 19
abbrev s_is_even : Stmt := top 20
abbrev s_is_part : Stmt := top 21
abbrev s_is_book : Stmt := top 22
abbrev s_need_book : Stmt := top 23
abbrev s_all_lists : Stmt := top 24
abbrev s_size_of : Stmt := top 26
abbrev s_places_of : Stmt := top 27
abbrev s_does_reach_places : Stmt := top 28
abbrev s_misfits_of : Stmt := top 30
abbrev s_grown_of : Stmt := top 32
abbrev s_rank_of : Stmt := top 34
abbrev s_least_of : Stmt := top 35
abbrev s_laid_of : Stmt := top 36
abbrev s_size_as_laid : Stmt := top 37
abbrev s_need_order : Stmt := top 42
abbrev s_need_room : Stmt := top 43
abbrev s_is_island : Stmt := top 44
abbrev s_need_islands : Stmt := top 45
abbrev s_need_pairs : Stmt := top 46
abbrev s_with_islands_of : Stmt := top 47
abbrev s_extents_by : Stmt := top 48
abbrev s_extents_of : Stmt := top 49
abbrev s_does_reach : Stmt := top 50
abbrev s_does_reach_islands : Stmt := top 50
abbrev s_first_way : Stmt := top 52
abbrev s_bytes_of : Stmt := top 53
abbrev s_extents_with : Stmt := top 54
abbrev s_ways_by : Stmt := top 55
abbrev s_ways_of : Stmt := top 56
abbrev s_levels_by : Stmt := top 57
abbrev s_leaps_of : Stmt := top 58
abbrev s_lost_by : Stmt := top 59
abbrev s_lost_of : Stmt := top 60
abbrev s_fewest_by : Stmt := top 61
abbrev s_need_laid : Stmt := top 62
abbrev s_extents : Stmt := top 63
abbrev s_with_islands : Stmt := top 64
abbrev s_need_goal : Stmt := top 65
abbrev s_ways : Stmt := top 66
abbrev s_shows_levels : Stmt := top 67
abbrev s_lost : Stmt := top 68
abbrev s_fewest_islands : Stmt := top 69
abbrev s_all_orders : Stmt := top 71
abbrev s_best_order : Stmt := top 72
abbrev s__law_spread : Stmt := top 74
abbrev s__law_open : Stmt := top 75
abbrev s__law_take : Stmt := top 76
abbrev s__law_w_six_right : Stmt := top 77
abbrev s__law_w_ties_right : Stmt := top 78
abbrev s_law : Stmt := top 79
def fa0 : List He.Fa := [.free "isinstance", .free "int", .free "bool", .glo "is_integer", .free "tuple", .free "len", .glo "is_machine", .exc "NoMachine", .glo "NoMachine", .glo "need_machine", .free "str", .int "MOST_PARTS" 5, .int "MOST_NUMBER" 65535, .glo "is_row", .glo "goes_on", .glo "is_jump", .free "enumerate", .glo "jumps_of", .free "any", .glo "is_even", .int "MOST_ROWS" 20, .free "all", .int "MOST_FORMS" 6, .glo "is_part", .glo "is_book", .exc "NoBook", .glo "NoBook", .glo "need_book", .glo "all_lists", .glo "size_of"]
def fa1 : List He.Fa := [.glo "places_of", .free "abs", .glo "does_reach_places", .glo "misfits_of", .glo "grown_of", .glo "rank_of", .free "sorted", .glo "least_of", .glo "laid_of", .glo "size_as_laid", .free "list", .exc "NoOrder", .glo "NoOrder", .free "range", .glo "need_order", .exc "NoRoom", .glo "NoRoom", .int "MOST_ROOM" 9999, .glo "need_room", .glo "is_island", .glo "with_islands_of", .exc "NoIslands", .glo "NoIslands", .free "set", .glo "need_islands", .int "MOST_ISLANDS" 6, .glo "need_pairs", .int "GRAIN" 16, .glo "extents_by", .free "zip"]
def fa2 : List He.Fa := [.glo "bytes_of", .glo "extents_of", .free "max", .free "min", .glo "does_reach", .glo "does_reach_islands", .glo "first_way", .glo "extents_with", .glo "ways_by", .glo "ways_of", .glo "levels_by", .glo "leaps_of", .glo "lost_by", .glo "lost_of", .glo "fewest_by", .glo "need_laid", .glo "extents", .glo "with_islands", .exc "NoGoal", .glo "NoGoal", .glo "need_goal", .glo "ways", .free "repr", .glo "shows_levels", .glo "lost", .glo "fewest_islands", .glo "all_orders", .glo "best_order", .glo "_law_spread", .glo "_law_open"]
def fa3 : List He.Fa := [.glo "_law_take", .glo "_law_w_six_right", .glo "_law_w_ties_right", .glo "law"]
def fa : List He.Fa := fa0 ++ fa1 ++ fa2 ++ fa3
def fn0 : List He.DefD := [⟨("is_integer", none), "is_integer", "is_integer", defArgs s_is_integer, defBody s_is_integer, defScope s_is_integer, [], []⟩, ⟨("is_machine", none), "is_machine", "is_machine", defArgs s_is_machine, defBody s_is_machine, defScope s_is_machine, [], []⟩, ⟨("need_machine", none), "need_machine", "need_machine", defArgs s_need_machine, defBody s_need_machine, defScope s_need_machine, [], []⟩, ⟨("is_row", none), "is_row", "is_row", defArgs s_is_row, defBody s_is_row, defScope s_is_row, [], []⟩, ⟨("goes_on", none), "goes_on", "goes_on", defArgs s_goes_on, defBody s_goes_on, defScope s_goes_on, [], []⟩, ⟨("is_jump", none), "is_jump", "is_jump", defArgs s_is_jump, defBody s_is_jump, defScope s_is_jump, [], []⟩, ⟨("jumps_of", none), "jumps_of", "jumps_of", defArgs s_jumps_of, defBody s_jumps_of, defScope s_jumps_of, [], []⟩, ⟨("is_even", none), "is_even", "is_even", defArgs s_is_even, defBody s_is_even, defScope s_is_even, [], []⟩, ⟨("is_part", none), "is_part", "is_part", defArgs s_is_part, defBody s_is_part, defScope s_is_part, [], []⟩, ⟨("is_book", none), "is_book", "is_book", defArgs s_is_book, defBody s_is_book, defScope s_is_book, [], []⟩, ⟨("need_book", none), "need_book", "need_book", defArgs s_need_book, defBody s_need_book, defScope s_need_book, [], []⟩, ⟨("all_lists", none), "all_lists", "all_lists", defArgs s_all_lists, defBody s_all_lists, defScope s_all_lists, [], []⟩, ⟨("size_of", none), "size_of", "size_of", defArgs s_size_of, defBody s_size_of, defScope s_size_of, [], []⟩, ⟨("places_of", none), "places_of", "places_of", defArgs s_places_of, defBody s_places_of, defScope s_places_of, [], []⟩, ⟨("does_reach_places", none), "does_reach", "does_reach", defArgs s_does_reach_places, defBody s_does_reach_places, defScope s_does_reach_places, [], []⟩, ⟨("misfits_of", none), "misfits_of", "misfits_of", defArgs s_misfits_of, defBody s_misfits_of, defScope s_misfits_of, [], []⟩, ⟨("grown_of", none), "grown_of", "grown_of", defArgs s_grown_of, defBody s_grown_of, defScope s_grown_of, [], []⟩, ⟨("rank_of", none), "rank_of", "rank_of", defArgs s_rank_of, defBody s_rank_of, defScope s_rank_of, [], []⟩, ⟨("least_of", none), "least_of", "least_of", defArgs s_least_of, defBody s_least_of, defScope s_least_of, [], []⟩, ⟨("laid_of", none), "laid_of", "laid_of", defArgs s_laid_of, defBody s_laid_of, defScope s_laid_of, [], []⟩, ⟨("size_as_laid", none), "size_as_laid", "size_as_laid", defArgs s_size_as_laid, defBody s_size_as_laid, defScope s_size_as_laid, [], []⟩, ⟨("need_order", none), "need_order", "need_order", defArgs s_need_order, defBody s_need_order, defScope s_need_order, [], []⟩, ⟨("need_room", none), "need_room", "need_room", defArgs s_need_room, defBody s_need_room, defScope s_need_room, [], []⟩, ⟨("is_island", none), "is_island", "is_island", defArgs s_is_island, defBody s_is_island, defScope s_is_island, [], []⟩, ⟨("with_islands_of", none), "with_islands_of", "with_islands_of", defArgs s_with_islands_of, defBody s_with_islands_of, defScope s_with_islands_of, [], []⟩, ⟨("need_islands", none), "need_islands", "need_islands", defArgs s_need_islands, defBody s_need_islands, defScope s_need_islands, [], []⟩, ⟨("need_pairs", none), "need_pairs", "need_pairs", defArgs s_need_pairs, defBody s_need_pairs, defScope s_need_pairs, [], []⟩, ⟨("extents_by", none), "extents_by", "extents_by", defArgs s_extents_by, defBody s_extents_by, defScope s_extents_by, [], []⟩, ⟨("bytes_of", none), "bytes_of", "bytes_of", defArgs s_bytes_of, defBody s_bytes_of, defScope s_bytes_of, [], []⟩, ⟨("extents_of", none), "extents_of", "extents_of", defArgs s_extents_of, defBody s_extents_of, defScope s_extents_of, [], []⟩]
def fn1 : List He.DefD := [⟨("does_reach", none), "does_reach", "does_reach", defArgs s_does_reach, defBody s_does_reach, defScope s_does_reach, [], []⟩, ⟨("does_reach_islands", none), "does_reach", "does_reach", defArgs s_does_reach_islands, defBody s_does_reach_islands, defScope s_does_reach_islands, [], []⟩, ⟨("first_way", none), "first_way", "first_way", defArgs s_first_way, defBody s_first_way, defScope s_first_way, [], []⟩, ⟨("extents_with", none), "extents_with", "extents_with", defArgs s_extents_with, defBody s_extents_with, defScope s_extents_with, [], []⟩, ⟨("ways_by", none), "ways_by", "ways_by", defArgs s_ways_by, defBody s_ways_by, defScope s_ways_by, [], []⟩, ⟨("ways_of", none), "ways_of", "ways_of", defArgs s_ways_of, defBody s_ways_of, defScope s_ways_of, [], []⟩, ⟨("levels_by", none), "levels_by", "levels_by", defArgs s_levels_by, defBody s_levels_by, defScope s_levels_by, [], []⟩, ⟨("leaps_of", none), "leaps_of", "leaps_of", defArgs s_leaps_of, defBody s_leaps_of, defScope s_leaps_of, [], []⟩, ⟨("lost_by", none), "lost_by", "lost_by", defArgs s_lost_by, defBody s_lost_by, defScope s_lost_by, [], []⟩, ⟨("lost_of", none), "lost_of", "lost_of", defArgs s_lost_of, defBody s_lost_of, defScope s_lost_of, [], []⟩, ⟨("fewest_by", none), "fewest_by", "fewest_by", defArgs s_fewest_by, defBody s_fewest_by, defScope s_fewest_by, [], []⟩, ⟨("need_laid", none), "need_laid", "need_laid", defArgs s_need_laid, defBody s_need_laid, defScope s_need_laid, [], []⟩, ⟨("extents", none), "extents", "extents", defArgs s_extents, defBody s_extents, defScope s_extents, [], []⟩, ⟨("with_islands", none), "with_islands", "with_islands", defArgs s_with_islands, defBody s_with_islands, defScope s_with_islands, [], []⟩, ⟨("need_goal", none), "need_goal", "need_goal", defArgs s_need_goal, defBody s_need_goal, defScope s_need_goal, [], []⟩, ⟨("ways", none), "ways", "ways", defArgs s_ways, defBody s_ways, defScope s_ways, [], []⟩, ⟨("shows_levels", none), "shows_levels", "shows_levels", defArgs s_shows_levels, defBody s_shows_levels, defScope s_shows_levels, [], []⟩, ⟨("lost", none), "lost", "lost", defArgs s_lost, defBody s_lost, defScope s_lost, [], []⟩, ⟨("fewest_islands", none), "fewest_islands", "fewest_islands", defArgs s_fewest_islands, defBody s_fewest_islands, defScope s_fewest_islands, [], []⟩, ⟨("all_orders", none), "all_orders", "all_orders", defArgs s_all_orders, defBody s_all_orders, defScope s_all_orders, [], []⟩, ⟨("best_order", none), "best_order", "best_order", defArgs s_best_order, defBody s_best_order, defScope s_best_order, [], []⟩, ⟨("_law_spread", none), "_law_spread", "_law_spread", defArgs s__law_spread, defBody s__law_spread, defScope s__law_spread, [], []⟩, ⟨("_law_open", none), "_law_open", "_law_open", defArgs s__law_open, defBody s__law_open, defScope s__law_open, [], []⟩, ⟨("_law_take", none), "_law_take", "_law_take", defArgs s__law_take, defBody s__law_take, defScope s__law_take, [], []⟩, ⟨("_law_w_six_right", none), "_law_w_six_right", "_law_w_six_right", defArgs s__law_w_six_right, defBody s__law_w_six_right, defScope s__law_w_six_right, [], []⟩, ⟨("_law_w_ties_right", none), "_law_w_ties_right", "_law_w_ties_right", defArgs s__law_w_ties_right, defBody s__law_w_ties_right, defScope s__law_w_ties_right, [], []⟩, ⟨("law", none), "law", "law", defArgs s_law, defBody s_law, defScope s_law, [], []⟩]
def fn : List He.DefD := fn0 ++ fn1
def ts : Tb := ⟨[], []⟩
section
variable {P : Program} {w : World} {K : PySem.W.Frag} {mg : Str → Option Value} {base : Heap}
theorem sc_is_integer : FnScope ["thing", "least", "most"] ["thing", "least", "most"] (defScope s_is_integer) := ⟨rfl, rfl, rfl, by decide +kernel, rfl, by decide +kernel, by decide +kernel⟩
def b_is_integer : M Fl := (S.ret (E.view (Vw.and (Vw.op1 (isi "int") (Vw.var 0)) (Vw.and (Vw.not (Vw.op1 (isi "bool") (Vw.var 0))) (Vw.chain o_le o_le (Vw.var 1) (Vw.var 0) (Vw.var 2))))))
def is_integer : List O → FRes := runF [] 3 b_is_integer
theorem fn_is_integer (Y : Ya fa fn ts K mg) : Fn P w K mg base "is_integer" 1 ["thing", "least", "most"] [] is_integer :=
  Fn.of (st := s_is_integer) (N := ["thing", "least", "most"]) Y 0 3 rfl rfl sc_is_integer (by decide) (by decide) (fun _ _ _ _ _ _ us hl => match us, hl with | [_, _, _], _ => rfl) fun f cdv A outer s H E hr hgd tk => (eb_one (es_ret (ee_view (ve_and (ve_isi (ve_var 0) (Y.free 0) (Y.free 1) (hv := bt_int)) (ve_and (ve_not (ve_isi (ve_var 0) (Y.free 0) (Y.free 2) (hv := bt_bool))) (ve_one (ve_chain op_le vw_le op_le vw_le (ve_var 1) (ve_var 0) (ve_var 2))))))))
theorem sc_is_machine : FnScope ["thing", "short", "reach", "long", "far", "leap", "load", "span", "word"] ["thing"] (defScope s_is_machine) := ⟨rfl, rfl, rfl, by decide +kernel, rfl, by decide +kernel, by decide +kernel⟩
def b_is_machine : M Fl := (S.seq (S.ifS (T.view (Vw.or (Vw.not (Vw.op1 (isi "tuple") (Vw.var 0))) (Vw.op2 o_ne (Vw.opN o_len (Vw.cons (Vw.var 0) Vw.nil)) (Vw.c (.int 8))))) (S.ret (E.view (Vw.c (.bool false)))) S.nx)
  (S.seq (S.asg (E.var 0) (G.tup 8 (G.cons (G.nm 1) (G.cons (G.nm 2) (G.cons (G.nm 3) (G.cons (G.nm 4) (G.cons (G.nm 5) (G.cons (G.nm 6) (G.cons (G.nm 7) (G.cons (G.nm 8) G.nil))))))))))
  (S.seq (S.ifS (T.view (Vw.or (Vw.not (Vw.callP 3 is_integer (Vw.cons (Vw.pl (.slot 1)) (Vw.cons (Vw.dat (Vw.c (.int 1))) (Vw.cons (Vw.dat (Vw.c (.int 9))) Vw.nil))))) (Vw.or (Vw.not (Vw.callP 3 is_integer (Vw.cons (Vw.pl (.slot 2)) (Vw.cons (Vw.dat (Vw.c (.int 0))) (Vw.cons (Vw.dat (Vw.c (.int 999))) Vw.nil))))) (Vw.not (Vw.callP 3 is_integer (Vw.cons (Vw.pl (.slot 3)) (Vw.cons (Vw.dat (Vw.op2 v_add (Vw.var 1) (Vw.c (.int 1)))) (Vw.cons (Vw.dat (Vw.c (.int 20))) Vw.nil)))))))) (S.ret (E.view (Vw.c (.bool false)))) S.nx)
  (S.seq (S.ifS (T.view (Vw.or (Vw.not (Vw.callP 3 is_integer (Vw.cons (Vw.pl (.slot 4)) (Vw.cons (Vw.dat (Vw.c (.int 1))) (Vw.cons (Vw.dat (Vw.c (.int 20))) Vw.nil))))) (Vw.or (Vw.not (Vw.callP 3 is_integer (Vw.cons (Vw.pl (.slot 5)) (Vw.cons (Vw.dat (Vw.c (.int 0))) (Vw.cons (Vw.dat (Vw.c (.int 9999))) Vw.nil))))) (Vw.not (Vw.callP 3 is_integer (Vw.cons (Vw.pl (.slot 6)) (Vw.cons (Vw.dat (Vw.c (.int 1))) (Vw.cons (Vw.dat (Vw.c (.int 9))) Vw.nil)))))))) (S.ret (E.view (Vw.c (.bool false)))) S.nx)
  (S.ret (E.view (Vw.and (Vw.callP 3 is_integer (Vw.cons (Vw.pl (.slot 7)) (Vw.cons (Vw.dat (Vw.c (.int 0))) (Vw.cons (Vw.dat (Vw.c (.int 999))) Vw.nil)))) (Vw.callP 3 is_integer (Vw.cons (Vw.pl (.slot 8)) (Vw.cons (Vw.dat (Vw.c (.int 1))) (Vw.cons (Vw.dat (Vw.c (.int 16))) Vw.nil)))))))))))
def is_machine : List O → FRes := runF [] 9 b_is_machine
theorem fn_is_machine (Y : Ya fa fn ts K mg) : Fn P w K mg base "is_machine" 2 ["thing"] [] is_machine :=
  Fn.of (st := s_is_machine) (N := ["thing", "short", "reach", "long", "far", "leap", "load", "span", "word"]) Y 1 6 rfl rfl sc_is_machine (by decide) (by decide) (fun _ _ _ _ _ _ us hl => match us, hl with | [_], _ => rfl) fun f cdv A outer s H E hr hgd tk => (eb_cons (es_if (et_view (vt_of (vtw_or (vt_not (vt_val (ve_isi (ve_var 0) (Y.free 0) (Y.free 4) (hv := bt_tuple)))) (vtw_or1 (vt_cmp (op_neA (hu100 hr)) vw_ne (ve_callB call_lenA vw_len (va_cons (ve_var 0) va_nil) (Y.free 5) (hv := bt_len)) ve_int))))) (eb_one (es_ret (ee_view ve_bl))) eb_nil)
  (eb_cons (es_asg (ee_var 0) (eg_tup rfl (egs_cons (eg_nm 1 sc_is_machine.nd) (egs_cons (eg_nm 2 sc_is_machine.nd) (egs_cons (eg_nm 3 sc_is_machine.nd) (egs_cons (eg_nm 4 sc_is_machine.nd) (egs_cons (eg_nm 5 sc_is_machine.nd) (egs_cons (eg_nm 6 sc_is_machine.nd) (egs_cons (eg_nm 7 sc_is_machine.nd) (egs_cons (eg_nm 8 sc_is_machine.nd) egs_nil))))))))))
  (eb_cons (es_if (et_view (vt_of (vtw_or (vt_not (vt_val (ve_fn (fn_is_integer Y) hr hgd (vb_pl (pl_slot 1) (vb_d ve_int (vb_d ve_int vb_nil)))))) (vtw_or (vt_not (vt_val (ve_fn (fn_is_integer Y) hr hgd (vb_pl (pl_slot 2) (vb_d ve_int (vb_d ve_int vb_nil)))))) (vtw_or1 (vt_not (vt_val (ve_fn (fn_is_integer Y) hr hgd (vb_pl (pl_slot 3) (vb_d (ve_op op_add2 vw_add (ve_var 1) ve_int) (vb_d ve_int vb_nil))))))))))) (eb_one (es_ret (ee_view ve_bl))) eb_nil)
  (eb_cons (es_if (et_view (vt_of (vtw_or (vt_not (vt_val (ve_fn (fn_is_integer Y) hr hgd (vb_pl (pl_slot 4) (vb_d ve_int (vb_d ve_int vb_nil)))))) (vtw_or (vt_not (vt_val (ve_fn (fn_is_integer Y) hr hgd (vb_pl (pl_slot 5) (vb_d ve_int (vb_d ve_int vb_nil)))))) (vtw_or1 (vt_not (vt_val (ve_fn (fn_is_integer Y) hr hgd (vb_pl (pl_slot 6) (vb_d ve_int (vb_d ve_int vb_nil))))))))))) (eb_one (es_ret (ee_view ve_bl))) eb_nil)
  (eb_one (es_ret (ee_view (ve_and (ve_fn (fn_is_integer Y) hr hgd (vb_pl (pl_slot 7) (vb_d ve_int (vb_d ve_int vb_nil)))) (ve_one (ve_fn (fn_is_integer Y) hr hgd (vb_pl (pl_slot 8) (vb_d ve_int (vb_d ve_int vb_nil)))))))))))))
theorem sc_need_machine : FnScope ["machine"] ["machine"] (defScope s_need_machine) := ⟨rfl, rfl, rfl, by decide +kernel, rfl, by decide +kernel, by decide +kernel⟩
def b_need_machine : M Fl := (S.ifS (T.view (Vw.not (Vw.callP 1 is_machine (Vw.cons (Vw.pl (.slot 0)) Vw.nil)))) (S.raise "NoMachine") S.nx)
def need_machine : List O → FRes := runF [] 1 b_need_machine
theorem fn_need_machine (Y : Ya fa fn ts K mg) : Fn P w K mg base "need_machine" 3 ["machine"] [] need_machine :=
  Fn.of (st := s_need_machine) (N := ["machine"]) Y 2 9 rfl rfl sc_need_machine (by decide) (by decide) (fun _ _ _ _ _ _ us hl => match us, hl with | [_], _ => rfl) fun f cdv A outer s H E hr hgd tk => (eb_one (es_if (et_view (vt_not (vt_val (ve_fn (fn_is_machine Y) hr hgd (vb_pl (pl_slot 0) vb_nil))))) (eb_one (es_raiseY Y 7 8 tk)) eb_nil))
theorem sc_is_row : FnScope ["thing", "many"] ["thing", "many"] (defScope s_is_row) := ⟨rfl, rfl, rfl, by decide +kernel, rfl, by decide +kernel, by decide +kernel⟩
def b_is_row : M Fl := (S.seq (S.ifS (T.view (Vw.or (Vw.not (Vw.op1 (isi "tuple") (Vw.var 0))) (Vw.or (Vw.op2 o_eq (Vw.var 0) (Vw.tup Vw.nil)) (Vw.not (Vw.op1 (isi "str") (Vw.op2 o_ix (Vw.var 0) (Vw.c (.int 0)))))))) (S.ret (E.view (Vw.c (.bool false)))) S.nx)
  (S.seq (S.ifS (T.view (Vw.op2 o_eq (Vw.op2 o_ix (Vw.var 0) (Vw.c (.int 0))) (Vw.c (.str "plain")))) (S.ret (E.view (Vw.and (Vw.op2 o_eq (Vw.opN o_len (Vw.cons (Vw.var 0) Vw.nil)) (Vw.c (.int 3))) (Vw.and (Vw.callP 3 is_integer (Vw.cons (Vw.dat (Vw.op2 o_ix (Vw.var 0) (Vw.c (.int 1)))) (Vw.cons (Vw.dat (Vw.c (.int 1))) (Vw.cons (Vw.dat (Vw.c (.int 99))) Vw.nil)))) (Vw.callP 3 is_integer (Vw.cons (Vw.dat (Vw.op2 o_ix (Vw.var 0) (Vw.c (.int 2)))) (Vw.cons (Vw.dat (Vw.c (.int 0))) (Vw.cons (Vw.dat (Vw.c (.int 999))) Vw.nil)))))))) S.nx)
  (S.seq (S.ifS (T.view (Vw.op2 o_ne (Vw.opN o_len (Vw.cons (Vw.var 0) Vw.nil)) (Vw.c (.int 2)))) (S.ret (E.view (Vw.c (.bool false)))) S.nx)
  (S.seq (S.ifS (T.view (Vw.op2 o_eq (Vw.op2 o_ix (Vw.var 0) (Vw.c (.int 0))) (Vw.c (.str "stop")))) (S.ret (E.callP 3 is_integer (Vw.cons (Vw.dat (Vw.op2 o_ix (Vw.var 0) (Vw.c (.int 1)))) (Vw.cons (Vw.dat (Vw.c (.int 1))) (Vw.cons (Vw.dat (Vw.c (.int 99))) Vw.nil))))) S.nx)
  (S.seq (S.ifS (T.view (Vw.op2 o_in (Vw.op2 o_ix (Vw.var 0) (Vw.c (.int 0))) (Vw.tup (Vw.cons (Vw.c (.str "jump")) (Vw.cons (Vw.c (.str "branch")) Vw.nil))))) (S.ret (E.callP 3 is_integer (Vw.cons (Vw.dat (Vw.op2 o_ix (Vw.var 0) (Vw.c (.int 1)))) (Vw.cons (Vw.dat (Vw.c (.int 0))) (Vw.cons (Vw.dat (Vw.op2 o_sub (Vw.var 1) (Vw.c (.int 1)))) Vw.nil))))) S.nx)
  (S.seq (S.ifS (T.view (Vw.op2 o_eq (Vw.op2 o_ix (Vw.var 0) (Vw.c (.int 0))) (Vw.c (.str "far")))) (S.ret (E.callP 3 is_integer (Vw.cons (Vw.dat (Vw.op2 o_ix (Vw.var 0) (Vw.c (.int 1)))) (Vw.cons (Vw.dat (Vw.c (.int 0))) (Vw.cons (Vw.dat (Vw.op2 o_sub (Vw.c (.int 5)) (Vw.c (.int 1)))) Vw.nil))))) S.nx)
  (S.seq (S.ifS (T.view (Vw.op2 o_in (Vw.op2 o_ix (Vw.var 0) (Vw.c (.int 0))) (Vw.tup (Vw.cons (Vw.c (.str "load")) (Vw.cons (Vw.c (.str "word")) Vw.nil))))) (S.ret (E.callP 3 is_integer (Vw.cons (Vw.dat (Vw.op2 o_ix (Vw.var 0) (Vw.c (.int 1)))) (Vw.cons (Vw.dat (Vw.c (.int 0))) (Vw.cons (Vw.dat (Vw.c (.int 65535))) Vw.nil))))) S.nx)
  (S.ret (E.view (Vw.and (Vw.op2 o_eq (Vw.op2 o_ix (Vw.var 0) (Vw.c (.int 0))) (Vw.c (.str "align"))) (Vw.and (Vw.callP 3 is_integer (Vw.cons (Vw.dat (Vw.op2 o_ix (Vw.var 0) (Vw.c (.int 1)))) (Vw.cons (Vw.dat (Vw.c (.int 2))) (Vw.cons (Vw.dat (Vw.c (.int 16))) Vw.nil)))) (Vw.op2 o_in (Vw.op2 o_ix (Vw.var 0) (Vw.c (.int 1))) (Vw.tup (Vw.cons (Vw.c (.int 2)) (Vw.cons (Vw.c (.int 4)) (Vw.cons (Vw.c (.int 8)) (Vw.cons (Vw.c (.int 16)) Vw.nil)))))))))))))))))
def is_row : List O → FRes := runF [] 2 b_is_row
theorem fn_is_row (Y : Ya fa fn ts K mg) : Fn P w K mg base "is_row" 2 ["thing", "many"] [] is_row :=
  Fn.of (st := s_is_row) (N := ["thing", "many"]) Y 3 13 rfl rfl sc_is_row (by decide) (by decide) (fun _ _ _ _ _ _ us hl => match us, hl with | [_, _], _ => rfl) fun f cdv A outer s H E hr hgd tk => (eb_cons (es_if (et_view (vt_of (vtw_or (vt_not (vt_val (ve_isi (ve_var 0) (Y.free 0) (Y.free 4) (hv := bt_tuple)))) (vtw_or (vt_cmp (op_eqA (hu100 hr)) vw_eq (ve_var 0) (ve_tup va_nil)) (vtw_or1 (vt_not (vt_val (ve_isi (ve_ix (ix_any (hu100 hr)) vw_ix (ve_var 0) ve_int) (Y.free 0) (Y.free 10) (hv := bt_str))))))))) (eb_one (es_ret (ee_view ve_bl))) eb_nil)
  (eb_cons (es_if (et_view (vt_cmp (op_eqA (hu100 hr)) vw_eq (ve_ix (ix_any (hu100 hr)) vw_ix (ve_var 0) ve_int) ve_str)) (eb_one (es_ret (ee_view (ve_and (ve_cmp (op_eqA (hu100 hr)) vw_eq (ve_callB call_lenA vw_len (va_cons (ve_var 0) va_nil) (Y.free 5) (hv := bt_len)) ve_int) (ve_and (ve_fn (fn_is_integer Y) hr hgd (vb_d (ve_ix (ix_any (hu100 hr)) vw_ix (ve_var 0) ve_int) (vb_d ve_int (vb_d ve_int vb_nil)))) (ve_one (ve_fn (fn_is_integer Y) hr hgd (vb_d (ve_ix (ix_any (hu100 hr)) vw_ix (ve_var 0) ve_int) (vb_d ve_int (vb_d ve_int vb_nil)))))))))) eb_nil)
  (eb_cons (es_if (et_view (vt_cmp (op_neA (hu100 hr)) vw_ne (ve_callB call_lenA vw_len (va_cons (ve_var 0) va_nil) (Y.free 5) (hv := bt_len)) ve_int)) (eb_one (es_ret (ee_view ve_bl))) eb_nil)
  (eb_cons (es_if (et_view (vt_cmp (op_eqA (hu100 hr)) vw_eq (ve_ix (ix_any (hu100 hr)) vw_ix (ve_var 0) ve_int) ve_str)) (eb_one (es_ret (ee_fnP (fn_is_integer Y) hr hgd tk (vb_d (ve_ix (ix_any (hu100 hr)) vw_ix (ve_var 0) ve_int) (vb_d ve_int (vb_d ve_int vb_nil)))))) eb_nil)
  (eb_cons (es_if (et_view (vt_cmp (op_inA (hu100 hr)) vw_in (ve_ix (ix_any (hu100 hr)) vw_ix (ve_var 0) ve_int) (ve_tup (va_cons ve_str (va_cons ve_str va_nil))))) (eb_one (es_ret (ee_fnP (fn_is_integer Y) hr hgd tk (vb_d (ve_ix (ix_any (hu100 hr)) vw_ix (ve_var 0) ve_int) (vb_d ve_int (vb_d (ve_op op_sub vw_sub (ve_var 1) ve_int) vb_nil)))))) eb_nil)
  (eb_cons (es_if (et_view (vt_cmp (op_eqA (hu100 hr)) vw_eq (ve_ix (ix_any (hu100 hr)) vw_ix (ve_var 0) ve_int) ve_str)) (eb_one (es_ret (ee_fnP (fn_is_integer Y) hr hgd tk (vb_d (ve_ix (ix_any (hu100 hr)) vw_ix (ve_var 0) ve_int) (vb_d ve_int (vb_d (ve_op op_sub vw_sub (ve_gint (Y.int 11)) ve_int) vb_nil)))))) eb_nil)
  (eb_cons (es_if (et_view (vt_cmp (op_inA (hu100 hr)) vw_in (ve_ix (ix_any (hu100 hr)) vw_ix (ve_var 0) ve_int) (ve_tup (va_cons ve_str (va_cons ve_str va_nil))))) (eb_one (es_ret (ee_fnP (fn_is_integer Y) hr hgd tk (vb_d (ve_ix (ix_any (hu100 hr)) vw_ix (ve_var 0) ve_int) (vb_d ve_int (vb_d (ve_gint (Y.int 12)) vb_nil)))))) eb_nil)
  (eb_one (es_ret (ee_view (ve_and (ve_cmp (op_eqA (hu100 hr)) vw_eq (ve_ix (ix_any (hu100 hr)) vw_ix (ve_var 0) ve_int) ve_str) (ve_and (ve_fn (fn_is_integer Y) hr hgd (vb_d (ve_ix (ix_any (hu100 hr)) vw_ix (ve_var 0) ve_int) (vb_d ve_int (vb_d ve_int vb_nil)))) (ve_one (ve_cmp (op_inA (hu100 hr)) vw_in (ve_ix (ix_any (hu100 hr)) vw_ix (ve_var 0) ve_int) (ve_tup (va_cons ve_int (va_cons ve_int (va_cons ve_int (va_cons ve_int va_nil)))))))))))))))))))
theorem sc_goes_on : FnScope ["row"] ["row"] (defScope s_goes_on) := ⟨rfl, rfl, rfl, by decide +kernel, rfl, by decide +kernel, by decide +kernel⟩
def b_goes_on : M Fl := (S.ret (E.view (Vw.op2 o_in (Vw.op2 o_ix (Vw.var 0) (Vw.c (.int 0))) (Vw.tup (Vw.cons (Vw.c (.str "plain")) (Vw.cons (Vw.c (.str "branch")) (Vw.cons (Vw.c (.str "load")) (Vw.cons (Vw.c (.str "align")) Vw.nil))))))))
def goes_on : List O → FRes := runF [] 1 b_goes_on
theorem fn_goes_on (Y : Ya fa fn ts K mg) : Fn P w K mg base "goes_on" 1 ["row"] [] goes_on :=
  Fn.of (st := s_goes_on) (N := ["row"]) Y 4 14 rfl rfl sc_goes_on (by decide) (by decide) (fun _ _ _ _ _ _ us hl => match us, hl with | [_], _ => rfl) fun f cdv A outer s H E hr hgd tk => (eb_one (es_ret (ee_view (ve_cmp (op_inA (hu100 hr)) vw_in (ve_ix (ix_any (hu100 hr)) vw_ix (ve_var 0) ve_int) (ve_tup (va_cons ve_str (va_cons ve_str (va_cons ve_str (va_cons ve_str va_nil)))))))))
theorem sc_is_jump : FnScope ["row"] ["row"] (defScope s_is_jump) := ⟨rfl, rfl, rfl, by decide +kernel, rfl, by decide +kernel, by decide +kernel⟩
def b_is_jump : M Fl := (S.ret (E.view (Vw.op2 o_in (Vw.op2 o_ix (Vw.var 0) (Vw.c (.int 0))) (Vw.tup (Vw.cons (Vw.c (.str "jump")) (Vw.cons (Vw.c (.str "branch")) Vw.nil))))))
def is_jump : List O → FRes := runF [] 1 b_is_jump
theorem fn_is_jump (Y : Ya fa fn ts K mg) : Fn P w K mg base "is_jump" 1 ["row"] [] is_jump :=
  Fn.of (st := s_is_jump) (N := ["row"]) Y 5 15 rfl rfl sc_is_jump (by decide) (by decide) (fun _ _ _ _ _ _ us hl => match us, hl with | [_], _ => rfl) fun f cdv A outer s H E hr hgd tk => (eb_one (es_ret (ee_view (ve_cmp (op_inA (hu100 hr)) vw_in (ve_ix (ix_any (hu100 hr)) vw_ix (ve_var 0) ve_int) (ve_tup (va_cons ve_str (va_cons ve_str va_nil)))))))
theorem sc_jumps_of : FnScope ["part", "number", "row"] ["part"] (defScope s_jumps_of) := ⟨rfl, rfl, rfl, by decide +kernel, rfl, by decide +kernel, by decide +kernel⟩
def b_jumps_of : M Fl := (S.ret (E.lc [1, 2] (Wk.enum (A.cons (E.var 0) A.nil)) (G.tup 2 (G.cons (G.nm 1) (G.cons (G.nm 2) G.nil))) (T.view (Vw.callP 1 is_jump (Vw.cons (Vw.pl (.slot 2)) Vw.nil))) (E.var 1)))
def jumps_of : List O → FRes := runF [] 3 b_jumps_of
theorem fn_jumps_of (Y : Ya fa fn ts K mg) : Fn P w K mg base "jumps_of" 2 ["part"] [] jumps_of :=
  Fn.of (st := s_jumps_of) (N := ["part", "number", "row"]) Y 6 17 rfl rfl sc_jumps_of (by decide) (by decide) (fun _ _ _ _ _ _ us hl => match us, hl with | [_], _ => rfl) fun f cdv A outer s H E hr hgd tk => (eb_one (es_ret (ee_lc (own := [("number", 1), ("row", 2)]) rfl sc_jumps_of.nd (ei_enum rfl (Y.free 16) (ea_cons (ee_var 0) ea_nil)) (blkOk_by (N := ["part", "number", "row"]) (sc := defScope s_jumps_of) (by decide +kernel)) (fun _ _ _ _ _ => (eg_tup rfl (egs_cons (eg_nm 1 sc_jumps_of.nd) (egs_cons (eg_nm 2 sc_jumps_of.nd) egs_nil)))) (fun _ _ _ _ _ => (ets_one (et_view (vt_val (ve_fn (fn_is_jump Y) hr hgd (vb_pl (pl_slot 2) vb_nil)))))) (fun _ _ _ _ _ => (ee_var 1)))))
theorem sc_is_even : FnScope ["part", "row"] ["part"] (defScope s_is_even) := ⟨rfl, rfl, rfl, by decide +kernel, rfl, by decide +kernel, by decide +kernel⟩
def b_is_even : M Fl := (S.ret (E.not (E.opN b_any (A.cons (E.lc [1] (Wk.seq (E.var 0)) (G.nm 1) T.yes (E.view (Vw.op2 o_eq (Vw.op2 o_ix (Vw.var 1) (Vw.c (.int 0))) (Vw.c (.str "align"))))) A.nil))))
def is_even : List O → FRes := runF [] 2 b_is_even
theorem fn_is_even (Y : Ya fa fn ts K mg) : Fn P w K mg base "is_even" 1 ["part"] [] is_even :=
  Fn.of (st := s_is_even) (N := ["part", "row"]) Y 7 19 rfl rfl sc_is_even (by decide) (by decide) (fun _ _ _ _ _ _ us hl => match us, hl with | [_], _ => rfl) fun f cdv A outer s H E hr hgd tk => (eb_one (es_ret (ee_not (ee_callBE (cr_any rfl) vw_any isd_any (ea_cons (ee_lc (own := [("row", 1)]) rfl sc_is_even.nd (ei_seq (ee_var 0)) (blkOk_by (N := ["part", "row"]) (sc := defScope s_is_even) (by decide +kernel)) (fun _ _ _ _ _ => (eg_nm 1 sc_is_even.nd)) (fun _ _ _ _ _ => ets_nil) (fun _ _ _ _ _ => (ee_view (ve_cmp (op_eqA (hu100 hr)) vw_eq (ve_ix (ix_any (hu100 hr)) vw_ix (ve_var 1) ve_int) ve_str)))) ea_nil) (Y.free 18) (hv := bt_any)))))
theorem sc_is_part : FnScope ["thing", "number", "row"] ["thing"] (defScope s_is_part) := ⟨rfl, rfl, rfl, by decide +kernel, rfl, by decide +kernel, by decide +kernel⟩
def b_is_part : M Fl := (S.seq (S.ifS (T.view (Vw.or (Vw.not (Vw.op1 (isi "tuple") (Vw.var 0))) (Vw.not (Vw.chain o_le o_le (Vw.c (.int 1)) (Vw.opN o_len (Vw.cons (Vw.var 0) Vw.nil)) (Vw.c (.int 20)))))) (S.ret (E.view (Vw.c (.bool false)))) S.nx)
  (S.seq (S.ifS (T.or (T.not (T.val (E.opN b_all (A.cons (E.lc [2] (Wk.seq (E.var 0)) (G.nm 2) T.yes (E.callP 2 is_row (Vw.cons (Vw.pl (.slot 2)) (Vw.cons (Vw.dat (Vw.opN o_len (Vw.cons (Vw.var 0) Vw.nil))) Vw.nil)))) A.nil)))) (T.view (Vw.op2 o_eq (Vw.op2 o_ix (Vw.op2 o_ix (Vw.var 0) (Vw.c (.int 0))) (Vw.c (.int 0))) (Vw.c (.str "word"))))) (S.ret (E.view (Vw.c (.bool false)))) S.nx)
  (S.seq (S.for (Wk.enum (A.cons (E.var 0) A.nil)) (G.tup 2 (G.cons (G.nm 1) (G.cons (G.nm 2) G.nil))) (S.seq (S.ifS (T.view (Vw.and (Vw.callP 1 goes_on (Vw.cons (Vw.pl (.slot 2)) Vw.nil)) (Vw.or (Vw.op2 o_eq (Vw.op2 v_add (Vw.var 1) (Vw.c (.int 1))) (Vw.opN o_len (Vw.cons (Vw.var 0) Vw.nil))) (Vw.op2 o_eq (Vw.op2 o_ix (Vw.op2 o_ix (Vw.var 0) (Vw.op2 v_add (Vw.var 1) (Vw.c (.int 1)))) (Vw.c (.int 0))) (Vw.c (.str "word")))))) (S.ret (E.view (Vw.c (.bool false)))) S.nx)
  (S.ifS (T.view (Vw.and (Vw.callP 1 is_jump (Vw.cons (Vw.pl (.slot 2)) Vw.nil)) (Vw.op2 o_eq (Vw.op2 o_ix (Vw.op2 o_ix (Vw.var 0) (Vw.op2 o_ix (Vw.var 2) (Vw.c (.int 1)))) (Vw.c (.int 0))) (Vw.c (.str "word"))))) (S.ret (E.view (Vw.c (.bool false)))) S.nx)))
  (S.ret (E.view (Vw.or (Vw.callP 1 is_even (Vw.cons (Vw.pl (.slot 0)) Vw.nil)) (Vw.op2 o_le (Vw.opN o_len (Vw.cons (Vw.callP 1 jumps_of (Vw.cons (Vw.pl (.slot 0)) Vw.nil)) Vw.nil)) (Vw.c (.int 6)))))))))
def is_part : List O → FRes := runF [] 3 b_is_part
theorem fn_is_part (Y : Ya fa fn ts K mg) : Fn P w K mg base "is_part" 3 ["thing"] [] is_part :=
  Fn.of (st := s_is_part) (N := ["thing", "number", "row"]) Y 8 23 rfl rfl sc_is_part (by decide) (by decide) (fun _ _ _ _ _ _ us hl => match us, hl with | [_], _ => rfl) fun f cdv A outer s H E hr hgd tk => (eb_cons (es_if (et_view (vt_of (vtw_or (vt_not (vt_val (ve_isi (ve_var 0) (Y.free 0) (Y.free 4) (hv := bt_tuple)))) (vtw_or1 (vt_not (vt_chain op_le vw_le op_le vw_le ve_int (ve_callB call_lenA vw_len (va_cons (ve_var 0) va_nil) (Y.free 5) (hv := bt_len)) (ve_gint (Y.int 20)))))))) (eb_one (es_ret (ee_view ve_bl))) eb_nil)
  (eb_cons (es_if (EW.et (ew_or (et_not (et_val (ee_callBE (cr_all rfl) vw_all isd_all (ea_cons (ee_lc (own := [("row", 2)]) rfl sc_is_part.nd (ei_seq (ee_var 0)) (blkOk_by (N := ["thing", "number", "row"]) (sc := defScope s_is_part) (by decide +kernel)) (fun _ _ _ _ _ => (eg_nm 2 sc_is_part.nd)) (fun _ _ _ _ _ => ets_nil) (fun _ _ _ _ _ => (ee_fnP (fn_is_row Y) hr hgd takesW0 (vb_pl (pl_slot 2) (vb_d (ve_callB call_lenA vw_len (va_cons (ve_var 0) va_nil) (Y.free 5) (hv := bt_len)) vb_nil))))) ea_nil) (Y.free 21) (hv := bt_all)))) (ew_or1 (et_view (vt_cmp (op_eqA (hu100 hr)) vw_eq (ve_ix (ix_any (hu100 hr)) vw_ix (ve_ix (ix_any (hu100 hr)) vw_ix (ve_var 0) ve_int) ve_int) ve_str))))) (eb_one (es_ret (ee_view ve_bl))) eb_nil)
  (eb_cons (es_for (passes_of rfl) rfl (ei_enum rfl (Y.free 16) (ea_cons (ee_var 0) ea_nil)) (eg_tup rfl (egs_cons (eg_nm 1 sc_is_part.nd) (egs_cons (eg_nm 2 sc_is_part.nd) egs_nil))) (eb_cons (es_if (et_view (vt_of (vtw_and (vt_val (ve_fn (fn_goes_on Y) hr hgd (vb_pl (pl_slot 2) vb_nil))) (vtw_and1 (vt_of (vtw_or (vt_cmp (op_eqA (hu100 hr)) vw_eq (ve_op op_add2 vw_add (ve_var 1) ve_int) (ve_callB call_lenA vw_len (va_cons (ve_var 0) va_nil) (Y.free 5) (hv := bt_len))) (vtw_or1 (vt_cmp (op_eqA (hu100 hr)) vw_eq (ve_ix (ix_any (hu100 hr)) vw_ix (ve_ix (ix_any (hu100 hr)) vw_ix (ve_var 0) (ve_op op_add2 vw_add (ve_var 1) ve_int)) ve_int) ve_str)))))))) (eb_one (es_ret (ee_view ve_bl))) eb_nil)
  (eb_one (es_if (et_view (vt_of (vtw_and (vt_val (ve_fn (fn_is_jump Y) hr hgd (vb_pl (pl_slot 2) vb_nil))) (vtw_and1 (vt_cmp (op_eqA (hu100 hr)) vw_eq (ve_ix (ix_any (hu100 hr)) vw_ix (ve_ix (ix_any (hu100 hr)) vw_ix (ve_var 0) (ve_ix (ix_any (hu100 hr)) vw_ix (ve_var 2) ve_int)) ve_int) ve_str))))) (eb_one (es_ret (ee_view ve_bl))) eb_nil))))
  (eb_one (es_ret (ee_view (ve_or (ve_fn (fn_is_even Y) hr hgd (vb_pl (pl_slot 0) vb_nil)) (ve_one (ve_cmp op_le vw_le (ve_callB call_lenA vw_len (va_cons (ve_fn (fn_jumps_of Y) hr hgd (vb_pl (pl_slot 0) vb_nil)) va_nil) (Y.free 5) (hv := bt_len)) (ve_gint (Y.int 22)))))))))))
theorem sc_is_book : FnScope ["thing", "part", "row"] ["thing"] (defScope s_is_book) := ⟨rfl, rfl, rfl, by decide +kernel, rfl, by decide +kernel, by decide +kernel⟩
def b_is_book : M Fl := (S.seq (S.ifS (T.view (Vw.or (Vw.not (Vw.op1 (isi "tuple") (Vw.var 0))) (Vw.not (Vw.chain o_le o_le (Vw.c (.int 1)) (Vw.opN o_len (Vw.cons (Vw.var 0) Vw.nil)) (Vw.c (.int 5)))))) (S.ret (E.view (Vw.c (.bool false)))) S.nx)
  (S.seq (S.ifS (T.not (T.val (E.opN b_all (A.cons (E.lc [1] (Wk.seq (E.var 0)) (G.nm 1) T.yes (E.callP 1 is_part (Vw.cons (Vw.pl (.slot 1)) Vw.nil))) A.nil)))) (S.ret (E.view (Vw.c (.bool false)))) S.nx)
  (S.seq (S.for (Wk.seq (E.var 0)) (G.nm 1) (S.ifS (T.val (E.opN b_any (A.cons (E.lc [2] (Wk.seq (E.var 1)) (G.nm 2) T.yes (E.view (Vw.and (Vw.op2 o_eq (Vw.op2 o_ix (Vw.var 2) (Vw.c (.int 0))) (Vw.c (.str "far"))) (Vw.op2 o_ge (Vw.op2 o_ix (Vw.var 2) (Vw.c (.int 1))) (Vw.opN o_len (Vw.cons (Vw.var 0) Vw.nil)))))) A.nil))) (S.ret (E.view (Vw.c (.bool false)))) S.nx))
  (S.ret (E.view (Vw.c (.bool true)))))))
def is_book : List O → FRes := runF [] 3 b_is_book
theorem fn_is_book (Y : Ya fa fn ts K mg) : Fn P w K mg base "is_book" 4 ["thing"] [] is_book :=
  Fn.of (st := s_is_book) (N := ["thing", "part", "row"]) Y 9 24 rfl rfl sc_is_book (by decide) (by decide) (fun _ _ _ _ _ _ us hl => match us, hl with | [_], _ => rfl) fun f cdv A outer s H E hr hgd tk => (eb_cons (es_if (et_view (vt_of (vtw_or (vt_not (vt_val (ve_isi (ve_var 0) (Y.free 0) (Y.free 4) (hv := bt_tuple)))) (vtw_or1 (vt_not (vt_chain op_le vw_le op_le vw_le ve_int (ve_callB call_lenA vw_len (va_cons (ve_var 0) va_nil) (Y.free 5) (hv := bt_len)) (ve_gint (Y.int 11)))))))) (eb_one (es_ret (ee_view ve_bl))) eb_nil)
  (eb_cons (es_if (et_not (et_val (ee_callBE (cr_all rfl) vw_all isd_all (ea_cons (ee_lc (own := [("part", 1)]) rfl sc_is_book.nd (ei_seq (ee_var 0)) (blkOk_by (N := ["thing", "part", "row"]) (sc := defScope s_is_book) (by decide +kernel)) (fun _ _ _ _ _ => (eg_nm 1 sc_is_book.nd)) (fun _ _ _ _ _ => ets_nil) (fun _ _ _ _ _ => (ee_fnP (fn_is_part Y) hr hgd takesW0 (vb_pl (pl_slot 1) vb_nil)))) ea_nil) (Y.free 21) (hv := bt_all)))) (eb_one (es_ret (ee_view ve_bl))) eb_nil)
  (eb_cons (es_for (passes_of rfl) rfl (ei_seq (ee_var 0)) (eg_nm 1 sc_is_book.nd) (eb_one (es_if (et_val (ee_callBE (cr_any rfl) vw_any isd_any (ea_cons (ee_lc (own := [("row", 2)]) rfl sc_is_book.nd (ei_seq (ee_var 1)) (blkOk_by (N := ["thing", "part", "row"]) (sc := defScope s_is_book) (by decide +kernel)) (fun _ _ _ _ _ => (eg_nm 2 sc_is_book.nd)) (fun _ _ _ _ _ => ets_nil) (fun _ _ _ _ _ => (ee_view (ve_and (ve_cmp (op_eqA (hu100 hr)) vw_eq (ve_ix (ix_any (hu100 hr)) vw_ix (ve_var 2) ve_int) ve_str) (ve_one (ve_cmp op_ge vw_ge (ve_ix (ix_any (hu100 hr)) vw_ix (ve_var 2) ve_int) (ve_callB call_lenA vw_len (va_cons (ve_var 0) va_nil) (Y.free 5) (hv := bt_len)))))))) ea_nil) (Y.free 18) (hv := bt_any))) (eb_one (es_ret (ee_view ve_bl))) eb_nil)))
  (eb_one (es_ret (ee_view ve_bl))))))
theorem sc_need_book : FnScope ["book"] ["book"] (defScope s_need_book) := ⟨rfl, rfl, rfl, by decide +kernel, rfl, by decide +kernel, by decide +kernel⟩
def b_need_book : M Fl := (S.ifS (T.view (Vw.not (Vw.callP 1 is_book (Vw.cons (Vw.pl (.slot 0)) Vw.nil)))) (S.raise "NoBook") S.nx)
def need_book : List O → FRes := runF [] 1 b_need_book
theorem fn_need_book (Y : Ya fa fn ts K mg) : Fn P w K mg base "need_book" 5 ["book"] [] need_book :=
  Fn.of (st := s_need_book) (N := ["book"]) Y 10 27 rfl rfl sc_need_book (by decide) (by decide) (fun _ _ _ _ _ _ us hl => match us, hl with | [_], _ => rfl) fun f cdv A outer s H E hr hgd tk => (eb_one (es_if (et_view (vt_not (vt_val (ve_fn (fn_is_book Y) hr hgd (vb_pl (pl_slot 0) vb_nil))))) (eb_one (es_raiseY Y 25 26 tk)) eb_nil))
theorem sc_all_lists : FnScope ["members", "found", "member", "some"] ["members"] (defScope s_all_lists) := ⟨rfl, rfl, rfl, by decide +kernel, rfl, by decide +kernel, by decide +kernel⟩
def b_all_lists : M Fl := (S.seq (S.asg (E.lst (A.cons (E.lst A.nil) A.nil)) (G.nm 1))
  (S.seq (S.for (Wk.seq (E.var 0)) (G.nm 2) (S.asg (E.op2 o_add (E.var 1) (E.lc [3] (Wk.seq (E.var 1)) (G.nm 3) T.yes (E.fr (Vw.op2 (fun x y => (l_add x y).map ol) (Vw.var 3) (Vw.lst (Vw.cons (Vw.var 2) Vw.nil)))))) (G.nm 1)))
  (S.ret (E.move 1))))
def all_lists : List O → FRes := runF [] 4 b_all_lists
theorem fn_all_lists (Y : Ya fa fn ts K mg) : Fn P w K mg base "all_lists" 1 ["members"] [] all_lists :=
  Fn.of (st := s_all_lists) (N := ["members", "found", "member", "some"]) Y 11 28 rfl rfl sc_all_lists (by decide) (by decide) (fun _ _ _ _ _ _ us hl => match us, hl with | [_], _ => rfl) fun f cdv A outer s H E hr hgd tk => (eb_cons (es_asg (ee_lst (ea_cons (ee_lst ea_nil) ea_nil)) (eg_nm 1 sc_all_lists.nd))
  (eb_cons (es_for (passes_of rfl) rfl (ei_seq (ee_var 0)) (eg_nm 2 sc_all_lists.nd) (eb_one (es_asg (ee_op op_add2 ok_add (ee_var 1) (ee_lc (own := [("some", 3)]) rfl sc_all_lists.nd (ei_seq (ee_var 1)) (blkOk_by (N := ["members", "found", "member", "some"]) (sc := defScope s_all_lists) (by decide +kernel)) (fun _ _ _ _ _ => (eg_nm 3 sc_all_lists.nd)) (fun _ _ _ _ _ => ets_nil) (fun _ _ _ _ _ => (ee_frOp op_add2 fr_add (ve_var 3) (ve_lst (va_cons (ve_var 2) va_nil)))))) (eg_nm 1 sc_all_lists.nd))))
  (eb_one (es_ret (ee_move 1)))))
theorem sc_size_of : FnScope ["row", "machine", "is_short", "address", "short", "reach", "long", "far", "leap", "load", "span", "word"] ["row", "machine", "is_short", "address"] (defScope s_size_of) := ⟨rfl, rfl, rfl, by decide +kernel, rfl, by decide +kernel, by decide +kernel⟩
def b_size_of : M Fl := (S.seq (S.asg (E.var 1) (G.tup 8 (G.cons (G.nm 4) (G.cons (G.nm 5) (G.cons (G.nm 6) (G.cons (G.nm 7) (G.cons (G.nm 8) (G.cons (G.nm 9) (G.cons (G.nm 10) (G.cons (G.nm 11) G.nil))))))))))
  (S.seq (S.ifS (T.view (Vw.op2 o_in (Vw.op2 o_ix (Vw.var 0) (Vw.c (.int 0))) (Vw.tup (Vw.cons (Vw.c (.str "plain")) (Vw.cons (Vw.c (.str "stop")) Vw.nil))))) (S.ret (E.view (Vw.op2 o_ix (Vw.var 0) (Vw.c (.int 1))))) S.nx)
  (S.seq (S.ifS (T.view (Vw.op2 o_in (Vw.op2 o_ix (Vw.var 0) (Vw.c (.int 0))) (Vw.tup (Vw.cons (Vw.c (.str "jump")) (Vw.cons (Vw.c (.str "branch")) Vw.nil))))) (S.ret (E.view (Vw.ifE (Vw.var 2) (Vw.var 4) (Vw.var 6)))) S.nx)
  (S.seq (S.ifS (T.view (Vw.op2 o_eq (Vw.op2 o_ix (Vw.var 0) (Vw.c (.int 0))) (Vw.c (.str "align")))) (S.ret (E.view (Vw.op2 o_mod (Vw.op2 o_sub (Vw.op2 o_ix (Vw.var 0) (Vw.c (.int 1))) (Vw.op2 o_mod (Vw.var 3) (Vw.op2 o_ix (Vw.var 0) (Vw.c (.int 1))))) (Vw.op2 o_ix (Vw.var 0) (Vw.c (.int 1)))))) S.nx)
  (S.seq (S.ifS (T.view (Vw.op2 o_eq (Vw.op2 o_ix (Vw.var 0) (Vw.c (.int 0))) (Vw.c (.str "far")))) (S.ret (E.move 7)) S.nx)
  (S.ret (E.view (Vw.ifE (Vw.op2 o_eq (Vw.op2 o_ix (Vw.var 0) (Vw.c (.int 0))) (Vw.c (.str "load"))) (Vw.var 9) (Vw.var 11)))))))))
def size_of : List O → FRes := runF [] 12 b_size_of
theorem fn_size_of (Y : Ya fa fn ts K mg) : Fn P w K mg base "size_of" 1 ["row", "machine", "is_short", "address"] [] size_of :=
  Fn.of (st := s_size_of) (N := ["row", "machine", "is_short", "address", "short", "reach", "long", "far", "leap", "load", "span", "word"]) Y 12 29 rfl rfl sc_size_of (by decide) (by decide) (fun _ _ _ _ _ _ us hl => match us, hl with | [_, _, _, _], _ => rfl) fun f cdv A outer s H E hr hgd tk => (eb_cons (es_asg (ee_var 1) (eg_tup rfl (egs_cons (eg_nm 4 sc_size_of.nd) (egs_cons (eg_nm 5 sc_size_of.nd) (egs_cons (eg_nm 6 sc_size_of.nd) (egs_cons (eg_nm 7 sc_size_of.nd) (egs_cons (eg_nm 8 sc_size_of.nd) (egs_cons (eg_nm 9 sc_size_of.nd) (egs_cons (eg_nm 10 sc_size_of.nd) (egs_cons (eg_nm 11 sc_size_of.nd) egs_nil))))))))))
  (eb_cons (es_if (et_view (vt_cmp (op_inA (hu100 hr)) vw_in (ve_ix (ix_any (hu100 hr)) vw_ix (ve_var 0) ve_int) (ve_tup (va_cons ve_str (va_cons ve_str va_nil))))) (eb_one (es_ret (ee_view (ve_ix (ix_any (hu100 hr)) vw_ix (ve_var 0) ve_int)))) eb_nil)
  (eb_cons (es_if (et_view (vt_cmp (op_inA (hu100 hr)) vw_in (ve_ix (ix_any (hu100 hr)) vw_ix (ve_var 0) ve_int) (ve_tup (va_cons ve_str (va_cons ve_str va_nil))))) (eb_one (es_ret (ee_view (ve_if (vt_val (ve_var 2)) (ve_var 4) (ve_var 6))))) eb_nil)
  (eb_cons (es_if (et_view (vt_cmp (op_eqA (hu100 hr)) vw_eq (ve_ix (ix_any (hu100 hr)) vw_ix (ve_var 0) ve_int) ve_str)) (eb_one (es_ret (ee_view (ve_op op_mod vw_mod (ve_op op_sub vw_sub (ve_ix (ix_any (hu100 hr)) vw_ix (ve_var 0) ve_int) (ve_op op_mod vw_mod (ve_var 3) (ve_ix (ix_any (hu100 hr)) vw_ix (ve_var 0) ve_int))) (ve_ix (ix_any (hu100 hr)) vw_ix (ve_var 0) ve_int))))) eb_nil)
  (eb_cons (es_if (et_view (vt_cmp (op_eqA (hu100 hr)) vw_eq (ve_ix (ix_any (hu100 hr)) vw_ix (ve_var 0) ve_int) ve_str)) (eb_one (es_ret (ee_move 7))) eb_nil)
  (eb_one (es_ret (ee_view (ve_if (vt_cmp (op_eqA (hu100 hr)) vw_eq (ve_ix (ix_any (hu100 hr)) vw_ix (ve_var 0) ve_int) ve_str) (ve_var 9) (ve_var 11))))))))))
theorem sc_places_of : FnScope ["part", "machine", "forms", "found", "number", "row"] ["part", "machine", "forms"] (defScope s_places_of) := ⟨rfl, rfl, rfl, by decide +kernel, rfl, by decide +kernel, by decide +kernel⟩
def b_places_of : M Fl := (S.seq (S.asg (E.lst (A.cons (E.view (Vw.c (.int 0))) A.nil)) (G.nm 3))
  (S.seq (S.for (Wk.enum (A.cons (E.var 0) A.nil)) (G.tup 2 (G.cons (G.nm 4) (G.cons (G.nm 5) G.nil))) (S.expr (E.mut 3 "list" m_append (A.cons (E.view (Vw.op2 v_add (Vw.op2 o_ix (Vw.var 3) (Vw.op1 o_neg (Vw.c (.int 1)))) (Vw.callP 4 size_of (Vw.cons (Vw.pl (.slot 5)) (Vw.cons (Vw.pl (.slot 1)) (Vw.cons (Vw.dat (Vw.op2 o_in (Vw.var 4) (Vw.var 2))) (Vw.cons (Vw.dat (Vw.op2 o_ix (Vw.var 3) (Vw.op1 o_neg (Vw.c (.int 1))))) Vw.nil))))))) A.nil))))
  (S.ret (E.move 3))))
def places_of : List O → FRes := runF [] 6 b_places_of
theorem fn_places_of (Y : Ya fa fn ts K mg) : Fn P w K mg base "places_of" 2 ["part", "machine", "forms"] [] places_of :=
  Fn.of (st := s_places_of) (N := ["part", "machine", "forms", "found", "number", "row"]) Y 13 30 rfl rfl sc_places_of (by decide) (by decide) (fun _ _ _ _ _ _ us hl => match us, hl with | [_, _, _], _ => rfl) fun f cdv A outer s H E hr hgd tk => (eb_cons (es_asg (ee_lst (ea_cons (ee_view ve_int) ea_nil)) (eg_nm 3 sc_places_of.nd))
  (eb_cons (es_for (passes_of rfl) rfl (ei_enum rfl (Y.free 16) (ea_cons (ee_var 0) ea_nil)) (eg_tup rfl (egs_cons (eg_nm 4 sc_places_of.nd) (egs_cons (eg_nm 5 sc_places_of.nd) egs_nil))) (eb_one (es_expr (ee_mut 3 PySem.F.plainAttrs_list PySem.F.slot_list_append PySem.F.type_list_append mt_append ms_append (pl_slot 3) (ea_cons (ee_view (ve_op op_add2 vw_add (ve_ix (ix_any (hu100 hr)) vw_ix (ve_var 3) (ve_un un_neg vw_neg ve_int)) (ve_fn (fn_size_of Y) hr hgd (vb_pl (pl_slot 5) (vb_pl (pl_slot 1) (vb_d (ve_cmp (op_inA (hu100 hr)) vw_in (ve_var 4) (ve_var 2)) (vb_d (ve_ix (ix_any (hu100 hr)) vw_ix (ve_var 3) (ve_un un_neg vw_neg ve_int)) vb_nil))))))) ea_nil)))))
  (eb_one (es_ret (ee_move 3)))))
theorem sc_does_reach_places : FnScope ["part", "machine", "found", "number"] ["part", "machine", "found", "number"] (defScope s_does_reach_places) := ⟨rfl, rfl, rfl, by decide +kernel, rfl, by decide +kernel, by decide +kernel⟩
def b_does_reach_places : M Fl := (S.ret (E.view (Vw.op2 o_le (Vw.opN b_abs (Vw.cons (Vw.op2 o_sub (Vw.op2 o_ix (Vw.var 2) (Vw.op2 o_ix (Vw.op2 o_ix (Vw.var 0) (Vw.var 3)) (Vw.c (.int 1)))) (Vw.op2 o_ix (Vw.var 2) (Vw.var 3))) Vw.nil)) (Vw.op2 o_ix (Vw.var 1) (Vw.c (.int 1))))))
def does_reach_places : List O → FRes := runF [] 4 b_does_reach_places
theorem fn_does_reach_places (Y : Ya fa fn ts K mg) : Fn P w K mg base "does_reach_places" 1 ["part", "machine", "found", "number"] [] does_reach_places :=
  Fn.of (st := s_does_reach_places) (N := ["part", "machine", "found", "number"]) Y 14 32 rfl rfl sc_does_reach_places (by decide) (by decide) (fun _ _ _ _ _ _ us hl => match us, hl with | [_, _, _, _], _ => rfl) fun f cdv A outer s H E hr hgd tk => (eb_one (es_ret (ee_view (ve_cmp op_le vw_le (ve_callB call_abs vw_abs (va_cons (ve_op op_sub vw_sub (ve_ix (ix_any (hu100 hr)) vw_ix (ve_var 2) (ve_ix (ix_any (hu100 hr)) vw_ix (ve_ix (ix_any (hu100 hr)) vw_ix (ve_var 0) (ve_var 3)) ve_int)) (ve_ix (ix_any (hu100 hr)) vw_ix (ve_var 2) (ve_var 3))) va_nil) (Y.free 31) (hv := bt_abs)) (ve_ix (ix_any (hu100 hr)) vw_ix (ve_var 1) ve_int)))))
theorem sc_misfits_of : FnScope ["part", "machine", "forms", "found", "number"] ["part", "machine", "forms"] (defScope s_misfits_of) := ⟨rfl, rfl, rfl, by decide +kernel, rfl, by decide +kernel, by decide +kernel⟩
def b_misfits_of : M Fl := (S.seq (S.asg (E.callP 3 places_of (Vw.cons (Vw.pl (.slot 0)) (Vw.cons (Vw.pl (.slot 1)) (Vw.cons (Vw.pl (.slot 2)) Vw.nil)))) (G.nm 3))
  (S.ret (E.lc [4] (Wk.seq (E.var 2)) (G.nm 4) (T.view (Vw.not (Vw.callP 4 does_reach_places (Vw.cons (Vw.pl (.slot 0)) (Vw.cons (Vw.pl (.slot 1)) (Vw.cons (Vw.pl (.slot 3)) (Vw.cons (Vw.pl (.slot 4)) Vw.nil))))))) (E.var 4))))
def misfits_of : List O → FRes := runF [] 5 b_misfits_of
theorem fn_misfits_of (Y : Ya fa fn ts K mg) : Fn P w K mg base "misfits_of" 3 ["part", "machine", "forms"] [] misfits_of :=
  Fn.of (st := s_misfits_of) (N := ["part", "machine", "forms", "found", "number"]) Y 15 33 rfl rfl sc_misfits_of (by decide) (by decide) (fun _ _ _ _ _ _ us hl => match us, hl with | [_, _, _], _ => rfl) fun f cdv A outer s H E hr hgd tk => (eb_cons (es_asg (ee_fnP (fn_places_of Y) hr hgd tk (vb_pl (pl_slot 0) (vb_pl (pl_slot 1) (vb_pl (pl_slot 2) vb_nil)))) (eg_nm 3 sc_misfits_of.nd))
  (eb_one (es_ret (ee_lc (own := [("number", 4)]) rfl sc_misfits_of.nd (ei_seq (ee_var 2)) (blkOk_by (N := ["part", "machine", "forms", "found", "number"]) (sc := defScope s_misfits_of) (by decide +kernel)) (fun _ _ _ _ _ => (eg_nm 4 sc_misfits_of.nd)) (fun _ _ _ _ _ => (ets_one (et_view (vt_not (vt_val (ve_fn (fn_does_reach_places Y) hr hgd (vb_pl (pl_slot 0) (vb_pl (pl_slot 1) (vb_pl (pl_slot 3) (vb_pl (pl_slot 4) vb_nil)))))))))) (fun _ _ _ _ _ => (ee_var 4))))))
theorem sc_grown_of : FnScope ["part", "machine", "forms", "chain", "bad", "number"] ["part", "machine"] (defScope s_grown_of) := ⟨rfl, rfl, rfl, by decide +kernel, rfl, by decide +kernel, by decide +kernel⟩
def b_grown_of : M Fl := (S.seq (S.par2 2 3 (A.cons (E.callP 1 jumps_of (Vw.cons (Vw.pl (.slot 0)) Vw.nil)) (A.cons (E.lst A.nil) A.nil)))
  (S.seq (S.asg (E.callP 3 misfits_of (Vw.cons (Vw.pl (.slot 0)) (Vw.cons (Vw.pl (.slot 1)) (Vw.cons (Vw.pl (.slot 2)) Vw.nil)))) (G.nm 4))
  (S.seq (S.while (T.view (Vw.op2 o_ne (Vw.var 4) (Vw.lst Vw.nil))) (S.seq (S.expr (E.mut 3 "list" m_append (A.cons (E.view (Vw.op2 o_ix (Vw.var 4) (Vw.c (.int 0)))) A.nil)))
  (S.seq (S.asg (E.lc [5] (Wk.seq (E.var 2)) (G.nm 5) (T.view (Vw.op2 o_ne (Vw.var 5) (Vw.op2 o_ix (Vw.var 4) (Vw.c (.int 0))))) (E.var 5)) (G.nm 2))
  (S.asg (E.callP 3 misfits_of (Vw.cons (Vw.pl (.slot 0)) (Vw.cons (Vw.pl (.slot 1)) (Vw.cons (Vw.pl (.slot 2)) Vw.nil)))) (G.nm 4)))) 100000)
  (S.ret (E.tup (A.cons (E.move 2) (A.cons (E.move 3) A.nil)))))))
def grown_of : List O → FRes := runF [] 6 b_grown_of
theorem fn_grown_of (Y : Ya fa fn ts K mg) : Fn P w K mg base "grown_of" 4 ["part", "machine"] [] grown_of :=
  Fn.of (st := s_grown_of) (N := ["part", "machine", "forms", "chain", "bad", "number"]) Y 16 34 rfl rfl sc_grown_of (by decide) (by decide) (fun _ _ _ _ _ _ us hl => match us, hl with | [_, _], _ => rfl) fun f cdv A outer s H E hr hgd tk => (eb_cons (es_par2 2 3 sc_grown_of.nd (ea_cons (ee_fnP (fn_jumps_of Y) hr hgd tk (vb_pl (pl_slot 0) vb_nil)) (ea_cons (ee_lst ea_nil) ea_nil)))
  (eb_cons (es_asg (ee_fnP (fn_misfits_of Y) hr hgd tk (vb_pl (pl_slot 0) (vb_pl (pl_slot 1) (vb_pl (pl_slot 2) vb_nil)))) (eg_nm 4 sc_grown_of.nd))
  (eb_cons (es_while 100000 (passes_of rfl) (et_view (vt_cmp (op_neA (hu100 hr)) vw_ne (ve_var 4) (ve_lst va_nil))) (eb_cons (es_expr (ee_mut 3 PySem.F.plainAttrs_list PySem.F.slot_list_append PySem.F.type_list_append mt_append ms_append (pl_slot 3) (ea_cons (ee_view (ve_ix (ix_any (hu100 hr)) vw_ix (ve_var 4) ve_int)) ea_nil)))
  (eb_cons (es_setLc 2 (own := [("number", 5)]) rfl sc_grown_of.nd rfl rfl (by decide) (sw_true rfl rfl rfl (by decide +kernel)) (ei_seq (ee_var 2)) (blkOk_by (N := ["part", "machine", "forms", "chain", "bad", "number"]) (sc := defScope s_grown_of) (by decide +kernel)) (fun _ _ _ _ _ => (eg_nm 5 sc_grown_of.nd)) (fun _ _ _ _ _ => (ets_one (et_view (vt_cmp (op_neA (hu100 hr)) vw_ne (ve_var 5) (ve_ix (ix_any (hu100 hr)) vw_ix (ve_var 4) ve_int))))) (fun _ _ _ _ _ => (ee_var 5)))
  (eb_one (es_asg (ee_fnP (fn_misfits_of Y) hr hgd tk (vb_pl (pl_slot 0) (vb_pl (pl_slot 1) (vb_pl (pl_slot 2) vb_nil)))) (eg_nm 4 sc_grown_of.nd))))))
  (eb_one (es_ret (ee_tup (ea_cons (ee_move 2) (ea_cons (ee_move 3) ea_nil))))))))
theorem sc_rank_of : FnScope ["part", "machine", "forms"] ["part", "machine", "forms"] (defScope s_rank_of) := ⟨rfl, rfl, rfl, by decide +kernel, rfl, by decide +kernel, by decide +kernel⟩
def b_rank_of : M Fl := (S.ret (E.tup (A.cons (E.view (Vw.op2 o_ix (Vw.callP 3 places_of (Vw.cons (Vw.pl (.slot 0)) (Vw.cons (Vw.pl (.slot 1)) (Vw.cons (Vw.pl (.slot 2)) Vw.nil)))) (Vw.op1 o_neg (Vw.c (.int 1))))) (A.cons (E.view (Vw.op1 o_neg (Vw.opN o_len (Vw.cons (Vw.var 2) Vw.nil)))) (A.cons (E.move 2) A.nil)))))
def rank_of : List O → FRes := runF [] 3 b_rank_of
theorem fn_rank_of (Y : Ya fa fn ts K mg) : Fn P w K mg base "rank_of" 3 ["part", "machine", "forms"] [] rank_of :=
  Fn.of (st := s_rank_of) (N := ["part", "machine", "forms"]) Y 17 35 rfl rfl sc_rank_of (by decide) (by decide) (fun _ _ _ _ _ _ us hl => match us, hl with | [_, _, _], _ => rfl) fun f cdv A outer s H E hr hgd tk => (eb_one (es_ret (ee_tup (ea_cons (ee_view (ve_ix (ix_any (hu100 hr)) vw_ix (ve_fn (fn_places_of Y) hr hgd (vb_pl (pl_slot 0) (vb_pl (pl_slot 1) (vb_pl (pl_slot 2) vb_nil)))) (ve_un un_neg vw_neg ve_int))) (ea_cons (ee_view (ve_un un_neg vw_neg (ve_callB call_lenA vw_len (va_cons (ve_var 2) va_nil) (Y.free 5) (hv := bt_len)))) (ea_cons (ee_move 2) ea_nil))))))
theorem sc_least_of : FnScope ["part", "machine", "size", "many", "forms"] ["part", "machine"] (defScope s_least_of) := ⟨rfl, rfl, rfl, by decide +kernel, rfl, by decide +kernel, by decide +kernel⟩
def b_least_of : M Fl := (S.seq (S.for (Wk.seq (E.opN (fun xs => (l_sorted xs).map ol) (A.cons (E.lc [4] (Wk.seq (E.callP 1 all_lists (Vw.cons (Vw.dat (Vw.callP 1 jumps_of (Vw.cons (Vw.pl (.slot 0)) Vw.nil))) Vw.nil))) (G.nm 4) T.yes (E.callP 3 rank_of (Vw.cons (Vw.pl (.slot 0)) (Vw.cons (Vw.pl (.slot 1)) (Vw.cons (Vw.pl (.slot 4)) Vw.nil))))) A.nil))) (G.tup 3 (G.cons (G.nm 2) (G.cons (G.nm 3) (G.cons (G.nm 4) G.nil)))) (S.ifS (T.view (Vw.op2 o_eq (Vw.callP 3 misfits_of (Vw.cons (Vw.pl (.slot 0)) (Vw.cons (Vw.pl (.slot 1)) (Vw.cons (Vw.pl (.slot 4)) Vw.nil)))) (Vw.lst Vw.nil))) (S.ret (E.move 4)) S.nx))
  (S.ret (E.lst A.nil)))
def least_of : List O → FRes := runF [] 5 b_least_of
theorem fn_least_of (Y : Ya fa fn ts K mg) : Fn P w K mg base "least_of" 4 ["part", "machine"] [] least_of :=
  Fn.of (st := s_least_of) (N := ["part", "machine", "size", "many", "forms"]) Y 18 37 rfl rfl sc_least_of (by decide) (by decide) (fun _ _ _ _ _ _ us hl => match us, hl with | [_, _], _ => rfl) fun f cdv A outer s H E hr hgd tk => (eb_cons (es_for (passes_of rfl) rfl (ei_seq (ee_frBE (cr_sortD (hu100 hr)) ls_sorted.fr (ea_cons (ee_lc (own := [("forms", 4)]) rfl sc_least_of.nd (ei_seq (ee_fnP (fn_all_lists Y) hr hgd tk (vb_d (ve_fn (fn_jumps_of Y) hr hgd (vb_pl (pl_slot 0) vb_nil)) vb_nil))) (blkOk_by (N := ["part", "machine", "size", "many", "forms"]) (sc := defScope s_least_of) (by decide +kernel)) (fun _ _ _ _ _ => (eg_nm 4 sc_least_of.nd)) (fun _ _ _ _ _ => ets_nil) (fun _ _ _ _ _ => (ee_fnP (fn_rank_of Y) hr hgd takesW0 (vb_pl (pl_slot 0) (vb_pl (pl_slot 1) (vb_pl (pl_slot 4) vb_nil)))))) ea_nil) (Y.free 36) (hv := bt_sorted))) (eg_tup rfl (egs_cons (eg_nm 2 sc_least_of.nd) (egs_cons (eg_nm 3 sc_least_of.nd) (egs_cons (eg_nm 4 sc_least_of.nd) egs_nil)))) (eb_one (es_if (et_view (vt_cmp (op_eqA (hu100 hr)) vw_eq (ve_fn (fn_misfits_of Y) hr hgd (vb_pl (pl_slot 0) (vb_pl (pl_slot 1) (vb_pl (pl_slot 4) vb_nil)))) (ve_lst va_nil))) (eb_one (es_ret (ee_move 4))) eb_nil)))
  (eb_one (es_ret (ee_lst ea_nil))))
theorem sc_laid_of : FnScope ["part", "machine", "forms"] ["part", "machine"] (defScope s_laid_of) := ⟨rfl, rfl, rfl, by decide +kernel, rfl, by decide +kernel, by decide +kernel⟩
def b_laid_of : M Fl := (S.seq (S.asg (E.view (Vw.ifE (Vw.callP 1 is_even (Vw.cons (Vw.pl (.slot 0)) Vw.nil)) (Vw.op2 o_ix (Vw.callP 2 grown_of (Vw.cons (Vw.pl (.slot 0)) (Vw.cons (Vw.pl (.slot 1)) Vw.nil))) (Vw.c (.int 0))) (Vw.callP 2 least_of (Vw.cons (Vw.pl (.slot 0)) (Vw.cons (Vw.pl (.slot 1)) Vw.nil))))) (G.nm 2))
  (S.ret (E.tup (A.cons (E.var 2) (A.cons (E.callP 3 places_of (Vw.cons (Vw.pl (.slot 0)) (Vw.cons (Vw.pl (.slot 1)) (Vw.cons (Vw.pl (.slot 2)) Vw.nil)))) A.nil)))))
def laid_of : List O → FRes := runF [] 3 b_laid_of
theorem fn_laid_of (Y : Ya fa fn ts K mg) : Fn P w K mg base "laid_of" 5 ["part", "machine"] [] laid_of :=
  Fn.of (st := s_laid_of) (N := ["part", "machine", "forms"]) Y 19 38 rfl rfl sc_laid_of (by decide) (by decide) (fun _ _ _ _ _ _ us hl => match us, hl with | [_, _], _ => rfl) fun f cdv A outer s H E hr hgd tk => (eb_cons (es_asg (ee_view (ve_if (vt_val (ve_fn (fn_is_even Y) hr hgd (vb_pl (pl_slot 0) vb_nil))) (ve_ix (ix_any (hu100 hr)) vw_ix (ve_fn (fn_grown_of Y) hr hgd (vb_pl (pl_slot 0) (vb_pl (pl_slot 1) vb_nil))) ve_int) (ve_fn (fn_least_of Y) hr hgd (vb_pl (pl_slot 0) (vb_pl (pl_slot 1) vb_nil))))) (eg_nm 2 sc_laid_of.nd))
  (eb_one (es_ret (ee_tup (ea_cons (ee_var 2) (ea_cons (ee_fnP (fn_places_of Y) hr hgd tk (vb_pl (pl_slot 0) (vb_pl (pl_slot 1) (vb_pl (pl_slot 2) vb_nil)))) ea_nil))))))
theorem sc_size_as_laid : FnScope ["part", "machine"] ["part", "machine"] (defScope s_size_as_laid) := ⟨rfl, rfl, rfl, by decide +kernel, rfl, by decide +kernel, by decide +kernel⟩
def b_size_as_laid : M Fl := (S.ret (E.view (Vw.op2 o_ix (Vw.op2 o_ix (Vw.callP 2 laid_of (Vw.cons (Vw.pl (.slot 0)) (Vw.cons (Vw.pl (.slot 1)) Vw.nil))) (Vw.c (.int 1))) (Vw.op1 o_neg (Vw.c (.int 1))))))
def size_as_laid : List O → FRes := runF [] 2 b_size_as_laid
theorem fn_size_as_laid (Y : Ya fa fn ts K mg) : Fn P w K mg base "size_as_laid" 6 ["part", "machine"] [] size_as_laid :=
  Fn.of (st := s_size_as_laid) (N := ["part", "machine"]) Y 20 39 rfl rfl sc_size_as_laid (by decide) (by decide) (fun _ _ _ _ _ _ us hl => match us, hl with | [_, _], _ => rfl) fun f cdv A outer s H E hr hgd tk => (eb_one (es_ret (ee_view (ve_ix (ix_any (hu100 hr)) vw_ix (ve_ix (ix_any (hu100 hr)) vw_ix (ve_fn (fn_laid_of Y) hr hgd (vb_pl (pl_slot 0) (vb_pl (pl_slot 1) vb_nil))) ve_int) (ve_un un_neg vw_neg ve_int)))))
theorem sc_need_order : FnScope ["book", "order", "one"] ["book", "order"] (defScope s_need_order) := ⟨rfl, rfl, rfl, by decide +kernel, rfl, by decide +kernel, by decide +kernel⟩
def b_need_order : M Fl := (S.seq (S.ifS (T.or (T.view (Vw.not (Vw.op1 (isi "list") (Vw.var 1)))) (T.not (T.val (E.opN b_all (A.cons (E.lc [2] (Wk.seq (E.var 1)) (G.nm 2) T.yes (E.callP 3 is_integer (Vw.cons (Vw.pl (.slot 2)) (Vw.cons (Vw.dat (Vw.c (.int 0))) (Vw.cons (Vw.dat (Vw.op2 o_sub (Vw.opN o_len (Vw.cons (Vw.var 0) Vw.nil)) (Vw.c (.int 1)))) Vw.nil))))) A.nil))))) (S.raise "NoOrder") S.nx)
  (S.ifS (T.view (Vw.op2 o_ne (Vw.opN (fun xs => (l_sorted xs).map dl) (Vw.cons (Vw.var 1) Vw.nil)) (Vw.op1 (fun x => (l_range1 x).map dl) (Vw.opN o_len (Vw.cons (Vw.var 0) Vw.nil))))) (S.raise "NoOrder") S.nx))
def need_order : List O → FRes := runF [] 3 b_need_order
theorem fn_need_order (Y : Ya fa fn ts K mg) : Fn P w K mg base "need_order" 2 ["book", "order"] [] need_order :=
  Fn.of (st := s_need_order) (N := ["book", "order", "one"]) Y 21 44 rfl rfl sc_need_order (by decide) (by decide) (fun _ _ _ _ _ _ us hl => match us, hl with | [_, _], _ => rfl) fun f cdv A outer s H E hr hgd tk => (eb_cons (es_if (EW.et (ew_or (et_view (vt_not (vt_val (ve_isi (ve_var 1) (Y.free 0) (Y.free 40) (hv := bt_list))))) (ew_or1 (et_not (et_val (ee_callBE (cr_all rfl) vw_all isd_all (ea_cons (ee_lc (own := [("one", 2)]) rfl sc_need_order.nd (ei_seq (ee_var 1)) (blkOk_by (N := ["book", "order", "one"]) (sc := defScope s_need_order) (by decide +kernel)) (fun _ _ _ _ _ => (eg_nm 2 sc_need_order.nd)) (fun _ _ _ _ _ => ets_nil) (fun _ _ _ _ _ => (ee_fnP (fn_is_integer Y) hr hgd takesW0 (vb_pl (pl_slot 2) (vb_d ve_int (vb_d (ve_op op_sub vw_sub (ve_callB call_lenA vw_len (va_cons (ve_var 0) va_nil) (Y.free 5) (hv := bt_len)) ve_int) vb_nil)))))) ea_nil) (Y.free 21) (hv := bt_all))))))) (eb_one (es_raiseY Y 41 42 tk)) eb_nil)
  (eb_one (es_if (et_view (vt_cmp (op_neA (hu100 hr)) vw_ne (ve_callB (cr_sortD (hu100 hr)) ls_sorted.vw (va_cons (ve_var 1) va_nil) (Y.free 36) (hv := bt_sorted)) (ve_listR1 (ve_callB call_lenA vw_len (va_cons (ve_var 0) va_nil) (Y.free 5) (hv := bt_len)) (Y.free 40) (Y.free 43)))) (eb_one (es_raiseY Y 41 42 tk)) eb_nil)))
theorem sc_need_room : FnScope ["book", "room", "one"] ["book", "room"] (defScope s_need_room) := ⟨rfl, rfl, rfl, by decide +kernel, rfl, by decide +kernel, by decide +kernel⟩
def b_need_room : M Fl := (S.seq (S.ifS (T.view (Vw.or (Vw.not (Vw.op1 (isi "list") (Vw.var 1))) (Vw.op2 o_ne (Vw.opN o_len (Vw.cons (Vw.var 1) Vw.nil)) (Vw.opN o_len (Vw.cons (Vw.var 0) Vw.nil))))) (S.raise "NoRoom") S.nx)
  (S.ifS (T.not (T.val (E.opN b_all (A.cons (E.lc [2] (Wk.seq (E.var 1)) (G.nm 2) T.yes (E.callP 3 is_integer (Vw.cons (Vw.pl (.slot 2)) (Vw.cons (Vw.dat (Vw.c (.int 0))) (Vw.cons (Vw.dat (Vw.c (.int 9999))) Vw.nil))))) A.nil)))) (S.raise "NoRoom") S.nx))
def need_room : List O → FRes := runF [] 3 b_need_room
theorem fn_need_room (Y : Ya fa fn ts K mg) : Fn P w K mg base "need_room" 2 ["book", "room"] [] need_room :=
  Fn.of (st := s_need_room) (N := ["book", "room", "one"]) Y 22 48 rfl rfl sc_need_room (by decide) (by decide) (fun _ _ _ _ _ _ us hl => match us, hl with | [_, _], _ => rfl) fun f cdv A outer s H E hr hgd tk => (eb_cons (es_if (et_view (vt_of (vtw_or (vt_not (vt_val (ve_isi (ve_var 1) (Y.free 0) (Y.free 40) (hv := bt_list)))) (vtw_or1 (vt_cmp (op_neA (hu100 hr)) vw_ne (ve_callB call_lenA vw_len (va_cons (ve_var 1) va_nil) (Y.free 5) (hv := bt_len)) (ve_callB call_lenA vw_len (va_cons (ve_var 0) va_nil) (Y.free 5) (hv := bt_len))))))) (eb_one (es_raiseY Y 45 46 tk)) eb_nil)
  (eb_one (es_if (et_not (et_val (ee_callBE (cr_all rfl) vw_all isd_all (ea_cons (ee_lc (own := [("one", 2)]) rfl sc_need_room.nd (ei_seq (ee_var 1)) (blkOk_by (N := ["book", "room", "one"]) (sc := defScope s_need_room) (by decide +kernel)) (fun _ _ _ _ _ => (eg_nm 2 sc_need_room.nd)) (fun _ _ _ _ _ => ets_nil) (fun _ _ _ _ _ => (ee_fnP (fn_is_integer Y) hr hgd takesW0 (vb_pl (pl_slot 2) (vb_d ve_int (vb_d (ve_gint (Y.int 47)) vb_nil)))))) ea_nil) (Y.free 21) (hv := bt_all)))) (eb_one (es_raiseY Y 45 46 tk)) eb_nil)))
theorem sc_is_island : FnScope ["book", "thing", "one"] ["book", "thing"] (defScope s_is_island) := ⟨rfl, rfl, rfl, by decide +kernel, rfl, by decide +kernel, by decide +kernel⟩
def b_is_island : M Fl := (S.seq (S.ifS (T.view (Vw.or (Vw.not (Vw.op1 (isi "tuple") (Vw.var 1))) (Vw.op2 o_ne (Vw.opN o_len (Vw.cons (Vw.var 1) Vw.nil)) (Vw.c (.int 2))))) (S.ret (E.view (Vw.c (.bool false)))) S.nx)
  (S.ret (E.opN b_all (A.cons (E.lc [2] (Wk.seq (E.var 1)) (G.nm 2) T.yes (E.callP 3 is_integer (Vw.cons (Vw.pl (.slot 2)) (Vw.cons (Vw.dat (Vw.c (.int 0))) (Vw.cons (Vw.dat (Vw.op2 o_sub (Vw.opN o_len (Vw.cons (Vw.var 0) Vw.nil)) (Vw.c (.int 1)))) Vw.nil))))) A.nil))))
def is_island : List O → FRes := runF [] 3 b_is_island
theorem fn_is_island (Y : Ya fa fn ts K mg) : Fn P w K mg base "is_island" 2 ["book", "thing"] [] is_island :=
  Fn.of (st := s_is_island) (N := ["book", "thing", "one"]) Y 23 49 rfl rfl sc_is_island (by decide) (by decide) (fun _ _ _ _ _ _ us hl => match us, hl with | [_, _], _ => rfl) fun f cdv A outer s H E hr hgd tk => (eb_cons (es_if (et_view (vt_of (vtw_or (vt_not (vt_val (ve_isi (ve_var 1) (Y.free 0) (Y.free 4) (hv := bt_tuple)))) (vtw_or1 (vt_cmp (op_neA (hu100 hr)) vw_ne (ve_callB call_lenA vw_len (va_cons (ve_var 1) va_nil) (Y.free 5) (hv := bt_len)) ve_int))))) (eb_one (es_ret (ee_view ve_bl))) eb_nil)
  (eb_one (es_ret (ee_callBE (cr_all rfl) vw_all isd_all (ea_cons (ee_lc (own := [("one", 2)]) rfl sc_is_island.nd (ei_seq (ee_var 1)) (blkOk_by (N := ["book", "thing", "one"]) (sc := defScope s_is_island) (by decide +kernel)) (fun _ _ _ _ _ => (eg_nm 2 sc_is_island.nd)) (fun _ _ _ _ _ => ets_nil) (fun _ _ _ _ _ => (ee_fnP (fn_is_integer Y) hr hgd takesW0 (vb_pl (pl_slot 2) (vb_d ve_int (vb_d (ve_op op_sub vw_sub (ve_callB call_lenA vw_len (va_cons (ve_var 0) va_nil) (Y.free 5) (hv := bt_len)) ve_int) vb_nil)))))) ea_nil) (Y.free 21) (hv := bt_all)))))
theorem sc_with_islands_of : FnScope ["book", "islands", "found", "number", "part", "place", "goal"] ["book", "islands"] (defScope s_with_islands_of) := ⟨rfl, rfl, rfl, by decide +kernel, rfl, by decide +kernel, by decide +kernel⟩
def b_with_islands_of : M Fl := (S.seq (S.asg (E.lst A.nil) (G.nm 2))
  (S.seq (S.for (Wk.enum (A.cons (E.var 0) A.nil)) (G.tup 2 (G.cons (G.nm 3) (G.cons (G.nm 4) G.nil))) (S.expr (E.mut 2 "list" m_append (A.cons (E.op2 o_add (E.var 4) (E.opN b_tuple (A.cons (E.lc [5, 6] (Wk.seq (E.var 1)) (G.tup 2 (G.cons (G.nm 5) (G.cons (G.nm 6) G.nil))) (T.view (Vw.op2 o_eq (Vw.var 5) (Vw.var 3))) (E.view (Vw.tup (Vw.cons (Vw.c (.str "far")) (Vw.cons (Vw.var 6) Vw.nil))))) A.nil))) A.nil))))
  (S.ret (E.view (Vw.opN b_tuple (Vw.cons (Vw.var 2) Vw.nil))))))
def with_islands_of : List O → FRes := runF [] 7 b_with_islands_of
theorem fn_with_islands_of (Y : Ya fa fn ts K mg) : Fn P w K mg base "with_islands_of" 1 ["book", "islands"] [] with_islands_of :=
  Fn.of (st := s_with_islands_of) (N := ["book", "islands", "found", "number", "part", "place", "goal"]) Y 24 50 rfl rfl sc_with_islands_of (by decide) (by decide) (fun _ _ _ _ _ _ us hl => match us, hl with | [_, _], _ => rfl) fun f cdv A outer s H E hr hgd tk => (eb_cons (es_asg (ee_lst ea_nil) (eg_nm 2 sc_with_islands_of.nd))
  (eb_cons (es_for (passes_of rfl) rfl (ei_enum rfl (Y.free 16) (ea_cons (ee_var 0) ea_nil)) (eg_tup rfl (egs_cons (eg_nm 3 sc_with_islands_of.nd) (egs_cons (eg_nm 4 sc_with_islands_of.nd) egs_nil))) (eb_one (es_expr (ee_mut 2 PySem.F.plainAttrs_list PySem.F.slot_list_append PySem.F.type_list_append mt_append ms_append (pl_slot 2) (ea_cons (ee_op op_add2 ok_add (ee_var 4) (ee_callTyE call_tuple_of vw_tuple isd_tuple (ea_cons (ee_lc (own := [("place", 5), ("goal", 6)]) rfl sc_with_islands_of.nd (ei_seq (ee_var 1)) (blkOk_by (N := ["book", "islands", "found", "number", "part", "place", "goal"]) (sc := defScope s_with_islands_of) (by decide +kernel)) (fun _ _ _ _ _ => (eg_tup rfl (egs_cons (eg_nm 5 sc_with_islands_of.nd) (egs_cons (eg_nm 6 sc_with_islands_of.nd) egs_nil)))) (fun _ _ _ _ _ => (ets_one (et_view (vt_cmp (op_eqA (hu100 hr)) vw_eq (ve_var 5) (ve_var 3))))) (fun _ _ _ _ _ => (ee_view (ve_tup (va_cons ve_str (va_cons (ve_var 6) va_nil)))))) ea_nil) (Y.free 4) (hv := bt_tuple))) ea_nil)))))
  (eb_one (es_ret (ee_view (ve_callTy call_tuple_of vw_tuple (va_cons (ve_var 2) va_nil) (Y.free 4) (hv := bt_tuple)))))))
theorem sc_need_islands : FnScope ["book", "islands", "one", "part"] ["book", "islands"] (defScope s_need_islands) := ⟨rfl, rfl, rfl, by decide +kernel, rfl, by decide +kernel, by decide +kernel⟩
def b_need_islands : M Fl := (S.seq (S.ifS (T.or (T.view (Vw.not (Vw.op1 (isi "list") (Vw.var 1)))) (T.not (T.val (E.opN b_all (A.cons (E.lc [2] (Wk.seq (E.var 1)) (G.nm 2) T.yes (E.callP 2 is_island (Vw.cons (Vw.pl (.slot 0)) (Vw.cons (Vw.pl (.slot 2)) Vw.nil)))) A.nil))))) (S.raise "NoIslands") S.nx)
  (S.seq (S.ifS (T.view (Vw.op2 o_ne (Vw.var 1) (Vw.op1 v_setP (Vw.var 1)))) (S.raise "NoIslands") S.nx)
  (S.ifS (T.val (E.opN b_any (A.cons (E.lc [3] (Wk.seq (E.callP 2 with_islands_of (Vw.cons (Vw.pl (.slot 0)) (Vw.cons (Vw.pl (.slot 1)) Vw.nil)))) (G.nm 3) T.yes (E.view (Vw.op2 o_gt (Vw.opN o_len (Vw.cons (Vw.var 3) Vw.nil)) (Vw.c (.int 20))))) A.nil))) (S.raise "NoIslands") S.nx)))
def need_islands : List O → FRes := runF [] 4 b_need_islands
theorem fn_need_islands (Y : Ya fa fn ts K mg) : Fn P w K mg base "need_islands" 3 ["book", "islands"] [] need_islands :=
  Fn.of (st := s_need_islands) (N := ["book", "islands", "one", "part"]) Y 25 54 rfl rfl sc_need_islands (by decide) (by decide) (fun _ _ _ _ _ _ us hl => match us, hl with | [_, _], _ => rfl) fun f cdv A outer s H E hr hgd tk => (eb_cons (es_if (EW.et (ew_or (et_view (vt_not (vt_val (ve_isi (ve_var 1) (Y.free 0) (Y.free 40) (hv := bt_list))))) (ew_or1 (et_not (et_val (ee_callBE (cr_all rfl) vw_all isd_all (ea_cons (ee_lc (own := [("one", 2)]) rfl sc_need_islands.nd (ei_seq (ee_var 1)) (blkOk_by (N := ["book", "islands", "one", "part"]) (sc := defScope s_need_islands) (by decide +kernel)) (fun _ _ _ _ _ => (eg_nm 2 sc_need_islands.nd)) (fun _ _ _ _ _ => ets_nil) (fun _ _ _ _ _ => (ee_fnP (fn_is_island Y) hr hgd takesW0 (vb_pl (pl_slot 0) (vb_pl (pl_slot 2) vb_nil))))) ea_nil) (Y.free 21) (hv := bt_all))))))) (eb_one (es_raiseY Y 51 52 tk)) eb_nil)
  (eb_cons (es_if (et_view (vt_cmp (op_neA (hu100 hr)) vw_ne (ve_var 1) (ve_setP (ve_var 1) (hu100 hr) (Y.free 36) (Y.free 53)))) (eb_one (es_raiseY Y 51 52 tk)) eb_nil)
  (eb_one (es_if (et_val (ee_callBE (cr_any rfl) vw_any isd_any (ea_cons (ee_lc (own := [("part", 3)]) rfl sc_need_islands.nd (ei_seq (ee_fnP (fn_with_islands_of Y) hr hgd tk (vb_pl (pl_slot 0) (vb_pl (pl_slot 1) vb_nil)))) (blkOk_by (N := ["book", "islands", "one", "part"]) (sc := defScope s_need_islands) (by decide +kernel)) (fun _ _ _ _ _ => (eg_nm 3 sc_need_islands.nd)) (fun _ _ _ _ _ => ets_nil) (fun _ _ _ _ _ => (ee_view (ve_cmp op_gt vw_gt (ve_callB call_lenA vw_len (va_cons (ve_var 3) va_nil) (Y.free 5) (hv := bt_len)) (ve_gint (Y.int 20)))))) ea_nil) (Y.free 18) (hv := bt_any))) (eb_one (es_raiseY Y 51 52 tk)) eb_nil))))
theorem sc_need_pairs : FnScope ["book", "pairs"] ["book", "pairs"] (defScope s_need_pairs) := ⟨rfl, rfl, rfl, by decide +kernel, rfl, by decide +kernel, by decide +kernel⟩
def b_need_pairs : M Fl := (S.seq (S.expr (E.callP 2 need_islands (Vw.cons (Vw.pl (.slot 0)) (Vw.cons (Vw.pl (.slot 1)) Vw.nil))))
  (S.ifS (T.view (Vw.op2 o_gt (Vw.opN o_len (Vw.cons (Vw.var 1) Vw.nil)) (Vw.c (.int 6)))) (S.raise "NoIslands") S.nx))
def need_pairs : List O → FRes := runF [] 2 b_need_pairs
theorem fn_need_pairs (Y : Ya fa fn ts K mg) : Fn P w K mg base "need_pairs" 4 ["book", "pairs"] [] need_pairs :=
  Fn.of (st := s_need_pairs) (N := ["book", "pairs"]) Y 26 56 rfl rfl sc_need_pairs (by decide) (by decide) (fun _ _ _ _ _ _ us hl => match us, hl with | [_, _], _ => rfl) fun f cdv A outer s H E hr hgd tk => (eb_cons (es_expr (ee_fnP (fn_need_islands Y) hr hgd tk (vb_pl (pl_slot 0) (vb_pl (pl_slot 1) vb_nil))))
  (eb_one (es_if (et_view (vt_cmp op_gt vw_gt (ve_callB call_lenA vw_len (va_cons (ve_var 1) va_nil) (Y.free 5) (hv := bt_len)) (ve_gint (Y.int 55)))) (eb_one (es_raiseY Y 51 52 tk)) eb_nil)))
theorem sc_extents_by : FnScope ["order", "sizes", "found", "at", "part", "first"] ["order", "sizes"] (defScope s_extents_by) := ⟨rfl, rfl, rfl, by decide +kernel, rfl, by decide +kernel, by decide +kernel⟩
def b_extents_by : M Fl := (S.seq (S.par2 2 3 (A.cons (E.fr (Vw.op2 (fun x y => (l_mul x y).map ol) (Vw.lst (Vw.cons (Vw.tup (Vw.cons (Vw.c (.int 0)) (Vw.cons (Vw.c (.int 0)) Vw.nil))) Vw.nil)) (Vw.opN o_len (Vw.cons (Vw.var 0) Vw.nil)))) (A.cons (E.view (Vw.c (.int 0))) A.nil)))
  (S.seq (S.for (Wk.seq (E.var 0)) (G.nm 4) (S.seq (S.asg (E.view (Vw.op2 v_mulA (Vw.op2 o_fdiv (Vw.op2 o_sub (Vw.op2 v_add (Vw.var 3) (Vw.c (.int 16))) (Vw.c (.int 1))) (Vw.c (.int 16))) (Vw.c (.int 16)))) (G.nm 5))
  (S.seq (S.asg (E.view (Vw.op2 v_add (Vw.var 5) (Vw.op2 o_ix (Vw.var 1) (Vw.var 4)))) (G.nm 3))
  (S.asg (E.view (Vw.tup (Vw.cons (Vw.var 5) (Vw.cons (Vw.var 3) Vw.nil)))) (G.subV (.slot 2) st_any (Vw.var 4))))))
  (S.ret (E.move 2))))
def extents_by : List O → FRes := runF [] 6 b_extents_by
theorem fn_extents_by (Y : Ya fa fn ts K mg) : Fn P w K mg base "extents_by" 1 ["order", "sizes"] [] extents_by :=
  Fn.of (st := s_extents_by) (N := ["order", "sizes", "found", "at", "part", "first"]) Y 27 58 rfl rfl sc_extents_by (by decide) (by decide) (fun _ _ _ _ _ _ us hl => match us, hl with | [_, _], _ => rfl) fun f cdv A outer s H E hr hgd tk => (eb_cons (es_par2 2 3 sc_extents_by.nd (ea_cons (ee_frOp op_mul2 ls_mul.fr (ve_lst (va_cons (ve_tup (va_cons ve_int (va_cons ve_int va_nil))) va_nil)) (ve_callB call_lenA vw_len (va_cons (ve_var 0) va_nil) (Y.free 5) (hv := bt_len))) (ea_cons (ee_view ve_int) ea_nil)))
  (eb_cons (es_for (passes_of rfl) rfl (ei_seq (ee_var 0)) (eg_nm 4 sc_extents_by.nd) (eb_cons (es_asg (ee_view (ve_op op_mul2 vw_mulA (ve_op op_fdiv vw_fdiv (ve_op op_sub vw_sub (ve_op op_add2 vw_add (ve_var 3) (ve_gint (Y.int 57))) ve_int) (ve_gint (Y.int 57))) (ve_gint (Y.int 57)))) (eg_nm 5 sc_extents_by.nd))
  (eb_cons (es_asg (ee_view (ve_op op_add2 vw_add (ve_var 5) (ve_ix (ix_any (hu100 hr)) vw_ix (ve_var 1) (ve_var 4)))) (eg_nm 3 sc_extents_by.nd))
  (eb_one (es_asg (ee_view (ve_tup (va_cons (ve_var 5) (va_cons (ve_var 3) va_nil)))) (eg_subV (.slot 2) (set_any (hu100 hr)) ss_any (pl_slot 2) (ve_var 4)))))))
  (eb_one (es_ret (ee_move 2)))))
theorem sc_bytes_of : FnScope ["book", "machine", "room", "part", "free"] ["book", "machine", "room"] (defScope s_bytes_of) := ⟨rfl, rfl, rfl, by decide +kernel, rfl, by decide +kernel, by decide +kernel⟩
def b_bytes_of : M Fl := (S.ret (E.lc [3, 4] (Wk.zipS (A.cons (E.var 0) (A.cons (E.var 2) A.nil))) (G.tup 2 (G.cons (G.nm 3) (G.cons (G.nm 4) G.nil))) T.yes (E.view (Vw.op2 v_add (Vw.callP 2 size_as_laid (Vw.cons (Vw.pl (.slot 3)) (Vw.cons (Vw.pl (.slot 1)) Vw.nil))) (Vw.var 4)))))
def bytes_of : List O → FRes := runF [] 5 b_bytes_of
theorem fn_bytes_of (Y : Ya fa fn ts K mg) : Fn P w K mg base "bytes_of" 7 ["book", "machine", "room"] [] bytes_of :=
  Fn.of (st := s_bytes_of) (N := ["book", "machine", "room", "part", "free"]) Y 28 60 rfl rfl sc_bytes_of (by decide) (by decide) (fun _ _ _ _ _ _ us hl => match us, hl with | [_, _, _], _ => rfl) fun f cdv A outer s H E hr hgd tk => (eb_one (es_ret (ee_lc (own := [("part", 3), ("free", 4)]) rfl sc_bytes_of.nd (ei_zipS rfl (Y.free 59) (ea_cons (ee_var 0) (ea_cons (ee_var 2) ea_nil))) (blkOk_by (N := ["book", "machine", "room", "part", "free"]) (sc := defScope s_bytes_of) (by decide +kernel)) (fun _ _ _ _ _ => (eg_tup rfl (egs_cons (eg_nm 3 sc_bytes_of.nd) (egs_cons (eg_nm 4 sc_bytes_of.nd) egs_nil)))) (fun _ _ _ _ _ => ets_nil) (fun _ _ _ _ _ => (ee_view (ve_op op_add2 vw_add (ve_fn (fn_size_as_laid Y) hr hgd (vb_pl (pl_slot 3) (vb_pl (pl_slot 1) vb_nil))) (ve_var 4)))))))
theorem sc_extents_of : FnScope ["book", "machine", "order", "room"] ["book", "machine", "order", "room"] (defScope s_extents_of) := ⟨rfl, rfl, rfl, by decide +kernel, rfl, by decide +kernel, by decide +kernel⟩
def b_extents_of : M Fl := (S.ret (E.callP 2 extents_by (Vw.cons (Vw.pl (.slot 2)) (Vw.cons (Vw.dat (Vw.callP 3 bytes_of (Vw.cons (Vw.pl (.slot 0)) (Vw.cons (Vw.pl (.slot 1)) (Vw.cons (Vw.pl (.slot 3)) Vw.nil))))) Vw.nil))))
def extents_of : List O → FRes := runF [] 4 b_extents_of
theorem fn_extents_of (Y : Ya fa fn ts K mg) : Fn P w K mg base "extents_of" 8 ["book", "machine", "order", "room"] [] extents_of :=
  Fn.of (st := s_extents_of) (N := ["book", "machine", "order", "room"]) Y 29 61 rfl rfl sc_extents_of (by decide) (by decide) (fun _ _ _ _ _ _ us hl => match us, hl with | [_, _, _, _], _ => rfl) fun f cdv A outer s H E hr hgd tk => (eb_one (es_ret (ee_fnP (fn_extents_by Y) hr hgd tk (vb_pl (pl_slot 2) (vb_d (ve_fn (fn_bytes_of Y) hr hgd (vb_pl (pl_slot 0) (vb_pl (pl_slot 1) (vb_pl (pl_slot 3) vb_nil)))) vb_nil)))))
theorem sc_does_reach : FnScope ["machine", "rows", "one", "other"] ["machine", "rows", "one", "other"] (defScope s_does_reach) := ⟨rfl, rfl, rfl, by decide +kernel, rfl, by decide +kernel, by decide +kernel⟩
def b_does_reach : M Fl := (S.ret (E.view (Vw.op2 o_le (Vw.op2 o_sub (Vw.opN b_max (Vw.cons (Vw.op2 o_ix (Vw.op2 o_ix (Vw.var 1) (Vw.var 2)) (Vw.c (.int 1))) (Vw.cons (Vw.op2 o_ix (Vw.op2 o_ix (Vw.var 1) (Vw.var 3)) (Vw.c (.int 1))) Vw.nil))) (Vw.opN b_min (Vw.cons (Vw.op2 o_ix (Vw.op2 o_ix (Vw.var 1) (Vw.var 2)) (Vw.c (.int 0))) (Vw.cons (Vw.op2 o_ix (Vw.op2 o_ix (Vw.var 1) (Vw.var 3)) (Vw.c (.int 0))) Vw.nil)))) (Vw.op2 o_ix (Vw.var 0) (Vw.c (.int 4))))))
def does_reach : List O → FRes := runF [] 4 b_does_reach
theorem fn_does_reach (Y : Ya fa fn ts K mg) : Fn P w K mg base "does_reach" 1 ["machine", "rows", "one", "other"] [] does_reach :=
  Fn.of (st := s_does_reach) (N := ["machine", "rows", "one", "other"]) Y 30 64 rfl rfl sc_does_reach (by decide) (by decide) (fun _ _ _ _ _ _ us hl => match us, hl with | [_, _, _, _], _ => rfl) fun f cdv A outer s H E hr hgd tk => (eb_one (es_ret (ee_view (ve_cmp op_le vw_le (ve_op op_sub vw_sub (ve_callB (call_maxA rfl) vw_max (va_cons (ve_ix (ix_any (hu100 hr)) vw_ix (ve_ix (ix_any (hu100 hr)) vw_ix (ve_var 1) (ve_var 2)) ve_int) (va_cons (ve_ix (ix_any (hu100 hr)) vw_ix (ve_ix (ix_any (hu100 hr)) vw_ix (ve_var 1) (ve_var 3)) ve_int) va_nil)) (Y.free 62) (hv := bt_max)) (ve_callB (call_minA rfl) vw_min (va_cons (ve_ix (ix_any (hu100 hr)) vw_ix (ve_ix (ix_any (hu100 hr)) vw_ix (ve_var 1) (ve_var 2)) ve_int) (va_cons (ve_ix (ix_any (hu100 hr)) vw_ix (ve_ix (ix_any (hu100 hr)) vw_ix (ve_var 1) (ve_var 3)) ve_int) va_nil)) (Y.free 63) (hv := bt_min))) (ve_ix (ix_any (hu100 hr)) vw_ix (ve_var 0) ve_int)))))
theorem sc_does_reach_islands : FnScope ["machine", "rows", "one", "other"] ["machine", "rows", "one", "other"] (defScope s_does_reach_islands) := ⟨rfl, rfl, rfl, by decide +kernel, rfl, by decide +kernel, by decide +kernel⟩
def b_does_reach_islands : M Fl := (S.ret (E.view (Vw.op2 o_le (Vw.op2 o_sub (Vw.opN b_max (Vw.cons (Vw.op2 o_ix (Vw.op2 o_ix (Vw.var 1) (Vw.var 2)) (Vw.c (.int 1))) (Vw.cons (Vw.op2 o_ix (Vw.op2 o_ix (Vw.var 1) (Vw.var 3)) (Vw.c (.int 1))) Vw.nil))) (Vw.opN b_min (Vw.cons (Vw.op2 o_ix (Vw.op2 o_ix (Vw.var 1) (Vw.var 2)) (Vw.c (.int 0))) (Vw.cons (Vw.op2 o_ix (Vw.op2 o_ix (Vw.var 1) (Vw.var 3)) (Vw.c (.int 0))) Vw.nil)))) (Vw.op2 o_ix (Vw.var 0) (Vw.c (.int 4))))))
def does_reach_islands : List O → FRes := runF [] 4 b_does_reach_islands
theorem fn_does_reach_islands (Y : Ya fa fn ts K mg) : Fn P w K mg base "does_reach_islands" 1 ["machine", "rows", "one", "other"] [] does_reach_islands :=
  Fn.of (st := s_does_reach_islands) (N := ["machine", "rows", "one", "other"]) Y 31 65 rfl rfl sc_does_reach_islands (by decide) (by decide) (fun _ _ _ _ _ _ us hl => match us, hl with | [_, _, _, _], _ => rfl) fun f cdv A outer s H E hr hgd tk => (eb_one (es_ret (ee_view (ve_cmp op_le vw_le (ve_op op_sub vw_sub (ve_callB (call_maxA rfl) vw_max (va_cons (ve_ix (ix_any (hu100 hr)) vw_ix (ve_ix (ix_any (hu100 hr)) vw_ix (ve_var 1) (ve_var 2)) ve_int) (va_cons (ve_ix (ix_any (hu100 hr)) vw_ix (ve_ix (ix_any (hu100 hr)) vw_ix (ve_var 1) (ve_var 3)) ve_int) va_nil)) (Y.free 62) (hv := bt_max)) (ve_callB (call_minA rfl) vw_min (va_cons (ve_ix (ix_any (hu100 hr)) vw_ix (ve_ix (ix_any (hu100 hr)) vw_ix (ve_var 1) (ve_var 2)) ve_int) (va_cons (ve_ix (ix_any (hu100 hr)) vw_ix (ve_ix (ix_any (hu100 hr)) vw_ix (ve_var 1) (ve_var 3)) ve_int) va_nil)) (Y.free 63) (hv := bt_min))) (ve_ix (ix_any (hu100 hr)) vw_ix (ve_var 0) ve_int)))))
theorem sc_first_way : FnScope ["machine", "rows", "known", "posts", "part", "some", "post"] ["machine", "rows", "known", "posts", "part"] (defScope s_first_way) := ⟨rfl, rfl, rfl, by decide +kernel, rfl, by decide +kernel, by decide +kernel⟩
def b_first_way : M Fl := (S.seq (S.asg (E.lc [6] (Wk.seq (E.var 3)) (G.nm 6) (T.view (Vw.and (Vw.op2 o_in (Vw.var 6) (Vw.var 2)) (Vw.callP 4 does_reach_islands (Vw.cons (Vw.pl (.slot 0)) (Vw.cons (Vw.pl (.slot 1)) (Vw.cons (Vw.pl (.slot 4)) (Vw.cons (Vw.pl (.slot 6)) Vw.nil))))))) (E.view (Vw.op2 v_add (Vw.lst (Vw.cons (Vw.var 6) Vw.nil)) (Vw.op2 o_ix (Vw.var 2) (Vw.var 6))))) (G.nm 5))
  (S.ret (E.view (Vw.ifE (Vw.op2 o_ne (Vw.var 5) (Vw.lst Vw.nil)) (Vw.opN b_minL (Vw.cons (Vw.var 5) Vw.nil)) (Vw.c .none)))))
def first_way : List O → FRes := runF [] 7 b_first_way
theorem fn_first_way (Y : Ya fa fn ts K mg) : Fn P w K mg base "first_way" 2 ["machine", "rows", "known", "posts", "part"] [] first_way :=
  Fn.of (st := s_first_way) (N := ["machine", "rows", "known", "posts", "part", "some", "post"]) Y 32 66 rfl rfl sc_first_way (by decide) (by decide) (fun _ _ _ _ _ _ us hl => match us, hl with | [_, _, _, _, _], _ => rfl) fun f cdv A outer s H E hr hgd tk => (eb_cons (es_setLc 5 (own := [("post", 6)]) rfl sc_first_way.nd rfl rfl (by decide) (sw_true rfl rfl rfl (by decide +kernel)) (ei_seq (ee_var 3)) (blkOk_by (N := ["machine", "rows", "known", "posts", "part", "some", "post"]) (sc := defScope s_first_way) (by decide +kernel)) (fun _ _ _ _ _ => (eg_nm 6 sc_first_way.nd)) (fun _ _ _ _ _ => (ets_one (et_view (vt_of (vtw_and (vt_cmp (op_inA (hu100 hr)) vw_in (ve_var 6) (ve_var 2)) (vtw_and1 (vt_val (ve_fn (fn_does_reach_islands Y) hr hgd (vb_pl (pl_slot 0) (vb_pl (pl_slot 1) (vb_pl (pl_slot 4) (vb_pl (pl_slot 6) vb_nil)))))))))))) (fun _ _ _ _ _ => (ee_view (ve_op op_add2 vw_add (ve_lst (va_cons (ve_var 6) va_nil)) (ve_ix (ix_any (hu100 hr)) vw_ix (ve_var 2) (ve_var 6))))))
  (eb_one (es_ret (ee_view (ve_if (vt_cmp (op_neA (hu100 hr)) vw_ne (ve_var 5) (ve_lst va_nil)) (ve_callB (cr_minL rfl (hu100 hr)) vw_minL (va_cons (ve_var 5) va_nil) (Y.free 63) (hv := bt_min)) ve_non)))))
theorem sc_extents_with : FnScope ["sizes", "machine", "order", "islands", "many", "part", "place", "goal", "size", "number"] ["sizes", "machine", "order", "islands"] (defScope s_extents_with) := ⟨rfl, rfl, rfl, by decide +kernel, rfl, by decide +kernel, by decide +kernel⟩
def b_extents_with : M Fl := (S.seq (S.asg (E.lc [5] (Wk.range1 (A.cons (E.view (Vw.opN o_len (Vw.cons (Vw.var 0) Vw.nil))) A.nil)) (G.nm 5) T.yes (E.opN o_len (A.cons (E.lc [6, 7] (Wk.seq (E.var 3)) (G.tup 2 (G.cons (G.nm 6) (G.cons (G.nm 7) G.nil))) (T.view (Vw.op2 o_eq (Vw.var 6) (Vw.var 5))) (E.var 6)) A.nil))) (G.nm 4))
  (S.ret (E.call 2 extents_by (A.cons (E.var 2) (A.cons (E.lc [8, 9] (Wk.zipS (A.cons (E.var 0) (A.cons (E.var 4) A.nil))) (G.tup 2 (G.cons (G.nm 8) (G.cons (G.nm 9) G.nil))) T.yes (E.view (Vw.op2 v_add (Vw.var 8) (Vw.op2 v_mulA (Vw.var 9) (Vw.op2 o_ix (Vw.var 1) (Vw.c (.int 3))))))) A.nil)))))
def extents_with : List O → FRes := runF [] 10 b_extents_with
theorem fn_extents_with (Y : Ya fa fn ts K mg) : Fn P w K mg base "extents_with" 2 ["sizes", "machine", "order", "islands"] [] extents_with :=
  Fn.of (st := s_extents_with) (N := ["sizes", "machine", "order", "islands", "many", "part", "place", "goal", "size", "number"]) Y 33 67 rfl rfl sc_extents_with (by decide) (by decide) (fun _ _ _ _ _ _ us hl => match us, hl with | [_, _, _, _], _ => rfl) fun f cdv A outer s H E hr hgd tk => (eb_cons (es_setLc 4 (own := [("part", 5)]) rfl sc_extents_with.nd rfl rfl (by decide) (sw_true rfl rfl rfl (by decide +kernel)) (ei_range1 rfl (Y.free 43) (ea_cons (ee_view (ve_callB call_lenA vw_len (va_cons (ve_var 0) va_nil) (Y.free 5) (hv := bt_len))) ea_nil)) (blkOk_by (N := ["sizes", "machine", "order", "islands", "many", "part", "place", "goal", "size", "number"]) (sc := defScope s_extents_with) (by decide +kernel)) (fun _ _ _ _ _ => (eg_nm 5 sc_extents_with.nd)) (fun _ _ _ _ _ => ets_nil) (fun _ _ _ _ _ => (ee_callBE call_lenA vw_len isd_len (ea_cons (ee_lc (own := [("place", 6), ("goal", 7)]) rfl sc_extents_with.nd (ei_seq (ee_var 3)) (blkOk_by (N := ["sizes", "machine", "order", "islands", "many", "part", "place", "goal", "size", "number"]) (by kernel_rfl)) (fun _ _ _ _ _ => (eg_tup rfl (egs_cons (eg_nm 6 sc_extents_with.nd) (egs_cons (eg_nm 7 sc_extents_with.nd) egs_nil)))) (fun _ _ _ _ _ => (ets_one (et_view (vt_cmp (op_eqA (hu100 hr)) vw_eq (ve_var 6) (ve_var 5))))) (fun _ _ _ _ _ => (ee_var 6))) ea_nil) (Y.free 5) (hv := bt_len))))
  (eb_one (es_ret (ee_fn (fn_extents_by Y) hr hgd tk (ea_cons (ee_var 2) (ea_cons (ee_lc (own := [("size", 8), ("number", 9)]) rfl sc_extents_with.nd (ei_zipS rfl (Y.free 59) (ea_cons (ee_var 0) (ea_cons (ee_var 4) ea_nil))) (blkOk_by (N := ["sizes", "machine", "order", "islands", "many", "part", "place", "goal", "size", "number"]) (sc := defScope s_extents_with) (by decide +kernel)) (fun _ _ _ _ _ => (eg_tup rfl (egs_cons (eg_nm 8 sc_extents_with.nd) (egs_cons (eg_nm 9 sc_extents_with.nd) egs_nil)))) (fun _ _ _ _ _ => ets_nil) (fun _ _ _ _ _ => (ee_view (ve_op op_add2 vw_add (ve_var 8) (ve_op op_mul2 vw_mulA (ve_var 9) (ve_ix (ix_any (hu100 hr)) vw_ix (ve_var 1) ve_int)))))) ea_nil))))))
theorem sc_ways_by : FnScope ["rows", "machine", "islands", "goal", "posts", "found", "newest", "later", "part", "way", "other"] ["rows", "machine", "islands", "goal"] (defScope s_ways_by) := ⟨rfl, rfl, rfl, by decide +kernel, rfl, by decide +kernel, by decide +kernel⟩
def b_ways_by : M Fl := (S.seq (S.asg (E.lc [8, 10] (Wk.seq (E.var 2)) (G.tup 2 (G.cons (G.nm 8) (G.cons (G.nm 10) G.nil))) (T.view (Vw.op2 o_eq (Vw.var 10) (Vw.var 3))) (E.view (Vw.var 8))) (G.nm 4))
  (S.seq (S.asg (E.dc [8] (Wk.range1 (A.cons (E.view (Vw.opN o_len (Vw.cons (Vw.var 0) Vw.nil))) A.nil)) (G.nm 8) (T.view (Vw.callP 4 does_reach_islands (Vw.cons (Vw.pl (.slot 1)) (Vw.cons (Vw.pl (.slot 0)) (Vw.cons (Vw.pl (.slot 8)) (Vw.cons (Vw.pl (.slot 3)) Vw.nil)))))) (E.var 8) (E.lst A.nil)) (G.nm 5))
  (S.seq (S.asg (E.var 5) (G.nm 6))
  (S.seq (S.while (T.val (E.op2 o_ne (E.var 6) (fun ρ => R.ok (O.dic []) ρ))) (S.seq (S.asg (fun ρ => R.ok (O.dic []) ρ) (G.nm 7))
  (S.seq (S.for (Wk.range1 (A.cons (E.view (Vw.opN o_len (Vw.cons (Vw.var 0) Vw.nil))) A.nil)) (G.nm 8) (S.seq (S.asg (E.call 5 first_way (A.cons (E.var 1) (A.cons (E.var 0) (A.cons (E.var 6) (A.cons (E.var 4) (A.cons (E.var 8) A.nil)))))) (G.nm 9))
  (S.ifS (T.view (Vw.and (Vw.op2 o_nin (Vw.var 8) (Vw.var 5)) (Vw.op2 o_isn (Vw.var 9) (Vw.c .none)))) (S.asg (E.var 9) (G.subV (.slot 7) st_any (Vw.var 8))) S.nx)))
  (S.asg (E.tup (A.cons (E.merge2 5 7) (A.cons (E.var 7) A.nil))) (G.tup 2 (G.cons (G.nm 5) (G.cons (G.nm 6) G.nil)))))) 100000)
  (S.ret (E.opN b_tuple (A.cons (E.lc [8] (Wk.range1 (A.cons (E.view (Vw.opN o_len (Vw.cons (Vw.var 0) Vw.nil))) A.nil)) (G.nm 8) T.yes (E.view (Vw.ifE (Vw.op2 o_in (Vw.var 8) (Vw.var 5)) (Vw.opN (fun xs => (l_list xs).map dl) (Vw.cons (Vw.op2 o_ix (Vw.var 5) (Vw.var 8)) Vw.nil)) (Vw.c .none)))) A.nil)))))))
def ways_by : List O → FRes := runF [] 11 b_ways_by
theorem fn_ways_by (Y : Ya fa fn ts K mg) : Fn P w K mg base "ways_by" 3 ["rows", "machine", "islands", "goal"] [] ways_by :=
  Fn.of (st := s_ways_by) (N := ["rows", "machine", "islands", "goal", "posts", "found", "newest", "later", "part", "way", "other"]) Y 34 68 rfl rfl sc_ways_by (by decide) (by decide) (fun _ _ _ _ _ _ us hl => match us, hl with | [_, _, _, _], _ => rfl) fun f cdv A outer s H E hr hgd tk => (eb_cons (es_setLc 4 (own := [("part", 8), ("other", 10)]) rfl sc_ways_by.nd rfl rfl (by decide) (sw_true rfl rfl rfl (by decide +kernel)) (ei_seq (ee_var 2)) (blkOk_by (N := ["rows", "machine", "islands", "goal", "posts", "found", "newest", "later", "part", "way", "other"]) (sc := defScope s_ways_by) (by decide +kernel)) (fun _ _ _ _ _ => (eg_tup rfl (egs_cons (eg_nm 8 sc_ways_by.nd) (egs_cons (eg_nm 10 sc_ways_by.nd) egs_nil)))) (fun _ _ _ _ _ => (ets_one (et_view (vt_cmp (op_eqA (hu100 hr)) vw_eq (ve_var 10) (ve_var 3))))) (fun _ _ _ _ _ => (ee_view (ve_var 8))))
  (eb_cons (es_asg (ee_dc (own := [("part", 8)]) rfl sc_ways_by.nd (ei_range1 rfl (Y.free 43) (ea_cons (ee_view (ve_callB call_lenA vw_len (va_cons (ve_var 0) va_nil) (Y.free 5) (hv := bt_len))) ea_nil)) (blkOk_by (N := ["rows", "machine", "islands", "goal", "posts", "found", "newest", "later", "part", "way", "other"]) (sc := defScope s_ways_by) (by decide +kernel)) (fun _ _ _ _ _ => (eg_nm 8 sc_ways_by.nd)) (fun _ _ _ _ _ => (ets_one (et_view (vt_val (ve_fn (fn_does_reach_islands Y) hr hgd (vb_pl (pl_slot 1) (vb_pl (pl_slot 0) (vb_pl (pl_slot 8) (vb_pl (pl_slot 3) vb_nil))))))))) (fun _ _ _ _ _ => (ee_var 8)) (fun _ _ _ _ _ => (ee_lst ea_nil))) (eg_nm 5 sc_ways_by.nd))
  (eb_cons (es_asg (ee_var 5) (eg_nm 6 sc_ways_by.nd))
  (eb_cons (es_while 100000 (passes_of rfl) (et_cmp (op_neA (hu100 hr)) ok_ne (ee_var 6) ee_dict0 rfl) (eb_cons (es_asg ee_dict0 (eg_nm 7 sc_ways_by.nd))
  (eb_cons (es_for (passes_of rfl) rfl (ei_range1 rfl (Y.free 43) (ea_cons (ee_view (ve_callB call_lenA vw_len (va_cons (ve_var 0) va_nil) (Y.free 5) (hv := bt_len))) ea_nil)) (eg_nm 8 sc_ways_by.nd) (eb_cons (es_asg (ee_fn (fn_first_way Y) hr hgd tk (ea_cons (ee_var 1) (ea_cons (ee_var 0) (ea_cons (ee_var 6) (ea_cons (ee_var 4) (ea_cons (ee_var 8) ea_nil)))))) (eg_nm 9 sc_ways_by.nd))
  (eb_one (es_if (et_view (vt_of (vtw_and (vt_cmp (op_ninA (hu100 hr)) vw_nin (ve_var 8) (ve_var 5)) (vtw_and1 (vt_cmp op_isnA vw_isn (ve_var 9) ve_non))))) (eb_one (es_asg (ee_var 9) (eg_subV (.slot 7) (set_any (hu100 hr)) ss_any (pl_slot 7) (ve_var 8)))) eb_nil))))
  (eb_one (es_asg (ee_tup (ea_cons (ee_merge2 5 7 (pl_slot 5) (pl_slot 7)) (ea_cons (ee_var 7) ea_nil))) (eg_tup rfl (egs_cons (eg_nm 5 sc_ways_by.nd) (egs_cons (eg_nm 6 sc_ways_by.nd) egs_nil))))))))
  (eb_one (es_ret (ee_callTyE call_tuple_of vw_tuple isd_tuple (ea_cons (ee_lc (own := [("part", 8)]) rfl sc_ways_by.nd (ei_range1 rfl (Y.free 43) (ea_cons (ee_view (ve_callB call_lenA vw_len (va_cons (ve_var 0) va_nil) (Y.free 5) (hv := bt_len))) ea_nil)) (blkOk_by (N := ["rows", "machine", "islands", "goal", "posts", "found", "newest", "later", "part", "way", "other"]) (sc := defScope s_ways_by) (by decide +kernel)) (fun _ _ _ _ _ => (eg_nm 8 sc_ways_by.nd)) (fun _ _ _ _ _ => ets_nil) (fun _ _ _ _ _ => (ee_view (ve_if (vt_cmp (op_inA (hu100 hr)) vw_in (ve_var 8) (ve_var 5)) (ve_callTy call_list_of ls_list.vw (va_cons (ve_ix (ix_any (hu100 hr)) vw_ix (ve_var 5) (ve_var 8)) va_nil) (Y.free 40) (hv := bt_list)) ve_non)))) ea_nil) (Y.free 4) (hv := bt_tuple))))))))
end
section
open EV.Pen EV.Wy
def rD (rows : List (Int × Int)) : List D := rows.map fun e => .tuple [.int e.1, .int e.2]
def mxI (i j : Int) : Int := if j > i then j else i
def mnI (i j : Int) : Int := if j < i then j else i
def reachB (leap : Int) (rows : List (Int × Int)) (i j : Nat) : Bool := decide (mxI (rows.getD i (0, 0)).2 (rows.getD j (0, 0)).2 - mnI (rows.getD i (0, 0)).1 (rows.getD j (0, 0)).1 ≤ leap)
theorem opN2_ok {o : List O → Option O} {f g : EV.Env → Option O} {ρ : EV.Env} {x y z : O} (h1 : f ρ = some x) (h2 : g ρ = some y) (h : o [x, y] = some z) : Vw.opN o (Vw.cons f (Vw.cons g Vw.nil)) ρ = some z := by
  unfold Vw.opN Vw.cons
  rw [h1]
  simp only [Option.bind_some, Vw.cons]
  rw [h2]
  exact h
theorem ix_row {rows : List (Int × Int)} {i : Nat} (hi : i < rows.length) : o_ix (.d (.list (rD rows))) (.d (iD i)) = some (.d (.tuple [.int (rows.getD i (0, 0)).1, .int (rows.getD i (0, 0)).2])) := by
  show atI ((rD rows).map O.d) (i : Int) = _
  unfold atI ixN
  rw [if_pos (Int.natCast_nonneg i), if_pos (by rw [List.length_map]; unfold rD; rw [List.length_map]; exact_mod_cast hi)]
  simp [rD, hi, List.getD_eq_getElem?_getD]
section
variable {a0 a1 a2 a3 a5 a6 a7 : D} {leap : Int} {rows : List (Int × Int)}
abbrev mD (a0 a1 a2 a3 a5 a6 a7 : D) (leap : Int) : D := .tuple [a0, a1, a2, a3, .int leap, a5, a6, a7]
theorem reach_ok {i j : Nat} (hi : i < rows.length) (hj : j < rows.length) : does_reach_islands [.d (mD a0 a1 a2 a3 a5 a6 a7 leap), .d (.list (rD rows)), .d (iD i), .d (iD j)] = .ok (.d (.bool (reachB leap rows i j))) [] := by
  have x1 : (Vw.op2 o_ix (Vw.var 1) (Vw.var 2)) [.d (mD a0 a1 a2 a3 a5 a6 a7 leap), .d (.list (rD rows)), .d (iD i), .d (iD j)] = some (.d (.tuple [.int (rows.getD i (0, 0)).1, .int (rows.getD i (0, 0)).2])) := op2_ok rfl rfl (ix_row hi)
  have x2 : (Vw.op2 o_ix (Vw.var 1) (Vw.var 3)) [.d (mD a0 a1 a2 a3 a5 a6 a7 leap), .d (.list (rD rows)), .d (iD i), .d (iD j)] = some (.d (.tuple [.int (rows.getD j (0, 0)).1, .int (rows.getD j (0, 0)).2])) := op2_ok rfl rfl (ix_row hj)
  have mx : (Vw.opN b_max (Vw.cons (Vw.op2 o_ix (Vw.op2 o_ix (Vw.var 1) (Vw.var 2)) (Vw.c (.int 1))) (Vw.cons (Vw.op2 o_ix (Vw.op2 o_ix (Vw.var 1) (Vw.var 3)) (Vw.c (.int 1))) Vw.nil))) [.d (mD a0 a1 a2 a3 a5 a6 a7 leap), .d (.list (rD rows)), .d (iD i), .d (iD j)] = some (.d (.int (mxI (rows.getD i (0, 0)).2 (rows.getD j (0, 0)).2))) :=
    opN2_ok (op2_ok x1 rfl rfl) (op2_ok x2 rfl rfl) rfl
  have mn : (Vw.opN b_min (Vw.cons (Vw.op2 o_ix (Vw.op2 o_ix (Vw.var 1) (Vw.var 2)) (Vw.c (.int 0))) (Vw.cons (Vw.op2 o_ix (Vw.op2 o_ix (Vw.var 1) (Vw.var 3)) (Vw.c (.int 0))) Vw.nil))) [.d (mD a0 a1 a2 a3 a5 a6 a7 leap), .d (.list (rD rows)), .d (iD i), .d (iD j)] = some (.d (.int (mnI (rows.getD i (0, 0)).1 (rows.getD j (0, 0)).1))) :=
    opN2_ok (op2_ok x1 rfl rfl) (op2_ok x2 rfl rfl) rfl
  have all : (Vw.op2 o_le (Vw.op2 o_sub (Vw.opN b_max (Vw.cons (Vw.op2 o_ix (Vw.op2 o_ix (Vw.var 1) (Vw.var 2)) (Vw.c (.int 1))) (Vw.cons (Vw.op2 o_ix (Vw.op2 o_ix (Vw.var 1) (Vw.var 3)) (Vw.c (.int 1))) Vw.nil))) (Vw.opN b_min (Vw.cons (Vw.op2 o_ix (Vw.op2 o_ix (Vw.var 1) (Vw.var 2)) (Vw.c (.int 0))) (Vw.cons (Vw.op2 o_ix (Vw.op2 o_ix (Vw.var 1) (Vw.var 3)) (Vw.c (.int 0))) Vw.nil)))) (Vw.op2 o_ix (Vw.var 0) (Vw.c (.int 4)))) [.d (mD a0 a1 a2 a3 a5 a6 a7 leap), .d (.list (rD rows)), .d (iD i), .d (iD j)] = some (.d (.bool (reachB leap rows i j))) :=
    op2_ok (op2_ok mx mn rfl) (y := .d (.int leap)) rfl rfl
  have body : b_does_reach_islands [.d (mD a0 a1 a2 a3 a5 a6 a7 leap), .d (.list (rD rows)), .d (iD i), .d (iD j)] = .ok (.ret (.d (.bool (reachB leap rows i j)))) [.d (mD a0 a1 a2 a3 a5 a6 a7 leap), .d (.list (rD rows)), .d (iD i), .d (iD j)] := by
    unfold b_does_reach_islands S.ret M.bind E.view
    rw [all]
    rfl
  show (match b_does_reach_islands [.d (mD a0 a1 a2 a3 a5 a6 a7 leap), .d (.list (rD rows)), .d (iD i), .d (iD j)] with
    | .ok (.ret r) ρ => FRes.ok r (([] : List Nat).map fun i => ρ.getD i .un)
    | .ok .nx ρ => .ok (.d .none) (([] : List Nat).map fun i => ρ.getD i .un)
    | .exc c ρ => .exc c (([] : List Nat).map fun i => ρ.getD i .un)
    | _ => .stuck) = _
  rw [body]
  rfl
theorem callPv_ok {m : List O → FRes} {n : Nat} {fs : EV.Env → Option (List O)} {ρ : EV.Env} {os xs : List O} {x : D} (h1 : fs ρ = some os) (hx : frzArgs os = some xs) (hl : xs.length = n) (hm : m xs = .ok (.d x) []) (ha : (allD os).isSome = true) : Vw.callP n m fs ρ = some (.d x) := by
  unfold Vw.callP
  rw [h1, Option.bind_some, hx, Option.bind_some, if_pos hl, hm]
  simp only [ha, Bool.true_or, if_true]
  rfl
theorem and_ok {f g : EV.Env → Option O} {ρ : EV.Env} {a b : Bool} (h1 : f ρ = some (.d (.bool a))) (h2 : a = true → g ρ = some (.d (.bool b))) : Vw.and f g ρ = some (.d (.bool (a && b))) := by
  unfold Vw.and
  rw [h1]
  cases a with
  | false => rfl
  | true => exact h2 rfl
theorem ifE_ok {t f g : EV.Env → Option O} {ρ : EV.Env} {b : Bool} (h : t ρ = some (.d (.bool b))) : Vw.ifE t f g ρ = if b then f ρ else g ρ := by
  unfold Vw.ifE
  rw [h]
  cases b <;> rfl
theorem get_kD (kn : Kn) (p : Nat) : getO (.d (.dict (kD kn))) (.d (iD p)) = some ((lk kn p).map lD) := by
  show (if isK (iD p) = true then (dO (.d (.dict (kD kn)))).bind fun kvs => if keysOk kvs = true then some (lookK kvs (iD p)) else none else none) = _
  rw [if_pos (show isK (iD p) = true from rfl)]
  show (if keysOk (kD kn) = true then some (lookK (kD kn) (iD p)) else none) = _
  rw [if_pos (keysOk_kD kn), lookK_kD]
theorem in_kD (kn : Kn) (p : Nat) : o_in (.d (iD p)) (.d (.dict (kD kn))) = some (.d (.bool (lk kn p).isSome)) := by
  show Option.map (fun b => O.d (.bool b)) (Option.map Option.isSome (getO (.d (.dict (kD kn))) (.d (iD p)))) = _
  rw [get_kD, Option.map_some, Option.map_some]
  cases lk kn p <;> rfl
theorem ix_kD {kn : Kn} {p : Nat} {w : List Nat} (h : lk kn p = some w) : o_ix (.d (.dict (kD kn))) (.d (iD p)) = some (.d (lD w)) := by
  show (match getO (.d (.dict (kD kn))) (.d (iD p)) with
    | some (some z) => some (O.d z)
    | _ => none) = _
  rw [get_kD, h]
  rfl
theorem add_lD {p : Nat} {w : List Nat} (h : w.length ≤ 1000) : v_add (.d (.list [iD p])) (.d (lD w)) = some (.d (lD (p :: w))) := by
  have e : l_add (.d (.list [iD p])) (.d (lD w)) = some ([iD p] ++ w.map iD) := by
    show ((allD [.d (iD p)]).bind fun ds => (allD ((w.map iD).map O.d)).bind fun es => if ds.length + es.length ≤ 1000000 then some (ds ++ es) else none) = _
    rw [allD_map]
    show (if [iD p].length + (w.map iD).length ≤ 1000000 then some ([iD p] ++ w.map iD) else none) = _
    rw [if_pos (by rw [List.length_map, List.length_singleton]; omega)]
  show (match l_add (.d (.list [iD p])) (.d (lD w)) with
    | some ds => some (dl ds)
    | none => _) = _
  rw [e]
  rfl
theorem rdOs_map : ∀ ds : List D, rdOs (ds.map O.d) = some ds
  | [] => rfl
  | d :: ds => by
    rw [List.map_cons, rdOs, rdOs_map ds]
    rfl
theorem ne_nil (ws : List (List Nat)) : o_ne (.lst ((ws.map lD).map O.d)) (.d (.list [])) = some (.d (.bool (!ws.isEmpty))) := by
  have r : rdO (.lst ((ws.map lD).map O.d)) = some (.list (ws.map lD)) := by rw [rdO, rdOs_map]; rfl
  unfold o_ne o_eqB
  rw [r, Option.bind_some]
  show Option.map (fun b => O.d (.bool !b)) (eqD (.list (ws.map lD)) (.list [])) = _
  have e : eqD (.list (ws.map lD)) (.list []) = some (PyData.eqv (.list (ws.map lD)) (.list [])) := by
    show (if ((PyData.list (ws.map lD)).plain && (PyData.list []).plain && decide (min (PyData.list (ws.map lD)).depth (PyData.list []).depth ≤ 64)) = true then some _ else none) = _
    rw [if_pos]
    have := plain_l ws
    have d := depth_l ws
    simp [PyData.plain, PyData.plainAll, PyData.depth, PyData.depthAll, this]
  rw [e]
  cases ws with
  | nil => simp [PyData.eqv, PyData.eqvAll]
  | cons x xs => simp [PyData.eqv, PyData.eqvAll]
theorem minL_ok (x : List Nat) (xs : List (List Nat)) : b_minL [.lst (((x :: xs).map lD).map O.d)] = some (.d (lD (minN x xs))) := by
  show ((allD (((x :: xs).map lD).map O.d)).bind fun ds => (match ds with
    | [] => none
    | d :: r => if minOk (d :: r) = true then some (O.d (PySem.W.minD d r)) else none)) = _
  rw [allD_map, Option.bind_some, List.map_cons]
  show (if minOk (lD x :: xs.map lD) = true then _ else _) = _
  have := minOk_lD (x :: xs)
  rw [List.map_cons] at this
  rw [if_pos this, minD_lD]
def candN (t : Nat → Bool) (kn : Kn) (ps : List Nat) : List (List Nat) := ps.filterMap fun p => match lk kn p with
  | some w => if t p then some (p :: w) else none
  | none => none
def firstN (t : Nat → Bool) (kn : Kn) (ps : List Nat) : Option (List Nat) := match candN t kn ps with
  | [] => none
  | x :: xs => some (minN x xs)
def oW : Option (List Nat) → D
  | none => .none
  | some w => lD w
theorem first_ok {kn : Kn} {ps : List Nat} {part : Nat} (hp : part < rows.length) (hps : ∀ p ∈ ps, p < rows.length) (hl : ps.length < 1000) (hw : ∀ p w, lk kn p = some w → w.length ≤ 1000) :
    first_way [.d (mD a0 a1 a2 a3 a5 a6 a7 leap), .d (.list (rD rows)), .d (.dict (kD kn)), .d (.list (ps.map iD)), .d (iD part)] = .ok (.d (oW (firstN (reachB leap rows part) kn ps))) [] := by
  have lc : ∀ b : O, E.lc [6] (Wk.seq (E.var 3)) (G.nm 6) (T.view (Vw.and (Vw.op2 o_in (Vw.var 6) (Vw.var 2)) (Vw.callP 4 does_reach_islands (Vw.cons (Vw.pl (.slot 0)) (Vw.cons (Vw.pl (.slot 1)) (Vw.cons (Vw.pl (.slot 4)) (Vw.cons (Vw.pl (.slot 6)) Vw.nil))))))) (E.view (Vw.op2 v_add (Vw.lst (Vw.cons (Vw.var 6) Vw.nil)) (Vw.op2 o_ix (Vw.var 2) (Vw.var 6))))
      [.d (mD a0 a1 a2 a3 a5 a6 a7 leap), .d (.list (rD rows)), .d (.dict (kD kn)), .d (.list (ps.map iD)), .d (iD part), b, .un] = .ok (.lst (((candN (reachB leap rows part) kn ps).map lD).map O.d)) [.d (mD a0 a1 a2 a3 a5 a6 a7 leap), .d (.list (rD rows)), .d (.dict (kD kn)), .d (.list (ps.map iD)), .d (iD part), b, .un] := by
    intro b
    have e : (candN (reachB leap rows part) kn ps).map lD = ps.filterMap fun p => (match lk kn p with
        | some w => if reachB leap rows part p then some (p :: w) else none
        | none => none).map lD := by
      unfold candN
      rw [List.map_filterMap]
    rw [e]
    refine lc_map iD _ ps rfl rfl rfl rfl (fun p hp2 => ?_) (by omega)
    refine ⟨[.d (mD a0 a1 a2 a3 a5 a6 a7 leap), .d (.list (rD rows)), .d (.dict (kD kn)), .d (.list (ps.map iD)), .d (iD part), b, .d (iD p)], rfl, ?_⟩
    have tv : (Vw.and (Vw.op2 o_in (Vw.var 6) (Vw.var 2)) (Vw.callP 4 does_reach_islands (Vw.cons (Vw.pl (.slot 0)) (Vw.cons (Vw.pl (.slot 1)) (Vw.cons (Vw.pl (.slot 4)) (Vw.cons (Vw.pl (.slot 6)) Vw.nil)))))) [.d (mD a0 a1 a2 a3 a5 a6 a7 leap), .d (.list (rD rows)), .d (.dict (kD kn)), .d (.list (ps.map iD)), .d (iD part), b, .d (iD p)] = some (.d (.bool ((lk kn p).isSome && reachB leap rows part p))) :=
      and_ok (op2_ok rfl rfl (in_kD kn p)) fun _ => callPv_ok rfl rfl rfl (reach_ok hp (hps p hp2)) rfl
    have tt : ∀ c : Bool, ((lk kn p).isSome && reachB leap rows part p) = c → (T.view (Vw.and (Vw.op2 o_in (Vw.var 6) (Vw.var 2)) (Vw.callP 4 does_reach_islands (Vw.cons (Vw.pl (.slot 0)) (Vw.cons (Vw.pl (.slot 1)) (Vw.cons (Vw.pl (.slot 4)) (Vw.cons (Vw.pl (.slot 6)) Vw.nil))))))) [.d (mD a0 a1 a2 a3 a5 a6 a7 leap), .d (.list (rD rows)), .d (.dict (kD kn)), .d (.list (ps.map iD)), .d (iD part), b, .d (iD p)] = .ok c [.d (mD a0 a1 a2 a3 a5 a6 a7 leap), .d (.list (rD rows)), .d (.dict (kD kn)), .d (.list (ps.map iD)), .d (iD part), b, .d (iD p)] := fun c hc => by
      unfold T.view
      rw [tv, hc]
    cases hk : lk kn p with
    | none =>
      refine .inl ⟨by simp, _, tt false (by rw [hk]; rfl), rfl⟩
    | some w =>
      cases hr : reachB leap rows part p with
      | false => exact .inl ⟨by simp, _, tt false (by rw [hk, hr]; rfl), rfl⟩
      | true =>
        refine .inr ⟨lD (p :: w), _, _, by simp, tt true (by rw [hk, hr]; rfl), view_ok (op2_ok (x := .d (.list [iD p])) rfl (op2_ok rfl rfl (ix_kD hk)) (add_lD (hw p w hk))), rfl⟩
  have fin : b_first_way [.d (mD a0 a1 a2 a3 a5 a6 a7 leap), .d (.list (rD rows)), .d (.dict (kD kn)), .d (.list (ps.map iD)), .d (iD part), .un, .un] = .ok (.ret (.d (oW (firstN (reachB leap rows part) kn ps)))) [.d (mD a0 a1 a2 a3 a5 a6 a7 leap), .d (.list (rD rows)), .d (.dict (kD kn)), .d (.list (ps.map iD)), .d (iD part), .lst (((candN (reachB leap rows part) kn ps).map lD).map O.d), .un] := by
    unfold b_first_way
    refine (seq_ok (ρ' := [.d (mD a0 a1 a2 a3 a5 a6 a7 leap), .d (.list (rD rows)), .d (.dict (kD kn)), .d (.list (ps.map iD)), .d (iD part), .lst (((candN (reachB leap rows part) kn ps).map lD).map O.d), .un]) ?_).trans ?_
    · unfold S.asg M.bind
      rw [lc]
      rfl
    have vv : (Vw.ifE (Vw.op2 o_ne (Vw.var 5) (Vw.lst Vw.nil)) (Vw.opN b_minL (Vw.cons (Vw.var 5) Vw.nil)) (Vw.c .none)) [.d (mD a0 a1 a2 a3 a5 a6 a7 leap), .d (.list (rD rows)), .d (.dict (kD kn)), .d (.list (ps.map iD)), .d (iD part), .lst (((candN (reachB leap rows part) kn ps).map lD).map O.d), .un] = some (.d (oW (firstN (reachB leap rows part) kn ps))) := by
      have t : (Vw.op2 o_ne (Vw.var 5) (Vw.lst Vw.nil)) [.d (mD a0 a1 a2 a3 a5 a6 a7 leap), .d (.list (rD rows)), .d (.dict (kD kn)), .d (.list (ps.map iD)), .d (iD part), .lst (((candN (reachB leap rows part) kn ps).map lD).map O.d), .un] = some (.d (.bool (!(candN (reachB leap rows part) kn ps).isEmpty))) := op2_ok rfl rfl (ne_nil _)
      rw [ifE_ok t]
      unfold firstN
      cases hc : candN (reachB leap rows part) kn ps with
      | nil => rfl
      | cons x xs =>
        rw [if_pos (by rfl)]
        exact opN_ok rfl (minL_ok x xs)
    unfold S.ret M.bind E.view
    rw [vv]
    rfl
  show (match b_first_way [.d (mD a0 a1 a2 a3 a5 a6 a7 leap), .d (.list (rD rows)), .d (.dict (kD kn)), .d (.list (ps.map iD)), .d (iD part), .un, .un] with
    | .ok (.ret r) ρ => FRes.ok r (([] : List Nat).map fun i => ρ.getD i .un)
    | .ok .nx ρ => .ok (.d .none) (([] : List Nat).map fun i => ρ.getD i .un)
    | .exc c ρ => .exc c (([] : List Nat).map fun i => ρ.getD i .un)
    | _ => .stuck) = _
  rw [fin]
  rfl
def isD (isl : List (Nat × Nat)) : List D := isl.map fun e => .tuple [iD e.1, iD e.2]
def postsN (isl : List (Nat × Nat)) (g : Nat) : List Nat := isl.filterMap fun e => if e.2 == g then some e.1 else none
def o4 (b : Bool) (ps : List Nat) : O := if b then .d (.list (ps.map iD)) else .lst ((ps.map iD).map O.d)
def o5 (b : Bool) (f : Kn) : O := if b then .dic (kD f) else .d (.dict (kD f))
theorem eq_i (a b : Nat) : o_eq (.d (iD a)) (.d (iD b)) = some (.d (.bool (a == b))) := by
  show some (O.d (.bool ((a : Int) == (b : Int)))) = _
  by_cases h : a = b
  · rw [h, beq_self_eq_true, beq_self_eq_true]
  · have h2 : ¬ ((a : Int) = b) := by omega
    rw [beq_eq_false_iff_ne.mpr h, beq_eq_false_iff_ne.mpr h2]
theorem get5 (b : Bool) (f : Kn) (p : Nat) : getO (o5 b f) (.d (iD p)) = some ((lk f p).map lD) := by
  cases b with
  | false => exact get_kD f p
  | true =>
    show (if isK (iD p) = true then (dO (.dic (kD f))).bind fun kvs => if keysOk kvs = true then some (lookK kvs (iD p)) else none else none) = _
    rw [if_pos (show isK (iD p) = true from rfl)]
    show (if keysOk (kD f) = true then some (lookK (kD f) (iD p)) else none) = _
    rw [if_pos (keysOk_kD f), lookK_kD]
theorem seq5 (b : Bool) (f : Kn) : seqO (o5 b f) = none := by cases b <;> rfl
theorem inB5 (b : Bool) (f : Kn) (p : Nat) : inB (.d (iD p)) (o5 b f) = some (lk f p).isSome := by
  unfold inB
  rw [seq5]
  show Option.map Option.isSome (getO (o5 b f) (.d (iD p))) = _
  rw [get5]
  cases lk f p <;> rfl
theorem in5 (b : Bool) (f : Kn) (p : Nat) : o_in (.d (iD p)) (o5 b f) = some (.d (.bool (lk f p).isSome)) := by
  unfold o_in
  rw [inB5]
  rfl
theorem nin5 (b : Bool) (f : Kn) (p : Nat) : o_nin (.d (iD p)) (o5 b f) = some (.d (.bool (!(lk f p).isSome))) := by
  unfold o_nin
  rw [inB5]
  rfl
theorem ix5 {b : Bool} {f : Kn} {p : Nat} {w : List Nat} (h : lk f p = some w) : o_ix (o5 b f) (.d (iD p)) = some (.d (lD w)) := by
  unfold o_ix
  rw [seq5, get5, h]
  rfl
theorem var5 {ρ : EV.Env} {b : Bool} {f : Kn} (h : ρ[5]? = some (o5 b f)) : Vw.var 5 ρ = some (o5 b f) := by
  unfold Vw.var
  rw [h]
  cases b <;> rfl
theorem flat_lD (w : List Nat) : flatD (lD w) = true := by
  unfold flatD
  have := plain_i w
  have d := depth_i w
  simp [lD, PyData.plain, PyData.depth, this]
  omega
theorem neD (nw : Kn) : o_ne (.d (.dict (kD nw))) (.dic []) = some (.d (.bool (!nw.isEmpty))) := by
  show Option.map (fun b => O.d (.bool !b)) (eqD (.dict (kD nw)) (.dict [])) = _
  have e : eqD (.dict (kD nw)) (.dict []) = some ((kD nw).length == ([] : List (D × D)).length && (kD nw).all fun p => match lookK [] p.1 with | some y => PyData.eqv p.2 y | none => false) := by
    have q : (kD nw).all (fun p => isK p.1 && flatD p.2) = true := by
      unfold kD
      rw [List.all_map]
      exact List.all_eq_true.mpr fun e _ => by
        show (isK (iD e.1) && flatD (lD e.2)) = true
        rw [flat_lD]
        rfl
    have q2 : (((kD nw).all fun p => isK p.1 && flatD p.2) && (([] : List (D × D)).all fun p => isK p.1 && flatD p.2)) = true := by rw [q]; rfl
    exact if_pos q2
  rw [e]
  cases nw <;> rfl
theorem lk_mem : ∀ {kn : Kn} {p : Nat} {w : List Nat}, lk kn p = some w → ∃ q, (q, w) ∈ kn
  | e :: r, p, w, h => by
    unfold lk at h
    split at h
    · cases h; exact ⟨e.1, .head _⟩
    · obtain ⟨q, hq⟩ := lk_mem h
      exact ⟨q, .tail _ hq⟩
theorem pt_len (kn : Kn) (p : Nat) (w : List Nat) : (pt kn p w).length ≤ kn.length + 1 := by
  unfold pt
  split
  · rw [List.length_map]; omega
  · rw [List.length_append, List.length_singleton]; omega
def laterStep (t : Nat → Nat → Bool) (f nw : Kn) (ps : List Nat) (l : Kn) (p : Nat) : Kn := match firstN (t p) nw ps with
  | some w => if (lk f p).isSome then l else pt l p w
  | none => l
def laterN (t : Nat → Nat → Bool) (n : Nat) (f nw : Kn) (ps : List Nat) : Kn := (List.range n).foldl (laterStep t f nw ps) []
def oU : Option D → O
  | none => .un
  | some d => .d d
abbrev eW (a0 a1 a2 a3 a5 a6 a7 : D) (leap : Int) (rows : List (Int × Int)) (isl : List (Nat × Nat)) (g : Nat) (ps : List Nat) (b4 b5 : Bool) (f nw : Kn) (x7 : O) (x8 : Option D) (x9 : O) : EV.Env :=
  [.d (.list (rD rows)), .d (mD a0 a1 a2 a3 a5 a6 a7 leap), .d (.list (isD isl)), .d (iD g), o4 b4 ps, o5 b5 f, .d (.dict (kD nw)), x7, oU x8, x9, .un]
variable {isl : List (Nat × Nat)} {g : Nat} {ps : List Nat} {f nw : Kn}
theorem len_rD : o_len [.d (.list (rD rows))] = some (.d (.int (rows.length : Nat))) := by
  show some (O.d (.int (((rD rows).map O.d).length : Nat))) = _
  rw [List.length_map]
  unfold rD
  rw [List.length_map]
theorem range_ok {ρ : EV.Env} (hn : rows.length ≤ 1000) (h : Vw.var 0 ρ = some (.d (.list (rD rows)))) : Wk.range1 (A.cons (E.view (Vw.opN o_len (Vw.cons (Vw.var 0) Vw.nil))) A.nil) ρ = .ok ((List.range rows.length).map iD) ρ := by
  have e : (A.cons (E.view (Vw.opN o_len (Vw.cons (Vw.var 0) Vw.nil))) A.nil) ρ = .ok [.d (.int (rows.length : Nat))] ρ := acons_ok (view_ok (opN_ok h len_rD)) rfl
  unfold Wk.range1 M.bind
  rw [e]
  show (if -1000000000000 ≤ (rows.length : Int) ∧ (rows.length : Int) ≤ 1000000000000 then M.ret ((List.range (rows.length : Int).toNat).map fun (i : Nat) => PyData.int (i : Int)) else M.fail) ρ = _
  rw [if_pos (by omega), Int.toNat_natCast]
  rfl
def wBody : M Fl := (S.seq (S.asg (E.call 5 first_way (A.cons (E.var 1) (A.cons (E.var 0) (A.cons (E.var 6) (A.cons (E.var 4) (A.cons (E.var 8) A.nil)))))) (G.nm 9))
  (S.ifS (T.view (Vw.and (Vw.op2 o_nin (Vw.var 8) (Vw.var 5)) (Vw.op2 o_isn (Vw.var 9) (Vw.c .none)))) (S.asg (E.var 9) (G.subV (.slot 7) st_any (Vw.var 8))) S.nx))
theorem call_ok {m : List O → FRes} {n : Nat} {fa : M (List O)} {ρ ρ1 : EV.Env} {os xs : List O} {r : O} (hf : fa ρ = .ok os ρ1) (hx : frzArgs os = some xs) (hl : xs.length = n) (hm : m xs = .ok r []) : E.call n m fa ρ = .ok r ρ1 := by
  unfold E.call M.bind
  rw [hf]
  simp only [hx]
  rw [if_pos hl, hm]
theorem args_ok {b4 b5 : Bool} {x7 x9 : O} {p : Nat} : (A.cons (E.var 1) (A.cons (E.var 0) (A.cons (E.var 6) (A.cons (E.var 4) (A.cons (E.var 8) A.nil))))) (eW a0 a1 a2 a3 a5 a6 a7 leap rows isl g ps b4 b5 f nw x7 (some (iD p)) x9)
    = .ok [.d (mD a0 a1 a2 a3 a5 a6 a7 leap), .d (.list (rD rows)), .d (.dict (kD nw)), .d (.list (ps.map iD)), .d (iD p)] (eW a0 a1 a2 a3 a5 a6 a7 leap rows isl g ps true b5 f nw x7 (some (iD p)) x9) := by
  refine acons_ok rfl (acons_ok rfl (acons_ok rfl (acons_ok (ρ1 := eW a0 a1 a2 a3 a5 a6 a7 leap rows isl g ps true b5 f nw x7 (some (iD p)) x9) ?_ (acons_ok rfl rfl))))
  cases b4 with
  | true => rfl
  | false =>
    show (match frz (.lst ((ps.map iD).map O.d)) with
      | some x => R.ok (O.d x) _
      | none => .stuck) = _
    rw [frz, frzL_map]
    rfl
theorem turn_ok (hps : ∀ p ∈ ps, p < rows.length) (hl : ps.length < 1000) (hw : ∀ p w, lk nw p = some w → w.length ≤ 1000) {b4 b5 : Bool} {l : Kn} {x8 : Option D} {x9 : O} {p : Nat} (hp : p < rows.length) (hll : l.length ≤ 1000) :
    ∃ (y8 : Option D) (y9 : O), wBody (eW a0 a1 a2 a3 a5 a6 a7 leap rows isl g ps b4 b5 f nw (.dic (kD l)) (some (iD p)) x9) = .ok .nx (eW a0 a1 a2 a3 a5 a6 a7 leap rows isl g ps true b5 f nw (.dic (kD (laterStep (reachB leap rows) f nw ps l p))) y8 y9) := by
  have c := call_ok (n := 5) (m := first_way) (args_ok (a0 := a0) (a1 := a1) (a2 := a2) (a3 := a3) (a5 := a5) (a6 := a6) (a7 := a7) (leap := leap) (rows := rows) (isl := isl) (g := g) (ps := ps) (f := f) (nw := nw) (b4 := b4) (b5 := b5) (x7 := .dic (kD l)) (x9 := x9) (p := p)) rfl rfl (first_ok hp hps hl hw)
  refine ⟨some (iD p), .d (oW (firstN (reachB leap rows p) nw ps)), ?_⟩
  unfold wBody
  refine (seq_ok (ρ' := eW a0 a1 a2 a3 a5 a6 a7 leap rows isl g ps true b5 f nw (.dic (kD l)) (some (iD p)) (.d (oW (firstN (reachB leap rows p) nw ps)))) ?_).trans ?_
  · unfold S.asg M.bind
    rw [c]
    rfl
  have isn : ∀ (w : Option (List Nat)), o_isn (.d (oW w)) (.d .none) = some (.d (.bool w.isSome)) := fun w => by cases w <;> rfl
  have tv : (T.view (Vw.and (Vw.op2 o_nin (Vw.var 8) (Vw.var 5)) (Vw.op2 o_isn (Vw.var 9) (Vw.c .none)))) (eW a0 a1 a2 a3 a5 a6 a7 leap rows isl g ps true b5 f nw (.dic (kD l)) (some (iD p)) (.d (oW (firstN (reachB leap rows p) nw ps)))) = .ok (!(lk f p).isSome && (firstN (reachB leap rows p) nw ps).isSome) (eW a0 a1 a2 a3 a5 a6 a7 leap rows isl g ps true b5 f nw (.dic (kD l)) (some (iD p)) (.d (oW (firstN (reachB leap rows p) nw ps)))) := by
    unfold T.view
    rw [and_ok (op2_ok rfl (var5 rfl) (nin5 b5 f p)) fun _ => op2_ok rfl rfl (isn _)]
  rw [if_ok tv]
  unfold laterStep
  cases hw1 : firstN (reachB leap rows p) nw ps with
  | none => simp only [Option.isSome_none, Bool.and_false]; rfl
  | some w =>
    cases hf : lk f p with
    | some u => rfl
    | none =>
      have st : st_any (.dic (kD l)) (iD p) (lD w) = some (.dic (kD (pt l p w))) := by
        show (if (isK (iD p) && decide ((kD l).length < 1000000)) = true then some (O.dic (putKD (kD l) (iD p) (lD w))) else none) = _
        rw [if_pos (by
          show decide ((kD l).length < 1000000) = true
          unfold kD
          rw [List.length_map]
          exact decide_eq_true (by omega)), putKD_kD]
      have sv : G.subV (.slot 7) st_any (Vw.var 8) (.d (oW (some w))) (eW a0 a1 a2 a3 a5 a6 a7 leap rows isl g ps true b5 f nw (.dic (kD l)) (some (iD p)) (.d (oW (some w)))) = .ok () (eW a0 a1 a2 a3 a5 a6 a7 leap rows isl g ps true b5 f nw (.dic (kD (pt l p w))) (some (iD p)) (.d (oW (some w)))) := by
        show (match st_any (.dic (kD l)) (iD p) (lD w) with
          | some o' => R.ok () ((Pl.slot 7).set o' _)
          | none => .stuck) = _
        rw [st]
        rfl
      show S.asg (E.var 9) (G.subV (.slot 7) st_any (Vw.var 8)) (eW a0 a1 a2 a3 a5 a6 a7 leap rows isl g ps true b5 f nw (.dic (kD l)) (some (iD p)) (.d (oW (some w)))) = _
      unfold S.asg M.bind
      have e9 : E.var 9 (eW a0 a1 a2 a3 a5 a6 a7 leap rows isl g ps true b5 f nw (.dic (kD l)) (some (iD p)) (.d (oW (some w)))) = .ok (.d (oW (some w))) (eW a0 a1 a2 a3 a5 a6 a7 leap rows isl g ps true b5 f nw (.dic (kD l)) (some (iD p)) (.d (oW (some w)))) := rfl
      rw [e9]
      simp only [sv]
      rfl
theorem loop_ok (hn : rows.length ≤ 1000) (hps : ∀ p ∈ ps, p < rows.length) (hl : ps.length < 1000) (hw : ∀ p w, lk nw p = some w → w.length ≤ 1000) (b4 b5 : Bool) (x8 : Option D) (x9 : O) :
    ∃ (b4' : Bool) (y8 : Option D) (y9 : O), loopF (G.nm 8) wBody ((List.range rows.length).map iD) (eW a0 a1 a2 a3 a5 a6 a7 leap rows isl g ps b4 b5 f nw (.dic (kD [])) x8 x9) = .ok .nx (eW a0 a1 a2 a3 a5 a6 a7 leap rows isl g ps b4' b5 f nw (.dic (kD (laterN (reachB leap rows) rows.length f nw ps))) y8 y9) := by
  obtain ⟨v', h⟩ := loopF_fold (α := Nat) (g := G.nm 8) (fb := wBody) iD (laterStep (reachB leap rows) f nw ps) (fun l (v : Bool × Option D × O) => eW a0 a1 a2 a3 a5 a6 a7 leap rows isl g ps v.1 b5 f nw (.dic (kD l)) v.2.1 v.2.2)
    (fun xs l => (∀ p ∈ xs, p < rows.length) ∧ l.length + xs.length ≤ 1000) (fun l v x xs ok => by
      obtain ⟨o1, o2⟩ := ok
      rw [List.length_cons] at o2
      obtain ⟨y8, y9, h⟩ := turn_ok (a0 := a0) (a1 := a1) (a2 := a2) (a3 := a3) (a5 := a5) (a6 := a6) (a7 := a7) (leap := leap) (rows := rows) (isl := isl) (g := g) (ps := ps) (f := f) (nw := nw) hps hl hw (b4 := v.1) (b5 := b5) (l := l) (x8 := v.2.1) (x9 := v.2.2) (p := x) (o1 x (.head _)) (by omega)
      refine ⟨_, (true, y8, y9), rfl, h, fun p hp => o1 p (.tail _ hp), ?_⟩
      have : (laterStep (reachB leap rows) f nw ps l x).length ≤ l.length + 1 := by
        unfold laterStep
        split
        · split
          · omega
          · exact pt_len _ _ _
        · omega
      omega) (List.range rows.length) [] (b4, x8, x9) ⟨fun p hp => List.mem_range.mp hp, by rw [List.length_range, List.length_nil]; omega⟩
  exact ⟨v'.1, v'.2.1, v'.2.2, h⟩
def wAll : M Fl := (S.seq (S.asg (fun ρ => R.ok (O.dic []) ρ) (G.nm 7))
  (S.seq (S.for (Wk.range1 (A.cons (E.view (Vw.opN o_len (Vw.cons (Vw.var 0) Vw.nil))) A.nil)) (G.nm 8) wBody)
  (S.asg (E.tup (A.cons (E.merge2 5 7) (A.cons (E.var 7) A.nil))) (G.tup 2 (G.cons (G.nm 5) (G.cons (G.nm 6) G.nil))))))
theorem merge_ok {b4 b5 : Bool} {l : Kn} {x8 : Option D} {x9 : O} (hf : f.length ≤ 1000) (hl : l.length ≤ 1000) : E.merge2 5 7 (eW a0 a1 a2 a3 a5 a6 a7 leap rows isl g ps b4 b5 f nw (.dic (kD l)) x8 x9) = .ok (.dic (kD (mg (mg [] f) l))) (eW a0 a1 a2 a3 a5 a6 a7 leap rows isl g ps b4 b5 f nw (.dic (kD l)) x8 x9) := by
  have k : ∀ n : Kn, n.length ≤ 1000 → (kD n).length ≤ 1000 := fun n h => by unfold kD; rw [List.length_map]; exact h
  have c : (keysOk (kD f) && keysOk (kD l) && decide ((kD f).length ≤ 1000) && decide ((kD l).length ≤ 1000)) = true := by
    rw [keysOk_kD, keysOk_kD, decide_eq_true (k f hf), decide_eq_true (k l hl)]
    rfl
  have m : mergeD (mergeD [] (kD f)) (kD l) = kD (mg (mg [] f) l) := by
    have : mergeD [] (kD f) = kD (mg [] f) := mergeD_kD f []
    rw [this, mergeD_kD]
  cases b5 <;> (show (if (keysOk (kD f) && keysOk (kD l) && decide ((kD f).length ≤ 1000) && decide ((kD l).length ≤ 1000)) = true then R.ok (O.dic (mergeD (mergeD [] (kD f)) (kD l))) _ else R.stuck) = _; rw [if_pos c, m])
theorem wAll_ok (hn : rows.length ≤ 1000) (hps : ∀ p ∈ ps, p < rows.length) (hl : ps.length < 1000) (hw : ∀ p w, lk nw p = some w → w.length ≤ 1000) (hf : f.length ≤ 1000) (hll : (laterN (reachB leap rows) rows.length f nw ps).length ≤ 1000) (b4 b5 : Bool) (x7 : O) (x8 : Option D) (x9 : O) :
    ∃ (b4' : Bool) (y7 : O) (y8 : Option D) (y9 : O), wAll (eW a0 a1 a2 a3 a5 a6 a7 leap rows isl g ps b4 b5 f nw x7 x8 x9) = .ok .nx (eW a0 a1 a2 a3 a5 a6 a7 leap rows isl g ps b4' true (mg (mg [] f) (laterN (reachB leap rows) rows.length f nw ps)) (laterN (reachB leap rows) rows.length f nw ps) y7 y8 y9) := by
  obtain ⟨b4', y8, y9, h⟩ := loop_ok (a0 := a0) (a1 := a1) (a2 := a2) (a3 := a3) (a5 := a5) (a6 := a6) (a7 := a7) (leap := leap) (rows := rows) (isl := isl) (g := g) (ps := ps) (f := f) (nw := nw) hn hps hl hw b4 b5 x8 x9
  refine ⟨b4', .d (.dict (kD (laterN (reachB leap rows) rows.length f nw ps))), y8, y9, ?_⟩
  unfold wAll
  refine (seq_ok (ρ' := eW a0 a1 a2 a3 a5 a6 a7 leap rows isl g ps b4 b5 f nw (.dic (kD [])) x8 x9) rfl).trans ?_
  refine (seq_ok (for_ok (range_ok hn rfl) h)).trans ?_
  have al : (A.cons (E.merge2 5 7) (A.cons (E.var 7) A.nil)) (eW a0 a1 a2 a3 a5 a6 a7 leap rows isl g ps b4' b5 f nw (.dic (kD (laterN (reachB leap rows) rows.length f nw ps))) y8 y9) = .ok [.dic (kD (mg (mg [] f) (laterN (reachB leap rows) rows.length f nw ps))), .d (.dict (kD (laterN (reachB leap rows) rows.length f nw ps)))] (eW a0 a1 a2 a3 a5 a6 a7 leap rows isl g ps b4' b5 f nw (.d (.dict (kD (laterN (reachB leap rows) rows.length f nw ps)))) y8 y9) :=
    acons_ok (merge_ok hf hll) (acons_ok rfl rfl)
  unfold S.asg E.tup M.bind
  rw [al]
  rfl
def runW (t : Nat → Nat → Bool) (n : Nat) (ps : List Nat) : Nat → Kn → Kn → Option Kn
  | 0, _, _ => none
  | k + 1, f, nw => if nw.isEmpty then some f else if f.length ≤ 1000 ∧ (nw.all fun e => decide (e.2.length ≤ 1000)) = true ∧ (laterN t n f nw ps).length ≤ 1000 then runW t n ps k (mg (mg [] f) (laterN t n f nw ps)) (laterN t n f nw ps) else none
def wTest : M Bool := T.val (E.op2 o_ne (E.var 6) (fun ρ => R.ok (O.dic []) ρ))
theorem test_ok {b4 b5 : Bool} {x7 : O} {x8 : Option D} {x9 : O} : wTest (eW a0 a1 a2 a3 a5 a6 a7 leap rows isl g ps b4 b5 f nw x7 x8 x9) = .ok (!nw.isEmpty) (eW a0 a1 a2 a3 a5 a6 a7 leap rows isl g ps b4 b5 f nw x7 x8 x9) := by
  have e : E.op2 o_ne (E.var 6) (fun ρ => R.ok (O.dic []) ρ) (eW a0 a1 a2 a3 a5 a6 a7 leap rows isl g ps b4 b5 f nw x7 x8 x9) = .ok (.d (.bool (!nw.isEmpty))) (eW a0 a1 a2 a3 a5 a6 a7 leap rows isl g ps b4 b5 f nw x7 x8 x9) := by
    unfold E.op2 M.bind
    have e6 : E.var 6 (eW a0 a1 a2 a3 a5 a6 a7 leap rows isl g ps b4 b5 f nw x7 x8 x9) = .ok (.d (.dict (kD nw))) (eW a0 a1 a2 a3 a5 a6 a7 leap rows isl g ps b4 b5 f nw x7 x8 x9) := rfl
    rw [e6]
    simp only
    rw [neD]
    rfl
  unfold wTest T.val M.bind
  rw [e]
  rfl
theorem while_ok (hn : rows.length ≤ 1000) (hps : ∀ p ∈ ps, p < rows.length) (hl : ps.length < 1000) : ∀ (k : Nat) (f nw r : Kn), runW (reachB leap rows) rows.length ps k f nw = some r → ∀ (m : Nat), k ≤ m → ∀ (b4 b5 : Bool) (x7 : O) (x8 : Option D) (x9 : O),
    ∃ (b4' b5' : Bool) (nw' : Kn) (y7 : O) (y8 : Option D) (y9 : O), loopW wTest wAll m (eW a0 a1 a2 a3 a5 a6 a7 leap rows isl g ps b4 b5 f nw x7 x8 x9) = .ok .nx (eW a0 a1 a2 a3 a5 a6 a7 leap rows isl g ps b4' b5' r nw' y7 y8 y9)
  | 0, _, _, _, h, _, _, _, _, _, _, _ => by cases h
  | k + 1, f, nw, r, h, 0, hm, _, _, _, _, _ => by omega
  | k + 1, f, nw, r, h, m + 1, hm, b4, b5, x7, x8, x9 => by
    unfold runW at h
    have t := test_ok (a0 := a0) (a1 := a1) (a2 := a2) (a3 := a3) (a5 := a5) (a6 := a6) (a7 := a7) (leap := leap) (rows := rows) (isl := isl) (g := g) (ps := ps) (f := f) (nw := nw) (b4 := b4) (b5 := b5) (x7 := x7) (x8 := x8) (x9 := x9)
    cases he : nw.isEmpty with
    | true =>
      rw [he] at h t
      simp only [if_true] at h
      cases h
      refine ⟨b4, b5, nw, x7, x8, x9, ?_⟩
      unfold loopW M.bind
      rw [t]
      rfl
    | false =>
      rw [he] at h t
      simp only [Bool.false_eq_true, if_false] at h
      split at h
      case isFalse => cases h
      rename_i c
      obtain ⟨c1, c2, c3⟩ := c
      have hw : ∀ p w, lk nw p = some w → w.length ≤ 1000 := fun p w q => by
        obtain ⟨q1, hq⟩ := lk_mem q
        exact of_decide_eq_true (List.all_eq_true.mp c2 _ hq)
      obtain ⟨b4', y7, y8, y9, hb⟩ := wAll_ok (a0 := a0) (a1 := a1) (a2 := a2) (a3 := a3) (a5 := a5) (a6 := a6) (a7 := a7) (leap := leap) (rows := rows) (isl := isl) (g := g) (ps := ps) (f := f) (nw := nw) hn hps hl hw c1 c3 b4 b5 x7 x8 x9
      obtain ⟨b4'', b5'', nw', z7, z8, z9, hr⟩ := while_ok hn hps hl k _ _ r h m (by omega) b4' true y7 y8 y9
      refine ⟨b4'', b5'', nw', z7, z8, z9, ?_⟩
      unfold loopW M.bind
      rw [t]
      show (match wAll (eW a0 a1 a2 a3 a5 a6 a7 leap rows isl g ps b4 b5 f nw x7 x8 x9) with
        | .ok .nx ρ2 => loopW wTest wAll m ρ2
        | .ok .cnt ρ2 => loopW wTest wAll m ρ2
        | .ok .brk ρ2 => .ok .nx ρ2
        | r => r) = _
      rw [hb]
      exact hr
def k0N (t : Nat → Nat → Bool) (n g : Nat) : Kn := (List.range n).filterMap fun p => if t p g then some (p, []) else none
def waysN (t : Nat → Nat → Bool) (n : Nat) (isl : List (Nat × Nat)) (g : Nat) : Option (List (Option (List Nat))) :=
  (runW t n (postsN isl g) 50 (mg [] (k0N t n g)) (mg [] (k0N t n g))).map fun r => (List.range n).map fun p => lk r p
theorem ways_ok (hn : rows.length ≤ 1000) (hg : g < rows.length) (hi : ∀ e ∈ isl, e.1 < rows.length) (hl : isl.length < 1000) {r : List (Option (List Nat))} (h : waysN (reachB leap rows) rows.length isl g = some r) :
    ways_by [.d (.list (rD rows)), .d (mD a0 a1 a2 a3 a5 a6 a7 leap), .d (.list (isD isl)), .d (iD g)] = .ok (.d (.tuple (r.map oW))) [] := by
  unfold waysN at h
  rw [Option.map_eq_some_iff] at h
  obtain ⟨kn, hk, rfl⟩ := h
  have hps : ∀ p ∈ postsN isl g, p < rows.length := fun p hp => by
    unfold postsN at hp
    rw [List.mem_filterMap] at hp
    obtain ⟨e, he, q⟩ := hp
    split at q
    · cases q; exact hi e he
    · cases q
  have hpl : (postsN isl g).length < 1000 := by
    have := List.length_filterMap_le (fun e : Nat × Nat => if e.2 == g then some e.1 else none) isl
    unfold postsN
    omega
  have s1 : E.lc [8, 10] (Wk.seq (E.var 2)) (G.tup 2 (G.cons (G.nm 8) (G.cons (G.nm 10) G.nil))) (T.view (Vw.op2 o_eq (Vw.var 10) (Vw.var 3))) (E.view (Vw.var 8)) [.d (.list (rD rows)), .d (mD a0 a1 a2 a3 a5 a6 a7 leap), .d (.list (isD isl)), .d (iD g), .un, .un, .un, .un, .un, .un, .un]
      = .ok (.lst (((postsN isl g).map iD).map O.d)) [.d (.list (rD rows)), .d (mD a0 a1 a2 a3 a5 a6 a7 leap), .d (.list (isD isl)), .d (iD g), .un, .un, .un, .un, .un, .un, .un] := by
    have e : (postsN isl g).map iD = isl.filterMap fun e => (if e.2 == g then some e.1 else none).map iD := by
      unfold postsN
      rw [List.map_filterMap]
    rw [e]
    refine lc_map (fun e : Nat × Nat => PyData.tuple [iD e.1, iD e.2]) _ isl rfl rfl rfl rfl (fun e he => ?_) (by omega)
    refine ⟨[.d (.list (rD rows)), .d (mD a0 a1 a2 a3 a5 a6 a7 leap), .d (.list (isD isl)), .d (iD g), .un, .un, .un, .un, .d (iD e.1), .un, .d (iD e.2)], rfl, ?_⟩
    have tv : (T.view (Vw.op2 o_eq (Vw.var 10) (Vw.var 3))) [.d (.list (rD rows)), .d (mD a0 a1 a2 a3 a5 a6 a7 leap), .d (.list (isD isl)), .d (iD g), .un, .un, .un, .un, .d (iD e.1), .un, .d (iD e.2)] = .ok (e.2 == g) [.d (.list (rD rows)), .d (mD a0 a1 a2 a3 a5 a6 a7 leap), .d (.list (isD isl)), .d (iD g), .un, .un, .un, .un, .d (iD e.1), .un, .d (iD e.2)] := by
      unfold T.view
      rw [op2_ok rfl rfl (eq_i e.2 g)]
    cases hb : e.2 == g with
    | false => exact .inl ⟨by simp, _, by rw [tv, hb], rfl⟩
    | true => exact .inr ⟨iD e.1, _, _, by simp, by rw [tv, hb], rfl, rfl⟩
  have s2 : ∀ o : O, E.dc [8] (Wk.range1 (A.cons (E.view (Vw.opN o_len (Vw.cons (Vw.var 0) Vw.nil))) A.nil)) (G.nm 8) (T.view (Vw.callP 4 does_reach_islands (Vw.cons (Vw.pl (.slot 1)) (Vw.cons (Vw.pl (.slot 0)) (Vw.cons (Vw.pl (.slot 8)) (Vw.cons (Vw.pl (.slot 3)) Vw.nil)))))) (E.var 8) (E.lst A.nil) [.d (.list (rD rows)), .d (mD a0 a1 a2 a3 a5 a6 a7 leap), .d (.list (isD isl)), .d (iD g), o, .un, .un, .un, .un, .un, .un]
      = .ok (.dic (kD (mg [] (k0N (reachB leap rows) rows.length g)))) [.d (.list (rD rows)), .d (mD a0 a1 a2 a3 a5 a6 a7 leap), .d (.list (isD isl)), .d (iD g), o, .un, .un, .un, .un, .un, .un] := by
    intro o
    have e : kD (mg [] (k0N (reachB leap rows) rows.length g)) = (((List.range rows.length).filterMap fun p => (if reachB leap rows p g then some (p, ([] : List Nat)) else none).map fun e => (iD e.1, lD e.2)).foldl (fun acc p => putKD acc p.1 p.2) []) := by
      have e2 : mergeD [] (kD (k0N (reachB leap rows) rows.length g)) = kD (mg [] (k0N (reachB leap rows) rows.length g)) := mergeD_kD (k0N (reachB leap rows) rows.length g) []
      rw [← e2]
      unfold mergeD kD k0N
      rw [List.map_filterMap]
    rw [e]
    refine dc_map iD _ (List.range rows.length) (range_ok hn rfl) rfl rfl rfl (fun p hp => ?_) (by rw [List.length_range]; omega)
    have hp2 := List.mem_range.mp hp
    refine ⟨[.d (.list (rD rows)), .d (mD a0 a1 a2 a3 a5 a6 a7 leap), .d (.list (isD isl)), .d (iD g), o, .un, .un, .un, .d (iD p), .un, .un], rfl, ?_⟩
    have cv : (Vw.callP 4 does_reach_islands (Vw.cons (Vw.pl (.slot 1)) (Vw.cons (Vw.pl (.slot 0)) (Vw.cons (Vw.pl (.slot 8)) (Vw.cons (Vw.pl (.slot 3)) Vw.nil))))) [.d (.list (rD rows)), .d (mD a0 a1 a2 a3 a5 a6 a7 leap), .d (.list (isD isl)), .d (iD g), o, .un, .un, .un, .d (iD p), .un, .un] = some (.d (.bool (reachB leap rows p g))) := callPv_ok rfl rfl rfl (reach_ok hp2 hg) rfl
    have tv : (T.view (Vw.callP 4 does_reach_islands (Vw.cons (Vw.pl (.slot 1)) (Vw.cons (Vw.pl (.slot 0)) (Vw.cons (Vw.pl (.slot 8)) (Vw.cons (Vw.pl (.slot 3)) Vw.nil)))))) [.d (.list (rD rows)), .d (mD a0 a1 a2 a3 a5 a6 a7 leap), .d (.list (isD isl)), .d (iD g), o, .un, .un, .un, .d (iD p), .un, .un] = .ok (reachB leap rows p g) [.d (.list (rD rows)), .d (mD a0 a1 a2 a3 a5 a6 a7 leap), .d (.list (isD isl)), .d (iD g), o, .un, .un, .un, .d (iD p), .un, .un] := by
      unfold T.view
      rw [cv]
    cases hb : reachB leap rows p g with
    | false => exact .inl ⟨by simp, _, by rw [tv, hb], rfl⟩
    | true => exact .inr ⟨iD p, lD [], .lst [], _, _, _, by simp, by rw [tv, hb], rfl, rfl, rfl, rfl, rfl⟩
  obtain ⟨b4, b5, nw', y7, y8, y9, hr⟩ := while_ok (a0 := a0) (a1 := a1) (a2 := a2) (a3 := a3) (a5 := a5) (a6 := a6) (a7 := a7) (leap := leap) (rows := rows) (isl := isl) (g := g) (ps := postsN isl g) hn hps hpl 50 _ _ kn hk 100000 (by decide) false false .un none .un
  have lf : E.lc [8] (Wk.range1 (A.cons (E.view (Vw.opN o_len (Vw.cons (Vw.var 0) Vw.nil))) A.nil)) (G.nm 8) T.yes (E.view (Vw.ifE (Vw.op2 o_in (Vw.var 8) (Vw.var 5)) (Vw.opN (fun xs => (l_list xs).map dl) (Vw.cons (Vw.op2 o_ix (Vw.var 5) (Vw.var 8)) Vw.nil)) (Vw.c .none))) (eW a0 a1 a2 a3 a5 a6 a7 leap rows isl g (postsN isl g) b4 b5 kn nw' y7 y8 y9) = .ok (.lst ((((List.range rows.length).map fun p => oW (lk kn p))).map O.d)) (backE (eW a0 a1 a2 a3 a5 a6 a7 leap rows isl g (postsN isl g) b4 b5 kn nw' y7 y8 y9) (eW a0 a1 a2 a3 a5 a6 a7 leap rows isl g (postsN isl g) b4 b5 kn nw' y7 none y9) [8]) := by
    have e : ((List.range rows.length).map fun p => oW (lk kn p)) = (List.range rows.length).filterMap fun p => some (oW (lk kn p)) := by
      rw [List.filterMap_eq_map']
    rw [e]
    refine lc_mapW (ρ' := (eW a0 a1 a2 a3 a5 a6 a7 leap rows isl g (postsN isl g) b4 b5 kn nw' y7 none y9)) iD _ (List.range rows.length) (range_ok hn rfl) (by cases y8 <;> rfl) rfl (fun p _ => ?_) (by rw [List.length_range]; omega)
    refine ⟨(eW a0 a1 a2 a3 a5 a6 a7 leap rows isl g (postsN isl g) b4 b5 kn nw' y7 (some (iD p)) y9), rfl, .inr ⟨oW (lk kn p), (eW a0 a1 a2 a3 a5 a6 a7 leap rows isl g (postsN isl g) b4 b5 kn nw' y7 (some (iD p)) y9), (eW a0 a1 a2 a3 a5 a6 a7 leap rows isl g (postsN isl g) b4 b5 kn nw' y7 (some (iD p)) y9), rfl, rfl, view_ok ?_, rfl⟩⟩
    rw [ifE_ok (op2_ok rfl (var5 rfl) (in5 b5 kn p))]
    cases hk2 : lk kn p with
    | none => rfl
    | some w =>
      rw [if_pos (by rfl)]
      exact opN_ok (op2_ok (var5 rfl) rfl (ix5 hk2)) (by
        show Option.map dl (match (some (w.map iD |>.map O.d)).bind allD with | some ds => some ds | none => none) = _
        rw [Option.bind_some, allD_map]
        rfl)
  have body : ∃ ρ, b_ways_by [.d (.list (rD rows)), .d (mD a0 a1 a2 a3 a5 a6 a7 leap), .d (.list (isD isl)), .d (iD g), .un, .un, .un, .un, .un, .un, .un] = .ok (.ret (.d (.tuple (((List.range rows.length).map fun p => lk kn p).map oW)))) ρ := by
    refine ⟨backE (eW a0 a1 a2 a3 a5 a6 a7 leap rows isl g (postsN isl g) b4 b5 kn nw' y7 y8 y9) (eW a0 a1 a2 a3 a5 a6 a7 leap rows isl g (postsN isl g) b4 b5 kn nw' y7 none y9) [8], ?_⟩
    unfold b_ways_by
    refine (seq_ok (ρ' := [.d (.list (rD rows)), .d (mD a0 a1 a2 a3 a5 a6 a7 leap), .d (.list (isD isl)), .d (iD g), o4 false (postsN isl g), .un, .un, .un, .un, .un, .un]) ?_).trans ?_
    · unfold S.asg M.bind
      rw [s1]
      rfl
    refine (seq_ok (ρ' := [.d (.list (rD rows)), .d (mD a0 a1 a2 a3 a5 a6 a7 leap), .d (.list (isD isl)), .d (iD g), o4 false (postsN isl g), .dic (kD (mg [] (k0N (reachB leap rows) rows.length g))), .un, .un, .un, .un, .un]) ?_).trans ?_
    · unfold S.asg M.bind
      rw [s2]
      rfl
    refine (seq_ok (ρ' := eW a0 a1 a2 a3 a5 a6 a7 leap rows isl g (postsN isl g) false false (mg [] (k0N (reachB leap rows) rows.length g)) (mg [] (k0N (reachB leap rows) rows.length g)) .un none .un) rfl).trans ?_
    refine (seq_ok (ρ' := (eW a0 a1 a2 a3 a5 a6 a7 leap rows isl g (postsN isl g) b4 b5 kn nw' y7 y8 y9)) hr).trans ?_
    unfold S.ret E.opN M.bind
    have al : (A.cons (E.lc [8] (Wk.range1 (A.cons (E.view (Vw.opN o_len (Vw.cons (Vw.var 0) Vw.nil))) A.nil)) (G.nm 8) T.yes (E.view (Vw.ifE (Vw.op2 o_in (Vw.var 8) (Vw.var 5)) (Vw.opN (fun xs => (l_list xs).map dl) (Vw.cons (Vw.op2 o_ix (Vw.var 5) (Vw.var 8)) Vw.nil)) (Vw.c .none)))) A.nil) (eW a0 a1 a2 a3 a5 a6 a7 leap rows isl g (postsN isl g) b4 b5 kn nw' y7 y8 y9) = .ok [.lst ((((List.range rows.length).map fun p => oW (lk kn p))).map O.d)] (backE (eW a0 a1 a2 a3 a5 a6 a7 leap rows isl g (postsN isl g) b4 b5 kn nw' y7 y8 y9) (eW a0 a1 a2 a3 a5 a6 a7 leap rows isl g (postsN isl g) b4 b5 kn nw' y7 none y9) [8]) := acons_ok lf rfl
    rw [al]
    have tu : b_tuple [.lst ((((List.range rows.length).map fun p => oW (lk kn p))).map O.d)] = some (.d (.tuple ((List.range rows.length).map fun p => oW (lk kn p)))) := by
      show Option.map (fun ds => O.d (.tuple ds)) (allD ((((List.range rows.length).map fun p => oW (lk kn p))).map O.d)) = _
      rw [allD_map]
      rfl
    simp only [tu]
    rw [List.map_map]
    rfl
  obtain ⟨ρ, hb⟩ := body
  show (match b_ways_by [.d (.list (rD rows)), .d (mD a0 a1 a2 a3 a5 a6 a7 leap), .d (.list (isD isl)), .d (iD g), .un, .un, .un, .un, .un, .un, .un] with
    | .ok (.ret r) ρ => FRes.ok r (([] : List Nat).map fun i => ρ.getD i .un)
    | .ok .nx ρ => .ok (.d .none) (([] : List Nat).map fun i => ρ.getD i .un)
    | .exc c ρ => .exc c (([] : List Nat).map fun i => ρ.getD i .un)
    | _ => .stuck) = _
  rw [hb]
  rfl
end
def rowsOf : List D → Option (List (Int × Int))
  | [] => some []
  | .tuple [.int a, .int b] :: r => (rowsOf r).map ((a, b) :: ·)
  | _ :: _ => none
theorem rowsOf_ok : ∀ {R : List D} {rows : List (Int × Int)}, rowsOf R = some rows → R = rD rows
  | [], _, h => by cases h; rfl
  | x :: r, rows, h => by
    unfold rowsOf at h
    split at h
    · rename_i e; cases e
    · rename_i a b r' e
      cases e
      rw [Option.map_eq_some_iff] at h
      obtain ⟨q, hq, rfl⟩ := h
      rw [rowsOf_ok hq]
      rfl
    · cases h
def islOf : List D → Option (List (Nat × Nat))
  | [] => some []
  | .tuple [.int (.ofNat a), .int (.ofNat b)] :: r => (islOf r).map ((a, b) :: ·)
  | _ :: _ => none
theorem islOf_ok : ∀ {R : List D} {isl : List (Nat × Nat)}, islOf R = some isl → R = isD isl
  | [], _, h => by cases h; rfl
  | x :: r, isl, h => by
    unfold islOf at h
    split at h
    · rename_i e; cases e
    · rename_i a b r' e
      cases e
      rw [Option.map_eq_some_iff] at h
      obtain ⟨q, hq, rfl⟩ := h
      rw [islOf_ok hq]
      rfl
    · cases h
/-- ways_by, reckoned without slots where all is as it should be -/
def fastW (R : List D) (leap : Int) (I : List D) (g : Nat) : Option (List (Option (List Nat))) := match rowsOf R, islOf I with
  | some rows, some isl => if rows.length ≤ 1000 ∧ g < rows.length ∧ (isl.all fun e => decide (e.1 < rows.length)) = true ∧ isl.length < 1000 then waysN (reachB leap rows) rows.length isl g else none
  | _, _ => none
def ways_byF (os : List O) : FRes := match os with
  | [.d (.list R), .d (.tuple [a0, a1, a2, a3, .int leap, a5, a6, a7]), .d (.list I), .d (.int (.ofNat g))] => (match fastW R leap I g with
    | some r => .ok (.d (.tuple (r.map oW))) []
    | none => ways_by [.d (.list R), .d (.tuple [a0, a1, a2, a3, .int leap, a5, a6, a7]), .d (.list I), .d (.int (.ofNat g))])
  | os => ways_by os
theorem ways_byF_eq : ways_byF = ways_by := by
  funext os
  unfold ways_byF
  split
  · rename_i R a0 a1 a2 a3 leap a5 a6 a7 I g
    split
    · rename_i r h
      unfold fastW at h
      split at h
      · rename_i rows isl e1 e2
        split at h
        case isFalse => cases h
        rename_i c
        obtain ⟨c1, c2, c3, c4⟩ := c
        rw [rowsOf_ok e1, islOf_ok e2]
        exact (ways_ok (isl := isl) (g := g) c1 c2 (fun e he => of_decide_eq_true (List.all_eq_true.mp c3 e he)) c4 h).symm
      · cases h
    · rfl
  · rfl
end
section
variable {P : Program} {w : World} {K : PySem.W.Frag} {mg : Str → Option Value} {base : Heap}
theorem fn_ways_byF (Y : Ya fa fn ts K mg) : Fn P w K mg base "ways_by" 3 ["rows", "machine", "islands", "goal"] [] ways_byF := by
  rw [ways_byF_eq]
  exact fn_ways_by Y
theorem sc_ways_of : FnScope ["book", "machine", "order", "room", "islands", "goal", "rows"] ["book", "machine", "order", "room", "islands", "goal"] (defScope s_ways_of) := ⟨rfl, rfl, rfl, by decide +kernel, rfl, by decide +kernel, by decide +kernel⟩
def b_ways_of : M Fl := (S.seq (S.asg (E.callP 4 extents_with (Vw.cons (Vw.dat (Vw.callP 3 bytes_of (Vw.cons (Vw.pl (.slot 0)) (Vw.cons (Vw.pl (.slot 1)) (Vw.cons (Vw.pl (.slot 3)) Vw.nil))))) (Vw.cons (Vw.pl (.slot 1)) (Vw.cons (Vw.pl (.slot 2)) (Vw.cons (Vw.pl (.slot 4)) Vw.nil))))) (G.nm 6))
  (S.ret (E.call 4 ways_byF (A.cons (E.var 6) (A.cons (E.var 1) (A.cons (E.var 4) (A.cons (E.var 5) A.nil)))))))
def ways_of : List O → FRes := runF [] 7 b_ways_of
theorem fn_ways_of (Y : Ya fa fn ts K mg) : Fn P w K mg base "ways_of" 8 ["book", "machine", "order", "room", "islands", "goal"] [] ways_of :=
  Fn.of (st := s_ways_of) (N := ["book", "machine", "order", "room", "islands", "goal", "rows"]) Y 35 69 rfl rfl sc_ways_of (by decide) (by decide) (fun _ _ _ _ _ _ us hl => match us, hl with | [_, _, _, _, _, _], _ => rfl) fun f cdv A outer s H E hr hgd tk => (eb_cons (es_asg (ee_fnP (fn_extents_with Y) hr hgd tk (vb_d (ve_fn (fn_bytes_of Y) hr hgd (vb_pl (pl_slot 0) (vb_pl (pl_slot 1) (vb_pl (pl_slot 3) vb_nil)))) (vb_pl (pl_slot 1) (vb_pl (pl_slot 2) (vb_pl (pl_slot 4) vb_nil))))) (eg_nm 6 sc_ways_of.nd))
  (eb_one (es_ret (ee_fn (fn_ways_byF Y) hr hgd tk (ea_cons (ee_var 6) (ea_cons (ee_var 1) (ea_cons (ee_var 4) (ea_cons (ee_var 5) ea_nil))))))))
theorem sc_levels_by : FnScope ["rows", "machine", "islands", "goal", "way"] ["rows", "machine", "islands", "goal"] (defScope s_levels_by) := ⟨rfl, rfl, rfl, by decide +kernel, rfl, by decide +kernel, by decide +kernel⟩
def b_levels_by : M Fl := (S.ret (E.opN b_tuple (A.cons (E.lc [4] (Wk.seq (E.callP 4 ways_byF (Vw.cons (Vw.pl (.slot 0)) (Vw.cons (Vw.pl (.slot 1)) (Vw.cons (Vw.pl (.slot 2)) (Vw.cons (Vw.pl (.slot 3)) Vw.nil)))))) (G.nm 4) T.yes (E.view (Vw.ifE (Vw.op2 o_is (Vw.var 4) (Vw.c .none)) (Vw.c .none) (Vw.opN o_len (Vw.cons (Vw.var 4) Vw.nil))))) A.nil)))
def levels_by : List O → FRes := runF [] 5 b_levels_by
theorem fn_levels_by (Y : Ya fa fn ts K mg) : Fn P w K mg base "levels_by" 4 ["rows", "machine", "islands", "goal"] [] levels_by :=
  Fn.of (st := s_levels_by) (N := ["rows", "machine", "islands", "goal", "way"]) Y 36 70 rfl rfl sc_levels_by (by decide) (by decide) (fun _ _ _ _ _ _ us hl => match us, hl with | [_, _, _, _], _ => rfl) fun f cdv A outer s H E hr hgd tk => (eb_one (es_ret (ee_callTyE call_tuple_of vw_tuple isd_tuple (ea_cons (ee_lc (own := [("way", 4)]) rfl sc_levels_by.nd (ei_seq (ee_fnP (fn_ways_byF Y) hr hgd tk (vb_pl (pl_slot 0) (vb_pl (pl_slot 1) (vb_pl (pl_slot 2) (vb_pl (pl_slot 3) vb_nil)))))) (blkOk_by (N := ["rows", "machine", "islands", "goal", "way"]) (sc := defScope s_levels_by) (by decide +kernel)) (fun _ _ _ _ _ => (eg_nm 4 sc_levels_by.nd)) (fun _ _ _ _ _ => ets_nil) (fun _ _ _ _ _ => (ee_view (ve_if (vt_cmp op_isA vw_is (ve_var 4) ve_non) ve_non (ve_callB call_lenA vw_len (va_cons (ve_var 4) va_nil) (Y.free 5) (hv := bt_len)))))) ea_nil) (Y.free 4) (hv := bt_tuple))))
theorem sc_leaps_of : FnScope ["book", "found", "number", "part", "row"] ["book"] (defScope s_leaps_of) := ⟨rfl, rfl, rfl, by decide +kernel, rfl, by decide +kernel, by decide +kernel⟩
def b_leaps_of : M Fl := (S.seq (S.asg (E.lst A.nil) (G.nm 1))
  (S.seq (S.for (Wk.enum (A.cons (E.var 0) A.nil)) (G.tup 2 (G.cons (G.nm 2) (G.cons (G.nm 3) G.nil))) (S.expr (E.mut 1 "list" m_extend (A.cons (E.lc [4] (Wk.seq (E.var 3)) (G.nm 4) (T.view (Vw.op2 o_eq (Vw.op2 o_ix (Vw.var 4) (Vw.c (.int 0))) (Vw.c (.str "far")))) (E.view (Vw.tup (Vw.cons (Vw.var 2) (Vw.cons (Vw.op2 o_ix (Vw.var 4) (Vw.c (.int 1))) Vw.nil))))) A.nil))))
  (S.ret (E.view (Vw.op1 v_setP (Vw.var 1))))))
def leaps_of : List O → FRes := runF [] 5 b_leaps_of
theorem fn_leaps_of (Y : Ya fa fn ts K mg) : Fn P w K mg base "leaps_of" 1 ["book"] [] leaps_of :=
  Fn.of (st := s_leaps_of) (N := ["book", "found", "number", "part", "row"]) Y 37 71 rfl rfl sc_leaps_of (by decide) (by decide) (fun _ _ _ _ _ _ us hl => match us, hl with | [_], _ => rfl) fun f cdv A outer s H E hr hgd tk => (eb_cons (es_asg (ee_lst ea_nil) (eg_nm 1 sc_leaps_of.nd))
  (eb_cons (es_for (passes_of rfl) rfl (ei_enum rfl (Y.free 16) (ea_cons (ee_var 0) ea_nil)) (eg_tup rfl (egs_cons (eg_nm 2 sc_leaps_of.nd) (egs_cons (eg_nm 3 sc_leaps_of.nd) egs_nil))) (eb_one (es_expr (ee_mut 1 PySem.F.plainAttrs_list PySem.F.slot_list_extend PySem.F.type_list_extend mt_extend ms_extend (pl_slot 1) (ea_cons (ee_lc (own := [("row", 4)]) rfl sc_leaps_of.nd (ei_seq (ee_var 3)) (blkOk_by (N := ["book", "found", "number", "part", "row"]) (sc := defScope s_leaps_of) (by decide +kernel)) (fun _ _ _ _ _ => (eg_nm 4 sc_leaps_of.nd)) (fun _ _ _ _ _ => (ets_one (et_view (vt_cmp (op_eqA (hu100 hr)) vw_eq (ve_ix (ix_any (hu100 hr)) vw_ix (ve_var 4) ve_int) ve_str)))) (fun _ _ _ _ _ => (ee_view (ve_tup (va_cons (ve_var 2) (va_cons (ve_ix (ix_any (hu100 hr)) vw_ix (ve_var 4) ve_int) va_nil)))))) ea_nil)))))
  (eb_one (es_ret (ee_view (ve_setP (ve_var 1) (hu100 hr) (Y.free 36) (Y.free 53)))))))
theorem sc_lost_by : FnScope ["leaps", "sizes", "machine", "order", "islands", "rows", "levels", "goal", "part"] ["leaps", "sizes", "machine", "order", "islands"] (defScope s_lost_by) := ⟨rfl, rfl, rfl, by decide +kernel, rfl, by decide +kernel, by decide +kernel⟩
def b_lost_by : M Fl := (S.seq (S.asg (E.callP 4 extents_with (Vw.cons (Vw.pl (.slot 1)) (Vw.cons (Vw.pl (.slot 2)) (Vw.cons (Vw.pl (.slot 3)) (Vw.cons (Vw.pl (.slot 4)) Vw.nil))))) (G.nm 5))
  (S.seq (S.asg (E.lc [7] (Wk.range1 (A.cons (E.view (Vw.opN o_len (Vw.cons (Vw.var 1) Vw.nil))) A.nil)) (G.nm 7) T.yes (E.callP 4 levels_by (Vw.cons (Vw.pl (.slot 5)) (Vw.cons (Vw.pl (.slot 2)) (Vw.cons (Vw.pl (.slot 4)) (Vw.cons (Vw.pl (.slot 7)) Vw.nil)))))) (G.nm 6))
  (S.ret (E.lc [8, 7] (Wk.seq (E.var 0)) (G.tup 2 (G.cons (G.nm 8) (G.cons (G.nm 7) G.nil))) (T.view (Vw.op2 o_is (Vw.op2 o_ix (Vw.op2 o_ix (Vw.var 6) (Vw.var 7)) (Vw.var 8)) (Vw.c .none))) (E.view (Vw.tup (Vw.cons (Vw.var 8) (Vw.cons (Vw.var 7) Vw.nil))))))))
def lost_by : List O → FRes := runF [] 9 b_lost_by
theorem fn_lost_by (Y : Ya fa fn ts K mg) : Fn P w K mg base "lost_by" 5 ["leaps", "sizes", "machine", "order", "islands"] [] lost_by :=
  Fn.of (st := s_lost_by) (N := ["leaps", "sizes", "machine", "order", "islands", "rows", "levels", "goal", "part"]) Y 38 72 rfl rfl sc_lost_by (by decide) (by decide) (fun _ _ _ _ _ _ us hl => match us, hl with | [_, _, _, _, _], _ => rfl) fun f cdv A outer s H E hr hgd tk => (eb_cons (es_asg (ee_fnP (fn_extents_with Y) hr hgd tk (vb_pl (pl_slot 1) (vb_pl (pl_slot 2) (vb_pl (pl_slot 3) (vb_pl (pl_slot 4) vb_nil))))) (eg_nm 5 sc_lost_by.nd))
  (eb_cons (es_asg (ee_lc (own := [("goal", 7)]) rfl sc_lost_by.nd (ei_range1 rfl (Y.free 43) (ea_cons (ee_view (ve_callB call_lenA vw_len (va_cons (ve_var 1) va_nil) (Y.free 5) (hv := bt_len))) ea_nil)) (blkOk_by (N := ["leaps", "sizes", "machine", "order", "islands", "rows", "levels", "goal", "part"]) (sc := defScope s_lost_by) (by decide +kernel)) (fun _ _ _ _ _ => (eg_nm 7 sc_lost_by.nd)) (fun _ _ _ _ _ => ets_nil) (fun _ _ _ _ _ => (ee_fnP (fn_levels_by Y) hr hgd takesW0 (vb_pl (pl_slot 5) (vb_pl (pl_slot 2) (vb_pl (pl_slot 4) (vb_pl (pl_slot 7) vb_nil))))))) (eg_nm 6 sc_lost_by.nd))
  (eb_one (es_ret (ee_lc (own := [("part", 8), ("goal", 7)]) rfl sc_lost_by.nd (ei_seq (ee_var 0)) (blkOk_by (N := ["leaps", "sizes", "machine", "order", "islands", "rows", "levels", "goal", "part"]) (sc := defScope s_lost_by) (by decide +kernel)) (fun _ _ _ _ _ => (eg_tup rfl (egs_cons (eg_nm 8 sc_lost_by.nd) (egs_cons (eg_nm 7 sc_lost_by.nd) egs_nil)))) (fun _ _ _ _ _ => (ets_one (et_view (vt_cmp op_isA vw_is (ve_ix (ix_any (hu100 hr)) vw_ix (ve_ix (ix_any (hu100 hr)) vw_ix (ve_var 6) (ve_var 7)) (ve_var 8)) ve_non)))) (fun _ _ _ _ _ => (ee_view (ve_tup (va_cons (ve_var 8) (va_cons (ve_var 7) va_nil))))))))))
theorem sc_lost_of : FnScope ["book", "machine", "order", "room", "islands"] ["book", "machine", "order", "room", "islands"] (defScope s_lost_of) := ⟨rfl, rfl, rfl, by decide +kernel, rfl, by decide +kernel, by decide +kernel⟩
def b_lost_of : M Fl := (S.ret (E.callP 5 lost_by (Vw.cons (Vw.dat (Vw.callP 1 leaps_of (Vw.cons (Vw.pl (.slot 0)) Vw.nil))) (Vw.cons (Vw.dat (Vw.callP 3 bytes_of (Vw.cons (Vw.pl (.slot 0)) (Vw.cons (Vw.pl (.slot 1)) (Vw.cons (Vw.pl (.slot 3)) Vw.nil))))) (Vw.cons (Vw.pl (.slot 1)) (Vw.cons (Vw.pl (.slot 2)) (Vw.cons (Vw.pl (.slot 4)) Vw.nil)))))))
def lost_of : List O → FRes := runF [] 5 b_lost_of
theorem fn_lost_of (Y : Ya fa fn ts K mg) : Fn P w K mg base "lost_of" 8 ["book", "machine", "order", "room", "islands"] [] lost_of :=
  Fn.of (st := s_lost_of) (N := ["book", "machine", "order", "room", "islands"]) Y 39 73 rfl rfl sc_lost_of (by decide) (by decide) (fun _ _ _ _ _ _ us hl => match us, hl with | [_, _, _, _, _], _ => rfl) fun f cdv A outer s H E hr hgd tk => (eb_one (es_ret (ee_fnP (fn_lost_by Y) hr hgd tk (vb_d (ve_fn (fn_leaps_of Y) hr hgd (vb_pl (pl_slot 0) vb_nil)) (vb_d (ve_fn (fn_bytes_of Y) hr hgd (vb_pl (pl_slot 0) (vb_pl (pl_slot 1) (vb_pl (pl_slot 3) vb_nil)))) (vb_pl (pl_slot 1) (vb_pl (pl_slot 2) (vb_pl (pl_slot 4) vb_nil))))))))
theorem sc_fewest_by : FnScope ["leaps", "sizes", "machine", "order", "pairs", "many", "islands", "some"] ["leaps", "sizes", "machine", "order", "pairs"] (defScope s_fewest_by) := ⟨rfl, rfl, rfl, by decide +kernel, rfl, by decide +kernel, by decide +kernel⟩
def b_fewest_by : M Fl := (S.seq (S.for (Wk.seq (E.opN (fun xs => (l_sorted xs).map ol) (A.cons (E.lc [7] (Wk.seq (E.callP 1 all_lists (Vw.cons (Vw.pl (.slot 4)) Vw.nil))) (G.nmC 7) T.yes (E.view (Vw.tup (Vw.cons (Vw.opN o_len (Vw.cons (Vw.var 7) Vw.nil)) (Vw.cons (Vw.var 7) Vw.nil))))) A.nil))) (G.tup 2 (G.cons (G.nmC 5) (G.cons (G.nmC 6) G.nil))) (S.ifS (T.view (Vw.op2 o_eq (Vw.callP 5 lost_by (Vw.cons (Vw.pl (.slot 0)) (Vw.cons (Vw.pl (.slot 1)) (Vw.cons (Vw.pl (.slot 2)) (Vw.cons (Vw.pl (.slot 3)) (Vw.cons (Vw.pl (.slot 6)) Vw.nil)))))) (Vw.lst Vw.nil))) (S.ret (E.move 6)) S.nx))
  (S.ret (E.view (Vw.c .none))))
def fewest_by : List O → FRes := runF [] 8 b_fewest_by
theorem fn_fewest_by (Y : Ya fa fn ts K mg) : Fn P w K mg base "fewest_by" 6 ["leaps", "sizes", "machine", "order", "pairs"] [] fewest_by :=
  Fn.of (st := s_fewest_by) (N := ["leaps", "sizes", "machine", "order", "pairs", "many", "islands", "some"]) Y 40 74 rfl rfl sc_fewest_by (by decide) (by decide) (fun _ _ _ _ _ _ us hl => match us, hl with | [_, _, _, _, _], _ => rfl) fun f cdv A outer s H E hr hgd tk => (eb_cons (es_for (passes_of rfl) rfl (ei_seq (ee_frBE (cr_sortD (hu100 hr)) ls_sorted.fr (ea_cons (ee_lc (own := [("some", 7)]) rfl sc_fewest_by.nd (ei_seq (ee_fnP (fn_all_lists Y) hr hgd tk (vb_pl (pl_slot 4) vb_nil))) (blkOk_by (N := ["leaps", "sizes", "machine", "order", "pairs", "many", "islands", "some"]) (sc := defScope s_fewest_by) (by decide +kernel)) (fun _ _ _ _ _ => (eg_nmC 7 sc_fewest_by.nd)) (fun _ _ _ _ _ => ets_nil) (fun _ _ _ _ _ => (ee_view (ve_tup (va_cons (ve_callB call_lenA vw_len (va_cons (ve_var 7) va_nil) (Y.free 5) (hv := bt_len)) (va_cons (ve_var 7) va_nil)))))) ea_nil) (Y.free 36) (hv := bt_sorted))) (eg_tup rfl (egs_cons (eg_nmC 5 sc_fewest_by.nd) (egs_cons (eg_nmC 6 sc_fewest_by.nd) egs_nil))) (eb_one (es_if (et_view (vt_cmp (op_eqA (hu100 hr)) vw_eq (ve_fn (fn_lost_by Y) hr hgd (vb_pl (pl_slot 0) (vb_pl (pl_slot 1) (vb_pl (pl_slot 2) (vb_pl (pl_slot 3) (vb_pl (pl_slot 6) vb_nil)))))) (ve_lst va_nil))) (eb_one (es_ret (ee_move 6))) eb_nil)))
  (eb_one (es_ret (ee_view ve_non))))
theorem sc_need_laid : FnScope ["book", "machine", "order", "room"] ["book", "machine", "order", "room"] (defScope s_need_laid) := ⟨rfl, rfl, rfl, by decide +kernel, rfl, by decide +kernel, by decide +kernel⟩
def b_need_laid : M Fl := (S.seq (S.expr (E.callP 1 need_book (Vw.cons (Vw.pl (.slot 0)) Vw.nil)))
  (S.seq (S.expr (E.callP 1 need_machine (Vw.cons (Vw.pl (.slot 1)) Vw.nil)))
  (S.seq (S.expr (E.callP 2 need_order (Vw.cons (Vw.pl (.slot 0)) (Vw.cons (Vw.pl (.slot 2)) Vw.nil))))
  (S.expr (E.callP 2 need_room (Vw.cons (Vw.pl (.slot 0)) (Vw.cons (Vw.pl (.slot 3)) Vw.nil)))))))
def need_laid : List O → FRes := runF [] 4 b_need_laid
theorem fn_need_laid (Y : Ya fa fn ts K mg) : Fn P w K mg base "need_laid" 6 ["book", "machine", "order", "room"] [] need_laid :=
  Fn.of (st := s_need_laid) (N := ["book", "machine", "order", "room"]) Y 41 75 rfl rfl sc_need_laid (by decide) (by decide) (fun _ _ _ _ _ _ us hl => match us, hl with | [_, _, _, _], _ => rfl) fun f cdv A outer s H E hr hgd tk => (eb_cons (es_expr (ee_fnP (fn_need_book Y) hr hgd tk (vb_pl (pl_slot 0) vb_nil)))
  (eb_cons (es_expr (ee_fnP (fn_need_machine Y) hr hgd tk (vb_pl (pl_slot 1) vb_nil)))
  (eb_cons (es_expr (ee_fnP (fn_need_order Y) hr hgd tk (vb_pl (pl_slot 0) (vb_pl (pl_slot 2) vb_nil))))
  (eb_one (es_expr (ee_fnP (fn_need_room Y) hr hgd tk (vb_pl (pl_slot 0) (vb_pl (pl_slot 3) vb_nil))))))))
theorem sc_extents : FnScope ["book", "machine", "order", "room"] ["book", "machine", "order", "room"] (defScope s_extents) := ⟨rfl, rfl, rfl, by decide +kernel, rfl, by decide +kernel, by decide +kernel⟩
def b_extents : M Fl := (S.seq (S.expr (E.callP 4 need_laid (Vw.cons (Vw.pl (.slot 0)) (Vw.cons (Vw.pl (.slot 1)) (Vw.cons (Vw.pl (.slot 2)) (Vw.cons (Vw.pl (.slot 3)) Vw.nil))))))
  (S.ret (E.callP 4 extents_of (Vw.cons (Vw.pl (.slot 0)) (Vw.cons (Vw.pl (.slot 1)) (Vw.cons (Vw.pl (.slot 2)) (Vw.cons (Vw.pl (.slot 3)) Vw.nil)))))))
def extents : List O → FRes := runF [] 4 b_extents
theorem fn_extents (Y : Ya fa fn ts K mg) : Fn P w K mg base "extents" 9 ["book", "machine", "order", "room"] [] extents :=
  Fn.of (st := s_extents) (N := ["book", "machine", "order", "room"]) Y 42 76 rfl rfl sc_extents (by decide) (by decide) (fun _ _ _ _ _ _ us hl => match us, hl with | [_, _, _, _], _ => rfl) fun f cdv A outer s H E hr hgd tk => (eb_cons (es_expr (ee_fnP (fn_need_laid Y) hr hgd tk (vb_pl (pl_slot 0) (vb_pl (pl_slot 1) (vb_pl (pl_slot 2) (vb_pl (pl_slot 3) vb_nil))))))
  (eb_one (es_ret (ee_fnP (fn_extents_of Y) hr hgd tk (vb_pl (pl_slot 0) (vb_pl (pl_slot 1) (vb_pl (pl_slot 2) (vb_pl (pl_slot 3) vb_nil))))))))
theorem sc_with_islands : FnScope ["book", "islands"] ["book", "islands"] (defScope s_with_islands) := ⟨rfl, rfl, rfl, by decide +kernel, rfl, by decide +kernel, by decide +kernel⟩
def b_with_islands : M Fl := (S.seq (S.expr (E.callP 1 need_book (Vw.cons (Vw.pl (.slot 0)) Vw.nil)))
  (S.seq (S.expr (E.callP 2 need_islands (Vw.cons (Vw.pl (.slot 0)) (Vw.cons (Vw.pl (.slot 1)) Vw.nil))))
  (S.ret (E.callP 2 with_islands_of (Vw.cons (Vw.pl (.slot 0)) (Vw.cons (Vw.pl (.slot 1)) Vw.nil))))))
def with_islands : List O → FRes := runF [] 2 b_with_islands
theorem fn_with_islands (Y : Ya fa fn ts K mg) : Fn P w K mg base "with_islands" 6 ["book", "islands"] [] with_islands :=
  Fn.of (st := s_with_islands) (N := ["book", "islands"]) Y 43 77 rfl rfl sc_with_islands (by decide) (by decide) (fun _ _ _ _ _ _ us hl => match us, hl with | [_, _], _ => rfl) fun f cdv A outer s H E hr hgd tk => (eb_cons (es_expr (ee_fnP (fn_need_book Y) hr hgd tk (vb_pl (pl_slot 0) vb_nil)))
  (eb_cons (es_expr (ee_fnP (fn_need_islands Y) hr hgd tk (vb_pl (pl_slot 0) (vb_pl (pl_slot 1) vb_nil))))
  (eb_one (es_ret (ee_fnP (fn_with_islands_of Y) hr hgd tk (vb_pl (pl_slot 0) (vb_pl (pl_slot 1) vb_nil)))))))
theorem sc_need_goal : FnScope ["book", "machine", "order", "room", "islands", "goal"] ["book", "machine", "order", "room", "islands", "goal"] (defScope s_need_goal) := ⟨rfl, rfl, rfl, by decide +kernel, rfl, by decide +kernel, by decide +kernel⟩
def b_need_goal : M Fl := (S.seq (S.expr (E.callP 4 need_laid (Vw.cons (Vw.pl (.slot 0)) (Vw.cons (Vw.pl (.slot 1)) (Vw.cons (Vw.pl (.slot 2)) (Vw.cons (Vw.pl (.slot 3)) Vw.nil))))))
  (S.seq (S.expr (E.callP 2 need_islands (Vw.cons (Vw.pl (.slot 0)) (Vw.cons (Vw.pl (.slot 4)) Vw.nil))))
  (S.ifS (T.view (Vw.not (Vw.callP 3 is_integer (Vw.cons (Vw.pl (.slot 5)) (Vw.cons (Vw.dat (Vw.c (.int 0))) (Vw.cons (Vw.dat (Vw.op2 o_sub (Vw.opN o_len (Vw.cons (Vw.var 0) Vw.nil)) (Vw.c (.int 1)))) Vw.nil)))))) (S.raise "NoGoal") S.nx)))
def need_goal : List O → FRes := runF [] 6 b_need_goal
theorem fn_need_goal (Y : Ya fa fn ts K mg) : Fn P w K mg base "need_goal" 7 ["book", "machine", "order", "room", "islands", "goal"] [] need_goal :=
  Fn.of (st := s_need_goal) (N := ["book", "machine", "order", "room", "islands", "goal"]) Y 44 80 rfl rfl sc_need_goal (by decide) (by decide) (fun _ _ _ _ _ _ us hl => match us, hl with | [_, _, _, _, _, _], _ => rfl) fun f cdv A outer s H E hr hgd tk => (eb_cons (es_expr (ee_fnP (fn_need_laid Y) hr hgd tk (vb_pl (pl_slot 0) (vb_pl (pl_slot 1) (vb_pl (pl_slot 2) (vb_pl (pl_slot 3) vb_nil))))))
  (eb_cons (es_expr (ee_fnP (fn_need_islands Y) hr hgd tk (vb_pl (pl_slot 0) (vb_pl (pl_slot 4) vb_nil))))
  (eb_one (es_if (et_view (vt_not (vt_val (ve_fn (fn_is_integer Y) hr hgd (vb_pl (pl_slot 5) (vb_d ve_int (vb_d (ve_op op_sub vw_sub (ve_callB call_lenA vw_len (va_cons (ve_var 0) va_nil) (Y.free 5) (hv := bt_len)) ve_int) vb_nil))))))) (eb_one (es_raiseY Y 78 79 tk)) eb_nil))))
theorem sc_ways : FnScope ["book", "machine", "order", "room", "islands", "goal"] ["book", "machine", "order", "room", "islands", "goal"] (defScope s_ways) := ⟨rfl, rfl, rfl, by decide +kernel, rfl, by decide +kernel, by decide +kernel⟩
def b_ways : M Fl := (S.seq (S.expr (E.callP 6 need_goal (Vw.cons (Vw.pl (.slot 0)) (Vw.cons (Vw.pl (.slot 1)) (Vw.cons (Vw.pl (.slot 2)) (Vw.cons (Vw.pl (.slot 3)) (Vw.cons (Vw.pl (.slot 4)) (Vw.cons (Vw.pl (.slot 5)) Vw.nil))))))))
  (S.ret (E.callP 6 ways_of (Vw.cons (Vw.pl (.slot 0)) (Vw.cons (Vw.pl (.slot 1)) (Vw.cons (Vw.pl (.slot 2)) (Vw.cons (Vw.pl (.slot 3)) (Vw.cons (Vw.pl (.slot 4)) (Vw.cons (Vw.pl (.slot 5)) Vw.nil)))))))))
def ways : List O → FRes := runF [] 6 b_ways
theorem fn_ways (Y : Ya fa fn ts K mg) : Fn P w K mg base "ways" 9 ["book", "machine", "order", "room", "islands", "goal"] [] ways :=
  Fn.of (st := s_ways) (N := ["book", "machine", "order", "room", "islands", "goal"]) Y 45 81 rfl rfl sc_ways (by decide) (by decide) (fun _ _ _ _ _ _ us hl => match us, hl with | [_, _, _, _, _, _], _ => rfl) fun f cdv A outer s H E hr hgd tk => (eb_cons (es_expr (ee_fnP (fn_need_goal Y) hr hgd tk (vb_pl (pl_slot 0) (vb_pl (pl_slot 1) (vb_pl (pl_slot 2) (vb_pl (pl_slot 3) (vb_pl (pl_slot 4) (vb_pl (pl_slot 5) vb_nil))))))))
  (eb_one (es_ret (ee_fnP (fn_ways_of Y) hr hgd tk (vb_pl (pl_slot 0) (vb_pl (pl_slot 1) (vb_pl (pl_slot 2) (vb_pl (pl_slot 3) (vb_pl (pl_slot 4) (vb_pl (pl_slot 5) vb_nil))))))))))
theorem sc_shows_levels : FnScope ["book", "machine", "order", "room", "islands", "goal", "thing", "rows"] ["book", "machine", "order", "room", "islands", "goal", "thing"] (defScope s_shows_levels) := ⟨rfl, rfl, rfl, by decide +kernel, rfl, by decide +kernel, by decide +kernel⟩
def b_shows_levels : M Fl := (S.seq (S.expr (E.callP 6 need_goal (Vw.cons (Vw.pl (.slot 0)) (Vw.cons (Vw.pl (.slot 1)) (Vw.cons (Vw.pl (.slot 2)) (Vw.cons (Vw.pl (.slot 3)) (Vw.cons (Vw.pl (.slot 4)) (Vw.cons (Vw.pl (.slot 5)) Vw.nil))))))))
  (S.seq (S.asg (E.callP 4 extents_with (Vw.cons (Vw.dat (Vw.callP 3 bytes_of (Vw.cons (Vw.pl (.slot 0)) (Vw.cons (Vw.pl (.slot 1)) (Vw.cons (Vw.pl (.slot 3)) Vw.nil))))) (Vw.cons (Vw.pl (.slot 1)) (Vw.cons (Vw.pl (.slot 2)) (Vw.cons (Vw.pl (.slot 4)) Vw.nil))))) (G.nm 7))
  (S.ret (E.view (Vw.op2 o_eq (Vw.opN g_repr (Vw.cons (Vw.var 6) Vw.nil)) (Vw.opN g_repr (Vw.cons (Vw.callP 4 levels_by (Vw.cons (Vw.pl (.slot 7)) (Vw.cons (Vw.pl (.slot 1)) (Vw.cons (Vw.pl (.slot 4)) (Vw.cons (Vw.pl (.slot 5)) Vw.nil))))) Vw.nil)))))))
def shows_levels : List O → FRes := runF [] 8 b_shows_levels
theorem fn_shows_levels (Y : Ya fa fn ts K mg) : Fn P w K mg base "shows_levels" 8 ["book", "machine", "order", "room", "islands", "goal", "thing"] [] shows_levels :=
  Fn.of (st := s_shows_levels) (N := ["book", "machine", "order", "room", "islands", "goal", "thing", "rows"]) Y 46 83 rfl rfl sc_shows_levels (by decide) (by decide) (fun _ _ _ _ _ _ us hl => match us, hl with | [_, _, _, _, _, _, _], _ => rfl) fun f cdv A outer s H E hr hgd tk => (eb_cons (es_expr (ee_fnP (fn_need_goal Y) hr hgd tk (vb_pl (pl_slot 0) (vb_pl (pl_slot 1) (vb_pl (pl_slot 2) (vb_pl (pl_slot 3) (vb_pl (pl_slot 4) (vb_pl (pl_slot 5) vb_nil))))))))
  (eb_cons (es_asg (ee_fnP (fn_extents_with Y) hr hgd tk (vb_d (ve_fn (fn_bytes_of Y) hr hgd (vb_pl (pl_slot 0) (vb_pl (pl_slot 1) (vb_pl (pl_slot 3) vb_nil)))) (vb_pl (pl_slot 1) (vb_pl (pl_slot 2) (vb_pl (pl_slot 4) vb_nil))))) (eg_nm 7 sc_shows_levels.nd))
  (eb_one (es_ret (ee_view (ve_cmp (op_eqA (hu100 hr)) vw_eq (ve_callB (cr_repr (hu100 hr) hgd) vw_repr (va_cons (ve_var 6) va_nil) (Y.free 82) (hv := bt_repr)) (ve_callB (cr_repr (hu100 hr) hgd) vw_repr (va_cons (ve_fn (fn_levels_by Y) hr hgd (vb_pl (pl_slot 7) (vb_pl (pl_slot 1) (vb_pl (pl_slot 4) (vb_pl (pl_slot 5) vb_nil))))) va_nil) (Y.free 82) (hv := bt_repr))))))))
theorem sc_lost : FnScope ["book", "machine", "order", "room", "islands"] ["book", "machine", "order", "room", "islands"] (defScope s_lost) := ⟨rfl, rfl, rfl, by decide +kernel, rfl, by decide +kernel, by decide +kernel⟩
def b_lost : M Fl := (S.seq (S.expr (E.callP 4 need_laid (Vw.cons (Vw.pl (.slot 0)) (Vw.cons (Vw.pl (.slot 1)) (Vw.cons (Vw.pl (.slot 2)) (Vw.cons (Vw.pl (.slot 3)) Vw.nil))))))
  (S.seq (S.expr (E.callP 2 need_islands (Vw.cons (Vw.pl (.slot 0)) (Vw.cons (Vw.pl (.slot 4)) Vw.nil))))
  (S.ret (E.callP 5 lost_of (Vw.cons (Vw.pl (.slot 0)) (Vw.cons (Vw.pl (.slot 1)) (Vw.cons (Vw.pl (.slot 2)) (Vw.cons (Vw.pl (.slot 3)) (Vw.cons (Vw.pl (.slot 4)) Vw.nil)))))))))
def lost : List O → FRes := runF [] 5 b_lost
theorem fn_lost (Y : Ya fa fn ts K mg) : Fn P w K mg base "lost" 9 ["book", "machine", "order", "room", "islands"] [] lost :=
  Fn.of (st := s_lost) (N := ["book", "machine", "order", "room", "islands"]) Y 47 84 rfl rfl sc_lost (by decide) (by decide) (fun _ _ _ _ _ _ us hl => match us, hl with | [_, _, _, _, _], _ => rfl) fun f cdv A outer s H E hr hgd tk => (eb_cons (es_expr (ee_fnP (fn_need_laid Y) hr hgd tk (vb_pl (pl_slot 0) (vb_pl (pl_slot 1) (vb_pl (pl_slot 2) (vb_pl (pl_slot 3) vb_nil))))))
  (eb_cons (es_expr (ee_fnP (fn_need_islands Y) hr hgd tk (vb_pl (pl_slot 0) (vb_pl (pl_slot 4) vb_nil))))
  (eb_one (es_ret (ee_fnP (fn_lost_of Y) hr hgd tk (vb_pl (pl_slot 0) (vb_pl (pl_slot 1) (vb_pl (pl_slot 2) (vb_pl (pl_slot 3) (vb_pl (pl_slot 4) vb_nil))))))))))
theorem sc_fewest_islands : FnScope ["book", "machine", "order", "room", "pairs"] ["book", "machine", "order", "room", "pairs"] (defScope s_fewest_islands) := ⟨rfl, rfl, rfl, by decide +kernel, rfl, by decide +kernel, by decide +kernel⟩
def b_fewest_islands : M Fl := (S.seq (S.expr (E.callP 4 need_laid (Vw.cons (Vw.pl (.slot 0)) (Vw.cons (Vw.pl (.slot 1)) (Vw.cons (Vw.pl (.slot 2)) (Vw.cons (Vw.pl (.slot 3)) Vw.nil))))))
  (S.seq (S.expr (E.callP 2 need_pairs (Vw.cons (Vw.pl (.slot 0)) (Vw.cons (Vw.pl (.slot 4)) Vw.nil))))
  (S.ret (E.callP 5 fewest_by (Vw.cons (Vw.dat (Vw.callP 1 leaps_of (Vw.cons (Vw.pl (.slot 0)) Vw.nil))) (Vw.cons (Vw.dat (Vw.callP 3 bytes_of (Vw.cons (Vw.pl (.slot 0)) (Vw.cons (Vw.pl (.slot 1)) (Vw.cons (Vw.pl (.slot 3)) Vw.nil))))) (Vw.cons (Vw.pl (.slot 1)) (Vw.cons (Vw.pl (.slot 2)) (Vw.cons (Vw.pl (.slot 4)) Vw.nil)))))))))
def fewest_islands : List O → FRes := runF [] 5 b_fewest_islands
theorem fn_fewest_islands (Y : Ya fa fn ts K mg) : Fn P w K mg base "fewest_islands" 8 ["book", "machine", "order", "room", "pairs"] [] fewest_islands :=
  Fn.of (st := s_fewest_islands) (N := ["book", "machine", "order", "room", "pairs"]) Y 48 85 rfl rfl sc_fewest_islands (by decide) (by decide) (fun _ _ _ _ _ _ us hl => match us, hl with | [_, _, _, _, _], _ => rfl) fun f cdv A outer s H E hr hgd tk => (eb_cons (es_expr (ee_fnP (fn_need_laid Y) hr hgd tk (vb_pl (pl_slot 0) (vb_pl (pl_slot 1) (vb_pl (pl_slot 2) (vb_pl (pl_slot 3) vb_nil))))))
  (eb_cons (es_expr (ee_fnP (fn_need_pairs Y) hr hgd tk (vb_pl (pl_slot 0) (vb_pl (pl_slot 4) vb_nil))))
  (eb_one (es_ret (ee_fnP (fn_fewest_by Y) hr hgd tk (vb_d (ve_fn (fn_leaps_of Y) hr hgd (vb_pl (pl_slot 0) vb_nil)) (vb_d (ve_fn (fn_bytes_of Y) hr hgd (vb_pl (pl_slot 0) (vb_pl (pl_slot 1) (vb_pl (pl_slot 3) vb_nil)))) (vb_pl (pl_slot 1) (vb_pl (pl_slot 2) (vb_pl (pl_slot 4) vb_nil))))))))))
theorem sc_all_orders : FnScope ["many", "found", "place", "longer", "order", "part"] ["many"] (defScope s_all_orders) := ⟨rfl, rfl, rfl, by decide +kernel, rfl, by decide +kernel, by decide +kernel⟩
def b_all_orders : M Fl := (S.seq (S.asg (E.lst (A.cons (E.lst (A.cons (E.view (Vw.c (.int 0))) A.nil)) A.nil)) (G.nm 1))
  (S.seq (S.for (Wk.range2 (A.cons (E.view (Vw.c (.int 1))) (A.cons (E.var 0) A.nil))) (G.nm 2) (S.seq (S.asg (E.lst A.nil) (G.nm 3))
  (S.seq (S.for (Wk.seq (E.var 1)) (G.nm 4) (S.expr (E.mut 3 "list" m_extend (A.cons (E.lc [5] (Wk.range1 (A.cons (E.var 0) A.nil)) (G.nm 5) (T.view (Vw.op2 o_nin (Vw.var 5) (Vw.var 4))) (E.fr (Vw.op2 (fun x y => (l_add x y).map ol) (Vw.var 4) (Vw.lst (Vw.cons (Vw.var 5) Vw.nil))))) A.nil))))
  (S.asg (E.var 3) (G.nm 1)))))
  (S.ret (E.move 1))))
def all_orders : List O → FRes := runF [] 6 b_all_orders
theorem fn_all_orders (Y : Ya fa fn ts K mg) : Fn P w K mg base "all_orders" 1 ["many"] [] all_orders :=
  Fn.of (st := s_all_orders) (N := ["many", "found", "place", "longer", "order", "part"]) Y 49 86 rfl rfl sc_all_orders (by decide) (by decide) (fun _ _ _ _ _ _ us hl => match us, hl with | [_], _ => rfl) fun f cdv A outer s H E hr hgd tk => (eb_cons (es_asg (ee_lst (ea_cons (ee_lst (ea_cons (ee_view ve_int) ea_nil)) ea_nil)) (eg_nm 1 sc_all_orders.nd))
  (eb_cons (es_for (passes_of rfl) rfl (ei_range2 rfl (Y.free 43) (ea_cons (ee_view ve_int) (ea_cons (ee_var 0) ea_nil))) (eg_nm 2 sc_all_orders.nd) (eb_cons (es_asg (ee_lst ea_nil) (eg_nm 3 sc_all_orders.nd))
  (eb_cons (es_for (passes_of rfl) rfl (ei_seq (ee_var 1)) (eg_nm 4 sc_all_orders.nd) (eb_one (es_expr (ee_mut 3 PySem.F.plainAttrs_list PySem.F.slot_list_extend PySem.F.type_list_extend mt_extend ms_extend (pl_slot 3) (ea_cons (ee_lc (own := [("part", 5)]) rfl sc_all_orders.nd (ei_range1 rfl (Y.free 43) (ea_cons (ee_var 0) ea_nil)) (blkOk_by (N := ["many", "found", "place", "longer", "order", "part"]) (sc := defScope s_all_orders) (by decide +kernel)) (fun _ _ _ _ _ => (eg_nm 5 sc_all_orders.nd)) (fun _ _ _ _ _ => (ets_one (et_view (vt_cmp (op_ninA (hu100 hr)) vw_nin (ve_var 5) (ve_var 4))))) (fun _ _ _ _ _ => (ee_frOp op_add2 fr_add (ve_var 4) (ve_lst (va_cons (ve_var 5) va_nil))))) ea_nil)))))
  (eb_one (es_asg (ee_var 3) (eg_nm 1 sc_all_orders.nd))))))
  (eb_one (es_ret (ee_move 1)))))
theorem sc_best_order : FnScope ["book", "machine", "room", "pairs", "best", "sizes", "order", "islands"] ["book", "machine", "room", "pairs"] (defScope s_best_order) := ⟨rfl, rfl, rfl, by decide +kernel, rfl, by decide +kernel, by decide +kernel⟩
def b_best_order : M Fl := (S.seq (S.expr (E.callP 1 need_book (Vw.cons (Vw.pl (.slot 0)) Vw.nil)))
  (S.seq (S.expr (E.callP 1 need_machine (Vw.cons (Vw.pl (.slot 1)) Vw.nil)))
  (S.seq (S.expr (E.callP 2 need_room (Vw.cons (Vw.pl (.slot 0)) (Vw.cons (Vw.pl (.slot 2)) Vw.nil))))
  (S.seq (S.expr (E.callP 2 need_pairs (Vw.cons (Vw.pl (.slot 0)) (Vw.cons (Vw.pl (.slot 3)) Vw.nil))))
  (S.seq (S.par2 4 5 (A.cons (E.view (Vw.c .none)) (A.cons (E.callP 3 bytes_of (Vw.cons (Vw.pl (.slot 0)) (Vw.cons (Vw.pl (.slot 1)) (Vw.cons (Vw.pl (.slot 2)) Vw.nil)))) A.nil)))
  (S.seq (S.for (Wk.seq (E.callP 1 all_orders (Vw.cons (Vw.dat (Vw.opN o_len (Vw.cons (Vw.var 0) Vw.nil))) Vw.nil))) (G.nmC 6) (S.seq (S.asg (E.call 5 fewest_by (A.cons (E.callP 1 leaps_of (Vw.cons (Vw.pl (.slot 0)) Vw.nil)) (A.cons (E.var 5) (A.cons (E.var 1) (A.cons (E.var 6) (A.cons (E.var 3) A.nil)))))) (G.nmC 7))
  (S.ifS (T.view (Vw.and (Vw.op2 o_isn (Vw.var 7) (Vw.c .none)) (Vw.or (Vw.op2 o_is (Vw.var 4) (Vw.c .none)) (Vw.op2 o_lt (Vw.opN o_len (Vw.cons (Vw.var 7) Vw.nil)) (Vw.opN o_len (Vw.cons (Vw.op2 o_ix (Vw.var 4) (Vw.c (.int 1))) Vw.nil)))))) (S.asg (E.view (Vw.tup (Vw.cons (Vw.var 6) (Vw.cons (Vw.var 7) Vw.nil)))) (G.nmC 4)) S.nx)))
  (S.ret (E.move 4))))))))
def best_order : List O → FRes := runF [] 8 b_best_order
theorem fn_best_order (Y : Ya fa fn ts K mg) : Fn P w K mg base "best_order" 8 ["book", "machine", "room", "pairs"] [] best_order :=
  Fn.of (st := s_best_order) (N := ["book", "machine", "room", "pairs", "best", "sizes", "order", "islands"]) Y 50 87 rfl rfl sc_best_order (by decide) (by decide) (fun _ _ _ _ _ _ us hl => match us, hl with | [_, _, _, _], _ => rfl) fun f cdv A outer s H E hr hgd tk => (eb_cons (es_expr (ee_fnP (fn_need_book Y) hr hgd tk (vb_pl (pl_slot 0) vb_nil)))
  (eb_cons (es_expr (ee_fnP (fn_need_machine Y) hr hgd tk (vb_pl (pl_slot 1) vb_nil)))
  (eb_cons (es_expr (ee_fnP (fn_need_room Y) hr hgd tk (vb_pl (pl_slot 0) (vb_pl (pl_slot 2) vb_nil))))
  (eb_cons (es_expr (ee_fnP (fn_need_pairs Y) hr hgd tk (vb_pl (pl_slot 0) (vb_pl (pl_slot 3) vb_nil))))
  (eb_cons (es_par2 4 5 sc_best_order.nd (ea_cons (ee_view ve_non) (ea_cons (ee_fnP (fn_bytes_of Y) hr hgd tk (vb_pl (pl_slot 0) (vb_pl (pl_slot 1) (vb_pl (pl_slot 2) vb_nil)))) ea_nil)))
  (eb_cons (es_for (passes_of rfl) rfl (ei_seq (ee_fnP (fn_all_orders Y) hr hgd tk (vb_d (ve_callB call_lenA vw_len (va_cons (ve_var 0) va_nil) (Y.free 5) (hv := bt_len)) vb_nil))) (eg_nmC 6 sc_best_order.nd) (eb_cons (es_asg (ee_fn (fn_fewest_by Y) hr hgd tk (ea_cons (ee_fnP (fn_leaps_of Y) hr hgd tk (vb_pl (pl_slot 0) vb_nil)) (ea_cons (ee_var 5) (ea_cons (ee_var 1) (ea_cons (ee_var 6) (ea_cons (ee_var 3) ea_nil)))))) (eg_nmC 7 sc_best_order.nd))
  (eb_one (es_if (et_view (vt_of (vtw_and (vt_cmp op_isnA vw_isn (ve_var 7) ve_non) (vtw_and1 (vt_of (vtw_or (vt_cmp op_isA vw_is (ve_var 4) ve_non) (vtw_or1 (vt_cmp op_lt vw_lt (ve_callB call_lenA vw_len (va_cons (ve_var 7) va_nil) (Y.free 5) (hv := bt_len)) (ve_callB call_lenA vw_len (va_cons (ve_ix (ix_any (hu100 hr)) vw_ix (ve_var 4) ve_int) va_nil) (Y.free 5) (hv := bt_len)))))))))) (eb_one (es_asg (ee_view (ve_tup (va_cons (ve_var 6) (va_cons (ve_var 7) va_nil)))) (eg_nmC 4 sc_best_order.nd))) eb_nil))))
  (eb_one (es_ret (ee_move 4)))))))))
theorem sc__law_spread : FnScope ["cell", "at", "primes", "one", "two", "three"] ["cell", "at"] (defScope s__law_spread) := ⟨rfl, rfl, rfl, by decide +kernel, rfl, by decide +kernel, by decide +kernel⟩
def b__law_spread : M Fl := (S.seq (S.ifS (T.view (Vw.op2 o_ge (Vw.var 0) (Vw.op2 o_pow (Vw.c (.int 10)) (Vw.c (.int 18))))) (S.ret (E.move 0)) S.nx)
  (S.seq (S.asg (E.lst (A.cons (E.view (Vw.c (.int 2147483629))) (A.cons (E.view (Vw.c (.int 2147483587))) (A.cons (E.view (Vw.c (.int 2147483579))) (A.cons (E.view (Vw.c (.int 2147483563))) (A.cons (E.view (Vw.c (.int 2147483549))) (A.cons (E.view (Vw.c (.int 2147483543))) (A.cons (E.view (Vw.c (.int 2147483497))) (A.cons (E.view (Vw.c (.int 2147483489))) A.nil))))))))) (G.nm 2))
  (S.seq (S.asg (E.fr (Vw.op2 (fun x y => (l_add x y).map ol) (Vw.var 2) (Vw.lst (Vw.cons (Vw.c (.int 2147483477)) (Vw.cons (Vw.c (.int 2147483423)) (Vw.cons (Vw.c (.int 2147483399)) (Vw.cons (Vw.c (.int 2147483353)) (Vw.cons (Vw.c (.int 2147483323)) Vw.nil)))))))) (G.nm 2))
  (S.seq (S.asg (E.view (Vw.op2 v_mulA (Vw.op2 o_mod (Vw.opN b_int (Vw.cons (Vw.var 0) Vw.nil)) (Vw.c (.int 1000000007))) (Vw.op2 v_add (Vw.op2 v_mulA (Vw.c (.int 2)) (Vw.var 1)) (Vw.c (.int 69069))))) (G.nm 3))
  (S.seq (S.asg (E.view (Vw.op2 o_mod (Vw.opN b_int (Vw.cons (Vw.op2 o_pow (Vw.op2 v_add (Vw.op2 v_add (Vw.var 3) (Vw.op2 v_mulA (Vw.var 1) (Vw.c (.int 40503)))) (Vw.c (.int 977))) (Vw.c (.int 3))) Vw.nil)) (Vw.op2 o_ix (Vw.var 2) (Vw.op2 o_mod (Vw.opN b_int (Vw.cons (Vw.var 1) Vw.nil)) (Vw.c (.int 13)))))) (G.nm 3))
  (S.seq (S.asg (E.view (Vw.op2 o_mod (Vw.opN b_int (Vw.cons (Vw.op2 o_pow (Vw.op2 v_add (Vw.op2 v_add (Vw.op2 v_mulA (Vw.var 3) (Vw.op2 v_add (Vw.var 1) (Vw.c (.int 3)))) (Vw.op2 o_mod (Vw.opN b_int (Vw.cons (Vw.var 0) Vw.nil)) (Vw.c (.int 65537)))) (Vw.c (.int 5))) (Vw.c (.int 5))) Vw.nil)) (Vw.op2 o_ix (Vw.var 2) (Vw.op2 o_mod (Vw.opN b_int (Vw.cons (Vw.op2 v_add (Vw.var 1) (Vw.c (.int 5))) Vw.nil)) (Vw.c (.int 13)))))) (G.nm 4))
  (S.seq (S.asg (E.view (Vw.op2 o_mod (Vw.opN b_int (Vw.cons (Vw.op2 o_pow (Vw.op2 v_add (Vw.op2 v_add (Vw.var 4) (Vw.op2 o_mod (Vw.opN b_int (Vw.cons (Vw.var 3) Vw.nil)) (Vw.c (.int 1009)))) (Vw.var 1)) (Vw.c (.int 3))) Vw.nil)) (Vw.op2 o_ix (Vw.var 2) (Vw.op2 o_mod (Vw.opN b_int (Vw.cons (Vw.op2 v_add (Vw.var 1) (Vw.c (.int 7))) Vw.nil)) (Vw.c (.int 13)))))) (G.nm 5))
  (S.ret (E.view (Vw.op2 v_add (Vw.op2 v_mulA (Vw.op2 v_add (Vw.op2 v_mulA (Vw.var 3) (Vw.c (.int 2147483647))) (Vw.var 4)) (Vw.c (.int 2147483647))) (Vw.var 5)))))))))))
def f_law_spread : List O → FRes := runF [] 6 b__law_spread
theorem fn__law_spread (Y : Ya fa fn ts K mg) : Fn P w K mg base "_law_spread" 1 ["cell", "at"] [] f_law_spread :=
  Fn.of (st := s__law_spread) (N := ["cell", "at", "primes", "one", "two", "three"]) Y 51 88 rfl rfl sc__law_spread (by decide) (by decide) (fun _ _ _ _ _ _ us hl => match us, hl with | [_, _], _ => rfl) fun f cdv A outer s H E hr hgd tk => (eb_cons (es_if (et_view (vt_cmp op_ge vw_ge (ve_var 0) (ve_op op_pow vw_pow ve_int ve_int))) (eb_one (es_ret (ee_move 0))) eb_nil)
  (eb_cons (es_asg (ee_lst (ea_cons (ee_view ve_int) (ea_cons (ee_view ve_int) (ea_cons (ee_view ve_int) (ea_cons (ee_view ve_int) (ea_cons (ee_view ve_int) (ea_cons (ee_view ve_int) (ea_cons (ee_view ve_int) (ea_cons (ee_view ve_int) ea_nil))))))))) (eg_nm 2 sc__law_spread.nd))
  (eb_cons (es_asg (ee_frOp op_add2 fr_add (ve_var 2) (ve_lst (va_cons ve_int (va_cons ve_int (va_cons ve_int (va_cons ve_int (va_cons ve_int va_nil))))))) (eg_nm 2 sc__law_spread.nd))
  (eb_cons (es_asg (ee_view (ve_op op_mul2 vw_mulA (ve_op op_mod vw_mod (ve_callTy call_int1 vw_int (va_cons (ve_var 0) va_nil) (Y.free 1) (hv := bt_int)) ve_int) (ve_op op_add2 vw_add (ve_op op_mul2 vw_mulA ve_int (ve_var 1)) ve_int))) (eg_nm 3 sc__law_spread.nd))
  (eb_cons (es_asg (ee_view (ve_op op_mod vw_mod (ve_callTy call_int1 vw_int (va_cons (ve_op op_pow vw_pow (ve_op op_add2 vw_add (ve_op op_add2 vw_add (ve_var 3) (ve_op op_mul2 vw_mulA (ve_var 1) ve_int)) ve_int) ve_int) va_nil) (Y.free 1) (hv := bt_int)) (ve_ix (ix_any (hu100 hr)) vw_ix (ve_var 2) (ve_op op_mod vw_mod (ve_callTy call_int1 vw_int (va_cons (ve_var 1) va_nil) (Y.free 1) (hv := bt_int)) ve_int)))) (eg_nm 3 sc__law_spread.nd))
  (eb_cons (es_asg (ee_view (ve_op op_mod vw_mod (ve_callTy call_int1 vw_int (va_cons (ve_op op_pow vw_pow (ve_op op_add2 vw_add (ve_op op_add2 vw_add (ve_op op_mul2 vw_mulA (ve_var 3) (ve_op op_add2 vw_add (ve_var 1) ve_int)) (ve_op op_mod vw_mod (ve_callTy call_int1 vw_int (va_cons (ve_var 0) va_nil) (Y.free 1) (hv := bt_int)) ve_int)) ve_int) ve_int) va_nil) (Y.free 1) (hv := bt_int)) (ve_ix (ix_any (hu100 hr)) vw_ix (ve_var 2) (ve_op op_mod vw_mod (ve_callTy call_int1 vw_int (va_cons (ve_op op_add2 vw_add (ve_var 1) ve_int) va_nil) (Y.free 1) (hv := bt_int)) ve_int)))) (eg_nm 4 sc__law_spread.nd))
  (eb_cons (es_asg (ee_view (ve_op op_mod vw_mod (ve_callTy call_int1 vw_int (va_cons (ve_op op_pow vw_pow (ve_op op_add2 vw_add (ve_op op_add2 vw_add (ve_var 4) (ve_op op_mod vw_mod (ve_callTy call_int1 vw_int (va_cons (ve_var 3) va_nil) (Y.free 1) (hv := bt_int)) ve_int)) (ve_var 1)) ve_int) va_nil) (Y.free 1) (hv := bt_int)) (ve_ix (ix_any (hu100 hr)) vw_ix (ve_var 2) (ve_op op_mod vw_mod (ve_callTy call_int1 vw_int (va_cons (ve_op op_add2 vw_add (ve_var 1) ve_int) va_nil) (Y.free 1) (hv := bt_int)) ve_int)))) (eg_nm 5 sc__law_spread.nd))
  (eb_one (es_ret (ee_view (ve_op op_add2 vw_add (ve_op op_mul2 vw_mulA (ve_op op_add2 vw_add (ve_op op_mul2 vw_mulA (ve_var 3) ve_int) (ve_var 4)) ve_int) (ve_var 5))))))))))))
theorem sc__law_open : FnScope ["script", "kept", "k", "cell"] ["script"] (defScope s__law_open) := ⟨rfl, rfl, rfl, by decide +kernel, rfl, by decide +kernel, by decide +kernel⟩
def b__law_open : M Fl := (S.seq (S.asg (E.fr (Vw.opN (fun xs => (l_list xs).map ol) (Vw.cons (Vw.sl (Vw.var 0) Vw.noPart (Vw.part (Vw.c (.int 12))) s_view) Vw.nil))) (G.nm 1))
  (S.seq (S.for (Wk.enum (A.cons (E.fr (Vw.sl (Vw.var 0) (Vw.part (Vw.c (.int 12))) (Vw.part (Vw.c (.int 63))) s_new)) A.nil)) (G.tup 2 (G.cons (G.nm 2) (G.cons (G.nm 3) G.nil))) (S.asg (E.view (Vw.op2 v_add (Vw.op2 o_ix (Vw.var 1) (Vw.op2 o_mod (Vw.opN b_int (Vw.cons (Vw.var 2) Vw.nil)) (Vw.c (.int 12)))) (Vw.var 3))) (G.subV (.slot 1) st_any (Vw.op2 o_mod (Vw.opN b_int (Vw.cons (Vw.var 2) Vw.nil)) (Vw.c (.int 12))))))
  (S.ret (E.lst (A.cons (E.move 1) (A.cons (E.view (Vw.c (.int 0))) (A.cons (E.view (Vw.c (.int 0))) A.nil)))))))
def f_law_open : List O → FRes := runF [] 4 b__law_open
theorem fn__law_open (Y : Ya fa fn ts K mg) : Fn P w K mg base "_law_open" 1 ["script"] [] f_law_open :=
  Fn.of (st := s__law_open) (N := ["script", "kept", "k", "cell"]) Y 52 89 rfl rfl sc__law_open (by decide) (by decide) (fun _ _ _ _ _ _ us hl => match us, hl with | [_], _ => rfl) fun f cdv A outer s H E hr hgd tk => (eb_cons (es_asg (ee_frTy call_list_of ls_list.fr (va_cons (ve_sl (ve_var 0) vo_none (vo_some ve_int)) va_nil) (Y.free 40) (hv := bt_list)) (eg_nm 1 sc__law_open.nd))
  (eb_cons (es_for (passes_of rfl) rfl (ei_enum rfl (Y.free 16) (ea_cons (ee_slF (ve_var 0) (vo_some ve_int) (vo_some ve_int)) ea_nil)) (eg_tup rfl (egs_cons (eg_nm 2 sc__law_open.nd) (egs_cons (eg_nm 3 sc__law_open.nd) egs_nil))) (eb_one (es_asg (ee_view (ve_op op_add2 vw_add (ve_ix (ix_any (hu100 hr)) vw_ix (ve_var 1) (ve_op op_mod vw_mod (ve_callTy call_int1 vw_int (va_cons (ve_var 2) va_nil) (Y.free 1) (hv := bt_int)) ve_int)) (ve_var 3))) (eg_subV (.slot 1) (set_any (hu100 hr)) ss_any (pl_slot 1) (ve_op op_mod vw_mod (ve_callTy call_int1 vw_int (va_cons (ve_var 2) va_nil) (Y.free 1) (hv := bt_int)) ve_int)))))
  (eb_one (es_ret (ee_lst (ea_cons (ee_move 1) (ea_cons (ee_view ve_int) (ea_cons (ee_view ve_int) ea_nil))))))))
theorem sc__law_take : FnScope ["pen", "many", "at", "cell", "found"] ["pen", "many"] (defScope s__law_take) := ⟨rfl, rfl, rfl, by decide +kernel, rfl, by decide +kernel, by decide +kernel⟩
def b__law_take : M Fl := (S.seq (S.ifS (T.view (Vw.op2 o_lt (Vw.op2 o_ix (Vw.var 0) (Vw.c (.int 2))) (Vw.var 1))) (S.seq (S.asg (E.view (Vw.op2 o_ix (Vw.var 0) (Vw.c (.int 1)))) (G.nm 2))
  (S.seq (S.asg (E.view (Vw.c (.int 0))) (G.nm 3))
  (S.seq (S.ifS (T.view (Vw.op2 o_lt (Vw.var 2) (Vw.opN o_len (Vw.cons (Vw.op2 o_ix (Vw.var 0) (Vw.c (.int 0))) Vw.nil)))) (S.asg (E.view (Vw.op2 o_ix (Vw.op2 o_ix (Vw.var 0) (Vw.c (.int 0))) (Vw.var 2))) (G.nm 3)) (S.ifS (T.view (Vw.op2 o_gt (Vw.opN o_len (Vw.cons (Vw.op2 o_ix (Vw.var 0) (Vw.c (.int 0))) Vw.nil)) (Vw.c (.int 0)))) (S.asg (E.view (Vw.op2 o_mod (Vw.opN b_int (Vw.cons (Vw.op2 o_ix (Vw.op2 o_ix (Vw.var 0) (Vw.c (.int 0))) (Vw.op2 o_mod (Vw.opN b_int (Vw.cons (Vw.op2 v_add (Vw.op2 v_mulA (Vw.var 2) (Vw.c (.int 5))) (Vw.c (.int 3))) Vw.nil)) (Vw.opN o_len (Vw.cons (Vw.op2 o_ix (Vw.var 0) (Vw.c (.int 0))) Vw.nil)))) Vw.nil)) (Vw.op2 v_add (Vw.op2 o_pow (Vw.c (.int 10)) (Vw.c (.int 17))) (Vw.var 2)))) (G.nm 3)) S.nx))
  (S.seq (S.asg (E.view (Vw.op2 v_add (Vw.var 2) (Vw.c (.int 1)))) (G.subV (.slot 0) st_any (Vw.c (.int 1))))
  (S.asg (E.callP 2 f_law_spread (Vw.cons (Vw.pl (.slot 3)) (Vw.cons (Vw.pl (.slot 2)) Vw.nil))) (G.subV (.slot 0) st_any (Vw.c (.int 2)))))))) S.nx)
  (S.seq (S.asg (E.view (Vw.op2 o_mod (Vw.opN b_int (Vw.cons (Vw.op2 o_ix (Vw.var 0) (Vw.c (.int 2))) Vw.nil)) (Vw.var 1))) (G.nm 4))
  (S.seq (S.asg (E.view (Vw.op2 o_fdiv (Vw.op2 o_ix (Vw.var 0) (Vw.c (.int 2))) (Vw.var 1))) (G.subV (.slot 0) st_any (Vw.c (.int 2))))
  (S.ret (E.move 4)))))
def f_law_take : List O → FRes := runF [0] 5 b__law_take
theorem fn__law_take (Y : Ya fa fn ts K mg) : Fn P w K mg base "_law_take" 2 ["pen", "many"] [0] f_law_take :=
  Fn.of (st := s__law_take) (N := ["pen", "many", "at", "cell", "found"]) Y 53 90 rfl rfl sc__law_take (by decide) (by decide) (fun _ _ _ _ _ _ us hl => match us, hl with | [_, _], _ => rfl) fun f cdv A outer s H E hr hgd tk => (eb_cons (es_if (et_view (vt_cmp op_lt vw_lt (ve_ix (ix_any (hu100 hr)) vw_ix (ve_var 0) ve_int) (ve_var 1))) (eb_cons (es_asg (ee_view (ve_ix (ix_any (hu100 hr)) vw_ix (ve_var 0) ve_int)) (eg_nm 2 sc__law_take.nd))
  (eb_cons (es_asg (ee_view ve_int) (eg_nm 3 sc__law_take.nd))
  (eb_cons (es_if (et_view (vt_cmp op_lt vw_lt (ve_var 2) (ve_callB call_lenA vw_len (va_cons (ve_ix (ix_any (hu100 hr)) vw_ix (ve_var 0) ve_int) va_nil) (Y.free 5) (hv := bt_len)))) (eb_one (es_asg (ee_view (ve_ix (ix_any (hu100 hr)) vw_ix (ve_ix (ix_any (hu100 hr)) vw_ix (ve_var 0) ve_int) (ve_var 2))) (eg_nm 3 sc__law_take.nd))) (eb_one (es_if (et_view (vt_cmp op_gt vw_gt (ve_callB call_lenA vw_len (va_cons (ve_ix (ix_any (hu100 hr)) vw_ix (ve_var 0) ve_int) va_nil) (Y.free 5) (hv := bt_len)) ve_int)) (eb_one (es_asg (ee_view (ve_op op_mod vw_mod (ve_callTy call_int1 vw_int (va_cons (ve_ix (ix_any (hu100 hr)) vw_ix (ve_ix (ix_any (hu100 hr)) vw_ix (ve_var 0) ve_int) (ve_op op_mod vw_mod (ve_callTy call_int1 vw_int (va_cons (ve_op op_add2 vw_add (ve_op op_mul2 vw_mulA (ve_var 2) ve_int) ve_int) va_nil) (Y.free 1) (hv := bt_int)) (ve_callB call_lenA vw_len (va_cons (ve_ix (ix_any (hu100 hr)) vw_ix (ve_var 0) ve_int) va_nil) (Y.free 5) (hv := bt_len)))) va_nil) (Y.free 1) (hv := bt_int)) (ve_op op_add2 vw_add (ve_op op_pow vw_pow ve_int ve_int) (ve_var 2)))) (eg_nm 3 sc__law_take.nd))) eb_nil)))
  (eb_cons (es_asg (ee_view (ve_op op_add2 vw_add (ve_var 2) ve_int)) (eg_subV (.slot 0) (set_any (hu100 hr)) ss_any (pl_slot 0) ve_int))
  (eb_one (es_asg (ee_fnP (fn__law_spread Y) hr hgd tk (vb_pl (pl_slot 3) (vb_pl (pl_slot 2) vb_nil))) (eg_subV (.slot 0) (set_any (hu100 hr)) ss_any (pl_slot 0) ve_int))))))) eb_nil)
  (eb_cons (es_asg (ee_view (ve_op op_mod vw_mod (ve_callTy call_int1 vw_int (va_cons (ve_ix (ix_any (hu100 hr)) vw_ix (ve_var 0) ve_int) va_nil) (Y.free 1) (hv := bt_int)) (ve_var 1))) (eg_nm 4 sc__law_take.nd))
  (eb_cons (es_asg (ee_view (ve_op op_fdiv vw_fdiv (ve_ix (ix_any (hu100 hr)) vw_ix (ve_var 0) ve_int) (ve_var 1))) (eg_subV (.slot 0) (set_any (hu100 hr)) ss_any (pl_slot 0) ve_int))
  (eb_one (es_ret (ee_move 4))))))
theorem sc__law_w_six_right : FnScope ["pen", "wide", "middle", "made", "posts", "kind", "row", "free"] ["pen"] (defScope s__law_w_six_right) := ⟨rfl, rfl, rfl, by decide +kernel, rfl, by decide +kernel, by decide +kernel⟩
def b__law_w_six_right : M Fl := (S.seq (S.asg (E.op2 o_add (E.view (Vw.c (.int 7))) (E.callIO 2 f_law_take 0 (A.cons (E.view (Vw.c (.int 4))) A.nil))) (G.nm 1))
  (S.seq (S.asg (E.view (Vw.tup (Vw.cons (Vw.tup (Vw.cons (Vw.c (.str "stop")) (Vw.cons (Vw.var 1) Vw.nil))) Vw.nil))) (G.nm 2))
  (S.seq (S.asg (E.view (Vw.tup (Vw.cons (Vw.tup (Vw.cons (Vw.tup (Vw.cons (Vw.c (.str "far")) (Vw.cons (Vw.c (.int 4)) Vw.nil))) Vw.nil)) (Vw.cons (Vw.var 2) (Vw.cons (Vw.var 2) (Vw.cons (Vw.var 2) (Vw.cons (Vw.tup (Vw.cons (Vw.tup (Vw.cons (Vw.c (.str "far")) (Vw.cons (Vw.c (.int 0)) Vw.nil))) Vw.nil)) Vw.nil))))))) (G.nm 3))
  (S.seq (S.asg (E.lst (A.cons (E.view (Vw.tup (Vw.cons (Vw.c (.int 1)) (Vw.cons (Vw.c (.int 0)) Vw.nil)))) (A.cons (E.view (Vw.tup (Vw.cons (Vw.c (.int 1)) (Vw.cons (Vw.c (.int 4)) Vw.nil)))) (A.cons (E.view (Vw.tup (Vw.cons (Vw.c (.int 2)) (Vw.cons (Vw.c (.int 0)) Vw.nil)))) (A.cons (E.view (Vw.tup (Vw.cons (Vw.c (.int 2)) (Vw.cons (Vw.c (.int 4)) Vw.nil)))) (A.cons (E.view (Vw.tup (Vw.cons (Vw.c (.int 3)) (Vw.cons (Vw.c (.int 0)) Vw.nil)))) (A.cons (E.view (Vw.tup (Vw.cons (Vw.c (.int 3)) (Vw.cons (Vw.c (.int 4)) Vw.nil)))) A.nil))))))) (G.nm 4))
  (S.seq (S.par3 5 6 7 (A.cons (E.view (Vw.tup (Vw.cons (Vw.c (.int 1)) (Vw.cons (Vw.c (.int 9)) (Vw.cons (Vw.c (.int 3)) (Vw.cons (Vw.c (.int 2)) (Vw.cons (Vw.c (.int 30)) (Vw.cons (Vw.c (.int 2)) (Vw.cons (Vw.c (.int 20)) (Vw.cons (Vw.c (.int 4)) Vw.nil)))))))))) (A.cons (E.lst (A.cons (E.view (Vw.c (.int 0))) (A.cons (E.view (Vw.c (.int 1))) (A.cons (E.view (Vw.c (.int 2))) (A.cons (E.view (Vw.c (.int 3))) (A.cons (E.view (Vw.c (.int 4))) A.nil)))))) (A.cons (E.lst (A.cons (E.view (Vw.c (.int 0))) (A.cons (E.view (Vw.c (.int 0))) (A.cons (E.view (Vw.c (.int 0))) (A.cons (E.view (Vw.c (.int 0))) (A.cons (E.view (Vw.c (.int 0))) A.nil)))))) A.nil))))
  (S.seq (S.ifS (T.val (E.op2 o_ne (E.call 5 fewest_islands (A.cons (E.var 3) (A.cons (E.var 5) (A.cons (E.var 6) (A.cons (E.var 7) (A.cons (E.var 4) A.nil)))))) (E.var 4))) (S.ret (E.view (Vw.c (.bool false)))) S.nx)
  (S.ret (E.op2 o_is (E.call 5 fewest_islands (A.cons (E.var 3) (A.cons (E.var 5) (A.cons (E.var 6) (A.cons (E.var 7) (A.cons (E.fr (Vw.sl (Vw.var 4) (Vw.part (Vw.c (.int 1))) Vw.noPart s_new)) A.nil)))))) (E.view (Vw.c .none))))))))))
def f_law_w_six_right : List O → FRes := runF [0] 8 b__law_w_six_right
theorem fn__law_w_six_right (Y : Ya fa fn ts K mg) : Fn P w K mg base "_law_w_six_right" 9 ["pen"] [0] f_law_w_six_right :=
  Fn.of (st := s__law_w_six_right) (N := ["pen", "wide", "middle", "made", "posts", "kind", "row", "free"]) Y 54 91 rfl rfl sc__law_w_six_right (by decide) (by decide) (fun _ _ _ _ _ _ us hl => match us, hl with | [_], _ => rfl) fun f cdv A outer s H E hr hgd tk => (eb_cons (es_asg (ee_op op_add2 ok_add (ee_view ve_int) (ee_fnIO 0 (fn__law_take Y) hr hgd tk (pl_slot 0) (ea_cons (ee_view ve_int) ea_nil))) (eg_nm 1 sc__law_w_six_right.nd))
  (eb_cons (es_asg (ee_view (ve_tup (va_cons (ve_tup (va_cons ve_str (va_cons (ve_var 1) va_nil))) va_nil))) (eg_nm 2 sc__law_w_six_right.nd))
  (eb_cons (es_asg (ee_view (ve_tup (va_cons (ve_tup (va_cons (ve_tup (va_cons ve_str (va_cons ve_int va_nil))) va_nil)) (va_cons (ve_var 2) (va_cons (ve_var 2) (va_cons (ve_var 2) (va_cons (ve_tup (va_cons (ve_tup (va_cons ve_str (va_cons ve_int va_nil))) va_nil)) va_nil))))))) (eg_nm 3 sc__law_w_six_right.nd))
  (eb_cons (es_asg (ee_lst (ea_cons (ee_view (ve_tup (va_cons ve_int (va_cons ve_int va_nil)))) (ea_cons (ee_view (ve_tup (va_cons ve_int (va_cons ve_int va_nil)))) (ea_cons (ee_view (ve_tup (va_cons ve_int (va_cons ve_int va_nil)))) (ea_cons (ee_view (ve_tup (va_cons ve_int (va_cons ve_int va_nil)))) (ea_cons (ee_view (ve_tup (va_cons ve_int (va_cons ve_int va_nil)))) (ea_cons (ee_view (ve_tup (va_cons ve_int (va_cons ve_int va_nil)))) ea_nil))))))) (eg_nm 4 sc__law_w_six_right.nd))
  (eb_cons (es_par3 5 6 7 sc__law_w_six_right.nd (ea_cons (ee_view (ve_tup (va_cons ve_int (va_cons ve_int (va_cons ve_int (va_cons ve_int (va_cons ve_int (va_cons ve_int (va_cons ve_int (va_cons ve_int va_nil)))))))))) (ea_cons (ee_lst (ea_cons (ee_view ve_int) (ea_cons (ee_view ve_int) (ea_cons (ee_view ve_int) (ea_cons (ee_view ve_int) (ea_cons (ee_view ve_int) ea_nil)))))) (ea_cons (ee_lst (ea_cons (ee_view ve_int) (ea_cons (ee_view ve_int) (ea_cons (ee_view ve_int) (ea_cons (ee_view ve_int) (ea_cons (ee_view ve_int) ea_nil)))))) ea_nil))))
  (eb_cons (es_if (et_cmp (op_neA (hu100 hr)) ok_ne (ee_fn (fn_fewest_islands Y) hr hgd tk (ea_cons (ee_var 3) (ea_cons (ee_var 5) (ea_cons (ee_var 6) (ea_cons (ee_var 7) (ea_cons (ee_var 4) ea_nil)))))) (ee_var 4) rfl) (eb_one (es_ret (ee_view ve_bl))) eb_nil)
  (eb_one (es_ret (ee_cmp op_isA ok_is (ee_fn (fn_fewest_islands Y) hr hgd tk (ea_cons (ee_var 3) (ea_cons (ee_var 5) (ea_cons (ee_var 6) (ea_cons (ee_var 7) (ea_cons (ee_slF (ve_var 4) (vo_some ve_int) vo_none) ea_nil)))))) (ee_view ve_non) rfl)))))))))
theorem sc__law_w_ties_right : FnScope ["made", "kind", "posts"] [] (defScope s__law_w_ties_right) := ⟨rfl, rfl, rfl, by decide +kernel, rfl, by decide +kernel, by decide +kernel⟩
def b__law_w_ties_right : M Fl := (S.seq (S.asg (E.view (Vw.tup (Vw.cons (Vw.tup (Vw.cons (Vw.tup (Vw.cons (Vw.c (.str "far")) (Vw.cons (Vw.c (.int 4)) Vw.nil))) Vw.nil)) (Vw.cons (Vw.tup (Vw.cons (Vw.tup (Vw.cons (Vw.c (.str "stop")) (Vw.cons (Vw.c (.int 1)) Vw.nil))) Vw.nil)) (Vw.cons (Vw.tup (Vw.cons (Vw.tup (Vw.cons (Vw.c (.str "stop")) (Vw.cons (Vw.c (.int 16)) Vw.nil))) Vw.nil)) (Vw.cons (Vw.tup (Vw.cons (Vw.tup (Vw.cons (Vw.c (.str "stop")) (Vw.cons (Vw.c (.int 1)) Vw.nil))) Vw.nil)) (Vw.cons (Vw.tup (Vw.cons (Vw.tup (Vw.cons (Vw.c (.str "far")) (Vw.cons (Vw.c (.int 0)) Vw.nil))) Vw.nil)) Vw.nil))))))) (G.nm 0))
  (S.seq (S.par2 1 2 (A.cons (E.view (Vw.tup (Vw.cons (Vw.c (.int 1)) (Vw.cons (Vw.c (.int 9)) (Vw.cons (Vw.c (.int 3)) (Vw.cons (Vw.c (.int 2)) (Vw.cons (Vw.c (.int 60)) (Vw.cons (Vw.c (.int 2)) (Vw.cons (Vw.c (.int 20)) (Vw.cons (Vw.c (.int 4)) Vw.nil)))))))))) (A.cons (E.lst (A.cons (E.view (Vw.tup (Vw.cons (Vw.c (.int 1)) (Vw.cons (Vw.c (.int 0)) Vw.nil)))) (A.cons (E.view (Vw.tup (Vw.cons (Vw.c (.int 2)) (Vw.cons (Vw.c (.int 0)) Vw.nil)))) (A.cons (E.view (Vw.tup (Vw.cons (Vw.c (.int 2)) (Vw.cons (Vw.c (.int 4)) Vw.nil)))) (A.cons (E.view (Vw.tup (Vw.cons (Vw.c (.int 3)) (Vw.cons (Vw.c (.int 4)) Vw.nil)))) A.nil))))) A.nil)))
  (S.seq (S.ifS (T.val (E.op2 o_ne (E.call 5 fewest_islands (A.cons (E.var 0) (A.cons (E.var 1) (A.cons (E.lst (A.cons (E.view (Vw.c (.int 0))) (A.cons (E.view (Vw.c (.int 1))) (A.cons (E.view (Vw.c (.int 2))) (A.cons (E.view (Vw.c (.int 3))) (A.cons (E.view (Vw.c (.int 4))) A.nil)))))) (A.cons (E.lst (A.cons (E.view (Vw.c (.int 0))) (A.cons (E.view (Vw.c (.int 0))) (A.cons (E.view (Vw.c (.int 0))) (A.cons (E.view (Vw.c (.int 0))) (A.cons (E.view (Vw.c (.int 0))) A.nil)))))) (A.cons (E.var 2) A.nil)))))) (E.lst (A.cons (E.view (Vw.tup (Vw.cons (Vw.c (.int 1)) (Vw.cons (Vw.c (.int 0)) Vw.nil)))) (A.cons (E.view (Vw.tup (Vw.cons (Vw.c (.int 3)) (Vw.cons (Vw.c (.int 4)) Vw.nil)))) A.nil))))) (S.ret (E.view (Vw.c (.bool false)))) S.nx)
  (S.seq (S.asg (E.view (Vw.tup (Vw.cons (Vw.tup (Vw.cons (Vw.tup (Vw.cons (Vw.c (.str "plain")) (Vw.cons (Vw.c (.int 28)) (Vw.cons (Vw.c (.int 0)) Vw.nil)))) (Vw.cons (Vw.tup (Vw.cons (Vw.c (.str "far")) (Vw.cons (Vw.c (.int 3)) Vw.nil))) Vw.nil))) (Vw.cons (Vw.tup (Vw.cons (Vw.tup (Vw.cons (Vw.c (.str "stop")) (Vw.cons (Vw.c (.int 4)) Vw.nil))) Vw.nil)) (Vw.cons (Vw.tup (Vw.cons (Vw.tup (Vw.cons (Vw.c (.str "stop")) (Vw.cons (Vw.c (.int 4)) Vw.nil))) Vw.nil)) (Vw.cons (Vw.tup (Vw.cons (Vw.tup (Vw.cons (Vw.c (.str "stop")) (Vw.cons (Vw.c (.int 50)) Vw.nil))) Vw.nil)) Vw.nil)))))) (G.nm 0))
  (S.seq (S.asg (E.view (Vw.tup (Vw.cons (Vw.c (.int 1)) (Vw.cons (Vw.c (.int 9)) (Vw.cons (Vw.c (.int 3)) (Vw.cons (Vw.c (.int 2)) (Vw.cons (Vw.c (.int 70)) (Vw.cons (Vw.c (.int 2)) (Vw.cons (Vw.c (.int 20)) (Vw.cons (Vw.c (.int 4)) Vw.nil)))))))))) (G.nm 1))
  (S.ret (E.op2 o_eq (E.callP 4 best_order (Vw.cons (Vw.pl (.slot 0)) (Vw.cons (Vw.pl (.slot 1)) (Vw.cons (Vw.dat (Vw.lst (Vw.cons (Vw.c (.int 0)) (Vw.cons (Vw.c (.int 0)) (Vw.cons (Vw.c (.int 0)) (Vw.cons (Vw.c (.int 0)) Vw.nil)))))) (Vw.cons (Vw.dat (Vw.lst (Vw.cons (Vw.tup (Vw.cons (Vw.c (.int 1)) (Vw.cons (Vw.c (.int 3)) Vw.nil))) (Vw.cons (Vw.tup (Vw.cons (Vw.c (.int 2)) (Vw.cons (Vw.c (.int 3)) Vw.nil))) Vw.nil)))) Vw.nil))))) (E.view (Vw.tup (Vw.cons (Vw.lst (Vw.cons (Vw.c (.int 0)) (Vw.cons (Vw.c (.int 1)) (Vw.cons (Vw.c (.int 2)) (Vw.cons (Vw.c (.int 3)) Vw.nil))))) (Vw.cons (Vw.lst (Vw.cons (Vw.tup (Vw.cons (Vw.c (.int 2)) (Vw.cons (Vw.c (.int 3)) Vw.nil))) Vw.nil)) Vw.nil)))))))))))
def f_law_w_ties_right : List O → FRes := runF [] 3 b__law_w_ties_right
theorem fn__law_w_ties_right (Y : Ya fa fn ts K mg) : Fn P w K mg base "_law_w_ties_right" 9 [] [] f_law_w_ties_right :=
  Fn.of (st := s__law_w_ties_right) (N := ["made", "kind", "posts"]) Y 55 92 rfl rfl sc__law_w_ties_right (by decide) (by decide) (fun _ _ _ _ _ _ us hl => match us, hl with | [], _ => rfl) fun f cdv A outer s H E hr hgd tk => (eb_cons (es_asg (ee_view (ve_tup (va_cons (ve_tup (va_cons (ve_tup (va_cons ve_str (va_cons ve_int va_nil))) va_nil)) (va_cons (ve_tup (va_cons (ve_tup (va_cons ve_str (va_cons ve_int va_nil))) va_nil)) (va_cons (ve_tup (va_cons (ve_tup (va_cons ve_str (va_cons ve_int va_nil))) va_nil)) (va_cons (ve_tup (va_cons (ve_tup (va_cons ve_str (va_cons ve_int va_nil))) va_nil)) (va_cons (ve_tup (va_cons (ve_tup (va_cons ve_str (va_cons ve_int va_nil))) va_nil)) va_nil))))))) (eg_nm 0 sc__law_w_ties_right.nd))
  (eb_cons (es_par2 1 2 sc__law_w_ties_right.nd (ea_cons (ee_view (ve_tup (va_cons ve_int (va_cons ve_int (va_cons ve_int (va_cons ve_int (va_cons ve_int (va_cons ve_int (va_cons ve_int (va_cons ve_int va_nil)))))))))) (ea_cons (ee_lst (ea_cons (ee_view (ve_tup (va_cons ve_int (va_cons ve_int va_nil)))) (ea_cons (ee_view (ve_tup (va_cons ve_int (va_cons ve_int va_nil)))) (ea_cons (ee_view (ve_tup (va_cons ve_int (va_cons ve_int va_nil)))) (ea_cons (ee_view (ve_tup (va_cons ve_int (va_cons ve_int va_nil)))) ea_nil))))) ea_nil)))
  (eb_cons (es_if (et_cmp (op_neA (hu100 hr)) ok_ne (ee_fn (fn_fewest_islands Y) hr hgd tk (ea_cons (ee_var 0) (ea_cons (ee_var 1) (ea_cons (ee_lst (ea_cons (ee_view ve_int) (ea_cons (ee_view ve_int) (ea_cons (ee_view ve_int) (ea_cons (ee_view ve_int) (ea_cons (ee_view ve_int) ea_nil)))))) (ea_cons (ee_lst (ea_cons (ee_view ve_int) (ea_cons (ee_view ve_int) (ea_cons (ee_view ve_int) (ea_cons (ee_view ve_int) (ea_cons (ee_view ve_int) ea_nil)))))) (ea_cons (ee_var 2) ea_nil)))))) (ee_lst (ea_cons (ee_view (ve_tup (va_cons ve_int (va_cons ve_int va_nil)))) (ea_cons (ee_view (ve_tup (va_cons ve_int (va_cons ve_int va_nil)))) ea_nil))) rfl) (eb_one (es_ret (ee_view ve_bl))) eb_nil)
  (eb_cons (es_asg (ee_view (ve_tup (va_cons (ve_tup (va_cons (ve_tup (va_cons ve_str (va_cons ve_int (va_cons ve_int va_nil)))) (va_cons (ve_tup (va_cons ve_str (va_cons ve_int va_nil))) va_nil))) (va_cons (ve_tup (va_cons (ve_tup (va_cons ve_str (va_cons ve_int va_nil))) va_nil)) (va_cons (ve_tup (va_cons (ve_tup (va_cons ve_str (va_cons ve_int va_nil))) va_nil)) (va_cons (ve_tup (va_cons (ve_tup (va_cons ve_str (va_cons ve_int va_nil))) va_nil)) va_nil)))))) (eg_nm 0 sc__law_w_ties_right.nd))
  (eb_cons (es_asg (ee_view (ve_tup (va_cons ve_int (va_cons ve_int (va_cons ve_int (va_cons ve_int (va_cons ve_int (va_cons ve_int (va_cons ve_int (va_cons ve_int va_nil)))))))))) (eg_nm 1 sc__law_w_ties_right.nd))
  (eb_one (es_ret (ee_cmp (op_eqA (hu100 hr)) ok_eq (ee_fnP (fn_best_order Y) hr hgd tk (vb_pl (pl_slot 0) (vb_pl (pl_slot 1) (vb_d (ve_lst (va_cons ve_int (va_cons ve_int (va_cons ve_int (va_cons ve_int va_nil))))) (vb_d (ve_lst (va_cons (ve_tup (va_cons ve_int (va_cons ve_int va_nil))) (va_cons (ve_tup (va_cons ve_int (va_cons ve_int va_nil))) va_nil))) vb_nil))))) (ee_view (ve_tup (va_cons (ve_lst (va_cons ve_int (va_cons ve_int (va_cons ve_int (va_cons ve_int va_nil))))) (va_cons (ve_lst (va_cons (ve_tup (va_cons ve_int (va_cons ve_int va_nil))) va_nil)) va_nil)))) rfl))))))))
theorem sc_law : FnScope ["script", "pen", "turn", "wide", "made", "kind", "row", "free", "posts", "found", "told", "levels", "one", "way"] ["script"] (defScope s_law) := ⟨rfl, rfl, rfl, by decide +kernel, rfl, by decide +kernel, by decide +kernel⟩
def b_law : M Fl := (S.seq (S.asg (E.callP 1 f_law_open (Vw.cons (Vw.pl (.slot 0)) Vw.nil)) (G.nm 1))
  (S.seq (S.ifS (T.or (T.not (T.val (E.callIO 1 f_law_w_six_right 1 A.nil))) (T.not (T.val (E.callP 0 f_law_w_ties_right (Vw.perm [] Vw.nil))))) (S.ret (E.view (Vw.c (.bool false)))) S.nx)
  (S.seq (S.for (Wk.range1 (A.cons (E.view (Vw.c (.int 2))) A.nil)) (G.nm 2) (S.seq (S.asg (E.op2 o_add (E.view (Vw.c (.int 1))) (E.callIO 2 f_law_take 1 (A.cons (E.view (Vw.c (.int 16))) A.nil))) (G.nm 3))
  (S.seq (S.asg (E.view (Vw.tup (Vw.cons (Vw.tup (Vw.cons (Vw.tup (Vw.cons (Vw.c (.str "plain")) (Vw.cons (Vw.var 3) (Vw.cons (Vw.c (.int 1)) Vw.nil)))) (Vw.cons (Vw.tup (Vw.cons (Vw.c (.str "far")) (Vw.cons (Vw.c (.int 2)) Vw.nil))) Vw.nil))) (Vw.cons (Vw.tup (Vw.cons (Vw.tup (Vw.cons (Vw.c (.str "stop")) (Vw.cons (Vw.c (.int 20)) Vw.nil))) Vw.nil)) (Vw.cons (Vw.tup (Vw.cons (Vw.tup (Vw.cons (Vw.c (.str "stop")) (Vw.cons (Vw.c (.int 4)) Vw.nil))) Vw.nil)) Vw.nil))))) (G.nm 4))
  (S.seq (S.asg (E.tup (A.cons (E.view (Vw.tup (Vw.cons (Vw.c (.int 1)) (Vw.cons (Vw.c (.int 9)) (Vw.cons (Vw.c (.int 3)) (Vw.cons (Vw.c (.int 2)) (Vw.cons (Vw.c (.int 60)) (Vw.cons (Vw.c (.int 1)) (Vw.cons (Vw.c (.int 9)) (Vw.cons (Vw.c (.int 1)) Vw.nil)))))))))) (A.cons (E.lst (A.cons (E.view (Vw.c (.int 0))) (A.cons (E.view (Vw.c (.int 1))) (A.cons (E.view (Vw.c (.int 2))) A.nil)))) (A.cons (E.lst (A.cons (E.view (Vw.c (.int 0))) (A.cons (E.callIO 2 f_law_take 1 (A.cons (E.view (Vw.c (.int 9))) A.nil)) (A.cons (E.view (Vw.c (.int 30))) A.nil)))) (A.cons (E.lst (A.cons (E.view (Vw.tup (Vw.cons (Vw.c (.int 1)) (Vw.cons (Vw.c (.int 2)) Vw.nil)))) A.nil)) A.nil))))) (G.tup 4 (G.cons (G.nm 5) (G.cons (G.nm 6) (G.cons (G.nm 7) (G.cons (G.nm 8) G.nil))))))
  (S.seq (S.asg (E.callP 4 extents (Vw.perm [3, 2, 1, 0] (Vw.cons (Vw.pl (.slot 7)) (Vw.cons (Vw.pl (.slot 6)) (Vw.cons (Vw.pl (.slot 5)) (Vw.cons (Vw.pl (.slot 4)) Vw.nil)))))) (G.nm 9))
  (S.seq (S.ifS (T.or (T.val (E.op2 o_ne (E.var 9) (E.call 4 extents (A.cons (E.var 4) (A.cons (E.var 5) (A.cons (E.var 6) (A.cons (E.var 7) A.nil))))))) (T.view (Vw.op2 o_ne (Vw.op2 o_ix (Vw.var 9) (Vw.c (.int 0))) (Vw.tup (Vw.cons (Vw.c (.int 0)) (Vw.cons (Vw.op2 v_add (Vw.var 3) (Vw.c (.int 2))) Vw.nil)))))) (S.ret (E.view (Vw.c (.bool false)))) S.nx)
  (S.seq (S.ifS (T.val (E.op2 o_ne (E.callP 2 with_islands (Vw.perm [1, 0] (Vw.cons (Vw.pl (.slot 8)) (Vw.cons (Vw.pl (.slot 4)) Vw.nil)))) (E.call 2 with_islands (A.cons (E.var 4) (A.cons (E.var 8) A.nil))))) (S.ret (E.view (Vw.c (.bool false)))) S.nx)
  (S.seq (S.asg (E.callP 6 ways (Vw.perm [5, 4, 3, 2, 1, 0] (Vw.cons (Vw.dat (Vw.c (.int 2))) (Vw.cons (Vw.pl (.slot 8)) (Vw.cons (Vw.pl (.slot 7)) (Vw.cons (Vw.pl (.slot 6)) (Vw.cons (Vw.pl (.slot 5)) (Vw.cons (Vw.pl (.slot 4)) Vw.nil)))))))) (G.nm 10))
  (S.seq (S.ifS (T.or (T.val (E.op2 o_ne (E.var 10) (E.callP 6 ways (Vw.cons (Vw.pl (.slot 4)) (Vw.cons (Vw.pl (.slot 5)) (Vw.cons (Vw.pl (.slot 6)) (Vw.cons (Vw.pl (.slot 7)) (Vw.cons (Vw.pl (.slot 8)) (Vw.cons (Vw.dat (Vw.c (.int 2))) Vw.nil))))))))) (T.view (Vw.op2 o_ne (Vw.op2 o_ix (Vw.var 10) (Vw.c (.int 2))) (Vw.lst Vw.nil)))) (S.ret (E.view (Vw.c (.bool false)))) S.nx)
  (S.seq (S.asg (E.opN b_tuple (A.cons (E.lc [13] (Wk.seq (E.var 10)) (G.nm 13) T.yes (E.view (Vw.ifE (Vw.op2 o_is (Vw.var 13) (Vw.c .none)) (Vw.c .none) (Vw.opN o_len (Vw.cons (Vw.var 13) Vw.nil))))) A.nil)) (G.nm 11))
  (S.seq (S.ifS (T.not (T.val (E.callP 7 shows_levels (Vw.perm [6, 5, 4, 3, 2, 1, 0] (Vw.cons (Vw.pl (.slot 11)) (Vw.cons (Vw.dat (Vw.c (.int 2))) (Vw.cons (Vw.pl (.slot 8)) (Vw.cons (Vw.pl (.slot 7)) (Vw.cons (Vw.pl (.slot 6)) (Vw.cons (Vw.pl (.slot 5)) (Vw.cons (Vw.pl (.slot 4)) Vw.nil))))))))))) (S.ret (E.view (Vw.c (.bool false)))) S.nx)
  (S.seq (S.ifS (T.val (E.op2 o_ne (E.callP 5 lost (Vw.perm [4, 3, 2, 1, 0] (Vw.cons (Vw.pl (.slot 8)) (Vw.cons (Vw.pl (.slot 7)) (Vw.cons (Vw.pl (.slot 6)) (Vw.cons (Vw.pl (.slot 5)) (Vw.cons (Vw.pl (.slot 4)) Vw.nil))))))) (E.callP 5 lost (Vw.cons (Vw.pl (.slot 4)) (Vw.cons (Vw.pl (.slot 5)) (Vw.cons (Vw.pl (.slot 6)) (Vw.cons (Vw.pl (.slot 7)) (Vw.cons (Vw.pl (.slot 8)) Vw.nil)))))))) (S.ret (E.view (Vw.c (.bool false)))) S.nx)
  (S.seq (S.asg (E.callP 5 fewest_islands (Vw.perm [4, 3, 2, 1, 0] (Vw.cons (Vw.pl (.slot 8)) (Vw.cons (Vw.pl (.slot 7)) (Vw.cons (Vw.pl (.slot 6)) (Vw.cons (Vw.pl (.slot 5)) (Vw.cons (Vw.pl (.slot 4)) Vw.nil))))))) (G.nm 12))
  (S.seq (S.ifS (T.val (E.op2 o_ne (E.var 12) (E.callP 5 fewest_islands (Vw.cons (Vw.pl (.slot 4)) (Vw.cons (Vw.pl (.slot 5)) (Vw.cons (Vw.pl (.slot 6)) (Vw.cons (Vw.pl (.slot 7)) (Vw.cons (Vw.pl (.slot 8)) Vw.nil)))))))) (S.ret (E.view (Vw.c (.bool false)))) S.nx)
  (S.ifS (T.val (E.op2 o_ne (E.callP 4 best_order (Vw.perm [3, 2, 1, 0] (Vw.cons (Vw.pl (.slot 8)) (Vw.cons (Vw.pl (.slot 7)) (Vw.cons (Vw.pl (.slot 5)) (Vw.cons (Vw.pl (.slot 4)) Vw.nil)))))) (E.callP 4 best_order (Vw.cons (Vw.pl (.slot 4)) (Vw.cons (Vw.pl (.slot 5)) (Vw.cons (Vw.pl (.slot 7)) (Vw.cons (Vw.pl (.slot 8)) Vw.nil))))))) (S.ret (E.view (Vw.c (.bool false)))) S.nx)))))))))))))))
  (S.ret (E.view (Vw.c (.bool true)))))))
def law : List O → FRes := runF [] 14 b_law
theorem fn_law (Y : Ya fa fn ts K mg) : Fn P w K mg base "law" 10 ["script"] [] law :=
  Fn.of (st := s_law) (N := ["script", "pen", "turn", "wide", "made", "kind", "row", "free", "posts", "found", "told", "levels", "one", "way"]) Y 56 93 rfl rfl sc_law (by decide) (by decide) (fun _ _ _ _ _ _ us hl => match us, hl with | [_], _ => rfl) fun f cdv A outer s H E hr hgd tk => (eb_cons (es_asg (ee_fnP (fn__law_open Y) hr hgd tk (vb_pl (pl_slot 0) vb_nil)) (eg_nm 1 sc_law.nd))
  (eb_cons (es_if (EW.et (ew_or (et_not (et_val (ee_fnIO 1 (fn__law_w_six_right Y) hr hgd tk (pl_slot 1) ea_nil))) (ew_or1 (et_not (et_val (ee_fn0 (fn__law_w_ties_right Y) hr hgd tk)))))) (eb_one (es_ret (ee_view ve_bl))) eb_nil)
  (eb_cons (es_for (passes_of rfl) rfl (ei_range1 rfl (Y.free 43) (ea_cons (ee_view ve_int) ea_nil)) (eg_nm 2 sc_law.nd) (eb_cons (es_asg (ee_op op_add2 ok_add (ee_view ve_int) (ee_fnIO 1 (fn__law_take Y) hr hgd tk (pl_slot 1) (ea_cons (ee_view ve_int) ea_nil))) (eg_nm 3 sc_law.nd))
  (eb_cons (es_asg (ee_view (ve_tup (va_cons (ve_tup (va_cons (ve_tup (va_cons ve_str (va_cons (ve_var 3) (va_cons ve_int va_nil)))) (va_cons (ve_tup (va_cons ve_str (va_cons ve_int va_nil))) va_nil))) (va_cons (ve_tup (va_cons (ve_tup (va_cons ve_str (va_cons ve_int va_nil))) va_nil)) (va_cons (ve_tup (va_cons (ve_tup (va_cons ve_str (va_cons ve_int va_nil))) va_nil)) va_nil))))) (eg_nm 4 sc_law.nd))
  (eb_cons (es_asg (ee_tup (ea_cons (ee_view (ve_tup (va_cons ve_int (va_cons ve_int (va_cons ve_int (va_cons ve_int (va_cons ve_int (va_cons ve_int (va_cons ve_int (va_cons ve_int va_nil)))))))))) (ea_cons (ee_lst (ea_cons (ee_view ve_int) (ea_cons (ee_view ve_int) (ea_cons (ee_view ve_int) ea_nil)))) (ea_cons (ee_lst (ea_cons (ee_view ve_int) (ea_cons (ee_fnIO 1 (fn__law_take Y) hr hgd tk (pl_slot 1) (ea_cons (ee_view ve_int) ea_nil)) (ea_cons (ee_view ve_int) ea_nil)))) (ea_cons (ee_lst (ea_cons (ee_view (ve_tup (va_cons ve_int (va_cons ve_int va_nil)))) ea_nil)) ea_nil))))) (eg_tup rfl (egs_cons (eg_nm 5 sc_law.nd) (egs_cons (eg_nm 6 sc_law.nd) (egs_cons (eg_nm 7 sc_law.nd) (egs_cons (eg_nm 8 sc_law.nd) egs_nil))))))
  (eb_cons (es_asg (ee_fnK (nm := "extents") (st := s_extents) (fn_extents Y) hr hgd tk Y 42 76 (vk_pl (pl_slot 7) (vk_pl (pl_slot 6) (vk_pl (pl_slot 5) (vk_pl (pl_slot 4) vk_nil)))) [3, 2, 1, 0] ["room", "order", "machine", "book"] (fun _ _ _ _ _ _ ws hl => match ws, hl with | [_, _, _, _], _ => rfl)) (eg_nm 9 sc_law.nd))
  (eb_cons (es_if (EW.et (ew_or (et_cmp (op_neA (hu100 hr)) ok_ne (ee_var 9) (ee_fn (fn_extents Y) hr hgd tk (ea_cons (ee_var 4) (ea_cons (ee_var 5) (ea_cons (ee_var 6) (ea_cons (ee_var 7) ea_nil))))) rfl) (ew_or1 (et_view (vt_cmp (op_neA (hu100 hr)) vw_ne (ve_ix (ix_any (hu100 hr)) vw_ix (ve_var 9) ve_int) (ve_tup (va_cons ve_int (va_cons (ve_op op_add2 vw_add (ve_var 3) ve_int) va_nil)))))))) (eb_one (es_ret (ee_view ve_bl))) eb_nil)
  (eb_cons (es_if (et_cmp (op_neA (hu100 hr)) ok_ne (ee_fnK (nm := "with_islands") (st := s_with_islands) (fn_with_islands Y) hr hgd tk Y 43 77 (vk_pl (pl_slot 8) (vk_pl (pl_slot 4) vk_nil)) [1, 0] ["islands", "book"] (fun _ _ _ _ _ _ ws hl => match ws, hl with | [_, _], _ => rfl)) (ee_fn (fn_with_islands Y) hr hgd tk (ea_cons (ee_var 4) (ea_cons (ee_var 8) ea_nil))) rfl) (eb_one (es_ret (ee_view ve_bl))) eb_nil)
  (eb_cons (es_asg (ee_fnK (nm := "ways") (st := s_ways) (fn_ways Y) hr hgd tk Y 45 81 (vk_d ve_int (vk_pl (pl_slot 8) (vk_pl (pl_slot 7) (vk_pl (pl_slot 6) (vk_pl (pl_slot 5) (vk_pl (pl_slot 4) vk_nil)))))) [5, 4, 3, 2, 1, 0] ["goal", "islands", "room", "order", "machine", "book"] (fun _ _ _ _ _ _ ws hl => match ws, hl with | [_, _, _, _, _, _], _ => rfl)) (eg_nm 10 sc_law.nd))
  (eb_cons (es_if (EW.et (ew_or (et_cmp (op_neA (hu100 hr)) ok_ne (ee_var 10) (ee_fnP (fn_ways Y) hr hgd tk (vb_pl (pl_slot 4) (vb_pl (pl_slot 5) (vb_pl (pl_slot 6) (vb_pl (pl_slot 7) (vb_pl (pl_slot 8) (vb_d ve_int vb_nil))))))) rfl) (ew_or1 (et_view (vt_cmp (op_neA (hu100 hr)) vw_ne (ve_ix (ix_any (hu100 hr)) vw_ix (ve_var 10) ve_int) (ve_lst va_nil)))))) (eb_one (es_ret (ee_view ve_bl))) eb_nil)
  (eb_cons (es_asg (ee_callTyE call_tuple_of vw_tuple isd_tuple (ea_cons (ee_lc (own := [("way", 13)]) rfl sc_law.nd (ei_seq (ee_var 10)) (blkOk_by (N := ["script", "pen", "turn", "wide", "made", "kind", "row", "free", "posts", "found", "told", "levels", "one", "way"]) (sc := defScope s_law) (by decide +kernel)) (fun _ _ _ _ _ => (eg_nm 13 sc_law.nd)) (fun _ _ _ _ _ => ets_nil) (fun _ _ _ _ _ => (ee_view (ve_if (vt_cmp op_isA vw_is (ve_var 13) ve_non) ve_non (ve_callB call_lenA vw_len (va_cons (ve_var 13) va_nil) (Y.free 5) (hv := bt_len)))))) ea_nil) (Y.free 4) (hv := bt_tuple)) (eg_nm 11 sc_law.nd))
  (eb_cons (es_if (et_not (et_val (ee_fnK (nm := "shows_levels") (st := s_shows_levels) (fn_shows_levels Y) hr hgd tk Y 46 83 (vk_pl (pl_slot 11) (vk_d ve_int (vk_pl (pl_slot 8) (vk_pl (pl_slot 7) (vk_pl (pl_slot 6) (vk_pl (pl_slot 5) (vk_pl (pl_slot 4) vk_nil))))))) [6, 5, 4, 3, 2, 1, 0] ["thing", "goal", "islands", "room", "order", "machine", "book"] (fun _ _ _ _ _ _ ws hl => match ws, hl with | [_, _, _, _, _, _, _], _ => rfl)))) (eb_one (es_ret (ee_view ve_bl))) eb_nil)
  (eb_cons (es_if (et_cmp (op_neA (hu100 hr)) ok_ne (ee_fnK (nm := "lost") (st := s_lost) (fn_lost Y) hr hgd tk Y 47 84 (vk_pl (pl_slot 8) (vk_pl (pl_slot 7) (vk_pl (pl_slot 6) (vk_pl (pl_slot 5) (vk_pl (pl_slot 4) vk_nil))))) [4, 3, 2, 1, 0] ["islands", "room", "order", "machine", "book"] (fun _ _ _ _ _ _ ws hl => match ws, hl with | [_, _, _, _, _], _ => rfl)) (ee_fnP (fn_lost Y) hr hgd tk (vb_pl (pl_slot 4) (vb_pl (pl_slot 5) (vb_pl (pl_slot 6) (vb_pl (pl_slot 7) (vb_pl (pl_slot 8) vb_nil)))))) rfl) (eb_one (es_ret (ee_view ve_bl))) eb_nil)
  (eb_cons (es_asg (ee_fnK (nm := "fewest_islands") (st := s_fewest_islands) (fn_fewest_islands Y) hr hgd tk Y 48 85 (vk_pl (pl_slot 8) (vk_pl (pl_slot 7) (vk_pl (pl_slot 6) (vk_pl (pl_slot 5) (vk_pl (pl_slot 4) vk_nil))))) [4, 3, 2, 1, 0] ["pairs", "room", "order", "machine", "book"] (fun _ _ _ _ _ _ ws hl => match ws, hl with | [_, _, _, _, _], _ => rfl)) (eg_nm 12 sc_law.nd))
  (eb_cons (es_if (et_cmp (op_neA (hu100 hr)) ok_ne (ee_var 12) (ee_fnP (fn_fewest_islands Y) hr hgd tk (vb_pl (pl_slot 4) (vb_pl (pl_slot 5) (vb_pl (pl_slot 6) (vb_pl (pl_slot 7) (vb_pl (pl_slot 8) vb_nil)))))) rfl) (eb_one (es_ret (ee_view ve_bl))) eb_nil)
  (eb_one (es_if (et_cmp (op_neA (hu100 hr)) ok_ne (ee_fnK (nm := "best_order") (st := s_best_order) (fn_best_order Y) hr hgd tk Y 50 87 (vk_pl (pl_slot 8) (vk_pl (pl_slot 7) (vk_pl (pl_slot 5) (vk_pl (pl_slot 4) vk_nil)))) [3, 2, 1, 0] ["pairs", "room", "machine", "book"] (fun _ _ _ _ _ _ ws hl => match ws, hl with | [_, _, _, _], _ => rfl)) (ee_fnP (fn_best_order Y) hr hgd tk (vb_pl (pl_slot 4) (vb_pl (pl_slot 5) (vb_pl (pl_slot 7) (vb_pl (pl_slot 8) vb_nil))))) rfl) (eb_one (es_ret (ee_view ve_bl))) eb_nil))))))))))))))))
  (eb_one (es_ret (ee_view ve_bl))))))
end
def names0 : List PySem.Str := ["ReachError", "NoBook", "NoMachine", "NoOrder", "NoRoom", "NoIslands", "NoGoal", "MOST_NUMBER", "MOST_ROWS", "MOST_PARTS", "MOST_FORMS", "is_integer", "is_machine", "need_machine", "is_row", "goes_on", "is_jump", "jumps_of", "is_even", "is_part", "is_book", "need_book", "all_lists", "size_of", "places_of", "does_reach", "does_reach_places", "misfits_of", "grown_of", "rank_of"]
def names1 : List PySem.Str := ["least_of", "laid_of", "size_as_laid", "MOST_ROOM", "MOST_ISLANDS", "GRAIN", "need_order", "need_room", "is_island", "need_islands", "need_pairs", "with_islands_of", "extents_by", "extents_of", "does_reach_islands", "first_way", "bytes_of", "extents_with", "ways_by", "ways_of", "levels_by", "leaps_of", "lost_by", "lost_of", "fewest_by", "need_laid", "extents", "with_islands", "need_goal", "ways"]
def names2 : List PySem.Str := ["shows_levels", "lost", "fewest_islands", "all_orders", "best_order", "_law_spread", "_law_open", "_law_take", "_law_w_six_right", "_law_w_ties_right"]
def names : List PySem.Str := names0 ++ names1 ++ names2
abbrev R : PySem.W.OpenRow := PySem.W.OpenLaw.row PySem.Challenge.rw_reachrows_k65_islands_and_orders_by_name
abbrev hk : PySem.W.Hook := hookT 5 fa fn ts
def ob (s : PySem.W.SharedT) : He.AlD × Bool := obsTG 5 fa fn ts (HandSHeadRun.getT s)
theorem ob_eq (s : PySem.W.SharedT) : ob s = hk.obs s.abs := obsTG_eq (HandSHeadRun.getT_eq s)
theorem run (w : World) : HandSHeadRun.RunEq R (PySem.W.view R.prog [79]) hk ob 20000 names w := by
  intro os
  kernel_rfl
end k65
namespace k65
open EV EV.Pen
theorem e_open : f_law_open = Pen.open_ := rfl
theorem e_take : f_law_take = Pen.take Pen.spread2 := rfl
/-- a draw that is added to a number -/
theorem asg_take {tk : List O → FRes} {i j : Nat} {ρ : EV.Env} {b m r : Int} {o o' : O} (h0 : ρ[i]? = some o) (hn : o ≠ .un) (e : tk [o, .d (.int m)] = .ok (.d (.int r)) [o']) :
    S.asg (E.op2 o_add (E.view (Vw.c (.int b))) (E.callIO 2 tk i (A.cons (E.view (Vw.c (.int m))) A.nil))) (G.nm j) ρ = .ok .nx ((ρ.set i o').set j (.d (.int (b + r)))) := by
  have c : E.callIO 2 tk i (A.cons (E.view (Vw.c (.int m))) A.nil) ρ = .ok (.d (.int r)) (ρ.set i o') := callIO_ok h0 hn rfl rfl h0 rfl e
  have a : E.op2 o_add (E.view (Vw.c (.int b))) (E.callIO 2 tk i (A.cons (E.view (Vw.c (.int m))) A.nil)) ρ = .ok (.d (.int (b + r))) (ρ.set i o') := by
    unfold E.op2 M.bind
    have e1 : E.view (Vw.c (.int b)) ρ = .ok (.d (.int b)) ρ := rfl
    rw [e1]
    simp only [c]
    rfl
  unfold S.asg M.bind
  rw [a]
  rfl
theorem callP0_ok {f : List O → FRes} {ρ : EV.Env} {x : D} (h : f [] = .ok (.d x) []) : E.callP 0 f (Vw.perm [] Vw.nil) ρ = .ok (.d x) ρ := by
  unfold E.callP
  have e : (Vw.perm [] Vw.nil) ρ = some [] := rfl
  rw [e]
  show (if (0 : Nat) = 0 then (match f [] with
    | .ok r [] => if ((allD ([] : List O)).isSome || cleanO r) = true then R.ok r ρ else .stuck
    | .exc c [] => .exc c ρ
    | _ => .stuck) else .stuck) = _
  rw [h, if_pos rfl]
  rfl
def sixRest : M Fl := (S.seq (S.asg (E.view (Vw.tup (Vw.cons (Vw.tup (Vw.cons (Vw.c (.str "stop")) (Vw.cons (Vw.var 1) Vw.nil))) Vw.nil))) (G.nm 2))
  (S.seq (S.asg (E.view (Vw.tup (Vw.cons (Vw.tup (Vw.cons (Vw.tup (Vw.cons (Vw.c (.str "far")) (Vw.cons (Vw.c (.int 4)) Vw.nil))) Vw.nil)) (Vw.cons (Vw.var 2) (Vw.cons (Vw.var 2) (Vw.cons (Vw.var 2) (Vw.cons (Vw.tup (Vw.cons (Vw.tup (Vw.cons (Vw.c (.str "far")) (Vw.cons (Vw.c (.int 0)) Vw.nil))) Vw.nil)) Vw.nil))))))) (G.nm 3))
  (S.seq (S.asg (E.lst (A.cons (E.view (Vw.tup (Vw.cons (Vw.c (.int 1)) (Vw.cons (Vw.c (.int 0)) Vw.nil)))) (A.cons (E.view (Vw.tup (Vw.cons (Vw.c (.int 1)) (Vw.cons (Vw.c (.int 4)) Vw.nil)))) (A.cons (E.view (Vw.tup (Vw.cons (Vw.c (.int 2)) (Vw.cons (Vw.c (.int 0)) Vw.nil)))) (A.cons (E.view (Vw.tup (Vw.cons (Vw.c (.int 2)) (Vw.cons (Vw.c (.int 4)) Vw.nil)))) (A.cons (E.view (Vw.tup (Vw.cons (Vw.c (.int 3)) (Vw.cons (Vw.c (.int 0)) Vw.nil)))) (A.cons (E.view (Vw.tup (Vw.cons (Vw.c (.int 3)) (Vw.cons (Vw.c (.int 4)) Vw.nil)))) A.nil))))))) (G.nm 4))
  (S.seq (S.par3 5 6 7 (A.cons (E.view (Vw.tup (Vw.cons (Vw.c (.int 1)) (Vw.cons (Vw.c (.int 9)) (Vw.cons (Vw.c (.int 3)) (Vw.cons (Vw.c (.int 2)) (Vw.cons (Vw.c (.int 30)) (Vw.cons (Vw.c (.int 2)) (Vw.cons (Vw.c (.int 20)) (Vw.cons (Vw.c (.int 4)) Vw.nil)))))))))) (A.cons (E.lst (A.cons (E.view (Vw.c (.int 0))) (A.cons (E.view (Vw.c (.int 1))) (A.cons (E.view (Vw.c (.int 2))) (A.cons (E.view (Vw.c (.int 3))) (A.cons (E.view (Vw.c (.int 4))) A.nil)))))) (A.cons (E.lst (A.cons (E.view (Vw.c (.int 0))) (A.cons (E.view (Vw.c (.int 0))) (A.cons (E.view (Vw.c (.int 0))) (A.cons (E.view (Vw.c (.int 0))) (A.cons (E.view (Vw.c (.int 0))) A.nil)))))) A.nil))))
  (S.seq (S.ifS (T.val (E.op2 o_ne (E.call 5 fewest_islands (A.cons (E.var 3) (A.cons (E.var 5) (A.cons (E.var 6) (A.cons (E.var 7) (A.cons (E.var 4) A.nil)))))) (E.var 4))) (S.ret (E.view (Vw.c (.bool false)))) S.nx)
  (S.ret (E.op2 o_is (E.call 5 fewest_islands (A.cons (E.var 3) (A.cons (E.var 5) (A.cons (E.var 6) (A.cons (E.var 7) (A.cons (E.fr (Vw.sl (Vw.var 4) (Vw.part (Vw.c (.int 1))) Vw.noPart s_new)) A.nil)))))) (E.view (Vw.c .none)))))))))
def made6 (w : Int) : D := .tuple [.tuple [.tuple [.str "far", .int 4]], .tuple [.tuple [.str "stop", .int w]], .tuple [.tuple [.str "stop", .int w]], .tuple [.tuple [.str "stop", .int w]], .tuple [.tuple [.str "far", .int 0]]]
def kind6 : D := .tuple [.int 1, .int 9, .int 3, .int 2, .int 30, .int 2, .int 20, .int 4]
def row6 : D := .list [.int 0, .int 1, .int 2, .int 3, .int 4]
def free6 : D := .list [.int 0, .int 0, .int 0, .int 0, .int 0]
def posts5 : List D := [.tuple [.int 1, .int 4], .tuple [.int 2, .int 0], .tuple [.int 2, .int 4], .tuple [.int 3, .int 0], .tuple [.int 3, .int 4]]
def posts6 : List D := .tuple [.int 1, .int 0] :: posts5
def isP6 : FRes → Bool
  | .ok (.d (.list [.tuple [.int 1, .int 0], .tuple [.int 1, .int 4], .tuple [.int 2, .int 0], .tuple [.int 2, .int 4], .tuple [.int 3, .int 0], .tuple [.int 3, .int 4]])) [] => true
  | _ => false
theorem isP6_ok {r : FRes} (h : isP6 r = true) : r = .ok (.d (.list posts6)) [] := by
  unfold isP6 at h
  split at h
  · rfl
  · cases h
def isN0 : FRes → Bool
  | .ok (.d .none) [] => true
  | _ => false
theorem isN0_ok {r : FRes} (h : isN0 r = true) : r = .ok (.d .none) [] := by
  unfold isN0 at h
  split at h
  · rfl
  · cases h
theorem sixA0 : isP6 (fewest_islands [.d (made6 (7 + 0)), .d kind6, .d row6, .d free6, .d (.list posts6)]) = true := by decide +kernel
theorem sixB0 : isN0 (fewest_islands [.d (made6 (7 + 0)), .d kind6, .d row6, .d free6, .d (.list posts5)]) = true := by decide +kernel
theorem sixA1 : isP6 (fewest_islands [.d (made6 (7 + 1)), .d kind6, .d row6, .d free6, .d (.list posts6)]) = true := by decide +kernel
theorem sixB1 : isN0 (fewest_islands [.d (made6 (7 + 1)), .d kind6, .d row6, .d free6, .d (.list posts5)]) = true := by decide +kernel
theorem sixA2 : isP6 (fewest_islands [.d (made6 (7 + 2)), .d kind6, .d row6, .d free6, .d (.list posts6)]) = true := by decide +kernel
theorem sixB2 : isN0 (fewest_islands [.d (made6 (7 + 2)), .d kind6, .d row6, .d free6, .d (.list posts5)]) = true := by decide +kernel
theorem sixA3 : isP6 (fewest_islands [.d (made6 (7 + 3)), .d kind6, .d row6, .d free6, .d (.list posts6)]) = true := by decide +kernel
theorem sixB3 : isN0 (fewest_islands [.d (made6 (7 + 3)), .d kind6, .d row6, .d free6, .d (.list posts5)]) = true := by decide +kernel
theorem sixA {r : Int} (h0 : 0 ≤ r) (h1 : r < 4) : fewest_islands [.d (made6 (7 + r)), .d kind6, .d row6, .d free6, .d (.list posts6)] = .ok (.d (.list posts6)) [] := by
  have : r = 0 ∨ r = 1 ∨ r = 2 ∨ r = 3 := by omega
  rcases this with h | h | h | h <;> subst h
  · exact isP6_ok sixA0
  · exact isP6_ok sixA1
  · exact isP6_ok sixA2
  · exact isP6_ok sixA3
theorem sixB {r : Int} (h0 : 0 ≤ r) (h1 : r < 4) : fewest_islands [.d (made6 (7 + r)), .d kind6, .d row6, .d free6, .d (.list posts5)] = .ok (.d .none) [] := by
  have : r = 0 ∨ r = 1 ∨ r = 2 ∨ r = 3 := by omega
  rcases this with h | h | h | h <;> subst h
  · exact isN0_ok sixB0
  · exact isN0_ok sixB1
  · exact isN0_ok sixB2
  · exact isN0_ok sixB3
theorem call6_ok {m : List O → FRes} {n : Nat} {fa : M (List O)} {ρ ρ1 : EV.Env} {os xs : List O} {r : O} (hf : fa ρ = .ok os ρ1) (hx : frzArgs os = some xs) (hl : xs.length = n) (hm : m xs = .ok r []) : E.call n m fa ρ = .ok r ρ1 := by
  unfold E.call M.bind
  rw [hf]
  simp only [hx]
  rw [if_pos hl, hm]
def envS (xs : List Int) (p q r : Int) : EV.Env := [pen xs p q, .d (.int (7 + r)), .un, .un, .un, .un, .un, .un]
def sixPre : M Fl := (S.seq (S.asg (E.view (Vw.tup (Vw.cons (Vw.tup (Vw.cons (Vw.c (.str "stop")) (Vw.cons (Vw.var 1) Vw.nil))) Vw.nil))) (G.nm 2))
  (S.seq (S.asg (E.view (Vw.tup (Vw.cons (Vw.tup (Vw.cons (Vw.tup (Vw.cons (Vw.c (.str "far")) (Vw.cons (Vw.c (.int 4)) Vw.nil))) Vw.nil)) (Vw.cons (Vw.var 2) (Vw.cons (Vw.var 2) (Vw.cons (Vw.var 2) (Vw.cons (Vw.tup (Vw.cons (Vw.tup (Vw.cons (Vw.c (.str "far")) (Vw.cons (Vw.c (.int 0)) Vw.nil))) Vw.nil)) Vw.nil))))))) (G.nm 3))
  (S.seq (S.asg (E.lst (A.cons (E.view (Vw.tup (Vw.cons (Vw.c (.int 1)) (Vw.cons (Vw.c (.int 0)) Vw.nil)))) (A.cons (E.view (Vw.tup (Vw.cons (Vw.c (.int 1)) (Vw.cons (Vw.c (.int 4)) Vw.nil)))) (A.cons (E.view (Vw.tup (Vw.cons (Vw.c (.int 2)) (Vw.cons (Vw.c (.int 0)) Vw.nil)))) (A.cons (E.view (Vw.tup (Vw.cons (Vw.c (.int 2)) (Vw.cons (Vw.c (.int 4)) Vw.nil)))) (A.cons (E.view (Vw.tup (Vw.cons (Vw.c (.int 3)) (Vw.cons (Vw.c (.int 0)) Vw.nil)))) (A.cons (E.view (Vw.tup (Vw.cons (Vw.c (.int 3)) (Vw.cons (Vw.c (.int 4)) Vw.nil)))) A.nil))))))) (G.nm 4))
  (S.seq (S.par3 5 6 7 (A.cons (E.view (Vw.tup (Vw.cons (Vw.c (.int 1)) (Vw.cons (Vw.c (.int 9)) (Vw.cons (Vw.c (.int 3)) (Vw.cons (Vw.c (.int 2)) (Vw.cons (Vw.c (.int 30)) (Vw.cons (Vw.c (.int 2)) (Vw.cons (Vw.c (.int 20)) (Vw.cons (Vw.c (.int 4)) Vw.nil)))))))))) (A.cons (E.lst (A.cons (E.view (Vw.c (.int 0))) (A.cons (E.view (Vw.c (.int 1))) (A.cons (E.view (Vw.c (.int 2))) (A.cons (E.view (Vw.c (.int 3))) (A.cons (E.view (Vw.c (.int 4))) A.nil)))))) (A.cons (E.lst (A.cons (E.view (Vw.c (.int 0))) (A.cons (E.view (Vw.c (.int 0))) (A.cons (E.view (Vw.c (.int 0))) (A.cons (E.view (Vw.c (.int 0))) (A.cons (E.view (Vw.c (.int 0))) A.nil)))))) A.nil))))
  S.nx))))
def sixPost : M Fl := (S.seq (S.ifS (T.val (E.op2 o_ne (E.call 5 fewest_islands (A.cons (E.var 3) (A.cons (E.var 5) (A.cons (E.var 6) (A.cons (E.var 7) (A.cons (E.var 4) A.nil)))))) (E.var 4))) (S.ret (E.view (Vw.c (.bool false)))) S.nx)
  (S.ret (E.op2 o_is (E.call 5 fewest_islands (A.cons (E.var 3) (A.cons (E.var 5) (A.cons (E.var 6) (A.cons (E.var 7) (A.cons (E.fr (Vw.sl (Vw.var 4) (Vw.part (Vw.c (.int 1))) Vw.noPart s_new)) A.nil)))))) (E.view (Vw.c .none)))))
def envT (xs : List Int) (p q r : Int) : EV.Env := [pen xs p q, .d (.int (7 + r)), .d (.tuple [.tuple [.str "stop", .int (7 + r)]]), .d (made6 (7 + r)), .d (.list posts6), .d kind6, .d row6, .d free6]
theorem sixR (xs : List Int) (p q : Int) {r : Int} (h0 : 0 ≤ r) (h1 : r < 4) : ∃ ρ, sixRest (envS xs p q r) = .ok (.ret (.d (.bool true))) (pen xs p q :: ρ) := by
  refine ⟨[.d (.int (7 + r)), .d (.tuple [.tuple [.str "stop", .int (7 + r)]]), .d (made6 (7 + r)), .d (.list posts6), .d kind6, .d row6, .d free6], ?_⟩
  have c1 : E.call 5 fewest_islands (A.cons (E.var 3) (A.cons (E.var 5) (A.cons (E.var 6) (A.cons (E.var 7) (A.cons (E.var 4) A.nil))))) [pen xs p q, .d (.int (7 + r)), .d (.tuple [.tuple [.str "stop", .int (7 + r)]]), .d (made6 (7 + r)), .lst (posts6.map .d), .d kind6, .lst [.d (.int 0), .d (.int 1), .d (.int 2), .d (.int 3), .d (.int 4)], .lst [.d (.int 0), .d (.int 0), .d (.int 0), .d (.int 0), .d (.int 0)]] = .ok (.d (.list posts6)) (envT xs p q r) :=
    call6_ok rfl rfl rfl (sixA h0 h1)
  have c2 : E.call 5 fewest_islands (A.cons (E.var 3) (A.cons (E.var 5) (A.cons (E.var 6) (A.cons (E.var 7) (A.cons (E.fr (Vw.sl (Vw.var 4) (Vw.part (Vw.c (.int 1))) Vw.noPart s_new)) A.nil))))) (envT xs p q r) = .ok (.d .none) (envT xs p q r) :=
    call6_ok (os := [.d (made6 (7 + r)), .d kind6, .d row6, .d free6, ol posts5]) rfl rfl rfl (sixB h0 h1)
  unfold sixRest
  refine (seq_ok rfl).trans ?_
  refine (seq_ok rfl).trans ?_
  refine (seq_ok rfl).trans ?_
  refine (seq_ok rfl).trans ?_
  have n1 : E.op2 o_ne (E.call 5 fewest_islands (A.cons (E.var 3) (A.cons (E.var 5) (A.cons (E.var 6) (A.cons (E.var 7) (A.cons (E.var 4) A.nil)))))) (E.var 4) [pen xs p q, .d (.int (7 + r)), .d (.tuple [.tuple [.str "stop", .int (7 + r)]]), .d (made6 (7 + r)), .lst (posts6.map .d), .d kind6, .lst [.d (.int 0), .d (.int 1), .d (.int 2), .d (.int 3), .d (.int 4)], .lst [.d (.int 0), .d (.int 0), .d (.int 0), .d (.int 0), .d (.int 0)]] = .ok (.d (.bool false)) (envT xs p q r) := by
    unfold E.op2 M.bind
    rw [c1]
    have e1 : E.var 4 (envT xs p q r) = .ok (.d (.list posts6)) (envT xs p q r) := rfl
    simp only [e1]
    have e2 : o_ne (.d (.list posts6)) (.d (.list posts6)) = some (.d (.bool false)) := by kernel_rfl
    rw [e2]
    rfl
  refine (seq_ok (ρ' := envT xs p q r) ?_).trans ?_
  · have : T.val (E.op2 o_ne (E.call 5 fewest_islands (A.cons (E.var 3) (A.cons (E.var 5) (A.cons (E.var 6) (A.cons (E.var 7) (A.cons (E.var 4) A.nil)))))) (E.var 4)) [pen xs p q, .d (.int (7 + r)), .d (.tuple [.tuple [.str "stop", .int (7 + r)]]), .d (made6 (7 + r)), .lst (posts6.map .d), .d kind6, .lst [.d (.int 0), .d (.int 1), .d (.int 2), .d (.int 3), .d (.int 4)], .lst [.d (.int 0), .d (.int 0), .d (.int 0), .d (.int 0), .d (.int 0)]] = .ok false (envT xs p q r) := by
      unfold T.val M.bind
      rw [n1]
      rfl
    refine (if_ok this).trans ?_
    rfl
  unfold S.ret E.op2 M.bind
  rw [c2]
  rfl
theorem six_ok (xs : List Int) : ∃ p q : Int, f_law_w_six_right [pen xs 0 0] = .ok (.d (.bool true)) [pen xs p q] ∧ 0 ≤ p ∧ p ≤ 1 := by
  obtain ⟨r, p, q, e, r0, r1, a1, a2⟩ := take_ok spread2_ok (xs := xs) (p := 0) (q := 0) (many := 4) (by decide) (by decide) (by decide) (by decide)
  rw [← e_take] at e
  obtain ⟨ρ, hρ⟩ := sixR xs p q r0 r1
  refine ⟨p, q, ?_, a1, by omega⟩
  have body : b__law_w_six_right [pen xs 0 0, .un, .un, .un, .un, .un, .un, .un] = .ok (.ret (.d (.bool true))) (pen xs p q :: ρ) := by
    show S.seq _ sixRest _ = _
    refine (seq_ok (ρ' := envS xs p q r) ?_).trans hρ
    exact asg_take (i := 0) (j := 1) rfl (fun z => by cases z) e
  show (match b__law_w_six_right [pen xs 0 0, .un, .un, .un, .un, .un, .un, .un] with
    | .ok (.ret r) ρ => FRes.ok r ([0].map fun i => ρ.getD i .un)
    | .ok .nx ρ => .ok (.d .none) ([0].map fun i => ρ.getD i .un)
    | .exc c ρ => .exc c ([0].map fun i => ρ.getD i .un)
    | _ => .stuck) = _
  rw [body]
  rfl
def isTT : FRes → Bool
  | .ok (.d (.bool true)) [] => true
  | _ => false
theorem isTT_ok {r : FRes} (h : isTT r = true) : r = .ok (.d (.bool true)) [] := by
  unfold isTT at h
  split at h
  · rfl
  · cases h
theorem ties_ok : f_law_w_ties_right [] = .ok (.d (.bool true)) [] := isTT_ok (by decide +kernel)
def st0 : M Fl := (S.asg (E.op2 o_add (E.view (Vw.c (.int 1))) (E.callIO 2 f_law_take 1 (A.cons (E.view (Vw.c (.int 16))) A.nil))) (G.nm 3))
def st1 : M Fl := (S.asg (E.view (Vw.tup (Vw.cons (Vw.tup (Vw.cons (Vw.tup (Vw.cons (Vw.c (.str "plain")) (Vw.cons (Vw.var 3) (Vw.cons (Vw.c (.int 1)) Vw.nil)))) (Vw.cons (Vw.tup (Vw.cons (Vw.c (.str "far")) (Vw.cons (Vw.c (.int 2)) Vw.nil))) Vw.nil))) (Vw.cons (Vw.tup (Vw.cons (Vw.tup (Vw.cons (Vw.c (.str "stop")) (Vw.cons (Vw.c (.int 20)) Vw.nil))) Vw.nil)) (Vw.cons (Vw.tup (Vw.cons (Vw.tup (Vw.cons (Vw.c (.str "stop")) (Vw.cons (Vw.c (.int 4)) Vw.nil))) Vw.nil)) Vw.nil))))) (G.nm 4))
def st2 : M Fl := (S.asg (E.tup (A.cons (E.view (Vw.tup (Vw.cons (Vw.c (.int 1)) (Vw.cons (Vw.c (.int 9)) (Vw.cons (Vw.c (.int 3)) (Vw.cons (Vw.c (.int 2)) (Vw.cons (Vw.c (.int 60)) (Vw.cons (Vw.c (.int 1)) (Vw.cons (Vw.c (.int 9)) (Vw.cons (Vw.c (.int 1)) Vw.nil)))))))))) (A.cons (E.lst (A.cons (E.view (Vw.c (.int 0))) (A.cons (E.view (Vw.c (.int 1))) (A.cons (E.view (Vw.c (.int 2))) A.nil)))) (A.cons (E.lst (A.cons (E.view (Vw.c (.int 0))) (A.cons (E.callIO 2 f_law_take 1 (A.cons (E.view (Vw.c (.int 9))) A.nil)) (A.cons (E.view (Vw.c (.int 30))) A.nil)))) (A.cons (E.lst (A.cons (E.view (Vw.tup (Vw.cons (Vw.c (.int 1)) (Vw.cons (Vw.c (.int 2)) Vw.nil)))) A.nil)) A.nil))))) (G.tup 4 (G.cons (G.nm 5) (G.cons (G.nm 6) (G.cons (G.nm 7) (G.cons (G.nm 8) G.nil))))))
def rest : M Fl := (S.seq (S.asg (E.callP 4 extents (Vw.perm [3, 2, 1, 0] (Vw.cons (Vw.pl (.slot 7)) (Vw.cons (Vw.pl (.slot 6)) (Vw.cons (Vw.pl (.slot 5)) (Vw.cons (Vw.pl (.slot 4)) Vw.nil)))))) (G.nm 9))
  (S.seq (S.ifS (T.or (T.val (E.op2 o_ne (E.var 9) (E.call 4 extents (A.cons (E.var 4) (A.cons (E.var 5) (A.cons (E.var 6) (A.cons (E.var 7) A.nil))))))) (T.view (Vw.op2 o_ne (Vw.op2 o_ix (Vw.var 9) (Vw.c (.int 0))) (Vw.tup (Vw.cons (Vw.c (.int 0)) (Vw.cons (Vw.op2 v_add (Vw.var 3) (Vw.c (.int 2))) Vw.nil)))))) (S.ret (E.view (Vw.c (.bool false)))) S.nx)
  (S.seq (S.ifS (T.val (E.op2 o_ne (E.callP 2 with_islands (Vw.perm [1, 0] (Vw.cons (Vw.pl (.slot 8)) (Vw.cons (Vw.pl (.slot 4)) Vw.nil)))) (E.call 2 with_islands (A.cons (E.var 4) (A.cons (E.var 8) A.nil))))) (S.ret (E.view (Vw.c (.bool false)))) S.nx)
  (S.seq (S.asg (E.callP 6 ways (Vw.perm [5, 4, 3, 2, 1, 0] (Vw.cons (Vw.dat (Vw.c (.int 2))) (Vw.cons (Vw.pl (.slot 8)) (Vw.cons (Vw.pl (.slot 7)) (Vw.cons (Vw.pl (.slot 6)) (Vw.cons (Vw.pl (.slot 5)) (Vw.cons (Vw.pl (.slot 4)) Vw.nil)))))))) (G.nm 10))
  (S.seq (S.ifS (T.or (T.val (E.op2 o_ne (E.var 10) (E.callP 6 ways (Vw.cons (Vw.pl (.slot 4)) (Vw.cons (Vw.pl (.slot 5)) (Vw.cons (Vw.pl (.slot 6)) (Vw.cons (Vw.pl (.slot 7)) (Vw.cons (Vw.pl (.slot 8)) (Vw.cons (Vw.dat (Vw.c (.int 2))) Vw.nil))))))))) (T.view (Vw.op2 o_ne (Vw.op2 o_ix (Vw.var 10) (Vw.c (.int 2))) (Vw.lst Vw.nil)))) (S.ret (E.view (Vw.c (.bool false)))) S.nx)
  (S.seq (S.asg (E.opN b_tuple (A.cons (E.lc [13] (Wk.seq (E.var 10)) (G.nm 13) T.yes (E.view (Vw.ifE (Vw.op2 o_is (Vw.var 13) (Vw.c .none)) (Vw.c .none) (Vw.opN o_len (Vw.cons (Vw.var 13) Vw.nil))))) A.nil)) (G.nm 11))
  (S.seq (S.ifS (T.not (T.val (E.callP 7 shows_levels (Vw.perm [6, 5, 4, 3, 2, 1, 0] (Vw.cons (Vw.pl (.slot 11)) (Vw.cons (Vw.dat (Vw.c (.int 2))) (Vw.cons (Vw.pl (.slot 8)) (Vw.cons (Vw.pl (.slot 7)) (Vw.cons (Vw.pl (.slot 6)) (Vw.cons (Vw.pl (.slot 5)) (Vw.cons (Vw.pl (.slot 4)) Vw.nil))))))))))) (S.ret (E.view (Vw.c (.bool false)))) S.nx)
  (S.seq (S.ifS (T.val (E.op2 o_ne (E.callP 5 lost (Vw.perm [4, 3, 2, 1, 0] (Vw.cons (Vw.pl (.slot 8)) (Vw.cons (Vw.pl (.slot 7)) (Vw.cons (Vw.pl (.slot 6)) (Vw.cons (Vw.pl (.slot 5)) (Vw.cons (Vw.pl (.slot 4)) Vw.nil))))))) (E.callP 5 lost (Vw.cons (Vw.pl (.slot 4)) (Vw.cons (Vw.pl (.slot 5)) (Vw.cons (Vw.pl (.slot 6)) (Vw.cons (Vw.pl (.slot 7)) (Vw.cons (Vw.pl (.slot 8)) Vw.nil)))))))) (S.ret (E.view (Vw.c (.bool false)))) S.nx)
  (S.seq (S.asg (E.callP 5 fewest_islands (Vw.perm [4, 3, 2, 1, 0] (Vw.cons (Vw.pl (.slot 8)) (Vw.cons (Vw.pl (.slot 7)) (Vw.cons (Vw.pl (.slot 6)) (Vw.cons (Vw.pl (.slot 5)) (Vw.cons (Vw.pl (.slot 4)) Vw.nil))))))) (G.nm 12))
  (S.seq (S.ifS (T.val (E.op2 o_ne (E.var 12) (E.callP 5 fewest_islands (Vw.cons (Vw.pl (.slot 4)) (Vw.cons (Vw.pl (.slot 5)) (Vw.cons (Vw.pl (.slot 6)) (Vw.cons (Vw.pl (.slot 7)) (Vw.cons (Vw.pl (.slot 8)) Vw.nil)))))))) (S.ret (E.view (Vw.c (.bool false)))) S.nx)
  (S.ifS (T.val (E.op2 o_ne (E.callP 4 best_order (Vw.perm [3, 2, 1, 0] (Vw.cons (Vw.pl (.slot 8)) (Vw.cons (Vw.pl (.slot 7)) (Vw.cons (Vw.pl (.slot 5)) (Vw.cons (Vw.pl (.slot 4)) Vw.nil)))))) (E.callP 4 best_order (Vw.cons (Vw.pl (.slot 4)) (Vw.cons (Vw.pl (.slot 5)) (Vw.cons (Vw.pl (.slot 7)) (Vw.cons (Vw.pl (.slot 8)) Vw.nil))))))) (S.ret (E.view (Vw.c (.bool false)))) S.nx)))))))))))
def body : M Fl := S.seq st0 (S.seq st1 (S.seq st2 rest))
def made (w : Int) : D := .tuple [.tuple [.tuple [.str "plain", .int w, .int 1], .tuple [.str "far", .int 2]], .tuple [.tuple [.str "stop", .int 20]], .tuple [.tuple [.str "stop", .int 4]]]
def kind : D := .tuple [.int 1, .int 9, .int 3, .int 2, .int 60, .int 1, .int 9, .int 1]
def envR (ns xs : List Int) (p q : Int) (t : O) (w r : Int) (a b c d : O) : EV.Env := [.scr ns, pen xs p q, t, .d (.int (1 + w)), .d (made (1 + w)), .d kind, .lst [.d (.int 0), .d (.int 1), .d (.int 2)], .lst [.d (.int 0), .d (.int r), .d (.int 30)], .lst [.d (.tuple [.int 1, .int 2])], a, b, c, d, .un]
def chk3 : EV.R Fl → Option (O × O × O)
  | .ok .nx [a, b, _, _, _, _, _, _, _, _, _, _, _, l] => some (a, b, l)
  | _ => none
theorem chk3_ok {r : EV.R Fl} {a b l : O} (h : chk3 r = some (a, b, l)) : ∃ c0 c1 c2 c3 c4 c5 c6 c7 c8 c9 c10 : O, r = .ok .nx [a, b, c0, c1, c2, c3, c4, c5, c6, c7, c8, c9, c10, l] := by
  unfold chk3 at h
  split at h
  · cases h; exact ⟨_, _, _, _, _, _, _, _, _, _, _, rfl⟩
  · cases h
theorem u_0_0 (ns xs : List Int) (p q : Int) (t a b c d : O) : chk3 (rest (envR ns xs p q t 0 0 a b c d)) = some (.scr ns, pen xs p q, .un) := by kernel_rfl
theorem u_0_1 (ns xs : List Int) (p q : Int) (t a b c d : O) : chk3 (rest (envR ns xs p q t 0 1 a b c d)) = some (.scr ns, pen xs p q, .un) := by kernel_rfl
theorem u_0_2 (ns xs : List Int) (p q : Int) (t a b c d : O) : chk3 (rest (envR ns xs p q t 0 2 a b c d)) = some (.scr ns, pen xs p q, .un) := by kernel_rfl
theorem u_0_3 (ns xs : List Int) (p q : Int) (t a b c d : O) : chk3 (rest (envR ns xs p q t 0 3 a b c d)) = some (.scr ns, pen xs p q, .un) := by kernel_rfl
theorem u_0_4 (ns xs : List Int) (p q : Int) (t a b c d : O) : chk3 (rest (envR ns xs p q t 0 4 a b c d)) = some (.scr ns, pen xs p q, .un) := by kernel_rfl
theorem u_0_5 (ns xs : List Int) (p q : Int) (t a b c d : O) : chk3 (rest (envR ns xs p q t 0 5 a b c d)) = some (.scr ns, pen xs p q, .un) := by kernel_rfl
theorem u_0_6 (ns xs : List Int) (p q : Int) (t a b c d : O) : chk3 (rest (envR ns xs p q t 0 6 a b c d)) = some (.scr ns, pen xs p q, .un) := by kernel_rfl
theorem u_0_7 (ns xs : List Int) (p q : Int) (t a b c d : O) : chk3 (rest (envR ns xs p q t 0 7 a b c d)) = some (.scr ns, pen xs p q, .un) := by kernel_rfl
theorem u_0_8 (ns xs : List Int) (p q : Int) (t a b c d : O) : chk3 (rest (envR ns xs p q t 0 8 a b c d)) = some (.scr ns, pen xs p q, .un) := by kernel_rfl
theorem u_0 (ns xs : List Int) (p q : Int) (t a b c d : O) {r : Int} (h0 : 0 ≤ r) (h1 : r < 9) : chk3 (rest (envR ns xs p q t 0 r a b c d)) = some (.scr ns, pen xs p q, .un) := by
  have : r = 0 ∨ r = 1 ∨ r = 2 ∨ r = 3 ∨ r = 4 ∨ r = 5 ∨ r = 6 ∨ r = 7 ∨ r = 8 := by omega
  rcases this with h | h | h | h | h | h | h | h | h <;> subst h
  · exact u_0_0 ns xs p q t a b c d
  · exact u_0_1 ns xs p q t a b c d
  · exact u_0_2 ns xs p q t a b c d
  · exact u_0_3 ns xs p q t a b c d
  · exact u_0_4 ns xs p q t a b c d
  · exact u_0_5 ns xs p q t a b c d
  · exact u_0_6 ns xs p q t a b c d
  · exact u_0_7 ns xs p q t a b c d
  · exact u_0_8 ns xs p q t a b c d
theorem u_1_0 (ns xs : List Int) (p q : Int) (t a b c d : O) : chk3 (rest (envR ns xs p q t 1 0 a b c d)) = some (.scr ns, pen xs p q, .un) := by kernel_rfl
theorem u_1_1 (ns xs : List Int) (p q : Int) (t a b c d : O) : chk3 (rest (envR ns xs p q t 1 1 a b c d)) = some (.scr ns, pen xs p q, .un) := by kernel_rfl
theorem u_1_2 (ns xs : List Int) (p q : Int) (t a b c d : O) : chk3 (rest (envR ns xs p q t 1 2 a b c d)) = some (.scr ns, pen xs p q, .un) := by kernel_rfl
theorem u_1_3 (ns xs : List Int) (p q : Int) (t a b c d : O) : chk3 (rest (envR ns xs p q t 1 3 a b c d)) = some (.scr ns, pen xs p q, .un) := by kernel_rfl
theorem u_1_4 (ns xs : List Int) (p q : Int) (t a b c d : O) : chk3 (rest (envR ns xs p q t 1 4 a b c d)) = some (.scr ns, pen xs p q, .un) := by kernel_rfl
theorem u_1_5 (ns xs : List Int) (p q : Int) (t a b c d : O) : chk3 (rest (envR ns xs p q t 1 5 a b c d)) = some (.scr ns, pen xs p q, .un) := by kernel_rfl
theorem u_1_6 (ns xs : List Int) (p q : Int) (t a b c d : O) : chk3 (rest (envR ns xs p q t 1 6 a b c d)) = some (.scr ns, pen xs p q, .un) := by kernel_rfl
theorem u_1_7 (ns xs : List Int) (p q : Int) (t a b c d : O) : chk3 (rest (envR ns xs p q t 1 7 a b c d)) = some (.scr ns, pen xs p q, .un) := by kernel_rfl
theorem u_1_8 (ns xs : List Int) (p q : Int) (t a b c d : O) : chk3 (rest (envR ns xs p q t 1 8 a b c d)) = some (.scr ns, pen xs p q, .un) := by kernel_rfl
theorem u_1 (ns xs : List Int) (p q : Int) (t a b c d : O) {r : Int} (h0 : 0 ≤ r) (h1 : r < 9) : chk3 (rest (envR ns xs p q t 1 r a b c d)) = some (.scr ns, pen xs p q, .un) := by
  have : r = 0 ∨ r = 1 ∨ r = 2 ∨ r = 3 ∨ r = 4 ∨ r = 5 ∨ r = 6 ∨ r = 7 ∨ r = 8 := by omega
  rcases this with h | h | h | h | h | h | h | h | h <;> subst h
  · exact u_1_0 ns xs p q t a b c d
  · exact u_1_1 ns xs p q t a b c d
  · exact u_1_2 ns xs p q t a b c d
  · exact u_1_3 ns xs p q t a b c d
  · exact u_1_4 ns xs p q t a b c d
  · exact u_1_5 ns xs p q t a b c d
  · exact u_1_6 ns xs p q t a b c d
  · exact u_1_7 ns xs p q t a b c d
  · exact u_1_8 ns xs p q t a b c d
theorem u_2_0 (ns xs : List Int) (p q : Int) (t a b c d : O) : chk3 (rest (envR ns xs p q t 2 0 a b c d)) = some (.scr ns, pen xs p q, .un) := by kernel_rfl
theorem u_2_1 (ns xs : List Int) (p q : Int) (t a b c d : O) : chk3 (rest (envR ns xs p q t 2 1 a b c d)) = some (.scr ns, pen xs p q, .un) := by kernel_rfl
theorem u_2_2 (ns xs : List Int) (p q : Int) (t a b c d : O) : chk3 (rest (envR ns xs p q t 2 2 a b c d)) = some (.scr ns, pen xs p q, .un) := by kernel_rfl
theorem u_2_3 (ns xs : List Int) (p q : Int) (t a b c d : O) : chk3 (rest (envR ns xs p q t 2 3 a b c d)) = some (.scr ns, pen xs p q, .un) := by kernel_rfl
theorem u_2_4 (ns xs : List Int) (p q : Int) (t a b c d : O) : chk3 (rest (envR ns xs p q t 2 4 a b c d)) = some (.scr ns, pen xs p q, .un) := by kernel_rfl
theorem u_2_5 (ns xs : List Int) (p q : Int) (t a b c d : O) : chk3 (rest (envR ns xs p q t 2 5 a b c d)) = some (.scr ns, pen xs p q, .un) := by kernel_rfl
theorem u_2_6 (ns xs : List Int) (p q : Int) (t a b c d : O) : chk3 (rest (envR ns xs p q t 2 6 a b c d)) = some (.scr ns, pen xs p q, .un) := by kernel_rfl
theorem u_2_7 (ns xs : List Int) (p q : Int) (t a b c d : O) : chk3 (rest (envR ns xs p q t 2 7 a b c d)) = some (.scr ns, pen xs p q, .un) := by kernel_rfl
theorem u_2_8 (ns xs : List Int) (p q : Int) (t a b c d : O) : chk3 (rest (envR ns xs p q t 2 8 a b c d)) = some (.scr ns, pen xs p q, .un) := by kernel_rfl
theorem u_2 (ns xs : List Int) (p q : Int) (t a b c d : O) {r : Int} (h0 : 0 ≤ r) (h1 : r < 9) : chk3 (rest (envR ns xs p q t 2 r a b c d)) = some (.scr ns, pen xs p q, .un) := by
  have : r = 0 ∨ r = 1 ∨ r = 2 ∨ r = 3 ∨ r = 4 ∨ r = 5 ∨ r = 6 ∨ r = 7 ∨ r = 8 := by omega
  rcases this with h | h | h | h | h | h | h | h | h <;> subst h
  · exact u_2_0 ns xs p q t a b c d
  · exact u_2_1 ns xs p q t a b c d
  · exact u_2_2 ns xs p q t a b c d
  · exact u_2_3 ns xs p q t a b c d
  · exact u_2_4 ns xs p q t a b c d
  · exact u_2_5 ns xs p q t a b c d
  · exact u_2_6 ns xs p q t a b c d
  · exact u_2_7 ns xs p q t a b c d
  · exact u_2_8 ns xs p q t a b c d
theorem u_3_0 (ns xs : List Int) (p q : Int) (t a b c d : O) : chk3 (rest (envR ns xs p q t 3 0 a b c d)) = some (.scr ns, pen xs p q, .un) := by kernel_rfl
theorem u_3_1 (ns xs : List Int) (p q : Int) (t a b c d : O) : chk3 (rest (envR ns xs p q t 3 1 a b c d)) = some (.scr ns, pen xs p q, .un) := by kernel_rfl
theorem u_3_2 (ns xs : List Int) (p q : Int) (t a b c d : O) : chk3 (rest (envR ns xs p q t 3 2 a b c d)) = some (.scr ns, pen xs p q, .un) := by kernel_rfl
theorem u_3_3 (ns xs : List Int) (p q : Int) (t a b c d : O) : chk3 (rest (envR ns xs p q t 3 3 a b c d)) = some (.scr ns, pen xs p q, .un) := by kernel_rfl
theorem u_3_4 (ns xs : List Int) (p q : Int) (t a b c d : O) : chk3 (rest (envR ns xs p q t 3 4 a b c d)) = some (.scr ns, pen xs p q, .un) := by kernel_rfl
theorem u_3_5 (ns xs : List Int) (p q : Int) (t a b c d : O) : chk3 (rest (envR ns xs p q t 3 5 a b c d)) = some (.scr ns, pen xs p q, .un) := by kernel_rfl
theorem u_3_6 (ns xs : List Int) (p q : Int) (t a b c d : O) : chk3 (rest (envR ns xs p q t 3 6 a b c d)) = some (.scr ns, pen xs p q, .un) := by kernel_rfl
theorem u_3_7 (ns xs : List Int) (p q : Int) (t a b c d : O) : chk3 (rest (envR ns xs p q t 3 7 a b c d)) = some (.scr ns, pen xs p q, .un) := by kernel_rfl
theorem u_3_8 (ns xs : List Int) (p q : Int) (t a b c d : O) : chk3 (rest (envR ns xs p q t 3 8 a b c d)) = some (.scr ns, pen xs p q, .un) := by kernel_rfl
theorem u_3 (ns xs : List Int) (p q : Int) (t a b c d : O) {r : Int} (h0 : 0 ≤ r) (h1 : r < 9) : chk3 (rest (envR ns xs p q t 3 r a b c d)) = some (.scr ns, pen xs p q, .un) := by
  have : r = 0 ∨ r = 1 ∨ r = 2 ∨ r = 3 ∨ r = 4 ∨ r = 5 ∨ r = 6 ∨ r = 7 ∨ r = 8 := by omega
  rcases this with h | h | h | h | h | h | h | h | h <;> subst h
  · exact u_3_0 ns xs p q t a b c d
  · exact u_3_1 ns xs p q t a b c d
  · exact u_3_2 ns xs p q t a b c d
  · exact u_3_3 ns xs p q t a b c d
  · exact u_3_4 ns xs p q t a b c d
  · exact u_3_5 ns xs p q t a b c d
  · exact u_3_6 ns xs p q t a b c d
  · exact u_3_7 ns xs p q t a b c d
  · exact u_3_8 ns xs p q t a b c d
theorem u_4_0 (ns xs : List Int) (p q : Int) (t a b c d : O) : chk3 (rest (envR ns xs p q t 4 0 a b c d)) = some (.scr ns, pen xs p q, .un) := by kernel_rfl
theorem u_4_1 (ns xs : List Int) (p q : Int) (t a b c d : O) : chk3 (rest (envR ns xs p q t 4 1 a b c d)) = some (.scr ns, pen xs p q, .un) := by kernel_rfl
theorem u_4_2 (ns xs : List Int) (p q : Int) (t a b c d : O) : chk3 (rest (envR ns xs p q t 4 2 a b c d)) = some (.scr ns, pen xs p q, .un) := by kernel_rfl
theorem u_4_3 (ns xs : List Int) (p q : Int) (t a b c d : O) : chk3 (rest (envR ns xs p q t 4 3 a b c d)) = some (.scr ns, pen xs p q, .un) := by kernel_rfl
theorem u_4_4 (ns xs : List Int) (p q : Int) (t a b c d : O) : chk3 (rest (envR ns xs p q t 4 4 a b c d)) = some (.scr ns, pen xs p q, .un) := by kernel_rfl
theorem u_4_5 (ns xs : List Int) (p q : Int) (t a b c d : O) : chk3 (rest (envR ns xs p q t 4 5 a b c d)) = some (.scr ns, pen xs p q, .un) := by kernel_rfl
theorem u_4_6 (ns xs : List Int) (p q : Int) (t a b c d : O) : chk3 (rest (envR ns xs p q t 4 6 a b c d)) = some (.scr ns, pen xs p q, .un) := by kernel_rfl
theorem u_4_7 (ns xs : List Int) (p q : Int) (t a b c d : O) : chk3 (rest (envR ns xs p q t 4 7 a b c d)) = some (.scr ns, pen xs p q, .un) := by kernel_rfl
theorem u_4_8 (ns xs : List Int) (p q : Int) (t a b c d : O) : chk3 (rest (envR ns xs p q t 4 8 a b c d)) = some (.scr ns, pen xs p q, .un) := by kernel_rfl
theorem u_4 (ns xs : List Int) (p q : Int) (t a b c d : O) {r : Int} (h0 : 0 ≤ r) (h1 : r < 9) : chk3 (rest (envR ns xs p q t 4 r a b c d)) = some (.scr ns, pen xs p q, .un) := by
  have : r = 0 ∨ r = 1 ∨ r = 2 ∨ r = 3 ∨ r = 4 ∨ r = 5 ∨ r = 6 ∨ r = 7 ∨ r = 8 := by omega
  rcases this with h | h | h | h | h | h | h | h | h <;> subst h
  · exact u_4_0 ns xs p q t a b c d
  · exact u_4_1 ns xs p q t a b c d
  · exact u_4_2 ns xs p q t a b c d
  · exact u_4_3 ns xs p q t a b c d
  · exact u_4_4 ns xs p q t a b c d
  · exact u_4_5 ns xs p q t a b c d
  · exact u_4_6 ns xs p q t a b c d
  · exact u_4_7 ns xs p q t a b c d
  · exact u_4_8 ns xs p q t a b c d
theorem u_5_0 (ns xs : List Int) (p q : Int) (t a b c d : O) : chk3 (rest (envR ns xs p q t 5 0 a b c d)) = some (.scr ns, pen xs p q, .un) := by kernel_rfl
theorem u_5_1 (ns xs : List Int) (p q : Int) (t a b c d : O) : chk3 (rest (envR ns xs p q t 5 1 a b c d)) = some (.scr ns, pen xs p q, .un) := by kernel_rfl
theorem u_5_2 (ns xs : List Int) (p q : Int) (t a b c d : O) : chk3 (rest (envR ns xs p q t 5 2 a b c d)) = some (.scr ns, pen xs p q, .un) := by kernel_rfl
theorem u_5_3 (ns xs : List Int) (p q : Int) (t a b c d : O) : chk3 (rest (envR ns xs p q t 5 3 a b c d)) = some (.scr ns, pen xs p q, .un) := by kernel_rfl
theorem u_5_4 (ns xs : List Int) (p q : Int) (t a b c d : O) : chk3 (rest (envR ns xs p q t 5 4 a b c d)) = some (.scr ns, pen xs p q, .un) := by kernel_rfl
theorem u_5_5 (ns xs : List Int) (p q : Int) (t a b c d : O) : chk3 (rest (envR ns xs p q t 5 5 a b c d)) = some (.scr ns, pen xs p q, .un) := by kernel_rfl
theorem u_5_6 (ns xs : List Int) (p q : Int) (t a b c d : O) : chk3 (rest (envR ns xs p q t 5 6 a b c d)) = some (.scr ns, pen xs p q, .un) := by kernel_rfl
theorem u_5_7 (ns xs : List Int) (p q : Int) (t a b c d : O) : chk3 (rest (envR ns xs p q t 5 7 a b c d)) = some (.scr ns, pen xs p q, .un) := by kernel_rfl
theorem u_5_8 (ns xs : List Int) (p q : Int) (t a b c d : O) : chk3 (rest (envR ns xs p q t 5 8 a b c d)) = some (.scr ns, pen xs p q, .un) := by kernel_rfl
theorem u_5 (ns xs : List Int) (p q : Int) (t a b c d : O) {r : Int} (h0 : 0 ≤ r) (h1 : r < 9) : chk3 (rest (envR ns xs p q t 5 r a b c d)) = some (.scr ns, pen xs p q, .un) := by
  have : r = 0 ∨ r = 1 ∨ r = 2 ∨ r = 3 ∨ r = 4 ∨ r = 5 ∨ r = 6 ∨ r = 7 ∨ r = 8 := by omega
  rcases this with h | h | h | h | h | h | h | h | h <;> subst h
  · exact u_5_0 ns xs p q t a b c d
  · exact u_5_1 ns xs p q t a b c d
  · exact u_5_2 ns xs p q t a b c d
  · exact u_5_3 ns xs p q t a b c d
  · exact u_5_4 ns xs p q t a b c d
  · exact u_5_5 ns xs p q t a b c d
  · exact u_5_6 ns xs p q t a b c d
  · exact u_5_7 ns xs p q t a b c d
  · exact u_5_8 ns xs p q t a b c d
theorem u_6_0 (ns xs : List Int) (p q : Int) (t a b c d : O) : chk3 (rest (envR ns xs p q t 6 0 a b c d)) = some (.scr ns, pen xs p q, .un) := by kernel_rfl
theorem u_6_1 (ns xs : List Int) (p q : Int) (t a b c d : O) : chk3 (rest (envR ns xs p q t 6 1 a b c d)) = some (.scr ns, pen xs p q, .un) := by kernel_rfl
theorem u_6_2 (ns xs : List Int) (p q : Int) (t a b c d : O) : chk3 (rest (envR ns xs p q t 6 2 a b c d)) = some (.scr ns, pen xs p q, .un) := by kernel_rfl
theorem u_6_3 (ns xs : List Int) (p q : Int) (t a b c d : O) : chk3 (rest (envR ns xs p q t 6 3 a b c d)) = some (.scr ns, pen xs p q, .un) := by kernel_rfl
theorem u_6_4 (ns xs : List Int) (p q : Int) (t a b c d : O) : chk3 (rest (envR ns xs p q t 6 4 a b c d)) = some (.scr ns, pen xs p q, .un) := by kernel_rfl
theorem u_6_5 (ns xs : List Int) (p q : Int) (t a b c d : O) : chk3 (rest (envR ns xs p q t 6 5 a b c d)) = some (.scr ns, pen xs p q, .un) := by kernel_rfl
theorem u_6_6 (ns xs : List Int) (p q : Int) (t a b c d : O) : chk3 (rest (envR ns xs p q t 6 6 a b c d)) = some (.scr ns, pen xs p q, .un) := by kernel_rfl
theorem u_6_7 (ns xs : List Int) (p q : Int) (t a b c d : O) : chk3 (rest (envR ns xs p q t 6 7 a b c d)) = some (.scr ns, pen xs p q, .un) := by kernel_rfl
theorem u_6_8 (ns xs : List Int) (p q : Int) (t a b c d : O) : chk3 (rest (envR ns xs p q t 6 8 a b c d)) = some (.scr ns, pen xs p q, .un) := by kernel_rfl
theorem u_6 (ns xs : List Int) (p q : Int) (t a b c d : O) {r : Int} (h0 : 0 ≤ r) (h1 : r < 9) : chk3 (rest (envR ns xs p q t 6 r a b c d)) = some (.scr ns, pen xs p q, .un) := by
  have : r = 0 ∨ r = 1 ∨ r = 2 ∨ r = 3 ∨ r = 4 ∨ r = 5 ∨ r = 6 ∨ r = 7 ∨ r = 8 := by omega
  rcases this with h | h | h | h | h | h | h | h | h <;> subst h
  · exact u_6_0 ns xs p q t a b c d
  · exact u_6_1 ns xs p q t a b c d
  · exact u_6_2 ns xs p q t a b c d
  · exact u_6_3 ns xs p q t a b c d
  · exact u_6_4 ns xs p q t a b c d
  · exact u_6_5 ns xs p q t a b c d
  · exact u_6_6 ns xs p q t a b c d
  · exact u_6_7 ns xs p q t a b c d
  · exact u_6_8 ns xs p q t a b c d
theorem u_7_0 (ns xs : List Int) (p q : Int) (t a b c d : O) : chk3 (rest (envR ns xs p q t 7 0 a b c d)) = some (.scr ns, pen xs p q, .un) := by kernel_rfl
theorem u_7_1 (ns xs : List Int) (p q : Int) (t a b c d : O) : chk3 (rest (envR ns xs p q t 7 1 a b c d)) = some (.scr ns, pen xs p q, .un) := by kernel_rfl
theorem u_7_2 (ns xs : List Int) (p q : Int) (t a b c d : O) : chk3 (rest (envR ns xs p q t 7 2 a b c d)) = some (.scr ns, pen xs p q, .un) := by kernel_rfl
theorem u_7_3 (ns xs : List Int) (p q : Int) (t a b c d : O) : chk3 (rest (envR ns xs p q t 7 3 a b c d)) = some (.scr ns, pen xs p q, .un) := by kernel_rfl
theorem u_7_4 (ns xs : List Int) (p q : Int) (t a b c d : O) : chk3 (rest (envR ns xs p q t 7 4 a b c d)) = some (.scr ns, pen xs p q, .un) := by kernel_rfl
theorem u_7_5 (ns xs : List Int) (p q : Int) (t a b c d : O) : chk3 (rest (envR ns xs p q t 7 5 a b c d)) = some (.scr ns, pen xs p q, .un) := by kernel_rfl
theorem u_7_6 (ns xs : List Int) (p q : Int) (t a b c d : O) : chk3 (rest (envR ns xs p q t 7 6 a b c d)) = some (.scr ns, pen xs p q, .un) := by kernel_rfl
theorem u_7_7 (ns xs : List Int) (p q : Int) (t a b c d : O) : chk3 (rest (envR ns xs p q t 7 7 a b c d)) = some (.scr ns, pen xs p q, .un) := by kernel_rfl
theorem u_7_8 (ns xs : List Int) (p q : Int) (t a b c d : O) : chk3 (rest (envR ns xs p q t 7 8 a b c d)) = some (.scr ns, pen xs p q, .un) := by kernel_rfl
theorem u_7 (ns xs : List Int) (p q : Int) (t a b c d : O) {r : Int} (h0 : 0 ≤ r) (h1 : r < 9) : chk3 (rest (envR ns xs p q t 7 r a b c d)) = some (.scr ns, pen xs p q, .un) := by
  have : r = 0 ∨ r = 1 ∨ r = 2 ∨ r = 3 ∨ r = 4 ∨ r = 5 ∨ r = 6 ∨ r = 7 ∨ r = 8 := by omega
  rcases this with h | h | h | h | h | h | h | h | h <;> subst h
  · exact u_7_0 ns xs p q t a b c d
  · exact u_7_1 ns xs p q t a b c d
  · exact u_7_2 ns xs p q t a b c d
  · exact u_7_3 ns xs p q t a b c d
  · exact u_7_4 ns xs p q t a b c d
  · exact u_7_5 ns xs p q t a b c d
  · exact u_7_6 ns xs p q t a b c d
  · exact u_7_7 ns xs p q t a b c d
  · exact u_7_8 ns xs p q t a b c d
theorem u_8_0 (ns xs : List Int) (p q : Int) (t a b c d : O) : chk3 (rest (envR ns xs p q t 8 0 a b c d)) = some (.scr ns, pen xs p q, .un) := by kernel_rfl
theorem u_8_1 (ns xs : List Int) (p q : Int) (t a b c d : O) : chk3 (rest (envR ns xs p q t 8 1 a b c d)) = some (.scr ns, pen xs p q, .un) := by kernel_rfl
theorem u_8_2 (ns xs : List Int) (p q : Int) (t a b c d : O) : chk3 (rest (envR ns xs p q t 8 2 a b c d)) = some (.scr ns, pen xs p q, .un) := by kernel_rfl
theorem u_8_3 (ns xs : List Int) (p q : Int) (t a b c d : O) : chk3 (rest (envR ns xs p q t 8 3 a b c d)) = some (.scr ns, pen xs p q, .un) := by kernel_rfl
theorem u_8_4 (ns xs : List Int) (p q : Int) (t a b c d : O) : chk3 (rest (envR ns xs p q t 8 4 a b c d)) = some (.scr ns, pen xs p q, .un) := by kernel_rfl
theorem u_8_5 (ns xs : List Int) (p q : Int) (t a b c d : O) : chk3 (rest (envR ns xs p q t 8 5 a b c d)) = some (.scr ns, pen xs p q, .un) := by kernel_rfl
theorem u_8_6 (ns xs : List Int) (p q : Int) (t a b c d : O) : chk3 (rest (envR ns xs p q t 8 6 a b c d)) = some (.scr ns, pen xs p q, .un) := by kernel_rfl
theorem u_8_7 (ns xs : List Int) (p q : Int) (t a b c d : O) : chk3 (rest (envR ns xs p q t 8 7 a b c d)) = some (.scr ns, pen xs p q, .un) := by kernel_rfl
theorem u_8_8 (ns xs : List Int) (p q : Int) (t a b c d : O) : chk3 (rest (envR ns xs p q t 8 8 a b c d)) = some (.scr ns, pen xs p q, .un) := by kernel_rfl
theorem u_8 (ns xs : List Int) (p q : Int) (t a b c d : O) {r : Int} (h0 : 0 ≤ r) (h1 : r < 9) : chk3 (rest (envR ns xs p q t 8 r a b c d)) = some (.scr ns, pen xs p q, .un) := by
  have : r = 0 ∨ r = 1 ∨ r = 2 ∨ r = 3 ∨ r = 4 ∨ r = 5 ∨ r = 6 ∨ r = 7 ∨ r = 8 := by omega
  rcases this with h | h | h | h | h | h | h | h | h <;> subst h
  · exact u_8_0 ns xs p q t a b c d
  · exact u_8_1 ns xs p q t a b c d
  · exact u_8_2 ns xs p q t a b c d
  · exact u_8_3 ns xs p q t a b c d
  · exact u_8_4 ns xs p q t a b c d
  · exact u_8_5 ns xs p q t a b c d
  · exact u_8_6 ns xs p q t a b c d
  · exact u_8_7 ns xs p q t a b c d
  · exact u_8_8 ns xs p q t a b c d
theorem u_9_0 (ns xs : List Int) (p q : Int) (t a b c d : O) : chk3 (rest (envR ns xs p q t 9 0 a b c d)) = some (.scr ns, pen xs p q, .un) := by kernel_rfl
theorem u_9_1 (ns xs : List Int) (p q : Int) (t a b c d : O) : chk3 (rest (envR ns xs p q t 9 1 a b c d)) = some (.scr ns, pen xs p q, .un) := by kernel_rfl
theorem u_9_2 (ns xs : List Int) (p q : Int) (t a b c d : O) : chk3 (rest (envR ns xs p q t 9 2 a b c d)) = some (.scr ns, pen xs p q, .un) := by kernel_rfl
theorem u_9_3 (ns xs : List Int) (p q : Int) (t a b c d : O) : chk3 (rest (envR ns xs p q t 9 3 a b c d)) = some (.scr ns, pen xs p q, .un) := by kernel_rfl
theorem u_9_4 (ns xs : List Int) (p q : Int) (t a b c d : O) : chk3 (rest (envR ns xs p q t 9 4 a b c d)) = some (.scr ns, pen xs p q, .un) := by kernel_rfl
theorem u_9_5 (ns xs : List Int) (p q : Int) (t a b c d : O) : chk3 (rest (envR ns xs p q t 9 5 a b c d)) = some (.scr ns, pen xs p q, .un) := by kernel_rfl
theorem u_9_6 (ns xs : List Int) (p q : Int) (t a b c d : O) : chk3 (rest (envR ns xs p q t 9 6 a b c d)) = some (.scr ns, pen xs p q, .un) := by kernel_rfl
theorem u_9_7 (ns xs : List Int) (p q : Int) (t a b c d : O) : chk3 (rest (envR ns xs p q t 9 7 a b c d)) = some (.scr ns, pen xs p q, .un) := by kernel_rfl
theorem u_9_8 (ns xs : List Int) (p q : Int) (t a b c d : O) : chk3 (rest (envR ns xs p q t 9 8 a b c d)) = some (.scr ns, pen xs p q, .un) := by kernel_rfl
theorem u_9 (ns xs : List Int) (p q : Int) (t a b c d : O) {r : Int} (h0 : 0 ≤ r) (h1 : r < 9) : chk3 (rest (envR ns xs p q t 9 r a b c d)) = some (.scr ns, pen xs p q, .un) := by
  have : r = 0 ∨ r = 1 ∨ r = 2 ∨ r = 3 ∨ r = 4 ∨ r = 5 ∨ r = 6 ∨ r = 7 ∨ r = 8 := by omega
  rcases this with h | h | h | h | h | h | h | h | h <;> subst h
  · exact u_9_0 ns xs p q t a b c d
  · exact u_9_1 ns xs p q t a b c d
  · exact u_9_2 ns xs p q t a b c d
  · exact u_9_3 ns xs p q t a b c d
  · exact u_9_4 ns xs p q t a b c d
  · exact u_9_5 ns xs p q t a b c d
  · exact u_9_6 ns xs p q t a b c d
  · exact u_9_7 ns xs p q t a b c d
  · exact u_9_8 ns xs p q t a b c d
theorem u_10_0 (ns xs : List Int) (p q : Int) (t a b c d : O) : chk3 (rest (envR ns xs p q t 10 0 a b c d)) = some (.scr ns, pen xs p q, .un) := by kernel_rfl
theorem u_10_1 (ns xs : List Int) (p q : Int) (t a b c d : O) : chk3 (rest (envR ns xs p q t 10 1 a b c d)) = some (.scr ns, pen xs p q, .un) := by kernel_rfl
theorem u_10_2 (ns xs : List Int) (p q : Int) (t a b c d : O) : chk3 (rest (envR ns xs p q t 10 2 a b c d)) = some (.scr ns, pen xs p q, .un) := by kernel_rfl
theorem u_10_3 (ns xs : List Int) (p q : Int) (t a b c d : O) : chk3 (rest (envR ns xs p q t 10 3 a b c d)) = some (.scr ns, pen xs p q, .un) := by kernel_rfl
theorem u_10_4 (ns xs : List Int) (p q : Int) (t a b c d : O) : chk3 (rest (envR ns xs p q t 10 4 a b c d)) = some (.scr ns, pen xs p q, .un) := by kernel_rfl
theorem u_10_5 (ns xs : List Int) (p q : Int) (t a b c d : O) : chk3 (rest (envR ns xs p q t 10 5 a b c d)) = some (.scr ns, pen xs p q, .un) := by kernel_rfl
theorem u_10_6 (ns xs : List Int) (p q : Int) (t a b c d : O) : chk3 (rest (envR ns xs p q t 10 6 a b c d)) = some (.scr ns, pen xs p q, .un) := by kernel_rfl
theorem u_10_7 (ns xs : List Int) (p q : Int) (t a b c d : O) : chk3 (rest (envR ns xs p q t 10 7 a b c d)) = some (.scr ns, pen xs p q, .un) := by kernel_rfl
theorem u_10_8 (ns xs : List Int) (p q : Int) (t a b c d : O) : chk3 (rest (envR ns xs p q t 10 8 a b c d)) = some (.scr ns, pen xs p q, .un) := by kernel_rfl
theorem u_10 (ns xs : List Int) (p q : Int) (t a b c d : O) {r : Int} (h0 : 0 ≤ r) (h1 : r < 9) : chk3 (rest (envR ns xs p q t 10 r a b c d)) = some (.scr ns, pen xs p q, .un) := by
  have : r = 0 ∨ r = 1 ∨ r = 2 ∨ r = 3 ∨ r = 4 ∨ r = 5 ∨ r = 6 ∨ r = 7 ∨ r = 8 := by omega
  rcases this with h | h | h | h | h | h | h | h | h <;> subst h
  · exact u_10_0 ns xs p q t a b c d
  · exact u_10_1 ns xs p q t a b c d
  · exact u_10_2 ns xs p q t a b c d
  · exact u_10_3 ns xs p q t a b c d
  · exact u_10_4 ns xs p q t a b c d
  · exact u_10_5 ns xs p q t a b c d
  · exact u_10_6 ns xs p q t a b c d
  · exact u_10_7 ns xs p q t a b c d
  · exact u_10_8 ns xs p q t a b c d
theorem u_11_0 (ns xs : List Int) (p q : Int) (t a b c d : O) : chk3 (rest (envR ns xs p q t 11 0 a b c d)) = some (.scr ns, pen xs p q, .un) := by kernel_rfl
theorem u_11_1 (ns xs : List Int) (p q : Int) (t a b c d : O) : chk3 (rest (envR ns xs p q t 11 1 a b c d)) = some (.scr ns, pen xs p q, .un) := by kernel_rfl
theorem u_11_2 (ns xs : List Int) (p q : Int) (t a b c d : O) : chk3 (rest (envR ns xs p q t 11 2 a b c d)) = some (.scr ns, pen xs p q, .un) := by kernel_rfl
theorem u_11_3 (ns xs : List Int) (p q : Int) (t a b c d : O) : chk3 (rest (envR ns xs p q t 11 3 a b c d)) = some (.scr ns, pen xs p q, .un) := by kernel_rfl
theorem u_11_4 (ns xs : List Int) (p q : Int) (t a b c d : O) : chk3 (rest (envR ns xs p q t 11 4 a b c d)) = some (.scr ns, pen xs p q, .un) := by kernel_rfl
theorem u_11_5 (ns xs : List Int) (p q : Int) (t a b c d : O) : chk3 (rest (envR ns xs p q t 11 5 a b c d)) = some (.scr ns, pen xs p q, .un) := by kernel_rfl
theorem u_11_6 (ns xs : List Int) (p q : Int) (t a b c d : O) : chk3 (rest (envR ns xs p q t 11 6 a b c d)) = some (.scr ns, pen xs p q, .un) := by kernel_rfl
theorem u_11_7 (ns xs : List Int) (p q : Int) (t a b c d : O) : chk3 (rest (envR ns xs p q t 11 7 a b c d)) = some (.scr ns, pen xs p q, .un) := by kernel_rfl
theorem u_11_8 (ns xs : List Int) (p q : Int) (t a b c d : O) : chk3 (rest (envR ns xs p q t 11 8 a b c d)) = some (.scr ns, pen xs p q, .un) := by kernel_rfl
theorem u_11 (ns xs : List Int) (p q : Int) (t a b c d : O) {r : Int} (h0 : 0 ≤ r) (h1 : r < 9) : chk3 (rest (envR ns xs p q t 11 r a b c d)) = some (.scr ns, pen xs p q, .un) := by
  have : r = 0 ∨ r = 1 ∨ r = 2 ∨ r = 3 ∨ r = 4 ∨ r = 5 ∨ r = 6 ∨ r = 7 ∨ r = 8 := by omega
  rcases this with h | h | h | h | h | h | h | h | h <;> subst h
  · exact u_11_0 ns xs p q t a b c d
  · exact u_11_1 ns xs p q t a b c d
  · exact u_11_2 ns xs p q t a b c d
  · exact u_11_3 ns xs p q t a b c d
  · exact u_11_4 ns xs p q t a b c d
  · exact u_11_5 ns xs p q t a b c d
  · exact u_11_6 ns xs p q t a b c d
  · exact u_11_7 ns xs p q t a b c d
  · exact u_11_8 ns xs p q t a b c d
theorem u_12_0 (ns xs : List Int) (p q : Int) (t a b c d : O) : chk3 (rest (envR ns xs p q t 12 0 a b c d)) = some (.scr ns, pen xs p q, .un) := by kernel_rfl
theorem u_12_1 (ns xs : List Int) (p q : Int) (t a b c d : O) : chk3 (rest (envR ns xs p q t 12 1 a b c d)) = some (.scr ns, pen xs p q, .un) := by kernel_rfl
theorem u_12_2 (ns xs : List Int) (p q : Int) (t a b c d : O) : chk3 (rest (envR ns xs p q t 12 2 a b c d)) = some (.scr ns, pen xs p q, .un) := by kernel_rfl
theorem u_12_3 (ns xs : List Int) (p q : Int) (t a b c d : O) : chk3 (rest (envR ns xs p q t 12 3 a b c d)) = some (.scr ns, pen xs p q, .un) := by kernel_rfl
theorem u_12_4 (ns xs : List Int) (p q : Int) (t a b c d : O) : chk3 (rest (envR ns xs p q t 12 4 a b c d)) = some (.scr ns, pen xs p q, .un) := by kernel_rfl
theorem u_12_5 (ns xs : List Int) (p q : Int) (t a b c d : O) : chk3 (rest (envR ns xs p q t 12 5 a b c d)) = some (.scr ns, pen xs p q, .un) := by kernel_rfl
theorem u_12_6 (ns xs : List Int) (p q : Int) (t a b c d : O) : chk3 (rest (envR ns xs p q t 12 6 a b c d)) = some (.scr ns, pen xs p q, .un) := by kernel_rfl
theorem u_12_7 (ns xs : List Int) (p q : Int) (t a b c d : O) : chk3 (rest (envR ns xs p q t 12 7 a b c d)) = some (.scr ns, pen xs p q, .un) := by kernel_rfl
theorem u_12_8 (ns xs : List Int) (p q : Int) (t a b c d : O) : chk3 (rest (envR ns xs p q t 12 8 a b c d)) = some (.scr ns, pen xs p q, .un) := by kernel_rfl
theorem u_12 (ns xs : List Int) (p q : Int) (t a b c d : O) {r : Int} (h0 : 0 ≤ r) (h1 : r < 9) : chk3 (rest (envR ns xs p q t 12 r a b c d)) = some (.scr ns, pen xs p q, .un) := by
  have : r = 0 ∨ r = 1 ∨ r = 2 ∨ r = 3 ∨ r = 4 ∨ r = 5 ∨ r = 6 ∨ r = 7 ∨ r = 8 := by omega
  rcases this with h | h | h | h | h | h | h | h | h <;> subst h
  · exact u_12_0 ns xs p q t a b c d
  · exact u_12_1 ns xs p q t a b c d
  · exact u_12_2 ns xs p q t a b c d
  · exact u_12_3 ns xs p q t a b c d
  · exact u_12_4 ns xs p q t a b c d
  · exact u_12_5 ns xs p q t a b c d
  · exact u_12_6 ns xs p q t a b c d
  · exact u_12_7 ns xs p q t a b c d
  · exact u_12_8 ns xs p q t a b c d
theorem u_13_0 (ns xs : List Int) (p q : Int) (t a b c d : O) : chk3 (rest (envR ns xs p q t 13 0 a b c d)) = some (.scr ns, pen xs p q, .un) := by kernel_rfl
theorem u_13_1 (ns xs : List Int) (p q : Int) (t a b c d : O) : chk3 (rest (envR ns xs p q t 13 1 a b c d)) = some (.scr ns, pen xs p q, .un) := by kernel_rfl
theorem u_13_2 (ns xs : List Int) (p q : Int) (t a b c d : O) : chk3 (rest (envR ns xs p q t 13 2 a b c d)) = some (.scr ns, pen xs p q, .un) := by kernel_rfl
theorem u_13_3 (ns xs : List Int) (p q : Int) (t a b c d : O) : chk3 (rest (envR ns xs p q t 13 3 a b c d)) = some (.scr ns, pen xs p q, .un) := by kernel_rfl
theorem u_13_4 (ns xs : List Int) (p q : Int) (t a b c d : O) : chk3 (rest (envR ns xs p q t 13 4 a b c d)) = some (.scr ns, pen xs p q, .un) := by kernel_rfl
theorem u_13_5 (ns xs : List Int) (p q : Int) (t a b c d : O) : chk3 (rest (envR ns xs p q t 13 5 a b c d)) = some (.scr ns, pen xs p q, .un) := by kernel_rfl
theorem u_13_6 (ns xs : List Int) (p q : Int) (t a b c d : O) : chk3 (rest (envR ns xs p q t 13 6 a b c d)) = some (.scr ns, pen xs p q, .un) := by kernel_rfl
theorem u_13_7 (ns xs : List Int) (p q : Int) (t a b c d : O) : chk3 (rest (envR ns xs p q t 13 7 a b c d)) = some (.scr ns, pen xs p q, .un) := by kernel_rfl
theorem u_13_8 (ns xs : List Int) (p q : Int) (t a b c d : O) : chk3 (rest (envR ns xs p q t 13 8 a b c d)) = some (.scr ns, pen xs p q, .un) := by kernel_rfl
theorem u_13 (ns xs : List Int) (p q : Int) (t a b c d : O) {r : Int} (h0 : 0 ≤ r) (h1 : r < 9) : chk3 (rest (envR ns xs p q t 13 r a b c d)) = some (.scr ns, pen xs p q, .un) := by
  have : r = 0 ∨ r = 1 ∨ r = 2 ∨ r = 3 ∨ r = 4 ∨ r = 5 ∨ r = 6 ∨ r = 7 ∨ r = 8 := by omega
  rcases this with h | h | h | h | h | h | h | h | h <;> subst h
  · exact u_13_0 ns xs p q t a b c d
  · exact u_13_1 ns xs p q t a b c d
  · exact u_13_2 ns xs p q t a b c d
  · exact u_13_3 ns xs p q t a b c d
  · exact u_13_4 ns xs p q t a b c d
  · exact u_13_5 ns xs p q t a b c d
  · exact u_13_6 ns xs p q t a b c d
  · exact u_13_7 ns xs p q t a b c d
  · exact u_13_8 ns xs p q t a b c d
theorem u_14_0 (ns xs : List Int) (p q : Int) (t a b c d : O) : chk3 (rest (envR ns xs p q t 14 0 a b c d)) = some (.scr ns, pen xs p q, .un) := by kernel_rfl
theorem u_14_1 (ns xs : List Int) (p q : Int) (t a b c d : O) : chk3 (rest (envR ns xs p q t 14 1 a b c d)) = some (.scr ns, pen xs p q, .un) := by kernel_rfl
theorem u_14_2 (ns xs : List Int) (p q : Int) (t a b c d : O) : chk3 (rest (envR ns xs p q t 14 2 a b c d)) = some (.scr ns, pen xs p q, .un) := by kernel_rfl
theorem u_14_3 (ns xs : List Int) (p q : Int) (t a b c d : O) : chk3 (rest (envR ns xs p q t 14 3 a b c d)) = some (.scr ns, pen xs p q, .un) := by kernel_rfl
theorem u_14_4 (ns xs : List Int) (p q : Int) (t a b c d : O) : chk3 (rest (envR ns xs p q t 14 4 a b c d)) = some (.scr ns, pen xs p q, .un) := by kernel_rfl
theorem u_14_5 (ns xs : List Int) (p q : Int) (t a b c d : O) : chk3 (rest (envR ns xs p q t 14 5 a b c d)) = some (.scr ns, pen xs p q, .un) := by kernel_rfl
theorem u_14_6 (ns xs : List Int) (p q : Int) (t a b c d : O) : chk3 (rest (envR ns xs p q t 14 6 a b c d)) = some (.scr ns, pen xs p q, .un) := by kernel_rfl
theorem u_14_7 (ns xs : List Int) (p q : Int) (t a b c d : O) : chk3 (rest (envR ns xs p q t 14 7 a b c d)) = some (.scr ns, pen xs p q, .un) := by kernel_rfl
theorem u_14_8 (ns xs : List Int) (p q : Int) (t a b c d : O) : chk3 (rest (envR ns xs p q t 14 8 a b c d)) = some (.scr ns, pen xs p q, .un) := by kernel_rfl
theorem u_14 (ns xs : List Int) (p q : Int) (t a b c d : O) {r : Int} (h0 : 0 ≤ r) (h1 : r < 9) : chk3 (rest (envR ns xs p q t 14 r a b c d)) = some (.scr ns, pen xs p q, .un) := by
  have : r = 0 ∨ r = 1 ∨ r = 2 ∨ r = 3 ∨ r = 4 ∨ r = 5 ∨ r = 6 ∨ r = 7 ∨ r = 8 := by omega
  rcases this with h | h | h | h | h | h | h | h | h <;> subst h
  · exact u_14_0 ns xs p q t a b c d
  · exact u_14_1 ns xs p q t a b c d
  · exact u_14_2 ns xs p q t a b c d
  · exact u_14_3 ns xs p q t a b c d
  · exact u_14_4 ns xs p q t a b c d
  · exact u_14_5 ns xs p q t a b c d
  · exact u_14_6 ns xs p q t a b c d
  · exact u_14_7 ns xs p q t a b c d
  · exact u_14_8 ns xs p q t a b c d
theorem u_15_0 (ns xs : List Int) (p q : Int) (t a b c d : O) : chk3 (rest (envR ns xs p q t 15 0 a b c d)) = some (.scr ns, pen xs p q, .un) := by kernel_rfl
theorem u_15_1 (ns xs : List Int) (p q : Int) (t a b c d : O) : chk3 (rest (envR ns xs p q t 15 1 a b c d)) = some (.scr ns, pen xs p q, .un) := by kernel_rfl
theorem u_15_2 (ns xs : List Int) (p q : Int) (t a b c d : O) : chk3 (rest (envR ns xs p q t 15 2 a b c d)) = some (.scr ns, pen xs p q, .un) := by kernel_rfl
theorem u_15_3 (ns xs : List Int) (p q : Int) (t a b c d : O) : chk3 (rest (envR ns xs p q t 15 3 a b c d)) = some (.scr ns, pen xs p q, .un) := by kernel_rfl
theorem u_15_4 (ns xs : List Int) (p q : Int) (t a b c d : O) : chk3 (rest (envR ns xs p q t 15 4 a b c d)) = some (.scr ns, pen xs p q, .un) := by kernel_rfl
theorem u_15_5 (ns xs : List Int) (p q : Int) (t a b c d : O) : chk3 (rest (envR ns xs p q t 15 5 a b c d)) = some (.scr ns, pen xs p q, .un) := by kernel_rfl
theorem u_15_6 (ns xs : List Int) (p q : Int) (t a b c d : O) : chk3 (rest (envR ns xs p q t 15 6 a b c d)) = some (.scr ns, pen xs p q, .un) := by kernel_rfl
theorem u_15_7 (ns xs : List Int) (p q : Int) (t a b c d : O) : chk3 (rest (envR ns xs p q t 15 7 a b c d)) = some (.scr ns, pen xs p q, .un) := by kernel_rfl
theorem u_15_8 (ns xs : List Int) (p q : Int) (t a b c d : O) : chk3 (rest (envR ns xs p q t 15 8 a b c d)) = some (.scr ns, pen xs p q, .un) := by kernel_rfl
theorem u_15 (ns xs : List Int) (p q : Int) (t a b c d : O) {r : Int} (h0 : 0 ≤ r) (h1 : r < 9) : chk3 (rest (envR ns xs p q t 15 r a b c d)) = some (.scr ns, pen xs p q, .un) := by
  have : r = 0 ∨ r = 1 ∨ r = 2 ∨ r = 3 ∨ r = 4 ∨ r = 5 ∨ r = 6 ∨ r = 7 ∨ r = 8 := by omega
  rcases this with h | h | h | h | h | h | h | h | h <;> subst h
  · exact u_15_0 ns xs p q t a b c d
  · exact u_15_1 ns xs p q t a b c d
  · exact u_15_2 ns xs p q t a b c d
  · exact u_15_3 ns xs p q t a b c d
  · exact u_15_4 ns xs p q t a b c d
  · exact u_15_5 ns xs p q t a b c d
  · exact u_15_6 ns xs p q t a b c d
  · exact u_15_7 ns xs p q t a b c d
  · exact u_15_8 ns xs p q t a b c d
theorem uR (ns xs : List Int) (p q : Int) (t a b c d : O) {w r : Int} (h2 : 0 ≤ w) (h3 : w < 16) (h0 : 0 ≤ r) (h1 : r < 9) : chk3 (rest (envR ns xs p q t w r a b c d)) = some (.scr ns, pen xs p q, .un) := by
  have : w = 0 ∨ w = 1 ∨ w = 2 ∨ w = 3 ∨ w = 4 ∨ w = 5 ∨ w = 6 ∨ w = 7 ∨ w = 8 ∨ w = 9 ∨ w = 10 ∨ w = 11 ∨ w = 12 ∨ w = 13 ∨ w = 14 ∨ w = 15 := by omega
  rcases this with h | h | h | h | h | h | h | h | h | h | h | h | h | h | h | h <;> subst h
  · exact u_0 ns xs p q t a b c d h0 h1
  · exact u_1 ns xs p q t a b c d h0 h1
  · exact u_2 ns xs p q t a b c d h0 h1
  · exact u_3 ns xs p q t a b c d h0 h1
  · exact u_4 ns xs p q t a b c d h0 h1
  · exact u_5 ns xs p q t a b c d h0 h1
  · exact u_6 ns xs p q t a b c d h0 h1
  · exact u_7 ns xs p q t a b c d h0 h1
  · exact u_8 ns xs p q t a b c d h0 h1
  · exact u_9 ns xs p q t a b c d h0 h1
  · exact u_10 ns xs p q t a b c d h0 h1
  · exact u_11 ns xs p q t a b c d h0 h1
  · exact u_12 ns xs p q t a b c d h0 h1
  · exact u_13 ns xs p q t a b c d h0 h1
  · exact u_14 ns xs p q t a b c d h0 h1
  · exact u_15 ns xs p q t a b c d h0 h1
theorem lst_ok {f : M (List O)} {os : List O} {ρ ρ1 : EV.Env} (h1 : f ρ = .ok os ρ1) (hl : os.length ≤ 1000000) : E.lst f ρ = .ok (.lst os) ρ1 := by
  unfold E.lst M.bind
  rw [h1]
  simp only
  rw [if_pos hl]
  rfl
def kindV : EV.Env → Option O := (Vw.tup (Vw.cons (Vw.c (.int 1)) (Vw.cons (Vw.c (.int 9)) (Vw.cons (Vw.c (.int 3)) (Vw.cons (Vw.c (.int 2)) (Vw.cons (Vw.c (.int 60)) (Vw.cons (Vw.c (.int 1)) (Vw.cons (Vw.c (.int 9)) (Vw.cons (Vw.c (.int 1)) Vw.nil)))))))))
theorem st2_ok {ns xs : List Int} {p q p' q' r : Int} {t w m a1 a2 a3 a4 a b c d : O} (e : f_law_take [pen xs p q, .d (.int 9)] = .ok (.d (.int r)) [pen xs p' q']) :
    st2 [.scr ns, pen xs p q, t, w, m, a1, a2, a3, a4, a, b, c, d, .un] = .ok .nx [.scr ns, pen xs p' q', t, w, m, .d kind, .lst [.d (.int 0), .d (.int 1), .d (.int 2)], .lst [.d (.int 0), .d (.int r), .d (.int 30)], .lst [.d (.tuple [.int 1, .int 2])], a, b, c, d, .un] := by
  have c1 : E.callIO 2 f_law_take 1 (A.cons (E.view (Vw.c (.int 9))) A.nil) [.scr ns, pen xs p q, t, w, m, a1, a2, a3, a4, a, b, c, d, .un] = .ok (.d (.int r)) [.scr ns, pen xs p' q', t, w, m, a1, a2, a3, a4, a, b, c, d, .un] :=
    callIO_ok (o0 := pen xs p q) rfl (fun z => by cases z) rfl rfl rfl rfl e
  have l1 : E.lst (A.cons (E.view (Vw.c (.int 0))) (A.cons (E.callIO 2 f_law_take 1 (A.cons (E.view (Vw.c (.int 9))) A.nil)) (A.cons (E.view (Vw.c (.int 30))) A.nil))) [.scr ns, pen xs p q, t, w, m, a1, a2, a3, a4, a, b, c, d, .un] = .ok (.lst [.d (.int 0), .d (.int r), .d (.int 30)]) [.scr ns, pen xs p' q', t, w, m, a1, a2, a3, a4, a, b, c, d, .un] :=
    lst_ok (acons_ok rfl (acons_ok c1 (acons_ok rfl rfl))) (by show 3 ≤ 1000000; decide)
  have k1 : E.view kindV [.scr ns, pen xs p q, t, w, m, a1, a2, a3, a4, a, b, c, d, .un] = .ok (.d kind) [.scr ns, pen xs p q, t, w, m, a1, a2, a3, a4, a, b, c, d, .un] := rfl
  have al : A.cons (E.view kindV) (A.cons (E.lst (A.cons (E.view (Vw.c (.int 0))) (A.cons (E.view (Vw.c (.int 1))) (A.cons (E.view (Vw.c (.int 2))) A.nil)))) (A.cons (E.lst (A.cons (E.view (Vw.c (.int 0))) (A.cons (E.callIO 2 f_law_take 1 (A.cons (E.view (Vw.c (.int 9))) A.nil)) (A.cons (E.view (Vw.c (.int 30))) A.nil)))) (A.cons (E.lst (A.cons (E.view (Vw.tup (Vw.cons (Vw.c (.int 1)) (Vw.cons (Vw.c (.int 2)) Vw.nil)))) A.nil)) A.nil))) [.scr ns, pen xs p q, t, w, m, a1, a2, a3, a4, a, b, c, d, .un] = .ok [.d kind, .lst [.d (.int 0), .d (.int 1), .d (.int 2)], .lst [.d (.int 0), .d (.int r), .d (.int 30)], .lst [.d (.tuple [.int 1, .int 2])]] [.scr ns, pen xs p' q', t, w, m, a1, a2, a3, a4, a, b, c, d, .un] :=
    acons_ok k1 (acons_ok rfl (acons_ok l1 (acons_ok rfl rfl)))
  show S.asg (E.tup (A.cons (E.view kindV) _)) _ _ = _
  unfold S.asg E.tup M.bind
  rw [al]
  rfl
theorem turn65_ok {ns xs : List Int} {p q : Int} {t a0 a1 a2 a3 a4 a5 a b c d : O} (hp : 0 ≤ p) (hp2 : p ≤ 1000) : ∃ (p' q' : Int) (c0 c1 c2 c3 c4 c5 c6 c7 c8 c9 c10 : O),
    body [.scr ns, pen xs p q, t, a0, a1, a2, a3, a4, a5, a, b, c, d, .un] = .ok .nx [.scr ns, pen xs p' q', c0, c1, c2, c3, c4, c5, c6, c7, c8, c9, c10, .un] ∧ 0 ≤ p' ∧ p' ≤ p + 2 := by
  obtain ⟨w, p1, q1, e1, w0, w1, b1, b2⟩ := take_ok spread2_ok (xs := xs) (p := p) (q := q) (many := 16) (by decide) (by decide) hp (by omega)
  obtain ⟨r, p2, q2, e2, r0, r1, d1, d2⟩ := take_ok spread2_ok (xs := xs) (p := p1) (q := q1) (many := 9) (by decide) (by decide) b1 (by omega)
  rw [← e_take] at e1 e2
  obtain ⟨c0, c1, c2, c3, c4, c5, c6, c7, c8, c9, c10, hc⟩ := chk3_ok (uR ns xs p2 q2 t a b c d w0 w1 r0 r1)
  refine ⟨p2, q2, c0, c1, c2, c3, c4, c5, c6, c7, c8, c9, c10, ?_, d1, by omega⟩
  unfold body
  refine (seq_ok (ρ' := [.scr ns, pen xs p1 q1, t, .d (.int (1 + w)), a1, a2, a3, a4, a5, a, b, c, d, .un]) ?_).trans ?_
  · exact asg_take (i := 1) (j := 3) rfl (fun z => by cases z) e1
  refine (seq_ok (ρ' := [.scr ns, pen xs p1 q1, t, .d (.int (1 + w)), .d (made (1 + w)), a2, a3, a4, a5, a, b, c, d, .un]) ?_).trans ?_
  · exact asg_v (x := made (1 + w)) rfl
  exact (seq_ok (st2_ok e2)).trans hc
theorem law_true : ∀ ns : List Int, ns.length ≤ 63 → law [.scr ns] = .ok (.d (.bool true)) [] := by
  intro ns _
  obtain ⟨xs, ho⟩ := open_ok ns
  rw [← e_open] at ho
  obtain ⟨p, q, hs, p0, p1⟩ := six_ok xs
  obtain ⟨p', q', c0, c1, c2, c3, c4, c5, c6, c7, c8, c9, c10, hb, g0, g1⟩ := turn65_ok (ns := ns) (xs := xs) (p := p) (q := q) (t := .d (.int 0)) (a0 := .un) (a1 := .un) (a2 := .un) (a3 := .un) (a4 := .un) (a5 := .un) (a := .un) (b := .un) (c := .un) (d := .un) p0 (by omega)
  obtain ⟨p'', q'', d0, d1, d2, d3, d4, d5, d6, d7, d8, d9, d10, hd, g2, g3⟩ := turn65_ok (ns := ns) (xs := xs) (p := p') (q := q') (t := .d (.int 1)) (a0 := c1) (a1 := c2) (a2 := c3) (a3 := c4) (a4 := c5) (a5 := c6) (a := c7) (b := c8) (c := c9) (d := c10) g0 (by omega)
  have six : E.callIO 1 f_law_w_six_right 1 A.nil [.scr ns, pen xs 0 0, .un, .un, .un, .un, .un, .un, .un, .un, .un, .un, .un, .un] = .ok (.d (.bool true)) [.scr ns, pen xs p q, .un, .un, .un, .un, .un, .un, .un, .un, .un, .un, .un, .un] :=
    callIO_ok (o0 := pen xs 0 0) rfl (fun z => by cases z) rfl rfl rfl rfl hs
  have ties : E.callP 0 f_law_w_ties_right (Vw.perm [] Vw.nil) [.scr ns, pen xs p q, .un, .un, .un, .un, .un, .un, .un, .un, .un, .un, .un, .un] = .ok (.d (.bool true)) [.scr ns, pen xs p q, .un, .un, .un, .un, .un, .un, .un, .un, .un, .un, .un, .un] := callP0_ok ties_ok
  have tst : (T.or (T.not (T.val (E.callIO 1 f_law_w_six_right 1 A.nil))) (T.not (T.val (E.callP 0 f_law_w_ties_right (Vw.perm [] Vw.nil))))) [.scr ns, pen xs 0 0, .un, .un, .un, .un, .un, .un, .un, .un, .un, .un, .un, .un] = .ok false [.scr ns, pen xs p q, .un, .un, .un, .un, .un, .un, .un, .un, .un, .un, .un, .un] := by
    have t1 : T.not (T.val (E.callIO 1 f_law_w_six_right 1 A.nil)) [.scr ns, pen xs 0 0, .un, .un, .un, .un, .un, .un, .un, .un, .un, .un, .un, .un] = .ok false [.scr ns, pen xs p q, .un, .un, .un, .un, .un, .un, .un, .un, .un, .un, .un, .un] := by
      unfold T.not T.val M.bind
      rw [six]
      rfl
    have t2 : T.not (T.val (E.callP 0 f_law_w_ties_right (Vw.perm [] Vw.nil))) [.scr ns, pen xs p q, .un, .un, .un, .un, .un, .un, .un, .un, .un, .un, .un, .un] = .ok false [.scr ns, pen xs p q, .un, .un, .un, .un, .un, .un, .un, .un, .un, .un, .un, .un] := by
      unfold T.not T.val M.bind
      rw [ties]
      rfl
    unfold T.or M.bind
    rw [t1]
    exact t2
  have fin : b_law [.scr ns, .un, .un, .un, .un, .un, .un, .un, .un, .un, .un, .un, .un, .un] = .ok (.ret (.d (.bool true))) [.scr ns, pen xs p'' q'', d0, d1, d2, d3, d4, d5, d6, d7, d8, d9, d10, .un] := by
    unfold b_law
    refine (seq_ok (ρ' := [.scr ns, pen xs 0 0, .un, .un, .un, .un, .un, .un, .un, .un, .un, .un, .un, .un]) ?_).trans ?_
    · unfold S.asg M.bind
      rw [call_open ho]
      rfl
    refine (seq_ok (ρ' := [.scr ns, pen xs p q, .un, .un, .un, .un, .un, .un, .un, .un, .un, .un, .un, .un]) ?_).trans ?_
    · rw [if_ok tst]
      rfl
    refine (seq_ok (ρ' := [.scr ns, pen xs p'' q'', d0, d1, d2, d3, d4, d5, d6, d7, d8, d9, d10, .un]) ?_).trans ?_
    · refine for_ok (ds := [.int 0, .int 1]) (ρ1 := [.scr ns, pen xs p q, .un, .un, .un, .un, .un, .un, .un, .un, .un, .un, .un, .un]) rfl ?_
      show loopF (G.nm 2) body [.int 0, .int 1] _ = _
      unfold loopF
      have g1 : G.nm 2 (.d (.int 0)) [.scr ns, pen xs p q, .un, .un, .un, .un, .un, .un, .un, .un, .un, .un, .un, .un] = .ok () [.scr ns, pen xs p q, .d (.int 0), .un, .un, .un, .un, .un, .un, .un, .un, .un, .un, .un] := rfl
      simp only [g1, hb]
      unfold loopF
      have g2 : G.nm 2 (.d (.int 1)) [.scr ns, pen xs p' q', c0, c1, c2, c3, c4, c5, c6, c7, c8, c9, c10, .un] = .ok () [.scr ns, pen xs p' q', .d (.int 1), c1, c2, c3, c4, c5, c6, c7, c8, c9, c10, .un] := rfl
      simp only [g2, hd]
      rfl
    rfl
  show (match b_law [.scr ns, .un, .un, .un, .un, .un, .un, .un, .un, .un, .un, .un, .un, .un] with
    | .ok (.ret r) ρ => FRes.ok r (([] : List Nat).map fun i => ρ.getD i .un)
    | .ok .nx ρ => .ok (.d .none) (([] : List Nat).map fun i => ρ.getD i .un)
    | .exc c ρ => .exc c (([] : List Nat).map fun i => ρ.getD i .un)
    | _ => .stuck) = _
  rw [fin]
  rfl
end k65
open PySem PySem.W PySem.Calls PyProof.Rows
theorem PySem.Challenge.cw_reachrows_k65_islands_and_orders_by_name_holds : PySem.Challenge.rw_reachrows_k65_islands_and_orders_by_name.Holds := by
  w_on; o_law
  refine HandSHeadRun.head_any (r := OpenLaw.row PySem.Challenge.rw_reachrows_k65_islands_and_orders_by_name) (q := view (OpenLaw.row PySem.Challenge.rw_reachrows_k65_islands_and_orders_by_name).prog [79]) (H := k65.hk) (ob := k65.ob) (M := 20000) (loose := k65.names) (d := HandSHeadRun.topDef (OpenLaw.row PySem.Challenge.rw_reachrows_k65_islands_and_orders_by_name).prog 79) (kwd := []) k65.ob_eq
    (by kernel_rfl) (fun s => by kernel_rfl) k65.run (by kernel_rfl) (by kernel_rfl) (by kernel_rfl) (by rfl) (by first | assumption | decide +kernel) (by decide +kernel) ⟨rfl, rfl, rfl, rfl, rfl, by decide +kernel⟩ ?hw ?hc
  case hw => w_witness2
  case hc =>
    refine EV.walk_G (l := PySem.Challenge.rw_reachrows_k65_islands_and_orders_by_name) (m := k65.law) (n := 63) (k := 10) (x := "script") rfl (by decide) (by kernel_rfl) ⟨rfl, by decide, by decide⟩ ?F ?hm
    case F =>
      intro w K mg base Y _ _
      have e : (HandSHeadRun.topDef (OpenLaw.row PySem.Challenge.rw_reachrows_k65_islands_and_orders_by_name).prog 79).name = ("law" : PySem.Str) := by kernel_rfl
      rw [e]
      exact k65.fn_law Y
    case hm => exact k65.law_true

