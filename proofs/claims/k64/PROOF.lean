import PyProof.Rows.All
import Wide.All
import OpenK.AllK
import Wide.FinOn
import KE.KStateDown
import Lean
import HandS.ForMost
import HandS.ForExc
import HandS.Lambda
import HandS.IsInst
import HandS.Deep
import HandS.Wide
import PyProof.ReprReads
import HandS.TupAny
import HandS.SortInts
import HandS.Nested
import HandS.ExcInit
import HandS.ExcSuper
import KE.KExcSuper
import HandS.RaiseMore
import HandS.ExcField
import KE.KExcIs
import HandS.EndTab
import HandS.Style
import HandS.WideBits
import HandS.Words
import HandS.WordsExc
import HandS.Defaults
import HandS.Head0
import HandS.Head1
import HandS.Head2
import HandS.HeadEnd
import HandS.HeadHook1
import HandS.HeadHook2
import HandS.HeadHook3
import HandS.HeadHook4
import HandS.HeadWalk
import HandS.HeadNt
import PyProof.ReprLen
import PyProof.EqLayable
import KE.DataEq
import PySem.Challenge.RW_linepictures_k64_whole_gaps_of_pictures
set_option Elab.async false
set_option linter.all false
set_option maxRecDepth 100000
set_option maxHeartbeats 0
namespace DL
open PySem PySem.Spec PyProof.Rows L2

abbrev D := PyData

inductive Res (α : Type) where
  | ok (a : α)
  | exc (c : Str) (v : D)
  | bad
namespace Res
def bnd {α β : Type} : Res α → (α → Res β) → Res β
  | ok a, f => f a
  | exc c v, _ => exc c v
  | bad, _ => bad
instance : Monad Res := { pure := ok, bind := bnd }
@[simp] theorem ok_bnd {α β : Type} (a : α) (f : α → Res β) : (Res.ok a >>= f) = f a := (rfl)
@[simp] theorem exc_bnd {α β : Type} (c : Str) (v : D) (f : α → Res β) : ((Res.exc c v : Res α) >>= f) = Res.exc c v := (rfl)
@[simp] theorem bad_bnd {α β : Type} (f : α → Res β) : ((Res.bad : Res α) >>= f) = Res.bad := (rfl)
@[simp] theorem pure_ok {α : Type} (a : α) : (pure a : Res α) = Res.ok a := (rfl)
/-- nothing may be raised here -/
def nox {α : Type} : Res α → Res α
  | exc _ _ => bad
  | r => r
@[simp] theorem nox_ok {α : Type} (a : α) : (Res.ok a).nox = Res.ok a := (rfl)
@[simp] theorem nox_bad {α : Type} : (Res.bad : Res α).nox = Res.bad := (rfl)
@[simp] theorem nox_exc {α : Type} (c : Str) (v : D) : (Res.exc c v : Res α).nox = Res.bad := (rfl)
end Res

def kD : Key → D
  | .inl i => .int i
  | .inr x => .str x
mutual
def flat : D → Bool
  | .list _ => false
  | .dict _ => false
  | .tuple ds => flatAll ds
  | .none => true
  | .bool _ => true
  | .int _ => true
  | .str _ => true
def flatAll : List D → Bool
  | [] => true
  | d :: r => flat d && flatAll r
end

/-- a tuple of the written part -/
def KT (K : PySem.W.Frag) (a : Addr) (xs : List V) : Prop :=
  ∃ (o : Obj) (its : Array Value) (n : Nat), K.lookup a = some o ∧ o.cls = .type "tuple" ∧ o.data = .seq its n ∧ its.size ≤ sizeLine ∧ Vals xs its.toList
/-- keys of a dict: an int, a text; a tuple of such -/
def kTup (k : List Key) : D := .tuple (k.map kD)

/-- no table of code objects -/
def NT (o : HO) : Prop := ∀ ps, o ≠ .tbl ps

section
variable (K : PySem.W.Frag) (I : Addr → Prop) (H : Hp)
mutual
inductive Rp : V → D → Prop
  | non : Rp .non .none
  | bl (b : Bool) : Rp (.bl b) (.bool b)
  | int (i : Int) : Rp (.int i) (.int i)
  | str (x : Str) : Rp (.str x) (.str x)
  | lst {a : Addr} {xs : List V} {ds : List D} : I a → H a = some (.lst xs) → xs.length ≤ sizeLine → RpA xs ds → Rp (.ref a) (.list ds)
  | tup {a : Addr} {xs : List V} {ds : List D} : ((I a ∧ H a = some (.tup xs)) ∨ KT K a xs) → xs.length ≤ sizeLine → RpA xs ds → Rp (.ref a) (.tuple ds)
  | dK {a : Addr} {kvs : List (Key × V)} {ps : List (D × D)} : I a → H a = some (.dK kvs) → RpK kvs ps → Rp (.ref a) (.dict ps)
  | dT {a : Addr} {kvs : List (List Key × V)} {ps : List (D × D)} : I a → H a = some (.dT kvs) → RpT kvs ps → Rp (.ref a) (.dict ps)
inductive RpA : List V → List D → Prop
  | nil : RpA [] []
  | cons {v : V} {vs : List V} {d : D} {ds : List D} : Rp v d → RpA vs ds → RpA (v :: vs) (d :: ds)
inductive RpK : List (Key × V) → List (D × D) → Prop
  | nil : RpK [] []
  | cons {k : Key} {v : V} {r : List (Key × V)} {d : D} {ps : List (D × D)} : Rp v d → RpK r ps → RpK ((k, v) :: r) ((kD k, d) :: ps)
inductive RpT : List (List Key × V) → List (D × D) → Prop
  | nil : RpT [] []
  | cons {k : List Key} {v : V} {r : List (List Key × V)} {d : D} {ps : List (D × D)} : Rp v d → RpT r ps → RpT ((k, v) :: r) ((kTup k, d) :: ps)
end

mutual
inductive Ow : Nat → List Addr → V → D → Prop
  | sh {v : V} {d : D} : Rp K I H v d → Ow 0 [] v d
  | fl {n : Nat} {v : V} {d : D} : Rp K I H v d → flat d = true → Ow (n + 1) [] v d
  | lst {n : Nat} {S : List Addr} {a : Addr} {xs : List V} {ds : List D} : H a = some (.lst xs) → xs.length ≤ sizeLine → OwA n S xs ds → Ow (n + 1) (a :: S) (.ref a) (.list ds)
  | tup {n : Nat} {S : List Addr} {a : Addr} {xs : List V} {ds : List D} : I a → H a = some (.tup xs) → xs.length ≤ sizeLine → OwA (n + 1) S xs ds → Ow (n + 1) S (.ref a) (.tuple ds)
  | dK {n : Nat} {S : List Addr} {a : Addr} {kvs : List (Key × V)} {ps : List (D × D)} : H a = some (.dK kvs) → OwK n S kvs ps → Ow (n + 1) (a :: S) (.ref a) (.dict ps)
  | dT {n : Nat} {S : List Addr} {a : Addr} {kvs : List (List Key × V)} {ps : List (D × D)} : H a = some (.dT kvs) → OwT n S kvs ps → Ow (n + 1) (a :: S) (.ref a) (.dict ps)
inductive OwA : Nat → List Addr → List V → List D → Prop
  | nil {n : Nat} : OwA n [] [] []
  | cons {n : Nat} {S T : List Addr} {v : V} {vs : List V} {d : D} {ds : List D} : Ow n S v d → OwA n T vs ds → OwA n (S ++ T) (v :: vs) (d :: ds)
inductive OwK : Nat → List Addr → List (Key × V) → List (D × D) → Prop
  | nil {n : Nat} : OwK n [] [] []
  | cons {n : Nat} {S T : List Addr} {k : Key} {v : V} {r : List (Key × V)} {d : D} {ps : List (D × D)} : Ow n S v d → OwK n T r ps → OwK n (S ++ T) ((k, v) :: r) ((kD k, d) :: ps)
inductive OwT : Nat → List Addr → List (List Key × V) → List (D × D) → Prop
  | nil {n : Nat} : OwT n [] [] []
  | cons {n : Nat} {S T : List Addr} {k : List Key} {v : V} {r : List (List Key × V)} {d : D} {ps : List (D × D)} : Ow n S v d → OwT n T r ps → OwT n (S ++ T) ((k, v) :: r) ((kTup k, d) :: ps)
end
end

section
variable {K : PySem.W.Frag} {I I' : Addr → Prop} {H H' : Hp}

mutual
theorem Rp.mono (hI : ∀ a, I a → I' a) (hH : ∀ a o, I a → H a = some o → NT o → H' a = some o) {v : V} {d : D} : Rp K I H v d → Rp K I' H' v d
  | .non => .non
  | .bl b => .bl b
  | .int i => .int i
  | .str x => .str x
  | .lst i h z r => .lst (hI _ i) (hH _ _ i h fun _ z => nomatch z) z (RpA.mono hI hH r)
  | .tup h z r => .tup (h.imp (fun ⟨i, q⟩ => ⟨hI _ i, hH _ _ i q fun _ z => nomatch z⟩) id) z (RpA.mono hI hH r)
  | .dK i h r => .dK (hI _ i) (hH _ _ i h fun _ z => nomatch z) (RpK.mono hI hH r)
  | .dT i h r => .dT (hI _ i) (hH _ _ i h fun _ z => nomatch z) (RpT.mono hI hH r)
theorem RpA.mono (hI : ∀ a, I a → I' a) (hH : ∀ a o, I a → H a = some o → NT o → H' a = some o) {vs : List V} {ds : List D} : RpA K I H vs ds → RpA K I' H' vs ds
  | .nil => .nil
  | .cons h r => .cons (Rp.mono hI hH h) (RpA.mono hI hH r)
theorem RpK.mono (hI : ∀ a, I a → I' a) (hH : ∀ a o, I a → H a = some o → NT o → H' a = some o) {vs : List (Key × V)} {ds : List (D × D)} : RpK K I H vs ds → RpK K I' H' vs ds
  | .nil => .nil
  | .cons h r => .cons (Rp.mono hI hH h) (RpK.mono hI hH r)
theorem RpT.mono (hI : ∀ a, I a → I' a) (hH : ∀ a o, I a → H a = some o → NT o → H' a = some o) {vs : List (List Key × V)} {ds : List (D × D)} : RpT K I H vs ds → RpT K I' H' vs ds
  | .nil => .nil
  | .cons h r => .cons (Rp.mono hI hH h) (RpT.mono hI hH r)
end
mutual
theorem Ow.mono (hI : ∀ a, I a → I' a) (hH : ∀ a o, I a → H a = some o → NT o → H' a = some o) {n : Nat} {S : List Addr} {v : V} {d : D} : Ow K I H n S v d → (∀ a ∈ S, ∀ o, H a = some o → NT o → H' a = some o) → Ow K I' H' n S v d
  | .sh h, _ => .sh (h.mono hI hH)
  | .fl h f, _ => .fl (h.mono hI hH) f
  | .lst h z r, q => .lst (q _ List.mem_cons_self _ h fun _ z => nomatch z) z (OwA.mono hI hH r fun a m => q a (List.mem_cons_of_mem _ m))
  | .tup i h z r, q => .tup (hI _ i) (hH _ _ i h fun _ z => nomatch z) z (OwA.mono hI hH r q)
  | .dK h r, q => .dK (q _ List.mem_cons_self _ h fun _ z => nomatch z) (OwK.mono hI hH r fun a m => q a (List.mem_cons_of_mem _ m))
  | .dT h r, q => .dT (q _ List.mem_cons_self _ h fun _ z => nomatch z) (OwT.mono hI hH r fun a m => q a (List.mem_cons_of_mem _ m))
theorem OwA.mono (hI : ∀ a, I a → I' a) (hH : ∀ a o, I a → H a = some o → NT o → H' a = some o) {n : Nat} {S : List Addr} {vs : List V} {ds : List D} : OwA K I H n S vs ds → (∀ a ∈ S, ∀ o, H a = some o → NT o → H' a = some o) → OwA K I' H' n S vs ds
  | .nil, _ => .nil
  | .cons h r, q => .cons (Ow.mono hI hH h fun a m => q a (List.mem_append_left _ m)) (OwA.mono hI hH r fun a m => q a (List.mem_append_right _ m))
theorem OwK.mono (hI : ∀ a, I a → I' a) (hH : ∀ a o, I a → H a = some o → NT o → H' a = some o) {n : Nat} {S : List Addr} {vs : List (Key × V)} {ds : List (D × D)} : OwK K I H n S vs ds → (∀ a ∈ S, ∀ o, H a = some o → NT o → H' a = some o) → OwK K I' H' n S vs ds
  | .nil, _ => .nil
  | .cons h r, q => .cons (Ow.mono hI hH h fun a m => q a (List.mem_append_left _ m)) (OwK.mono hI hH r fun a m => q a (List.mem_append_right _ m))
theorem OwT.mono (hI : ∀ a, I a → I' a) (hH : ∀ a o, I a → H a = some o → NT o → H' a = some o) {n : Nat} {S : List Addr} {vs : List (List Key × V)} {ds : List (D × D)} : OwT K I H n S vs ds → (∀ a ∈ S, ∀ o, H a = some o → NT o → H' a = some o) → OwT K I' H' n S vs ds
  | .nil, _ => .nil
  | .cons h r, q => .cons (Ow.mono hI hH h fun a m => q a (List.mem_append_left _ m)) (OwT.mono hI hH r fun a m => q a (List.mem_append_right _ m))
end
def Nod (H : Hp) (a : Addr) : Prop := (∃ xs, H a = some (.lst xs)) ∨ (∃ kvs, H a = some (.dK kvs)) ∨ ∃ kvs, H a = some (.dT kvs)
mutual
theorem Ow.nod {n : Nat} {S : List Addr} {v : V} {d : D} : Ow K I H n S v d → ∀ a ∈ S, Nod H a
  | .sh _, _, m => nomatch m
  | .fl _ _, _, m => nomatch m
  | .lst h _ r, a, m => by
    rcases List.mem_cons.mp m with rfl | m
    · exact .inl ⟨_, h⟩
    · exact OwA.nod r a m
  | .tup _ _ _ r, a, m => OwA.nod r a m
  | .dK h r, a, m => by
    rcases List.mem_cons.mp m with rfl | m
    · exact .inr (.inl ⟨_, h⟩)
    · exact OwK.nod r a m
  | .dT h r, a, m => by
    rcases List.mem_cons.mp m with rfl | m
    · exact .inr (.inr ⟨_, h⟩)
    · exact OwT.nod r a m
theorem OwA.nod {n : Nat} {S : List Addr} {vs : List V} {ds : List D} : OwA K I H n S vs ds → ∀ a ∈ S, Nod H a
  | .nil, _, m => nomatch m
  | .cons h r, a, m => (List.mem_append.mp m).elim (Ow.nod h a) (OwA.nod r a)
theorem OwK.nod {n : Nat} {S : List Addr} {vs : List (Key × V)} {ds : List (D × D)} : OwK K I H n S vs ds → ∀ a ∈ S, Nod H a
  | .nil, _, m => nomatch m
  | .cons h r, a, m => (List.mem_append.mp m).elim (Ow.nod h a) (OwK.nod r a)
theorem OwT.nod {n : Nat} {S : List Addr} {vs : List (List Key × V)} {ds : List (D × D)} : OwT K I H n S vs ds → ∀ a ∈ S, Nod H a
  | .nil, _, m => nomatch m
  | .cons h r, a, m => (List.mem_append.mp m).elim (Ow.nod h a) (OwT.nod r a)
end
def fz (I : Addr → Prop) (S : List Addr) : Addr → Prop := fun a => I a ∨ a ∈ S
mutual
theorem Ow.rp (hI : ∀ a, I a → I' a) {n : Nat} {S : List Addr} {v : V} {d : D} : Ow K I H n S v d → (∀ a ∈ S, I' a) → Rp K I' H v d
  | .sh h, _ => h.mono hI fun _ _ _ e _ => e
  | .fl h _, _ => h.mono hI fun _ _ _ e _ => e
  | .lst h z r, q => .lst (q _ List.mem_cons_self) h z (OwA.rp hI r fun a m => q a (List.mem_cons_of_mem _ m))
  | .tup i h z r, q => .tup (.inl ⟨hI _ i, h⟩) z (OwA.rp hI r q)
  | .dK h r, q => .dK (q _ List.mem_cons_self) h (OwK.rp hI r fun a m => q a (List.mem_cons_of_mem _ m))
  | .dT h r, q => .dT (q _ List.mem_cons_self) h (OwT.rp hI r fun a m => q a (List.mem_cons_of_mem _ m))
theorem OwA.rp (hI : ∀ a, I a → I' a) {n : Nat} {S : List Addr} {vs : List V} {ds : List D} : OwA K I H n S vs ds → (∀ a ∈ S, I' a) → RpA K I' H vs ds
  | .nil, _ => .nil
  | .cons h r, q => .cons (Ow.rp hI h fun a m => q a (List.mem_append_left _ m)) (OwA.rp hI r fun a m => q a (List.mem_append_right _ m))
theorem OwK.rp (hI : ∀ a, I a → I' a) {n : Nat} {S : List Addr} {vs : List (Key × V)} {ds : List (D × D)} : OwK K I H n S vs ds → (∀ a ∈ S, I' a) → RpK K I' H vs ds
  | .nil, _ => .nil
  | .cons h r, q => .cons (Ow.rp hI h fun a m => q a (List.mem_append_left _ m)) (OwK.rp hI r fun a m => q a (List.mem_append_right _ m))
theorem OwT.rp (hI : ∀ a, I a → I' a) {n : Nat} {S : List Addr} {vs : List (List Key × V)} {ds : List (D × D)} : OwT K I H n S vs ds → (∀ a ∈ S, I' a) → RpT K I' H vs ds
  | .nil, _ => .nil
  | .cons h r, q => .cons (Ow.rp hI h fun a m => q a (List.mem_append_left _ m)) (OwT.rp hI r fun a m => q a (List.mem_append_right _ m))
end
/-- as it stands: fr: all nodes shared; else lists and dicts of any owner, to be read at once -/
abbrev RB (fr : Bool) (K : PySem.W.Frag) (I : Addr → Prop) (H : Hp) : V → D → Prop := Rp K (fun a => I a ∨ (fr = false ∧ Nod H a)) H
abbrev RBA (fr : Bool) (K : PySem.W.Frag) (I : Addr → Prop) (H : Hp) : List V → List D → Prop := RpA K (fun a => I a ∨ (fr = false ∧ Nod H a)) H
theorem Nod.mono {a : Addr} (hH : ∀ a o, H a = some o → NT o → H' a = some o) (h : Nod H a) : Nod H' a := by
  rcases h with ⟨_, e⟩ | ⟨_, e⟩ | ⟨_, e⟩
  · exact .inl ⟨_, hH _ _ e fun _ z => nomatch z⟩
  · exact .inr (.inl ⟨_, hH _ _ e fun _ z => nomatch z⟩)
  · exact .inr (.inr ⟨_, hH _ _ e fun _ z => nomatch z⟩)
theorem Nod.ne {a : Addr} (h : Nod H a) : H a ≠ none := fun z => by
  rcases h with ⟨_, e⟩ | ⟨_, e⟩ | ⟨_, e⟩ <;> (rw [z] at e; cases e)
theorem Rp.rb {fr : Bool} {v : V} {d : D} (h : Rp K I H v d) : RB fr K I H v d := h.mono (fun _ z => .inl z) fun _ _ _ e _ => e
theorem RpA.rb {fr : Bool} {vs : List V} {ds : List D} (h : RpA K I H vs ds) : RBA fr K I H vs ds := h.mono (fun _ z => .inl z) fun _ _ _ e _ => e
theorem RB.rp {v : V} {d : D} (h : RB true K I H v d) : Rp K I H v d := h.mono (fun _ z => z.elim id fun q => nomatch q.1) fun _ _ _ e _ => e
theorem RBA.rp {vs : List V} {ds : List D} (h : RBA true K I H vs ds) : RpA K I H vs ds := h.mono (fun _ z => z.elim id fun q => nomatch q.1) fun _ _ _ e _ => e
theorem Ow.rt {n : Nat} {S : List Addr} {v : V} {d : D} (h : Ow K I H n S v d) : RB false K I H v d := h.rp (fun _ z => .inl z) fun a m => .inr ⟨rfl, h.nod a m⟩
theorem OwA.rt {n : Nat} {S : List Addr} {v : List V} {d : List D} (h : OwA K I H n S v d) : RBA false K I H v d := h.rp (fun _ z => .inl z) fun a m => .inr ⟨rfl, h.nod a m⟩
theorem RB.later {fr : Bool} {v : V} {d : D} (h : RB fr K I H v d) (hI : ∀ a, I a → I' a) (hH : ∀ a o, H a = some o → NT o → H' a = some o) : RB fr K I' H' v d :=
  h.mono (fun _ z => z.imp (hI _) fun q => ⟨q.1, q.2.mono hH⟩) fun a o _ e n => hH a o e n
theorem RBA.later {fr : Bool} {v : List V} {d : List D} (h : RBA fr K I H v d) (hI : ∀ a, I a → I' a) (hH : ∀ a o, H a = some o → NT o → H' a = some o) : RBA fr K I' H' v d :=
  h.mono (fun _ z => z.imp (hI _) fun q => ⟨q.1, q.2.mono hH⟩) fun a o _ e n => hH a o e n
mutual
theorem Rp.ofFlat {J : Addr → Prop} (hJ : ∀ a, J a → I a ∨ Nod H a) {v : V} {d : D} : Rp K J H v d → flat d = true → Rp K I H v d
  | .non, _ => .non
  | .bl b, _ => .bl b
  | .int i, _ => .int i
  | .str x, _ => .str x
  | .tup h z r, f => .tup (h.imp (fun ⟨i, q⟩ => ⟨(hJ _ i).elim id fun n => by
      rcases n with ⟨_, e⟩ | ⟨_, e⟩ | ⟨_, e⟩ <;> (rw [e] at q; cases q), q⟩) id) z (RpA.ofFlat hJ r f)
  | .lst _ _ _ _, f => nomatch f
  | .dK _ _ _, f => nomatch f
  | .dT _ _ _, f => nomatch f
theorem RpA.ofFlat {J : Addr → Prop} (hJ : ∀ a, J a → I a ∨ Nod H a) {vs : List V} {ds : List D} : RpA K J H vs ds → flatAll ds = true → RpA K I H vs ds
  | .nil, _ => .nil
  | .cons h r, f => by
    have f : (DL.flat _ && flatAll _) = true := f
    rw [Bool.and_eq_true] at f
    exact .cons (Rp.ofFlat hJ h f.1) (RpA.ofFlat hJ r f.2)
end
theorem RB.ofFlat {fr : Bool} {v : V} {d : D} (h : RB fr K I H v d) (f : DL.flat d = true) : Rp K I H v d := Rp.ofFlat (fun _ z => z.imp id And.right) h f
theorem RpA.len {vs : List V} {ds : List D} : RpA K I H vs ds → vs.length = ds.length
  | .nil => rfl
  | .cons _ r => congrArg Nat.succ (RpA.len r)
theorem OwA.len {n : Nat} {S : List Addr} {vs : List V} {ds : List D} : OwA K I H n S vs ds → vs.length = ds.length
  | .nil => rfl
  | .cons _ r => congrArg Nat.succ (OwA.len r)
theorem RpA.get {vs : List V} {ds : List D} : RpA K I H vs ds → ∀ {i : Nat} {d : D}, ds[i]? = some d → ∃ v, vs[i]? = some v ∧ Rp K I H v d
  | .nil, i, d, e => by simp at e
  | .cons h r, 0, d, e => by
    have e := Option.some.inj e
    subst e
    exact ⟨_, rfl, h⟩
  | .cons h r, i + 1, d, e => RpA.get r (i := i) (d := d) (by simpa using e)
theorem RpA.append {vs ws : List V} {ds es : List D} : RpA K I H vs ds → RpA K I H ws es → RpA K I H (vs ++ ws) (ds ++ es)
  | .nil, q => q
  | .cons h r, q => .cons h (RpA.append r q)
theorem RpA.take {vs : List V} {ds : List D} : RpA K I H vs ds → ∀ n, RpA K I H (vs.take n) (ds.take n)
  | _, 0 => .nil
  | .nil, _ + 1 => .nil
  | .cons h r, n + 1 => .cons h (RpA.take r n)
theorem RpA.drop {vs : List V} {ds : List D} : RpA K I H vs ds → ∀ n, RpA K I H (vs.drop n) (ds.drop n)
  | q, 0 => q
  | .nil, _ + 1 => .nil
  | .cons h r, n + 1 => RpA.drop r n
theorem RpA.owA0 {vs : List V} {ds : List D} : RpA K I H vs ds → OwA K I H 0 [] vs ds
  | .nil => .nil
  | .cons h r => .cons (S := []) (.sh h) (RpA.owA0 r)
theorem OwA.append {n : Nat} {S T : List Addr} {vs ws : List V} {ds es : List D} : OwA K I H n S vs ds → OwA K I H n T ws es → OwA K I H n (S ++ T) (vs ++ ws) (ds ++ es)
  | .nil, q => q
  | .cons h r, q => by
    rw [List.append_assoc]
    exact .cons h (OwA.append r q)
/-- what an atom, a list is -/
theorem KT.sq {a : Addr} {xs : List V} {P : Prop} (h : (P ∧ H a = some (.tup xs)) ∨ KT K a xs) : SqT K H a xs := h.imp (fun z => .inl z.2) id
end
end DL

namespace DL
open PySem PySem.Spec PyProof.Rows L2

inductive W where
  | d (x : D)
  | c (g : Res D)
  | cs (gs : List (Res D))
  | x (c : Str) (v : D)
  | f (m : List D → Res (List (Res D)))
abbrev Env := List W
/-- kinds of slots: untold; data, n levels owned; a closure; a list of closures; an error or None; a def that makes closures -/
inductive SK where
  | no
  | da (n : Nat)
  | cl
  | cls
  | er
  | fn
  | sc

/-- the law's world: the program, the written part, the module's names, the ground, the tables of code objects, the room of closures -/
class Wd where
  P : Program
  w : World
  K : PySem.W.Frag
  mg : Str → Option Value
  base : Heap
  T : List (Addr × Str)
  kc : Nat
variable [Wd]
theorem NT.of_ne {H : Hp} {a : Addr} {o : HO} (h : H a = some o) (n : NT o) : ∀ ps, H a ≠ some (.tbl ps) := fun ps z => n ps (Option.some.inj (h.symm.trans z))
structure Evo (I : Addr → Prop) (H : Hp) (S : Addr → Prop) (I' : Addr → Prop) (H' : Hp) (S' : Addr → Prop) : Prop where
  sub : ∀ a, I a → I' a
  new : ∀ a, I' a → I a ∨ ((S a ∨ H a = none) ∧ H' a ≠ none)
  keep : ∀ b o, H b = some o → ¬ S b → NT o → H' b = some o
  own : ∀ a, S' a → (S a ∨ H a = none) ∧ H' a ≠ none
  there : ∀ a, H a ≠ none → H' a ≠ none
  tab : LamX.Tabs Wd.T H → LamX.Tabs Wd.T H'
theorem Evo.old {I I1 S S1 : Addr → Prop} {H H1 : Hp} (a : Evo I H S I1 H1 S1) {x : Addr} (h : S1 x ∨ H1 x = none) : S x ∨ H x = none := by
  rcases h with h | h
  · exact (a.own x h).1
  · cases e : H x with
    | none => exact .inr rfl
    | some o => exact absurd h (a.there x (by rw [e]; exact fun z => nomatch z))
theorem Evo.trans {I I1 I2 S S1 S2 : Addr → Prop} {H H1 H2 : Hp} (a : Evo I H S I1 H1 S1) (b : Evo I1 H1 S1 I2 H2 S2) : Evo I H S I2 H2 S2 where
  sub := fun x h => b.sub x (a.sub x h)
  new := fun x h => by
    rcases b.new x h with h | ⟨h, h'⟩
    · exact (a.new x h).imp id fun ⟨h1, h2⟩ => ⟨h1, b.there x h2⟩
    · exact .inr ⟨a.old h, h'⟩
  keep := fun x o e s n => b.keep x o (a.keep x o e s n) (fun z => by
    rcases (a.own x z).1 with z | z
    · exact s z
    · rw [z] at e; cases e) n
  own := fun x h => ⟨a.old (b.own x h).1, (b.own x h).2⟩
  there := fun x h => b.there x (a.there x h)
  tab := fun t => b.tab (a.tab t)
theorem Evo.refl {I S : Addr → Prop} {H : Hp} (hS : ∀ a, S a → H a ≠ none) : Evo I H S I H S := ⟨fun _ h => h, fun _ h => .inl h, fun _ _ e _ _ => e, fun a h => ⟨.inl h, hS a h⟩, fun _ h => h, fun t => t⟩
theorem Evo.widen {I I' S S2 S' : Addr → Prop} {H H' : Hp} (e : Evo I H S I' H' S') (h : ∀ a, S a → S2 a) : Evo I H S2 I' H' S' :=
  ⟨e.sub, fun a z => (e.new a z).imp id fun z => ⟨z.1.imp (h a) id, z.2⟩, fun b o q n => e.keep b o q fun z => n (h b z), fun a z => ⟨(e.own a z).1.imp (h a) id, (e.own a z).2⟩, e.there, e.tab⟩
/-- nothing tracked changed but tables of code objects -/
structure Gr (I : Addr → Prop) (H : Hp) (I' : Addr → Prop) (H' : Hp) : Prop where
  sub : ∀ a, I a → I' a
  new : ∀ a, I' a → I a ∨ (H a = none ∧ H' a ≠ none)
  kp : ∀ b o, H b = some o → NT o → H' b = some o
  there : ∀ {a : Addr}, H a ≠ none → H' a ≠ none
  tab : LamX.Tabs Wd.T H → LamX.Tabs Wd.T H'
theorem Gr.refl {I : Addr → Prop} {H : Hp} : Gr I H I H := ⟨fun _ h => h, fun _ h => .inl h, fun _ _ e _ => e, fun z => z, fun t => t⟩
theorem Gr.free {I I' : Addr → Prop} {H H' : Hp} (g : Gr I H I' H') {a : Addr} (h : H' a = none) : H a = none := by
  cases e : H a with
  | none => rfl
  | some o => exact absurd h (g.there (by rw [e]; exact fun z => nomatch z))
theorem Gr.trans {I I1 I2 : Addr → Prop} {H H1 H2 : Hp} (a : Gr I H I1 H1) (b : Gr I1 H1 I2 H2) : Gr I H I2 H2 :=
  ⟨fun x h => b.sub x (a.sub x h), fun x h => (b.new x h).elim (fun h => (a.new x h).imp id fun z => ⟨z.1, b.there z.2⟩) fun z => .inr ⟨a.free z.1, z.2⟩, fun x o e n => b.kp x o (a.kp x o e n) n, fun z => b.there (a.there z), fun t => b.tab (a.tab t)⟩
theorem Gr.evo {I I' S : Addr → Prop} {H H' : Hp} (g : Gr I H I' H') (hS : ∀ a, S a → H a ≠ none) : Evo I H S I' H' S :=
  ⟨g.sub, fun a h => (g.new a h).imp id fun z => ⟨.inr z.1, z.2⟩, fun b o e _ n => g.kp b o e n, fun a h => ⟨.inl h, g.there (hS a h)⟩, fun _ h => g.there h, g.tab⟩
/-- all tracked is kept -/
theorem Gr.of {I I' : Addr → Prop} {H H' : Hp} (h1 : ∀ a, I a → I' a) (h2 : ∀ a, I' a → I a ∨ (H a = none ∧ H' a ≠ none)) (h3 : ∀ b o, H b = some o → H' b = some o) : Gr I H I' H' :=
  ⟨h1, h2, fun b o e _ => h3 b o e, fun {a} z => by
    cases e : H a with
    | none => exact absurd e z
    | some o => exact (by rw [h3 a o e]; exact fun z => nomatch z), fun t => LamX.Tabs.ext t h3⟩
theorem upd_keep {H : Hp} {p : Addr} {o : HO} (h : H p = none) : ∀ a u, H a = some u → (upd H p o) a = some u := fun a u e => by rw [upd_ne (ne_of_none e h)]; exact e
/-- a list, a dict is written: tables stay -/
theorem _root_.LamX.TabS.nod {H : Hp} {P D : Addr} {q : Str} {o : HO} (t : LamX.TabS H P q) (n : Nod H D) : LamX.TabS (upd H D o) P q := by
  obtain ⟨ps, h1, h2, h3⟩ := t
  have ne : ∀ {b : Addr} {u : HO}, H b = some u → ((∃ ps, u = .tbl ps) ∨ ∃ φ, u = .ext φ) → b ≠ D := fun {b u} e h z => by
    subst z
    rcases n with ⟨_, z⟩ | ⟨_, z⟩ | ⟨_, z⟩ <;> (rw [e] at z; cases z; rcases h with ⟨_, h⟩ | ⟨_, h⟩ <;> cases h)
  refine ⟨ps, by rw [upd_ne (ne h1 (.inl ⟨_, rfl⟩))]; exact h1, h2, fun pos cv hc => ?_⟩
  obtain ⟨c, e1, e2⟩ := h3 pos cv hc
  exact ⟨c, e1, by rw [upd_ne (ne e2 (.inr ⟨_, rfl⟩))]; exact e2⟩
theorem _root_.LamX.Tabs.nod {T : List (Addr × Str)} {H : Hp} {D : Addr} {o : HO} (t : LamX.Tabs T H) (n : Nod H D) : LamX.Tabs T (upd H D o) := fun p hp => (t p hp).nod n
/-- a new object, shared or not -/
theorem Gr.lay {I : Addr → Prop} {H : Hp} {p : Addr} {o : HO} (h : H p = none) : Gr I H I (upd H p o) := .of (fun _ h => h) (fun _ h => .inl h) (upd_keep h)
theorem Gr.layI {I : Addr → Prop} {H : Hp} {p : Addr} {o : HO} (h : H p = none) : Gr I H (fz I [p]) (upd H p o) :=
  .of (fun _ h => .inl h) (fun a q => q.imp id fun m => by rw [List.mem_singleton.mp m]; exact ⟨h, by rw [upd_same]; exact fun z => nomatch z⟩) (upd_keep h)
/-- owned nodes that are new are let go -/
theorem Gr.fz {I I' : Addr → Prop} {H H' : Hp} {S : List Addr} (g : Gr I H I' H') (hS : ∀ a ∈ S, H a = none ∧ H' a ≠ none) : Gr I H (DL.fz I' S) H' :=
  ⟨fun a h => .inl (g.sub a h), fun a h => h.elim (g.new a) fun m => .inr (hS a m), g.kp, g.there, g.tab⟩

/-- an error's wish: E from here on -/
def WX (K : PySem.W.Frag) (mg : Str → Option Value) (E : XK) (I : Addr → Prop) (H : Hp) (S : Addr → Prop) (c : Str) (d : D) : Prop :=
  ∀ C a v I' H' S', mg c = some (.ref C) → Evo I H S I' H' S' → Rp K I' H' v d → H' a = some (.xd [("value", v)]) → E (.ref C) (some a) H'
theorem WX.later {K : PySem.W.Frag} {mg : Str → Option Value} {E : XK} {I I' S S' : Addr → Prop} {H H' : Hp} {c : Str} {d : D} (w : WX K mg E I H S c d) (e : Evo I H S I' H' S') : WX K mg E I' H' S' c d :=
  fun C a v I2 H2 S2 hc e2 r x => w C a v I2 H2 S2 hc (e.trans e2) r x
theorem WX.less {K : PySem.W.Frag} {mg : Str → Option Value} {E : XK} {I S S' : Addr → Prop} {H : Hp} {c : Str} {d : D} (w : WX K mg E I H S c d) (h : ∀ a, S' a → S a) : WX K mg E I H S' c d :=
  fun C a v I2 H2 S2 hc e2 r x => w C a v I2 H2 S2 hc (e2.widen h) r x
/-- behind a thing that changes nothing: what is wanted of its value -/
def PX (K : PySem.W.Frag) (mg : Str → Option Value) (E : XK) (I : Addr → Prop) (H : Hp) (S : Addr → Prop) {α : Type} (P : α → Prop) : Res α → Prop
  | .ok d => P d
  | .exc c d => WX K mg E I H S c d
  | .bad => False
section
variable {K : PySem.W.Frag} {mg : Str → Option Value} {E : XK} {I I' S S' : Addr → Prop} {H H' : Hp} {α β : Type}
theorem PX.bnd {P : β → Prop} {r : Res α} {f : α → Res β} (h : PX K mg E I H S P (r >>= f)) : PX K mg E I H S (fun d => r = .ok d ∧ PX K mg E I H S P (f d)) r := by
  cases r with
  | ok d => exact ⟨rfl, h⟩
  | exc c d => exact h
  | bad => exact h
theorem PX.imp {P P' : α → Prop} {r : Res α} (h : PX K mg E I H S P r) (q : ∀ a, r = .ok a → P a → P' a) : PX K mg E I H S P' r := by
  cases r with
  | ok d => exact q d rfl h
  | exc c d => exact h
  | bad => exact h
theorem PX.later {P P' : α → Prop} {r : Res α} (h : PX K mg E I H S P r) (e : Evo I H S I' H' S') (q : ∀ a, r = .ok a → P a → P' a) : PX K mg E I' H' S' P' r := by
  cases r with
  | ok d => exact q d rfl h
  | exc c d => exact WX.later h e
  | bad => exact h
end

/-- what never changes -/
def Fx (o : HO) : Prop := (∃ φ, o = .ext φ) ∨ (∃ fs, o = .xd fs) ∨ ∃ ob u, o = .frz ob u
theorem Fx.nt {o : HO} (h : Fx o) : NT o := fun ps z => by
  rcases h with ⟨_, e⟩ | ⟨_, e⟩ | ⟨_, _, e⟩ <;> (rw [e] at z; cases z)
theorem Fx.nod {H : Hp} {a : Addr} {o : HO} (h : Fx o) (e : H a = some o) : ¬ Nod H a := fun n => by
  rcases h with ⟨_, rfl⟩ | ⟨_, rfl⟩ | ⟨_, _, rfl⟩ <;> rcases n with ⟨_, z⟩ | ⟨_, z⟩ | ⟨_, z⟩ <;> (rw [e] at z; cases z)
structure Later (I : Addr → Prop) (H : Hp) (I1 : Addr → Prop) (H1 : Hp) : Prop where
  sub : ∀ a, I a → I1 a
  shr : ∀ a o, I a → H a = some o → NT o → H1 a = some o
  fx : ∀ a o, H a = some o → Fx o → H1 a = some o
theorem Later.refl {I : Addr → Prop} {H : Hp} : Later I H I H := ⟨fun _ z => z, fun _ _ _ e _ => e, fun _ _ e _ => e⟩
theorem Later.trans {I I1 I2 : Addr → Prop} {H H1 H2 : Hp} (a : Later I H I1 H1) (b : Later I1 H1 I2 H2) : Later I H I2 H2 :=
  ⟨fun x z => b.sub x (a.sub x z), fun x o i e n => b.shr x o (a.sub x i) (a.shr x o i e n) n, fun x o e f => b.fx x o (a.fx x o e f) f⟩
theorem Gr.later {I I' : Addr → Prop} {H H' : Hp} (g : Gr I H I' H') : Later I H I' H' := ⟨g.sub, fun a o _ e n => g.kp a o e n, fun a o e f => g.kp a o e f.nt⟩
/-- a closure: called at any later time it gives g -/
def CloT (I : Addr → Prop) (H : Hp) (v : V) (g : Res D) : Prop := ∃ f : Addr, v = .ref f ∧ ∀ I1 H1, Later I H I1 H1 → (∀ h, HOk Wd.P Wd.w H1 h → Wd.K.In h → PySem.W.FnAt f h) ∧ ∀ (A : Around) (outer : List PySem.Env) (s : Shared) (Q : VK) (E : XK), Room Wd.kc A → A.guards = some [] →
  Env0 Wd.P Wd.w Wd.K Wd.mg Wd.base A outer s H1 → LamX.Tabs Wd.T H1 → (∀ a, I1 a → H1 a ≠ none) → PX Wd.K Wd.mg E I1 H1 (fun _ => False) (fun d => ∀ v I' H', Gr I1 H1 I' H' → Rp Wd.K I' H' v d → Q v H') g →
  codeAny (model Wd.P Wd.w) A (.call (.ref f) ⟨[], []⟩) (CR (L2.CX Wd.P Wd.w) outer Wd.P Wd.w H1 s Q E) s
theorem CloT.mono {I I1 : Addr → Prop} {H H1 : Hp} {v : V} {g : Res D} (h : CloT I H v g) (l : Later I H I1 H1) : CloT I1 H1 v g := let ⟨f, e, q⟩ := h; ⟨f, e, fun I2 H2 l2 => q I2 H2 (l.trans l2)⟩
def ClosA (I : Addr → Prop) (H : Hp) : List V → List (Res D) → Prop := Paired (CloT I H)
theorem ClosA.mono {I I1 : Addr → Prop} {H H1 : Hp} {vs : List V} {gs : List (Res D)} (h : ClosA I H vs gs) (l : Later I H I1 H1) : ClosA I1 H1 vs gs := by
  induction h with
  | nil => exact .nil
  | cons a r ih => exact .cons (a.mono l) ih
def ClosT (I : Addr → Prop) (H : Hp) (v : V) (gs : List (Res D)) : Prop := ∃ (a : Addr) (xs : List V), v = .ref a ∧ I a ∧ H a = some (.lst xs) ∧ xs.length ≤ sizeLine ∧ ClosA I H xs gs
theorem ClosT.mono {I I1 : Addr → Prop} {H H1 : Hp} {v : V} {gs : List (Res D)} (h : ClosT I H v gs) (l : Later I H I1 H1) : ClosT I1 H1 v gs :=
  let ⟨a, xs, e, i, h, z, c⟩ := h; ⟨a, xs, e, l.sub a i, l.shr a _ i h (fun _ z => nomatch z), z, c.mono l⟩
/-- a def that makes closures -/
def FnT (I : Addr → Prop) (H : Hp) (v : V) (m : List D → Res (List (Res D))) : Prop := ∃ f : Addr, v = .ref f ∧ ∀ I1 H1, Later I H I1 H1 → (∀ h, HOk Wd.P Wd.w H1 h → Wd.K.In h → PySem.W.FnAt f h) ∧ ∀ (A : Around) (outer : List PySem.Env) (s : Shared) (us : List Value) (vs : List V) (ds : List D) (Q : VK) (E : XK), Room Wd.kc A → A.guards = some [] →
  Env0 Wd.P Wd.w Wd.K Wd.mg Wd.base A outer s H1 → LamX.Tabs Wd.T H1 → (∀ a, I1 a → H1 a ≠ none) → Vals vs us → RpA Wd.K I1 H1 vs ds → PX Wd.K Wd.mg E I1 H1 (fun _ => False) (fun gs => ∀ v I' H', Gr I1 H1 I' H' → ClosT I' H' v gs → Q v H') (m ds) →
  codeAny (model Wd.P Wd.w) A (.call (.ref f) ⟨us, []⟩) (CR (L2.CX Wd.P Wd.w) outer Wd.P Wd.w H1 s Q E) s
theorem FnT.mono {I I1 : Addr → Prop} {H H1 : Hp} {v : V} {m : List D → Res (List (Res D))} (h : FnT I H v m) (l : Later I H I1 H1) : FnT I1 H1 v m := let ⟨f, e, q⟩ := h; ⟨f, e, fun I2 H2 l2 => q I2 H2 (l.trans l2)⟩
/-- a caught error -/
def exk (a C dx : Addr) : HO := .ext fun h => ∃ (o : Obj) (vs : Array Value), h.get? a = some o ∧ o.cls = .ref C ∧ o.dict = some dx ∧ o.data = .fields vs
def ErT (I : Addr → Prop) (H : Hp) (v : V) (w : W) : Prop := (v = .non ∧ w = .d .none) ∨ ∃ (a C dx : Addr) (c : Str) (d : D) (y : V), v = .ref a ∧ w = .x c d ∧ Wd.mg c = some (.ref C) ∧ H a = some (exk a C dx) ∧ H dx = some (.xd [("value", y)]) ∧ Rp Wd.K I H y d
theorem ErT.mono {I I1 : Addr → Prop} {H H1 : Hp} {v : V} {w : W} (h : ErT I H v w) (l : Later I H I1 H1) : ErT I1 H1 v w := h.imp id fun ⟨a, C, dx, c, d, y, e1, e2, e3, e4, e5, r⟩ => ⟨a, C, dx, c, d, y, e1, e2, e3, l.fx _ _ e4 (.inl ⟨_, rfl⟩), l.fx _ _ e5 (.inr (.inl ⟨_, rfl⟩)), r.mono l.sub l.shr⟩

/-- the script: a list of ints that is known to the object, or stands in the written part -/
def ScT (K : PySem.W.Frag) (H : Hp) (v : V) (ns : List Int) : Prop := ns.length ≤ sizeLine ∧ ∃ a : Addr, v = .ref a ∧ ((∃ o, H a = some (.frz o (.lst (ns.map V.int)))) ∨ ∃ (o : Obj) (its : Array Value) (n : Nat), K.lookup a = some o ∧ o.cls = .type "list" ∧ o.dict = none ∧ o.data = .seq its n ∧ its.size ≤ sizeLine ∧ Vals (ns.map V.int) its.toList)
theorem ScT.mono {K : PySem.W.Frag} {I I1 : Addr → Prop} {H H1 : Hp} {v : V} {ns : List Int} (h : ScT K H v ns) (l : Later I H I1 H1) : ScT K H1 v ns := let ⟨z, a, e, h⟩ := h; ⟨z, a, e, h.imp (fun ⟨o, q⟩ => ⟨o, l.fx _ _ q (.inr (.inr ⟨_, _, rfl⟩))⟩) id⟩
theorem ScT.sq {K : PySem.W.Frag} {H : Hp} {v : V} {ns : List Int} (h : ScT K H v ns) : ∃ a, v = .ref a ∧ SqL K H a (ns.map V.int) := let ⟨_, a, e, h⟩ := h; ⟨a, e, h.imp (fun ⟨o, q⟩ => .inr ⟨o, q⟩) id⟩

def SlotR (K : PySem.W.Frag) (I : Addr → Prop) (H : Hp) : SK → List Addr → Option (Option V) → Option W → Prop
  | .no, _, _, _ => True
  | .da n, S, u, w => ∃ v d, u = some (some v) ∧ w = some (.d d) ∧ Ow K I H n S v d
  | .cl, _, u, w => ∃ v g, u = some (some v) ∧ w = some (.c g) ∧ CloT I H v g
  | .cls, _, u, w => ∃ v gs, u = some (some v) ∧ w = some (.cs gs) ∧ ClosT I H v gs
  | .er, _, u, w => ∃ v x, u = some (some v) ∧ w = some x ∧ ErT I H v x
  | .fn, _, u, w => ∃ v m, u = some (some v) ∧ w = some (.f m) ∧ FnT I H v m
  | .sc, _, u, w => ∃ v ns, u = some (some v) ∧ w = some (.d (.list (ns.map PyData.int))) ∧ ScT K H v ns
structure ER (K : PySem.W.Frag) (I : Addr → Prop) (Γ : List SK) (ρ : Env) (σ : L2.St) (H : Hp) (S : Nat → List Addr) : Prop where
  slot : ∀ i k, Γ[i]? = some k → SlotR K I H k (S i) σ[i]? ρ[i]?
  sd : ∀ i a, a ∈ S i → ∃ k, Γ[i]? = some (.da k)
  dis : ∀ i j a, i ≠ j → a ∈ S i → a ∈ S j → False
  nod : ∀ i, (S i).Nodup
  nI : ∀ i a, a ∈ S i → ¬ I a
  tr : ∀ a, I a → H a ≠ none
  lr : ρ.length = Γ.length
  ls : σ.length = Γ.length
  tb : LamX.Tabs Wd.T H
def SU (S : Nat → List Addr) : Addr → Prop := fun a => ∃ i, a ∈ S i
section
theorem ER.tracked {K : PySem.W.Frag} {I : Addr → Prop} {Γ : List SK} {ρ : Env} {σ : L2.St} {H : Hp} {S : Nat → List Addr} (R : ER K I Γ ρ σ H S) {a : Addr} (h : SU S a) : Nod H a := by
  obtain ⟨i, m⟩ := h
  obtain ⟨k, e⟩ := R.sd i a m
  obtain ⟨v, d, _, _, o⟩ := R.slot i _ e
  exact o.nod a m
theorem ER.trk {K : PySem.W.Frag} {I : Addr → Prop} {Γ : List SK} {ρ : Env} {σ : L2.St} {H : Hp} {S : Nat → List Addr} (R : ER K I Γ ρ σ H S) : ∀ a, SU S a → H a ≠ none := fun _ h => (R.tracked h).ne
theorem SlotR.mono {K : PySem.W.Frag} {I I' : Addr → Prop} {H H' : Hp} {k : SK} {S : List Addr} {u : Option (Option V)} {w : Option W} (l : Later I H I' H')
    (hS : ∀ a ∈ S, ∀ o, H a = some o → NT o → H' a = some o) (h : SlotR K I H k S u w) : SlotR K I' H' k S u w := by
  cases k with
  | no => trivial
  | da n =>
    obtain ⟨v, d, e1, e2, o⟩ := h
    exact ⟨v, d, e1, e2, o.mono l.sub l.shr hS⟩
  | cl => obtain ⟨v, g, e1, e2, o⟩ := h; exact ⟨v, g, e1, e2, o.mono l⟩
  | cls => obtain ⟨v, g, e1, e2, o⟩ := h; exact ⟨v, g, e1, e2, o.mono l⟩
  | er => obtain ⟨v, g, e1, e2, o⟩ := h; exact ⟨v, g, e1, e2, o.mono l⟩
  | fn => obtain ⟨v, g, e1, e2, o⟩ := h; exact ⟨v, g, e1, e2, o.mono l⟩
  | sc => obtain ⟨v, g, e1, e2, o⟩ := h; exact ⟨v, g, e1, e2, o.mono l⟩
theorem ER.grow {K : PySem.W.Frag} {I I' : Addr → Prop} {Γ : List SK} {ρ : Env} {σ : L2.St} {H H' : Hp} {S : Nat → List Addr} (R : ER K I Γ ρ σ H S) (g : Gr I H I' H') : ER K I' Γ ρ σ H' S where
  slot := fun i k e => (R.slot i k e).mono g.later fun a _ o q n => g.kp a o q n
  sd := R.sd
  dis := R.dis
  nod := R.nod
  nI := fun i a m z => (g.new a z).elim (R.nI i a m) fun z => (R.tracked ⟨i, m⟩).ne z.1
  tr := fun a h => (g.new a h).elim (fun h => g.there (R.tr a h)) fun z => z.2
  lr := R.lr
  ls := R.ls
  tb := g.tab R.tb
/-- all slots' owned nodes are lists and dicts: what never changes stays -/
theorem Evo.later {K : PySem.W.Frag} {I I' : Addr → Prop} {Γ : List SK} {ρ : Env} {σ : L2.St} {H H' : Hp} {S : Nat → List Addr} {S' : Addr → Prop} (e : Evo I H (SU S) I' H' S') (R : ER K I Γ ρ σ H S) : Later I H I' H' :=
  ⟨e.sub, fun a o i q n => e.keep a o q (fun ⟨j, m⟩ => R.nI j a m i) n, fun a o q f => e.keep a o q (fun z => f.nod q (R.tracked z)) f.nt⟩
end

/-- the kind of a value: none: to be read at once; some n: n levels owned -/
def VR (K : PySem.W.Frag) (I : Addr → Prop) (H : Hp) : Option Nat → List Addr → V → D → Prop
  | none, S, v, d => S = [] ∧ RB false K I H v d
  | some n, S, v, d => Ow K I H n S v d
/-- the owned nodes of a new value -/
structure New (I : Addr → Prop) (H : Hp) (I' : Addr → Prop) (T : List Addr) : Prop where
  free : ∀ a ∈ T, H a = none
  nI : ∀ a ∈ T, ¬ I' a
  nod : T.Nodup
theorem New.nil {I I' : Addr → Prop} {H : Hp} : New I H I' [] := ⟨fun _ m => absurd m List.not_mem_nil, fun _ m => absurd m List.not_mem_nil, List.nodup_nil⟩
theorem New.ahead {I I0 I' : Addr → Prop} {H H0 : Hp} {T : List Addr} (n : New I H I' T) (g : Gr I0 H0 I H) : New I0 H0 I' T := ⟨fun a m => g.free (n.free a m), n.nI, n.nod⟩
section
variable {K : PySem.W.Frag} {I I' : Addr → Prop} {H H' : Hp} {k : Option Nat} {T : List Addr} {v : V} {d : D}
theorem VR.rt (h : VR K I H k T v d) : RB false K I H v d := by
  cases k with
  | none => exact h.2
  | some n => exact Ow.rt h
theorem VR.later (h : VR K I H k T v d) (g : Gr I H I' H') : VR K I' H' k T v d := by
  cases k with
  | none => exact ⟨h.1, RB.later h.2 g.sub g.kp⟩
  | some n => exact Ow.mono g.sub (fun a o _ e n => g.kp a o e n) h fun a _ o e n => g.kp a o e n
theorem VR.nodes (h : VR K I H k T v d) : ∀ a ∈ T, Nod H a := by
  cases k with
  | none => intro a m; rw [h.1] at m; cases m
  | some n => exact Ow.nod h
/-- let go of what is owned -/
theorem VR.rb {fr : Bool} (h : VR K I H k T v d) (hk : fr = true → k ≠ none) : RB fr K (fz I T) H v d := by
  cases k with
  | none =>
    cases fr with
    | true => exact absurd rfl (hk rfl)
    | false => exact RB.later h.2 (fun _ z => .inl z) fun _ _ e _ => e
  | some n => exact (Ow.rp (I' := fz I T) (fun _ z => .inl z) h fun _ m => .inr m).rb
end
/-- an expression that changes nothing -/
abbrev PV (X : Cx) (I : Addr → Prop) (H : Hp) (k : Option Nat) (Q : VK) : D → Prop := fun d => ∀ v I' H' T, Gr I H I' H' → VR X.K I' H' k T v d → New I H I' T → Q v H'
structure DP (X : Cx) (E : XK) (Γ : List SK) (e : Expr) (k : Option Nat) (f : Env → Res D) : Prop where
  ex : ∃ t : TE, PE X e t ∧ ∀ I S ρ σ H Q, ER X.K I Γ ρ σ H S → PX X.K X.mg E I H (SU S) (PV X I H k Q) (f ρ) → t σ H Q
/-- a test -/
structure DT (X : Cx) (E : XK) (Γ : List SK) (e : Expr) (f : Env → Res Bool) : Prop where
  ex : ∃ t : TT, PT X e t ∧ ∀ I S ρ σ H Q, ER X.K I Γ ρ σ H S → PX X.K X.mg E I H (SU S) (fun b => ∀ I' H', Gr I H I' H' → Q b H') (f ρ) → t σ H Q
/-- arguments -/
structure DA (X : Cx) (E : XK) (Γ : List SK) (es : List Expr) (fr : Bool) (f : Env → Res (List D)) : Prop where
  ex : ∃ t : TA, PA X es t ∧ ∀ I S ρ σ H Q, ER X.K I Γ ρ σ H S → PX X.K X.mg E I H (SU S) (fun ds => ∀ vs I' H', Gr I H I' H' → RBA fr X.K I' H' vs ds → Q vs H') (f ρ) → t σ H Q

section
variable {X : Cx} {E : XK} {Γ : List SK} {pos : Pos}
def dVar (i : Nat) : Env → Res D := fun ρ => match ρ[i]? with
  | some (.d x) => .ok x
  | _ => .bad
theorem dp_var {i : Nat} {x : Str} (hN : X.N[i]? = some x) (hv : Vis X.env.scope x) (hk : Γ[i]? = some (.da 0)) (hd : (x == ("__debug__" : Str)) = false := by decide) (hcd : (x == ("__classdict__" : Str)) = false := by decide) :
    DP X E Γ (.Name x pos) (some 0) (dVar i) := by
  refine ⟨tVar i, pe_var hN hv hd hcd, fun I S ρ σ H Q R h => ?_⟩
  obtain ⟨v, d, e1, e2, o⟩ := R.slot i _ hk
  unfold dVar at h
  rw [e2] at h
  generalize S i = T at o
  cases o with
  | sh o => exact ⟨v, e1, h v I H [] .refl (.sh o) .nil⟩
/-- an owned one, to be read at once -/
theorem dp_varT {i n : Nat} {x : Str} (hN : X.N[i]? = some x) (hv : Vis X.env.scope x) (hk : Γ[i]? = some (.da n)) (hd : (x == ("__debug__" : Str)) = false := by decide) (hcd : (x == ("__classdict__" : Str)) = false := by decide) :
    DP X E Γ (.Name x pos) none (dVar i) := by
  refine ⟨tVar i, pe_var hN hv hd hcd, fun I S ρ σ H Q R h => ?_⟩
  obtain ⟨v, d, e1, e2, o⟩ := R.slot i _ hk
  unfold dVar at h
  rw [e2] at h
  exact ⟨v, e1, h v I H [] .refl ⟨rfl, o.rt⟩ .nil⟩
/-- atoms: a value that stands for itself -/
inductive At : V → D → Prop
  | non : At .non .none
  | bl (b : Bool) : At (.bl b) (.bool b)
  | int (i : Int) : At (.int i) (.int i)
  | str (x : Str) : At (.str x) (.str x)
section
variable {K : PySem.W.Frag} {I : Addr → Prop} {H : Hp} {v : V} {d : D}
theorem At.rp (h : At v d) : Rp K I H v d := by
  cases h with
  | non => exact .non
  | bl b => exact .bl b
  | int i => exact .int i
  | str x => exact .str x
theorem At.fl (h : At v d) : flat d = true := by cases h <;> rfl
theorem Rp.ow (h : Rp K I H v d) (f : flat d = true) (n : Nat) : Ow K I H n [] v d := by
  cases n with
  | zero => exact .sh h
  | succ n => exact .fl h f
theorem At.vr (h : At v d) (k : Option Nat) : VR K I H k [] v d := by
  cases k with
  | none => exact ⟨rfl, h.rp⟩
  | some n => exact h.rp.ow h.fl n
end
def dC (d : D) : Env → Res D := fun _ => .ok d
theorem dp_at {e : Expr} {v : V} {d : D} {n : Nat} (h : PE X e (tC v)) (a : At v d) : DP X E Γ e (some n) (dC d) :=
  ⟨tC v, h, fun I S ρ σ H Q R h => h v I H [] .refl (a.vr _) .nil⟩
theorem dp_int {i : Int} {j : Nat} {n : Nat} : DP X E Γ (.Constant (.int i) j pos) (some n) (dC (.int i)) := dp_at pe_int (.int i)
theorem dp_bl {b : Bool} {j : Nat} {n : Nat} : DP X E Γ (.Constant (.bool b) j pos) (some n) (dC (.bool b)) := dp_at pe_bl (.bl b)
theorem dp_non {j : Nat} {n : Nat} : DP X E Γ (.Constant .none j pos) (some n) (dC .none) := dp_at pe_non .non
theorem dp_str {x : Str} {j : Nat} {n : Nat} : DP X E Γ (.Constant (.str x) j pos) (some n) (dC (.str x)) := dp_at pe_str (.str x)
/-- a module's constant -/
theorem dp_glob {x : Str} {v : V} {u : Value} {d : D} {n : Nat} (hg : Gl X x) (hm : X.mg x = some u) (r : RelV v u) (a : At v d) (hd : (x == ("__debug__" : Str)) = false := by decide) : DP X E Γ (.Name x pos) (some n) (dC d) :=
  dp_at (pe_glob hg hm r hd) a
/-- flat data may be kept, whoever owns it -/
def dFlat (f : Env → Res D) : Env → Res D := fun ρ => f ρ >>= fun d => if flat d = true then .ok d else .bad
theorem dp_flat {e : Expr} {k : Option Nat} {f : Env → Res D} {n : Nat} (h : DP X E Γ e k f) : DP X E Γ e (some n) (dFlat f) := by
  obtain ⟨t, p, q⟩ := h.ex
  refine ⟨t, p, fun I S ρ σ H Q R hh => q I S ρ σ H Q R (PX.imp (PX.bnd hh) fun d e h => ?_)⟩
  obtain ⟨_, h⟩ := h
  intro v I' H' T g vr nw
  by_cases hf : flat d = true
  · rw [if_pos hf] at h
    exact h v I' H' [] g (Rp.ow (RB.ofFlat vr.rt hf) hf n) .nil
  · rw [if_neg hf] at h
    exact h.elim

variable {a b : Expr} {ka kb k : Option Nat} {f g : Env → Res D}
theorem seq1 {ta : TE} {I : Addr → Prop} {S : Nat → List Addr} {ρ : Env} {σ : L2.St} {H : Hp} {α : Type} {P : α → Prop} {h : D → Res α}
    (ha : ∀ I S ρ σ H Q, ER X.K I Γ ρ σ H S → PX X.K X.mg E I H (SU S) (PV X I H ka Q) (f ρ) → ta σ H Q) (R : ER X.K I Γ ρ σ H S) (hh : PX X.K X.mg E I H (SU S) P (f ρ >>= h)) {Q : VK}
    (hq : ∀ d x I1 H1 T1, f ρ = .ok d → PX X.K X.mg E I H (SU S) P (h d) → Gr I H I1 H1 → VR X.K I1 H1 ka T1 x d → New I H I1 T1 → ER X.K I1 Γ ρ σ H1 S → Q x H1) : ta σ H Q :=
  ha I S ρ σ H Q R (PX.imp (PX.bnd hh) fun d _ ⟨e, q⟩ x I1 H1 T1 g1 v1 n1 => hq d x I1 H1 T1 e q g1 v1 n1 (R.grow g1))
/-- an operator of two values -/
def V2 (X : Cx) (r : R2) (fr : Bool) (sem : D → D → Res D) (k : Option Nat) : Prop :=
  (∀ d e c v, sem d e ≠ .exc c v) ∧ ∀ (I : Addr → Prop) (H : Hp) (x y : V) (d e z : D) (Q : VK), (∀ a, I a → H a ≠ none) → RB fr X.K I H x d → RB fr X.K I H y e → sem d e = .ok z → PV X I H k Q z → r x y H Q
def d2 (sem : D → D → Res D) (f g : Env → Res D) : Env → Res D := fun ρ => f ρ >>= fun d => g ρ >>= fun e => sem d e
theorem two {ta tb : TE} {sem : D → D → Res D} {fr : Bool} {I : Addr → Prop} {S : Nat → List Addr} {ρ : Env} {σ : L2.St} {H : Hp} {Q : VK}
    (ha : ∀ I S ρ σ H Q, ER X.K I Γ ρ σ H S → PX X.K X.mg E I H (SU S) (PV X I H ka Q) (f ρ) → ta σ H Q) (hb : ∀ I S ρ σ H Q, ER X.K I Γ ρ σ H S → PX X.K X.mg E I H (SU S) (PV X I H kb Q) (g ρ) → tb σ H Q)
    (hka : fr = true → ka ≠ none) (hkb : fr = true → kb ≠ none) {r : R2} (v2 : V2 X r fr sem k)
    (R : ER X.K I Γ ρ σ H S) (h : PX X.K X.mg E I H (SU S) (PV X I H k Q) (d2 sem f g ρ)) : ta σ H fun x H1 => tb σ H1 fun y H2 => r x y H2 Q := by
  refine seq1 ha R h fun d x I1 H1 T1 e1 h1 g1 w1 n1 R1 => ?_
  refine seq1 hb R1 (PX.later (P' := PV X I H k Q) h1 (g1.evo R.trk) fun _ _ z => z) fun e y I2 H2 T2 e2 h2 g2 w2 n2 R2 => ?_
  cases e3 : sem d e with
  | bad => rw [e3] at h2; exact h2.elim
  | exc c d' => exact (v2.1 _ _ _ _ e3).elim
  | ok z =>
    rw [e3] at h2
    have g12 := g1.trans g2
    have g3 := (g12.fz fun a m => ⟨n1.free a m, g2.there (w1.nodes a m).ne⟩).fz fun a m => ⟨g1.free (n2.free a m), (w2.nodes a m).ne⟩
    refine v2.2 (fz (fz I2 T1) T2) H2 x y d e z Q (fun a q => q.elim (fun q => q.elim (R2.tr a) fun m => g2.there (w1.nodes a m).ne) fun m => (w2.nodes a m).ne) ?_ ?_ e3 fun v I' H' T g vr nw => h2 v I' H' T (g3.trans g) vr (nw.ahead g3)
    · exact RB.later (w1.rb hka) (fun a q => q.elim (fun q => .inl (.inl (g2.sub a q))) fun m => .inl (.inr m)) g2.kp
    · exact RB.later (w2.rb hkb) (fun a q => q.elim (fun q => .inl (.inl q)) fun m => .inr m) fun _ _ q _ => q
/-- a op b -/
theorem dp_op {op : Operator} {r : R2} {fr : Bool} {sem : D → D → Res D} (ho : OpR X (binaryOp op) r) (v2 : V2 X r fr sem k) (ha : DP X E Γ a ka f) (hb : DP X E Γ b kb g) (hka : fr = true → ka ≠ none := by decide) (hkb : fr = true → kb ≠ none := by decide) :
    DP X E Γ (.BinOp a op b pos) k (d2 sem f g) := by
  obtain ⟨ta, pa, qa⟩ := ha.ex
  obtain ⟨tb, pb, qb⟩ := hb.ex
  exact ⟨_, pe_op ho pa pb, fun I S ρ σ H Q R h => two qa qb hka hkb v2 R h⟩
/-- a comparison -/
theorem dp_cmp {op : CmpOp} {r : R2} {fr : Bool} {sem : D → D → Res D} (ho : OpR X (compareOp op) r) (v2 : V2 X r fr sem k) (ha : DP X E Γ a ka f) (hb : DP X E Γ b kb g) (hm : behindInMarks op b = false) (hka : fr = true → ka ≠ none := by decide) (hkb : fr = true → kb ≠ none := by decide) :
    DP X E Γ (.Compare a [op] [b] pos) k (d2 sem f g) := by
  obtain ⟨ta, pa, qa⟩ := ha.ex
  obtain ⟨tb, pb, qb⟩ := hb.ex
  exact ⟨_, pe_cmpR ho pa pb hm, fun I S ρ σ H Q R h => two qa qb hka hkb v2 R h⟩
/-- a[b] -/
theorem dp_ix {r : R2} {fr : Bool} {sem : D → D → Res D} (ho : IxR X r) (v2 : V2 X r fr sem k) (ha : DP X E Γ a ka f) (hb : DP X E Γ b kb g) (hm : PlainIx b := by intro _ _; rfl) (hka : fr = true → ka ≠ none := by decide) (hkb : fr = true → kb ≠ none := by decide) :
    DP X E Γ (.Subscript a b pos) k (d2 sem f g) := by
  obtain ⟨ta, pa, qa⟩ := ha.ex
  obtain ⟨tb, pb, qb⟩ := hb.ex
  exact ⟨_, pe_ix ho pa pb hm, fun I S ρ σ H Q R h => two qa qb hka hkb v2 R h⟩
/-- arguments -/
def dNil : Env → Res (List D) := fun _ => .ok []
def dCons (f : Env → Res D) (g : Env → Res (List D)) : Env → Res (List D) := fun ρ => f ρ >>= fun d => g ρ >>= fun ds => .ok (d :: ds)
theorem da_nil {fr : Bool} : DA X E Γ [] fr dNil := ⟨tNil, pa_nil, fun I S ρ σ H Q R h => h [] I H .refl .nil⟩
theorem da_cons {fr : Bool} {e : Expr} {es : List Expr} {gs : Env → Res (List D)} (ha : DP X E Γ e ka f) (hb : DA X E Γ es fr gs) (hk : fr = true → ka ≠ none := by decide) (hs : starEach (e :: es) X.env = (false, eval e X.env) :: starEach es X.env := by rfl) :
    DA X E Γ (e :: es) fr (dCons f gs) := by
  obtain ⟨ta, pa, qa⟩ := ha.ex
  obtain ⟨tb, pb, qb⟩ := hb.ex
  refine ⟨_, pa_cons pa pb hs, fun I S ρ σ H Q R h => ?_⟩
  refine seq1 qa R h fun d x I1 H1 T1 e1 h1 g1 w1 n1 R1 => ?_
  refine qb I1 S ρ σ H1 _ R1 (PX.later (PX.bnd h1) (g1.evo R.trk) fun ds _ ⟨e2, h2⟩ => ?_)
  intro vs I' H' g2 r2
  have g3 := (g1.trans g2).fz fun a m => ⟨n1.free a m, g2.there (w1.nodes a m).ne⟩
  exact h2 (x :: vs) _ H' g3 (.cons (RB.later (w1.rb hk) (fun a q => q.elim (fun q => .inl (g2.sub a q)) fun m => .inr m) g2.kp) (RBA.later r2 (fun a q => .inl q) fun _ _ q _ => q))
/-- a built-in call -/
def VN (X : Cx) (r : List V → Hp → VK → Prop) (fr : Bool) (sem : List D → Res D) (k : Option Nat) : Prop :=
  (∀ ds c v, sem ds ≠ .exc c v) ∧ ∀ (I : Addr → Prop) (H : Hp) (xs : List V) (ds : List D) (z : D) (Q : VK), (∀ a, I a → H a ≠ none) → RBA fr X.K I H xs ds → sem ds = .ok z → PV X I H k Q z → r xs H Q
def dN (sem : List D → Res D) (gs : Env → Res (List D)) : Env → Res D := fun ρ => gs ρ >>= sem
theorem many {fr : Bool} {ta : TA} {gs : Env → Res (List D)} {r : List V → Hp → VK → Prop} {sem : List D → Res D} {I : Addr → Prop} {S : Nat → List Addr} {ρ : Env} {σ : L2.St} {H : Hp} {Q : VK}
    (qa : ∀ I S ρ σ H Q, ER X.K I Γ ρ σ H S → PX X.K X.mg E I H (SU S) (fun ds => ∀ vs I' H', Gr I H I' H' → RBA fr X.K I' H' vs ds → Q vs H') (gs ρ) → ta σ H Q) (vn : VN X r fr sem k)
    (R : ER X.K I Γ ρ σ H S) (h : PX X.K X.mg E I H (SU S) (PV X I H k Q) (dN sem gs ρ)) : ta σ H fun vs H1 => r vs H1 Q := by
  refine qa I S ρ σ H _ R (PX.imp (PX.bnd h) fun ds _ ⟨e, h1⟩ => ?_)
  intro vs I1 H1 g1 r1
  cases e3 : sem ds with
  | bad => rw [e3] at h1; exact h1.elim
  | exc c d' => exact (vn.1 _ _ _ e3).elim
  | ok z =>
    rw [e3] at h1
    exact vn.2 I1 H1 vs ds z Q (R.grow g1).tr r1 e3 fun v I' H' T g vr nw => h1 v I' H' T (g1.trans g) vr (nw.ahead g1)
theorem dp_callB {x : Str} {p : Pos} {id : String} {fr : Bool} {e : Expr} {es : List Expr} {r : List V → Hp → VK → Prop} {sem : List D → Res D} {gs : Env → Res (List D)} (hc : CallR X (.builtin id) r) (vn : VN X r fr sem k) (hg : Gl X x) (hm : X.mg x = none)
    (hv : bootBuiltins x = some (.builtin id)) (ha : DA X E Γ (e :: es) fr gs) (hn : x ≠ "__name__" := by decide) (hdb : (x == ("__debug__" : Str)) = false := by decide)
    (he : starEach (e :: es) X.env = (false, eval e X.env) :: starEach es X.env := by rfl) (hpl : (backTo pos (starEach es X.env)).any (·.1) = false := by rfl) : DP X E Γ (.Call (.Name x p) (e :: es) [] pos) k (dN sem gs) := by
  obtain ⟨ta, pa, qa⟩ := ha.ex
  exact ⟨_, pe_callB hc hg hm hv pa hn hdb he hpl, fun I S ρ σ H Q R h => many qa vn R h⟩
theorem dp_callTy {x : Str} {p : Pos} {T : String} {fr : Bool} {e : Expr} {es : List Expr} {r : List V → Hp → VK → Prop} {sem : List D → Res D} {gs : Env → Res (List D)} (hc : CallR X (.type T) r) (vn : VN X r fr sem k) (hg : Gl X x) (hm : X.mg x = none)
    (hv : bootBuiltins x = some (.type T)) (ha : DA X E Γ (e :: es) fr gs) (hn : x ≠ "__name__" := by decide) (hdb : (x == ("__debug__" : Str)) = false := by decide)
    (he : starEach (e :: es) X.env = (false, eval e X.env) :: starEach es X.env := by rfl) (hpl : (backTo pos (starEach es X.env)).any (·.1) = false := by rfl) : DP X E Γ (.Call (.Name x p) (e :: es) [] pos) k (dN sem gs) := by
  obtain ⟨ta, pa, qa⟩ := ha.ex
  exact ⟨_, pe_callTy hc hg hm hv pa hn hdb he hpl, fun I S ρ σ H Q R h => many qa vn R h⟩
/-- a, b: a tuple; [a, b]: a list; of shared items -/
def dLim (n : Nat) (d : D) : Res D := if n ≤ 16777216 then .ok d else .bad
theorem lim_ok {n : Nat} {d z : D} (h : dLim n d = .ok z) : n ≤ sizeLine ∧ d = z := by
  unfold dLim at h
  split at h
  · rename_i q
    exact ⟨by rw [sizeLine_eq]; exact q, Res.ok.inj h⟩
  · cases h
theorem lim_px {I S : Addr → Prop} {H : Hp} {P : D → Prop} {n : Nat} {d : D} (h : PX X.K X.mg E I H S P (dLim n d)) : n ≤ sizeLine ∧ P d := by
  unfold dLim at h
  split at h
  · rename_i q
    exact ⟨by rw [sizeLine_eq]; exact q, h⟩
  · exact h.elim
def dTup (gs : Env → Res (List D)) : Env → Res D := fun ρ => gs ρ >>= fun ds => dLim ds.length (.tuple ds)
def dLst (gs : Env → Res (List D)) : Env → Res D := fun ρ => gs ρ >>= fun ds => dLim ds.length (.list ds)
theorem dp_tup {es : List Expr} {gs : Env → Res (List D)} {x1 : Nat} (ha : DA X E Γ es true gs) : DP X E Γ (.Tuple es x1 pos) (some 0) (dTup gs) := by
  obtain ⟨ta, pa, qa⟩ := ha.ex
  refine ⟨_, pe_tup pa, fun I S ρ σ H Q R h => ?_⟩
  refine qa I S ρ σ H _ R (PX.imp (PX.bnd h) fun ds _ ⟨e, h1⟩ => ?_)
  intro vs I1 H1 g1 r1
  obtain ⟨hz, h1⟩ := lim_px h1
  have hz : vs.length ≤ sizeLine := by rw [r1.len]; exact hz
  refine ⟨hz, fun p hp => ?_⟩
  refine h1 (.ref p) _ _ [] (g1.trans (Gr.layI hp)) (.sh (.tup (.inl ⟨.inr (List.mem_singleton.mpr rfl), upd_same⟩) hz ?_)) .nil
  exact r1.rp.mono (fun a q => .inl q) fun a o _ q _ => upd_keep hp a o q
theorem dp_lst {es : List Expr} {gs : Env → Res (List D)} (ha : DA X E Γ es true gs) : DP X E Γ (.List es pos) (some 1) (dLst gs) := by
  obtain ⟨ta, pa, qa⟩ := ha.ex
  refine ⟨_, pe_lst pa, fun I S ρ σ H Q R h => ?_⟩
  refine qa I S ρ σ H _ R (PX.imp (PX.bnd h) fun ds _ ⟨e, h1⟩ => ?_)
  intro vs I1 H1 g1 r1
  obtain ⟨hz, h1⟩ := lim_px h1
  have hz : vs.length ≤ sizeLine := by rw [r1.len]; exact hz
  refine ⟨hz, fun p hp => ?_⟩
  refine h1 (.ref p) I1 _ [p] (g1.trans (Gr.lay hp)) (.lst upd_same hz ((r1.rp.mono (fun a q => q) fun a o _ q _ => upd_keep hp a o q).owA0)) ⟨fun a m => ?_, fun a m q => ?_, ?_⟩
  · rw [List.mem_singleton.mp m]; exact g1.free hp
  · rw [List.mem_singleton.mp m] at q
    exact (R.grow g1).tr p q hp
  · simp
end
end DL

namespace DL
open PySem PySem.Spec PyProof.Rows L2

section
variable [Wd] {X : Cx} {fr : Bool} {k : Option Nat} {I : Addr → Prop} {H : Hp} {Q : VK}
theorem pv_at {v : V} {d : D} (a : At v d) (q : PV X I H k Q d) : Q v H := q v I H [] .refl (a.vr k) .nil
theorem pv_rb {v : V} {d : D} (r : RB fr X.K I H v d) (q : PV X I H (if fr then some 0 else none) Q d) : Q v H := by
  cases fr with
  | true => exact q v I H [] .refl (.sh (RB.rp r)) .nil
  | false => exact q v I H [] .refl ⟨rfl, r⟩ .nil
theorem pv_list {p : Addr} {xs : List V} {ds : List D} (hI : ∀ a, I a → H a ≠ none) (hp : H p = none) (r : RpA X.K I H xs ds) (hz : xs.length ≤ sizeLine) (q : PV X I H (some 1) Q (.list ds)) : Q (.ref p) (upd H p (.lst xs)) := by
  refine q (.ref p) I _ [p] (Gr.lay hp) (.lst upd_same hz ((r.mono (fun a q => q) fun a o _ q _ => upd_keep hp a o q).owA0)) ⟨fun a m => ?_, fun a m q => ?_, by simp⟩
  · rw [List.mem_singleton.mp m]; exact hp
  · rw [List.mem_singleton.mp m] at q
    exact hI p q hp
theorem pv_tup {p : Addr} {xs : List V} {ds : List D} (hp : H p = none) (r : RpA X.K I H xs ds) (hz : xs.length ≤ sizeLine) (q : PV X I H (some 0) Q (.tuple ds)) : Q (.ref p) (upd H p (.tup xs)) :=
  q (.ref p) _ _ [] (Gr.layI hp) (.sh (.tup (.inl ⟨.inr (List.mem_singleton.mpr rfl), upd_same⟩) hz (r.mono (fun a q => .inl q) fun a o _ q _ => upd_keep hp a o q))) .nil
/-- an operator's answer by a pure function on atoms -/
theorem RB.int {v : V} {i : Int} (h : RB fr X.K I H v (.int i)) : v = .int i := by cases h; rfl
theorem RB.bool {v : V} {i : Bool} (h : RB fr X.K I H v (.bool i)) : v = .bl i := by cases h; rfl
theorem RB.str {v : V} {i : Str} (h : RB fr X.K I H v (.str i)) : v = .str i := by cases h; rfl
theorem RB.none {v : V} (h : RB fr X.K I H v .none) : v = .non := by cases h; rfl

def iOp (g : Int → Int → Res D) : D → D → Res D
  | .int i, .int j => g i j
  | _, _ => .bad
theorem v2_int {C : Int → Int → Prop} {g : Int → Int → V} {s : Int → Int → Res D} (hx : ∀ i j c v, s i j ≠ .exc c v) (h : ∀ i j z, s i j = .ok z → C i j ∧ At (g i j) z) : V2 X (rI C g) fr (iOp s) k := by
  refine ⟨fun d e c v => ?_, fun I H x y d e z Q hI rx ry hs q => ?_⟩
  · cases d <;> cases e <;> first | exact hx _ _ c v | exact fun z => nomatch z
  · cases d <;> cases e <;> first | (cases hs; done) | skip
    rename_i i j
    obtain ⟨h1, h2⟩ := h i j z hs
    exact ⟨i, j, rx.int, ry.int, h1, pv_at h2 q⟩
theorem v2_int0 {g : Int → Int → V} {s : Int → Int → D} (h : ∀ i j, At (g i j) (s i j)) : V2 X (rI0 g) fr (iOp fun i j => .ok (s i j)) k := by
  refine ⟨fun d e c v => ?_, fun I H x y d e z Q hI rx ry hs q => ?_⟩
  · cases d <;> cases e <;> exact fun z => nomatch z
  · cases d <;> cases e <;> first | (cases hs; done) | skip
    rename_i i j
    cases hs
    exact ⟨i, j, rx.int, ry.int, pv_at (h i j) q⟩
abbrev small (i : Int) : Bool := decide (-(2 ^ 64) < i) && decide (i < 2 ^ 64)
theorem small_iff {i : Int} : small i = true ↔ -(2 ^ 64) < i ∧ i < 2 ^ 64 := by unfold small; rw [Bool.and_eq_true, decide_eq_true_eq, decide_eq_true_eq]
def dSub : D → D → Res D := iOp fun i j => .ok (.int (i - j))
theorem v2_sub : V2 X (rI0 fun i j => .int (i - j)) fr dSub k := v2_int0 fun i j => .int _
def iMul (i j : Int) : Res D := if small i || small j then .ok (.int (i * j)) else .bad
/-- a list so many times -/
def dMul : D → D → Res D
  | .int i, .int j => iMul i j
  | .list xs, .int j => if xs.length * j.toNat ≤ 16777216 ∧ j < 2 ^ 62 ∧ -(2 ^ 62) < j then .ok (.list (List.replicate j.toNat xs).flatten) else .bad
  | _, _ => .bad
theorem flatten_rep {vs : List V} {ds : List D} (r : RpA X.K I H vs ds) : ∀ n, RpA X.K I H (List.replicate n vs).flatten (List.replicate n ds).flatten
  | 0 => .nil
  | n + 1 => by
    rw [List.replicate_succ, List.replicate_succ, List.flatten_cons, List.flatten_cons]
    exact r.append (flatten_rep r n)
theorem len_flatten {α : Type} (n : Nat) (vs : List α) : (List.replicate n vs).flatten.length = n * vs.length := by simp
theorem op_mulA : OpR X (binaryOp .Mult) (fun x y H Q => rI CMul (fun i j => .int (i * j)) x y H Q ∨ rRep x y H Q) := OpR.or op_mul op_rep
theorem v2_mul : V2 X (fun x y H Q => rI CMul (fun i j => .int (i * j)) x y H Q ∨ rRep x y H Q) true dMul (some 1) := by
  refine ⟨fun d e c v => ?_, fun I H x y d e z Q hI rx ry hs q => ?_⟩
  · unfold dMul iMul
    split <;> first | (split <;> exact fun z => nomatch z) | exact fun z => nomatch z
  · cases d <;> cases e <;> first | (cases hs; done) | skip
    · rename_i i j
      have hs : iMul i j = .ok z := hs
      unfold iMul at hs
      split at hs
      · rename_i hc
        cases hs
        rw [Bool.or_eq_true, small_iff, small_iff] at hc
        exact .inl ⟨i, j, rx.int, ry.int, hc, pv_at (.int _) q⟩
      · cases hs
    · rename_i xs j
      have hs : (if xs.length * j.toNat ≤ 16777216 ∧ j < 2 ^ 62 ∧ -(2 ^ 62) < j then Res.ok (PyData.list (List.replicate j.toNat xs).flatten) else .bad) = .ok z := hs
      split at hs
      · rename_i hc
        cases hs
        cases rx with
        | lst i h z r =>
          have hl := r.len
          have rr := RBA.rp r
          refine .inr ⟨_, j, _, rfl, ry.int, h, by omega, by omega, by rw [hl, sizeLine_eq]; exact hc.1, fun p hp => ?_⟩
          exact pv_list hI hp (flatten_rep rr _) (by rw [len_flatten, hl, sizeLine_eq, Nat.mul_comm]; exact hc.1) q
      · cases hs
/-- floor division, rest -/
def dDiv : D → D → Res D := iOp fun i j => if j ≠ 0 ∧ j.natAbs < 1073741824 then .ok (.int (i.fdiv j)) else .bad
theorem v2_div : V2 X (rI CDivN fun i j => .int (i.fdiv j)) fr dDiv k := v2_int (fun i j c v => by split <;> exact fun z => nomatch z) fun i j z h => by
  split at h
  · rename_i hc
    cases h
    exact ⟨hc, .int _⟩
  · cases h
def dMod : D → D → Res D := iOp fun i j => if j ≠ 0 then .ok (.int (i.fmod j)) else .bad
theorem v2_mod : V2 X (rI (fun _ j => j ≠ 0) fun i j => .int (i.fmod j)) fr dMod k := v2_int (fun i j c v => by split <;> exact fun z => nomatch z) fun i j z h => by
  split at h
  · rename_i hc
    cases h
    exact ⟨hc, .int _⟩
  · cases h
def dPow : D → D → Res D := iOp fun i j => if (0 ≤ j ∧ j ≤ 1000) ∧ i.natAbs < 2 ^ 64 then .ok (.int (i ^ j.toNat)) else .bad
theorem v2_pow : V2 X (rI CPow fun i j => .int (i ^ j.toNat)) fr dPow k := v2_int (fun i j c v => by split <;> exact fun z => nomatch z) fun i j z h => by
  split at h
  · rename_i hc
    cases h
    exact ⟨⟨hc.1.1, by omega, hc.2⟩, .int _⟩
  · cases h
/-- +: ints, texts, lists -/
def dAdd : D → D → Res D
  | .int i, .int j => .ok (.int (i + j))
  | .str x, .str y => if x.length + y.length ≤ 16777216 then .ok (.str (x ++ y)) else .bad
  | .list xs, .list ys => dLim (xs.length + ys.length) (.list (xs ++ ys))
  | _, _ => .bad
abbrev rAddS : R2 := fun x y H Q => ∃ i j, x = .str i ∧ y = .str j ∧ i.length + j.length ≤ sizeLine ∧ Q (.str (i ++ j)) H
theorem op_addA : OpR X (binaryOp .Add) (fun x y H Q => (rI0 (fun i j => .int (i + j)) x y H Q ∨ rAddS x y H Q) ∨ rCat x y H Q) := OpR.or (OpR.or op_add op_add_str) op_cat
theorem v2_add : V2 X (fun x y H Q => (rI0 (fun i j => .int (i + j)) x y H Q ∨ rAddS x y H Q) ∨ rCat x y H Q) true dAdd (some 1) := by
  refine ⟨fun d e c v => ?_, fun I H x y d e z Q hI rx ry hs q => ?_⟩
  · unfold dAdd dLim
    split <;> first | (split <;> exact fun z => nomatch z) | exact fun z => nomatch z
  · cases d <;> cases e <;> first | (cases hs; done) | skip
    · rename_i i j
      cases hs
      exact .inl (.inl ⟨i, j, rx.int, ry.int, pv_at (.int _) q⟩)
    · rename_i i j
      have hs : (if i.length + j.length ≤ 16777216 then Res.ok (PyData.str (i ++ j)) else .bad) = .ok z := hs
      split at hs
      · rename_i hc
        cases hs
        exact .inl (.inr ⟨i, j, rx.str, ry.str, by rw [sizeLine_eq]; exact hc, pv_at (.str _) q⟩)
      · cases hs
    · rename_i xs ys
      obtain ⟨hz, rfl⟩ := lim_ok (show dLim (xs.length + ys.length) (.list (xs ++ ys)) = .ok z from hs)
      cases rx with
      | lst i h z r =>
        cases ry with
        | lst i' h' z' r' =>
          refine .inr ⟨_, _, _, _, rfl, rfl, h, h', by rw [r.len, r'.len]; exact hz, fun p hp => ?_⟩
          exact pv_list hI hp ((RBA.rp r).append (RBA.rp r')) (by rw [List.length_append, r.len, r'.len]; exact hz) q
def dLt : D → D → Res D := iOp fun i j => .ok (.bool (decide (i < j)))
def dLe : D → D → Res D := iOp fun i j => .ok (.bool (decide (i ≤ j)))
def dGt : D → D → Res D := iOp fun i j => .ok (.bool (decide (j < i)))
def dGe : D → D → Res D := iOp fun i j => .ok (.bool (decide (j ≤ i)))
theorem v2_lt : V2 X (rI0 fun i j => .bl (decide (i < j))) fr dLt k := v2_int0 fun i j => .bl _
theorem v2_le : V2 X (rI0 fun i j => .bl (decide (i ≤ j))) fr dLe k := v2_int0 fun i j => .bl _
theorem v2_gt : V2 X (rI0 fun i j => .bl (decide (j < i))) fr dGt k := v2_int0 fun i j => .bl _
theorem v2_ge : V2 X (rI0 fun i j => .bl (decide (j ≤ i))) fr dGe k := v2_int0 fun i j => .bl _
mutual
theorem Rp.dp {K : PySem.W.Frag} {J : Addr → Prop} {v : V} {d : D} : Rp K J H v d → d.canLay0 = true → Dp K H v d
  | .non, _ => .non
  | .bl b, _ => .bl b
  | .int i, _ => .int i
  | .str x, _ => .str x
  | .lst _ h _ r, c => .lst (.inl (.inl h)) (RpA.dp r (by simpa [PyData.canLay0] using c))
  | .tup h _ r, c => .tup (KT.sq h) (RpA.dp r (by simpa [PyData.canLay0] using c))
  | .dK _ _ _, c => by simp [PyData.canLay0] at c
  | .dT _ _ _, c => by simp [PyData.canLay0] at c
theorem RpA.dp {K : PySem.W.Frag} {J : Addr → Prop} {vs : List V} {ds : List D} : RpA K J H vs ds → PyData.canLayAll0 ds = true → DpAll K H vs ds
  | .nil, _ => .nil
  | .cons h r, c => by
    simp only [PyData.canLayAll0, Bool.and_eq_true] at c
    exact .cons (Rp.dp h c.1) (RpA.dp r c.2)
end
def dEq (d e : D) : Res D := if SeqAt.shaped d && SeqAt.shaped e then .ok (.bool (PyData.eqv d e)) else .bad
def dNe (d e : D) : Res D := if SeqAt.shaped d && SeqAt.shaped e then .ok (.bool (!PyData.eqv d e)) else .bad
theorem v2_eq : V2 X (rEqD X.K) fr dEq k := by
  refine ⟨fun d e c v => by unfold dEq; split <;> exact (fun z => nomatch z), fun I H x y d e z Q hI rx ry hs q => ?_⟩
  unfold dEq at hs
  split at hs
  · rename_i hc
    cases hs
    rw [Bool.and_eq_true] at hc
    exact ⟨d, e, rx.dp (SeqAt.canLay_of_shaped hc.1), ry.dp (SeqAt.canLay_of_shaped hc.2), hc.1, hc.2, pv_at (.bl _) q⟩
  · cases hs
theorem v2_ne : V2 X (rNeD X.K) fr dNe k := by
  refine ⟨fun d e c v => by unfold dNe; split <;> exact (fun z => nomatch z), fun I H x y d e z Q hI rx ry hs q => ?_⟩
  unfold dNe at hs
  split at hs
  · rename_i hc
    cases hs
    rw [Bool.and_eq_true] at hc
    exact ⟨d, e, rx.dp (SeqAt.canLay_of_shaped hc.1), ry.dp (SeqAt.canLay_of_shaped hc.2), hc.1, hc.2, pv_at (.bl _) q⟩
  · cases hs
/-- x in a list -/
def dIn : D → D → Res D
  | d, .list ds => if SeqAt.shaped d && SeqAt.shaped (.list ds) then .ok (.bool (ds.any fun z => PyData.eqv z d)) else .bad
  | _, _ => .bad
def dNotIn : D → D → Res D
  | d, .list ds => if SeqAt.shaped d && SeqAt.shaped (.list ds) then .ok (.bool (!ds.any fun z => PyData.eqv z d)) else .bad
  | _, _ => .bad
theorem v2_in : V2 X (rInD X.K) fr dIn k := by
  refine ⟨fun d e c v => by unfold dIn; split <;> first | (split <;> exact fun z => nomatch z) | exact (fun z => nomatch z), fun I H x y d e z Q hI rx ry hs q => ?_⟩
  cases e with
  | list ds =>
    have hs : (if SeqAt.shaped d && SeqAt.shaped (.list ds) then Res.ok (PyData.bool (ds.any fun z => PyData.eqv z d)) else .bad) = .ok z := hs
    split at hs
    · rename_i hc
      cases hs
      rw [Bool.and_eq_true] at hc
      exact ⟨d, ds, rx.dp (SeqAt.canLay_of_shaped hc.1), ry.dp (SeqAt.canLay_of_shaped hc.2), hc.1, hc.2, pv_at (.bl _) q⟩
    · cases hs
  | _ => cases d <;> cases hs
theorem v2_notIn : V2 X (rNotInD X.K) fr dNotIn k := by
  refine ⟨fun d e c v => by unfold dNotIn; split <;> first | (split <;> exact fun z => nomatch z) | exact (fun z => nomatch z), fun I H x y d e z Q hI rx ry hs q => ?_⟩
  cases e with
  | list ds =>
    have hs : (if SeqAt.shaped d && SeqAt.shaped (.list ds) then Res.ok (PyData.bool (!ds.any fun z => PyData.eqv z d)) else .bad) = .ok z := hs
    split at hs
    · rename_i hc
      cases hs
      rw [Bool.and_eq_true] at hc
      exact ⟨d, ds, rx.dp (SeqAt.canLay_of_shaped hc.1), ry.dp (SeqAt.canLay_of_shaped hc.2), hc.1, hc.2, pv_at (.bl _) q⟩
    · cases hs
  | _ => cases d <;> cases hs
def isN : D → Bool
  | .none => true
  | _ => false
theorem isN_of {K : PySem.W.Frag} {J : Addr → Prop} {v : V} {d : D} (h : Rp K J H v d) : decide (v = .non) = isN d := by cases h <;> rfl
def dIsN : D → D → Res D
  | d, .none => .ok (.bool (isN d))
  | _, _ => .bad
def dNotN : D → D → Res D
  | d, .none => .ok (.bool (!isN d))
  | _, _ => .bad
abbrev rIsNone : R2 := fun x y H Q => y = .non ∧ Q (.bl (decide (x = .non))) H
abbrev rNotNone : R2 := fun x y H Q => y = .non ∧ Q (.bl (!decide (x = .non))) H
theorem v2_isN : V2 X rIsNone fr dIsN k := by
  refine ⟨fun d e c v => by unfold dIsN; split <;> exact (fun z => nomatch z), fun I H x y d e z Q hI rx ry hs q => ?_⟩
  cases e with
  | none =>
    cases hs
    exact ⟨ry.none, by rw [isN_of rx]; exact pv_at (.bl _) q⟩
  | _ => cases d <;> cases hs
theorem v2_notN : V2 X rNotNone fr dNotN k := by
  refine ⟨fun d e c v => by unfold dNotN; split <;> exact (fun z => nomatch z), fun I H x y d e z Q hI rx ry hs q => ?_⟩
  cases e with
  | none =>
    cases hs
    exact ⟨ry.none, by rw [isN_of rx]; exact pv_at (.bl _) q⟩
  | _ => cases d <;> cases hs
def resO {α : Type} : Option α → Res α
  | some a => .ok a
  | none => .bad
theorem resO_nx {α : Type} {o : Option α} {c : Str} {v : D} : resO o ≠ .exc c v := by cases o <;> exact fun z => nomatch z
def dIx : D → D → Res D
  | .list xs, .int i => resO (atI xs i)
  | .tuple xs, .int i => resO (atI xs i)
  | .str z, .int i => if z.length ≤ 16777216 then resO ((atI z.cps.toList i).map fun c => .str ⟨#[c]⟩) else .bad
  | _, _ => .bad
theorem ix_any : IxR X (fun x y H Q => (rIxL X.K x y H Q ∨ rIxT X.K x y H Q) ∨ rIxS x y H Q) := IxR.or (IxR.or ix_list ix_tup) ix_str
theorem atI_rp {K : PySem.W.Frag} {J : Addr → Prop} {vs : List V} {ds : List D} (r : RpA K J H vs ds) {i : Int} {d : D} (h : atI ds i = some d) : ∃ v, atI vs i = some v ∧ Rp K J H v d := by
  unfold atI at h ⊢
  rw [r.len]
  cases e : ixN ds.length i with
  | none => rw [e] at h; cases h
  | some j =>
    rw [e] at h
    exact r.get h
theorem v2_ix : V2 X (fun x y H Q => (rIxL X.K x y H Q ∨ rIxT X.K x y H Q) ∨ rIxS x y H Q) fr dIx (if fr then some 0 else none) := by
  refine ⟨fun d e c v => ?_, fun I H x y d e z Q hI rx ry hs q => ?_⟩
  · unfold dIx
    split
    · exact resO_nx
    · exact resO_nx
    · split
      · exact resO_nx
      · exact fun z => nomatch z
    · exact fun z => nomatch z
  · cases d <;> cases e <;> first | (cases hs; done) | skip
    · rename_i s i
      have hs : (if s.length ≤ 16777216 then resO ((atI s.cps.toList i).map fun c => PyData.str ⟨#[c]⟩) else .bad) = .ok z := hs
      split at hs
      · rename_i hc
        cases e : atI s.cps.toList i with
        | none => rw [e] at hs; cases hs
        | some c =>
          rw [e] at hs
          cases hs
          exact .inr ⟨s, i, c, rx.str, ry.int, by rw [sizeLine_eq]; exact hc, e, pv_at (.str _) q⟩
      · cases hs
    · rename_i xs i
      have hs : resO (atI xs i) = .ok z := hs
      cases e : atI xs i with
      | none => rw [e] at hs; cases hs
      | some w =>
        rw [e] at hs
        cases hs
        cases rx with
        | lst i' h' z' r' =>
          obtain ⟨v, e1, e2⟩ := atI_rp r' e
          exact .inl (.inl ⟨_, _, i, v, rfl, ry.int, .inl (.inl h'), e1, pv_rb e2 q⟩)
    · rename_i xs i
      have hs : resO (atI xs i) = .ok z := hs
      cases e : atI xs i with
      | none => rw [e] at hs; cases hs
      | some w =>
        rw [e] at hs
        cases hs
        cases rx with
        | tup h' z' r' =>
          obtain ⟨v, e1, e2⟩ := atI_rp r' e
          exact .inl (.inr ⟨_, _, i, v, rfl, ry.int, KT.sq h', e1, pv_rb e2 q⟩)
end
end DL

namespace DL
open PySem PySem.Spec PyProof.Rows L2

section
variable [Wd] {X : Cx} {E : XK} {Γ : List SK} {pos : Pos} {fr : Bool} {k ka kb : Option Nat}
def d1 (g : D → Res D) : List D → Res D
  | [d] => g d
  | _ => .bad
def d12 (g : D → D → Res D) : List D → Res D
  | [d, e] => g d e
  | _ => .bad
theorem vn1 {r : List V → Hp → VK → Prop} {g : D → Res D} (hx : ∀ d c v, g d ≠ .exc c v)
    (h : ∀ (I : Addr → Prop) (H : Hp) (x : V) (d z : D) (Q : VK), (∀ a, I a → H a ≠ none) → RB fr X.K I H x d → g d = .ok z → PV X I H k Q z → r [x] H Q) : VN X r fr (d1 g) k := by
  refine ⟨fun ds c v => ?_, fun I H xs ds z Q hI rx hs q => ?_⟩
  · match ds with
    | [] => exact fun z => nomatch z
    | [d] => exact hx d c v
    | _ :: _ :: _ => exact fun z => nomatch z
  · match ds, rx with
    | [d], .cons r0 .nil => exact h I H _ d z Q hI r0 hs q
theorem vn2 {r : List V → Hp → VK → Prop} {g : D → D → Res D} (hx : ∀ d e c v, g d e ≠ .exc c v)
    (h : ∀ (I : Addr → Prop) (H : Hp) (x y : V) (d e z : D) (Q : VK), (∀ a, I a → H a ≠ none) → RB fr X.K I H x d → RB fr X.K I H y e → g d e = .ok z → PV X I H k Q z → r [x, y] H Q) : VN X r fr (d12 g) k := by
  refine ⟨fun ds c v => ?_, fun I H xs ds z Q hI rx hs q => ?_⟩
  · match ds with
    | [] => exact fun z => nomatch z
    | [d] => exact fun z => nomatch z
    | [d, e] => exact hx d e c v
    | _ :: _ :: _ :: _ => exact fun z => nomatch z
  · match ds, rx with
    | [d, e], .cons r0 (.cons r1 .nil) => exact h I H _ _ d e z Q hI r0 r1 hs q
def dLen : D → Res D
  | .list xs => .ok (.int xs.length)
  | .tuple xs => .ok (.int xs.length)
  | .str x => if x.length ≤ 16777216 then .ok (.int x.length) else .bad
  | _ => .bad
theorem vn_len : VN X (fun xs H Q => ∃ x n, xs = [x] ∧ LenV X.K x H n ∧ Q (.int n) H) fr (d1 dLen) k := by
  refine vn1 (fun d c v => ?_) fun I H x d z Q hI rx hs q => ?_
  · unfold dLen
    split <;> first | (split <;> exact (fun z => nomatch z)) | exact (fun z => nomatch z)
  · cases d with
    | list xs =>
      cases hs
      cases rx with
      | lst i h z r => exact ⟨_, xs.length, rfl, .inl ⟨_, .inl (.inl h), r.len.symm⟩, pv_at (.int _) q⟩
    | tuple xs =>
      cases hs
      cases rx with
      | tup h z r => exact ⟨_, xs.length, rfl, .inr ⟨_, KT.sq h, r.len.symm⟩, pv_at (.int _) q⟩
    | str x =>
      have hs : (if x.length ≤ 16777216 then Res.ok (PyData.int x.length) else .bad) = .ok z := hs
      split at hs
      · rename_i hc
        cases hs
        cases rx
        exact ⟨_, x.length, rfl, ⟨by rw [sizeLine_eq]; exact hc, rfl⟩, pv_at (.int _) q⟩
      · cases hs
    | _ => cases hs
def dInt : D → Res D
  | .int i => .ok (.int i)
  | .bool b => .ok (.int (if b then 1 else 0))
  | _ => .bad
theorem vn_int : VN X (fun xs H Q => (∃ i, xs = [.int i] ∧ Q (.int i) H) ∨ ∃ k, xs = [.bl k] ∧ Q (.int (if k then 1 else 0)) H) fr (d1 dInt) k := by
  refine vn1 (fun d c v => by cases d <;> exact (fun z => nomatch z)) fun I H x d z Q hI rx hs q => ?_
  cases d with
  | int i => cases hs; cases rx; exact .inl ⟨i, rfl, pv_at (.int _) q⟩
  | bool b => cases hs; cases rx; exact .inr ⟨b, rfl, pv_at (.int _) q⟩
  | _ => cases hs
def dAbs : D → Res D
  | .int i => .ok (.int (if i < 0 then -i else i))
  | _ => .bad
theorem vn_abs : VN X (fun xs H Q => ∃ i, xs = [.int i] ∧ Q (.int (if i < 0 then -i else i)) H) fr (d1 dAbs) k := by
  refine vn1 (fun d c v => by cases d <;> exact (fun z => nomatch z)) fun I H x d z Q hI rx hs q => ?_
  cases d with
  | int i => cases hs; cases rx; exact ⟨i, rfl, pv_at (.int _) q⟩
  | _ => cases hs
def dMax2 : D → D → Res D
  | .int i, .int j => .ok (.int (if j > i then j else i))
  | _, _ => .bad
def dMin2 : D → D → Res D
  | .int i, .int j => .ok (.int (if j < i then j else i))
  | _, _ => .bad
theorem vn_max2 : VN X (fun xs H Q => ∃ i j, xs = [.int i, .int j] ∧ Q (.int (if j > i then j else i)) H) fr (d12 dMax2) k := by
  refine vn2 (fun d e c v => by cases d <;> cases e <;> exact (fun z => nomatch z)) fun I H x y d e z Q hI rx ry hs q => ?_
  cases d <;> cases e <;> first | (cases hs; done) | skip
  rename_i i j
  cases hs; cases rx; cases ry
  exact ⟨i, j, rfl, pv_at (.int _) q⟩
theorem vn_min2 : VN X (fun xs H Q => ∃ i j, xs = [.int i, .int j] ∧ Q (.int (if j < i then j else i)) H) fr (d12 dMin2) k := by
  refine vn2 (fun d e c v => by cases d <;> cases e <;> exact (fun z => nomatch z)) fun I H x y d e z Q hI rx ry hs q => ?_
  cases d <;> cases e <;> first | (cases hs; done) | skip
  rename_i i j
  cases hs; cases rx; cases ry
  exact ⟨i, j, rfl, pv_at (.int _) q⟩
def unInts : List D → Option (List Int)
  | [] => some []
  | .int i :: r => (unInts r).map (i :: ·)
  | _ :: _ => none
def unBools : List D → Option (List Bool)
  | [] => some []
  | .bool i :: r => (unBools r).map (i :: ·)
  | _ :: _ => none
theorem unInts_of {K : PySem.W.Frag} {J : Addr → Prop} {H : Hp} : ∀ {ds : List D} {vs : List V} {ns : List Int}, RpA K J H vs ds → unInts ds = some ns → vs = ns.map V.int
  | [], _, _, .nil, h => by cases h; rfl
  | .int i :: r, _, ns, .cons h t, e => by
    cases h
    have e : (unInts r).map (i :: ·) = some ns := e
    cases q : unInts r with
    | none => rw [q] at e; cases e
    | some m => rw [q] at e; cases e; rw [unInts_of t q]; rfl
  | .none :: _, _, _, _, h => nomatch h
  | .bool _ :: _, _, _, _, h => nomatch h
  | .str _ :: _, _, _, _, h => nomatch h
  | .list _ :: _, _, _, _, h => nomatch h
  | .tuple _ :: _, _, _, _, h => nomatch h
  | .dict _ :: _, _, _, _, h => nomatch h
theorem unBools_of {K : PySem.W.Frag} {J : Addr → Prop} {H : Hp} : ∀ {ds : List D} {vs : List V} {ns : List Bool}, RpA K J H vs ds → unBools ds = some ns → vs = ns.map V.bl
  | [], _, _, .nil, h => by cases h; rfl
  | .bool i :: r, _, ns, .cons h t, e => by
    cases h
    have e : (unBools r).map (i :: ·) = some ns := e
    cases q : unBools r with
    | none => rw [q] at e; cases e
    | some m => rw [q] at e; cases e; rw [unBools_of t q]; rfl
  | .none :: _, _, _, _, h => nomatch h
  | .int _ :: _, _, _, _, h => nomatch h
  | .str _ :: _, _, _, _, h => nomatch h
  | .list _ :: _, _, _, _, h => nomatch h
  | .tuple _ :: _, _, _, _, h => nomatch h
  | .dict _ :: _, _, _, _, h => nomatch h
def onInts (g : List Int → Res D) : D → Res D
  | .list xs => match unInts xs with
    | some ns => g ns
    | none => .bad
  | _ => .bad
def onBools (g : List Bool → Res D) : D → Res D
  | .list xs => match unBools xs with
    | some ns => g ns
    | none => .bad
  | _ => .bad
theorem vn_ints {r : List V → Hp → VK → Prop} {g : List Int → Res D} (hx : ∀ d c v, g d ≠ .exc c v)
    (h : ∀ (I : Addr → Prop) (H : Hp) (a : Addr) (ns : List Int) (z : D) (Q : VK), (∀ a, I a → H a ≠ none) → H a = some (.lst (ns.map V.int)) → ns.length ≤ sizeLine → g ns = .ok z → PV X I H k Q z → r [.ref a] H Q) : VN X r fr (d1 (onInts g)) k := by
  refine vn1 (fun d c v => ?_) fun I H x d z Q hI rx hs q => ?_
  · cases d with
    | list xs =>
      show (match unInts xs with | some ns => g ns | none => .bad) ≠ _
      split
      · exact hx _ c v
      · exact (fun z => nomatch z)
    | _ => exact (fun z => nomatch z)
  · cases d with
    | list xs =>
      cases rx with
      | lst i e hz rr =>
        have hs : (match unInts xs with | some ns => g ns | none => .bad) = .ok z := hs
        split at hs
        · rename_i ns hn
          have ev := unInts_of rr hn
          subst ev
          exact h I H _ ns z Q hI e (by rw [List.length_map] at hz; exact hz) hs q
        · cases hs
    | _ => cases hs
theorem vn_bools {r : List V → Hp → VK → Prop} {g : List Bool → Res D} (hx : ∀ d c v, g d ≠ .exc c v)
    (h : ∀ (I : Addr → Prop) (H : Hp) (a : Addr) (ns : List Bool) (z : D) (Q : VK), (∀ a, I a → H a ≠ none) → H a = some (.lst (ns.map V.bl)) → g ns = .ok z → PV X I H k Q z → r [.ref a] H Q) : VN X r fr (d1 (onBools g)) k := by
  refine vn1 (fun d c v => ?_) fun I H x d z Q hI rx hs q => ?_
  · cases d with
    | list xs =>
      show (match unBools xs with | some ns => g ns | none => .bad) ≠ _
      split
      · exact hx _ c v
      · exact (fun z => nomatch z)
    | _ => exact (fun z => nomatch z)
  · cases d with
    | list xs =>
      cases rx with
      | lst i e hz rr =>
        have hs : (match unBools xs with | some ns => g ns | none => .bad) = .ok z := hs
        split at hs
        · rename_i ns hn
          have ev := unBools_of rr hn
          subst ev
          exact h I H _ ns z Q hI e hs q
        · cases hs
    | _ => cases hs
def dSum : D → Res D := onInts fun ns => .ok (.int ns.sum)
theorem vn_sum : VN X (rSum X.K) fr (d1 dSum) k := vn_ints (fun _ _ _ => (fun z => nomatch z)) fun I H a ns z Q hI e hz hs q => by
  cases hs
  exact ⟨a, ns, rfl, .inl (.inl e), pv_at (.int _) q⟩
def dAll : D → Res D := onBools fun bs => .ok (.bool (bs.all id))
def dAny : D → Res D := onBools fun bs => .ok (.bool (bs.any id))
theorem vn_all : VN X (rAll X.K) fr (d1 dAll) k := vn_bools (fun _ _ _ => (fun z => nomatch z)) fun I H a ns z Q hI e hs q => by
  cases hs
  exact ⟨a, ns, rfl, .inl (.inl e), pv_at (.bl _) q⟩
theorem vn_any : VN X (rAny X.K) fr (d1 dAny) k := vn_bools (fun _ _ _ => (fun z => nomatch z)) fun I H a ns z Q hI e hs q => by
  cases hs
  exact ⟨a, ns, rfl, .inl (.inl e), pv_at (.bl _) q⟩
def lMax : List Int → Res D
  | [] => .bad
  | n :: r => .ok (.int (r.foldl max n))
def lMin : List Int → Res D
  | [] => .bad
  | n :: r => .ok (.int (r.foldl min n))
theorem foldl_max_mem : ∀ (r : List Int) (n : Int), r.foldl max n ∈ n :: r ∧ ∀ y ∈ n :: r, y ≤ r.foldl max n
  | [], n => ⟨by simp, fun y hy => by simp at hy; rw [hy]; exact Int.le_refl _⟩
  | m :: r, n => by
    obtain ⟨h1, h2⟩ := foldl_max_mem r (max n m)
    refine ⟨?_, fun y hy => ?_⟩
    · show r.foldl max (max n m) ∈ _
      rcases List.mem_cons.mp h1 with e | h1
      · rw [e]
        rcases Int.le_total n m with q | q
        · rw [Int.max_eq_right q]; simp
        · rw [Int.max_eq_left q]; simp
      · exact List.mem_cons_of_mem _ (List.mem_cons_of_mem _ h1)
    · show y ≤ r.foldl max (max n m)
      have h3 := h2 (max n m) List.mem_cons_self
      rcases List.mem_cons.mp hy with e | hy
      · rw [e]; omega
      · rcases List.mem_cons.mp hy with e | hy
        · rw [e]; omega
        · exact h2 y (List.mem_cons_of_mem _ hy)
theorem foldl_min_mem : ∀ (r : List Int) (n : Int), r.foldl min n ∈ n :: r ∧ ∀ y ∈ n :: r, r.foldl min n ≤ y
  | [], n => ⟨by simp, fun y hy => by simp at hy; rw [hy]; exact Int.le_refl _⟩
  | m :: r, n => by
    obtain ⟨h1, h2⟩ := foldl_min_mem r (min n m)
    refine ⟨?_, fun y hy => ?_⟩
    · show r.foldl min (min n m) ∈ _
      rcases List.mem_cons.mp h1 with e | h1
      · rw [e]
        rcases Int.le_total n m with q | q
        · rw [Int.min_eq_left q]; simp
        · rw [Int.min_eq_right q]; simp
      · exact List.mem_cons_of_mem _ (List.mem_cons_of_mem _ h1)
    · show r.foldl min (min n m) ≤ y
      have h3 := h2 (min n m) List.mem_cons_self
      rcases List.mem_cons.mp hy with e | hy
      · rw [e]; omega
      · rcases List.mem_cons.mp hy with e | hy
        · rw [e]; omega
        · exact h2 y (List.mem_cons_of_mem _ hy)
def dMax : D → Res D := onInts lMax
def dMin : D → Res D := onInts lMin
theorem vn_max : VN X (rMax X.K) fr (d1 dMax) k := vn_ints (fun d _ _ => by cases d <;> exact (fun z => nomatch z)) fun I H a ns z Q hI e hz hs q => by
  cases ns with
  | nil => cases hs
  | cons n r =>
    cases hs
    refine ⟨a, n :: r, rfl, .inl (.inl e), by simp, fun m hm hle => ?_⟩
    obtain ⟨h1, h2⟩ := foldl_max_mem r n
    have : m = r.foldl max n := Int.le_antisymm (h2 m hm) (hle _ h1)
    rw [this]
    exact pv_at (.int _) q
theorem vn_min : VN X (rMin X.K) fr (d1 dMin) k := vn_ints (fun d _ _ => by cases d <;> exact (fun z => nomatch z)) fun I H a ns z Q hI e hz hs q => by
  cases ns with
  | nil => cases hs
  | cons n r =>
    cases hs
    refine ⟨a, n :: r, rfl, .inl (.inl e), by simp, fun m hm hle => ?_⟩
    obtain ⟨h1, h2⟩ := foldl_min_mem r n
    have : m = r.foldl min n := Int.le_antisymm (hle _ h1) (h2 m hm)
    rw [this]
    exact pv_at (.int _) q
/-- list(x), tuple(x) -/
def dList : D → Res D
  | .list xs => .ok (.list xs)
  | .tuple xs => .ok (.list xs)
  | _ => .bad
def dTuple : D → Res D
  | .list xs => .ok (.tuple xs)
  | .tuple xs => .ok (.tuple xs)
  | _ => .bad
theorem vn_list : VN X (fun xs H Q => ∃ p ys, xs = [.ref p] ∧ (SqL X.K H p ys ∨ SqT X.K H p ys) ∧ ∀ l, H l = none → Q (.ref l) (upd H l (.lst ys))) true (d1 dList) (some 1) := by
  refine vn1 (fun d c v => by cases d <;> exact (fun z => nomatch z)) fun I H x d z Q hI rx hs q => ?_
  cases d with
  | list xs =>
    cases hs
    cases rx with
    | lst i h hz r => exact ⟨_, _, rfl, .inl (.inl (.inl h)), fun l hl => pv_list hI hl (RBA.rp r) hz q⟩
  | tuple xs =>
    cases hs
    cases rx with
    | tup h hz r => exact ⟨_, _, rfl, .inr (KT.sq h), fun l hl => pv_list hI hl (RBA.rp r) hz q⟩
  | _ => cases hs
theorem vn_tuple : VN X (fun xs H Q => ∃ p ys, xs = [.ref p] ∧ ((SqL X.K H p ys ∧ ∀ l, H l = none → Q (.ref l) (upd H l (.tup ys))) ∨ (SqT X.K H p ys ∧ Q (.ref p) H))) true (d1 dTuple) (some 0) := by
  refine vn1 (fun d c v => by cases d <;> exact (fun z => nomatch z)) fun I H x d z Q hI rx hs q => ?_
  cases d with
  | list xs =>
    cases hs
    cases rx with
    | lst i h hz r => exact ⟨_, _, rfl, .inl ⟨.inl (.inl h), fun l hl => pv_tup hl (RBA.rp r) hz q⟩⟩
  | tuple xs =>
    cases hs
    cases rx with
    | tup h hz r => exact ⟨_, _, rfl, .inr ⟨KT.sq h, q _ I H [] .refl (.sh (.tup (h.imp (fun z => ⟨z.1.elim id (fun z => nomatch z.1), z.2⟩) id) hz (RBA.rp r))) .nil⟩⟩
  | _ => cases hs
def tyD : D → String
  | .none => "NoneType"
  | .bool _ => "bool"
  | .int _ => "int"
  | .str _ => "str"
  | .list _ => "list"
  | .tuple _ => "tuple"
  | .dict _ => "dict"
theorem tyX_of {K : PySem.W.Frag} {J : Addr → Prop} {H : Hp} {v : V} {d : D} (h : Rp K J H v d) : TyX K H v (.type (tyD d)) := by
  cases h with
  | non => exact .base .non
  | bl b => exact .base (.bl b)
  | int i => exact .base (.int i)
  | str x => exact .base (.str x)
  | lst i h z r => exact .base (.lst h)
  | tup h z r =>
    rcases h with h | ⟨o, its, n, h1, h2, _⟩
    · exact .base (.tup h.2)
    · exact .kTuple h1 h2
  | dK i h r => exact .base (.dK h)
  | dT i h r => exact .base (.dT h)
/-- isinstance(x, T) -/
def dIsi (T : String) (d : D) : Res D := match kitB (tyD d) T with
  | some b => .ok (.bool b)
  | none => .bad
def dIsiE (T : String) (f : Env → Res D) : Env → Res D := fun ρ => f ρ >>= dIsi T
theorem dp_isi {x y : Str} {p p2 : Pos} {T : String} {e : Expr} {f : Env → Res D} (ha : DP X E Γ e ka f) (hg : Gl X x) (hm : X.mg x = none) (hv : bootBuiltins x = some (.builtin "isinstance")) (hg2 : Gl X y) (hm2 : X.mg y = none) (hv2 : bootBuiltins y = some (.type T))
    (hn : x ≠ "__name__" := by decide) (hdb : (x == ("__debug__" : Str)) = false := by decide) (hn2 : y ≠ "__name__" := by decide) (hdb2 : (y == ("__debug__" : Str)) = false := by decide)
    (he : starEach [e, .Name y p2] X.env = (false, eval e X.env) :: starEach [.Name y p2] X.env := by rfl) (he2 : starEach [.Name y p2] X.env = (false, eval (.Name y p2) X.env) :: starEach [] X.env := by rfl) (hpl : (backTo pos (starEach [.Name y p2] X.env)).any (·.1) = false := by rfl) :
    DP X E Γ (.Call (.Name x p) [e, .Name y p2] [] pos) k (dIsiE T f) := by
  obtain ⟨ta, pa, qa⟩ := ha.ex
  refine ⟨_, pe_callB call_isi hg hm hv (pa_cons pa (pa_cons (pe_bltn (v := .ty T) hg2 hm2 hv2 rfl hn2 hdb2) pa_nil he2) he) hn hdb he hpl, fun I S ρ σ H Q R h => ?_⟩
  refine seq1 qa R h fun d v I1 H1 T1 e1 h1 g1 w1 n1 R1 => ?_
  unfold dIsi at h1
  split at h1
  · rename_i b hb
    exact ⟨v, .ty T, _, _, b, rfl, .ty T, tyX_of w1.rt, kit_ty hb, h1 _ I1 H1 [] g1 ((At.bl b).vr k) .nil⟩
  · exact h1.elim
def cutL {α : Type} (xs : List α) (lo hi : Option Int) : List α := (xs.drop (HT.sIx xs.length 0 lo)).take (HT.sIx xs.length xs.length hi - HT.sIx xs.length 0 lo)
theorem cut_rp {K : PySem.W.Frag} {J : Addr → Prop} {H : Hp} {vs : List V} {ds : List D} (r : RpA K J H vs ds) (lo hi : Option Int) : RpA K J H (cutV vs lo hi) (cutL ds lo hi) := by
  unfold cutV cutL
  rw [r.len]
  exact (r.drop _).take _
def dSl (d : D) (lo hi : Option Int) : Res D := match d with
  | .list xs => .ok (.list (cutL xs lo hi))
  | .str z => if z.length ≤ 16777216 then .ok (.str (cutS z lo hi)) else .bad
  | _ => .bad
/-- a bound: left out, or an int -/
def dNoPart : Env → Res (Option Int) := fun _ => .ok none
def asInt : D → Res (Option Int)
  | .int i => .ok (some i)
  | _ => .bad
def dPart (f : Env → Res D) : Env → Res (Option Int) := fun ρ => f ρ >>= asInt
structure DO [Wd] (X : Cx) (E : XK) (Γ : List SK) (e : Option Expr) (f : Env → Res (Option Int)) : Prop where
  ex : ∃ t : TO, PO X e t ∧ ∀ I S ρ σ H Q, ER X.K I Γ ρ σ H S → PX X.K X.mg E I H (SU S) (fun o => ∀ I' H', Gr I H I' H' → Q o H') (f ρ) → t σ H Q
theorem do_none : DO X E Γ none dNoPart := ⟨_, po_none, fun I S ρ σ H Q R h => h I H .refl⟩
theorem do_some {e : Expr} {f : Env → Res D} (h : DP X E Γ e ka f) : DO X E Γ (some e) (dPart f) := by
  obtain ⟨t, p, q⟩ := h.ex
  refine ⟨_, po_some p, fun I S ρ σ H Q R h => ?_⟩
  refine seq1 q R h fun d v I1 H1 T1 e1 h1 g1 w1 n1 R1 => ?_
  cases d with
  | int i =>
    have e := w1.rt.int
    exact ⟨i, e, h1 I1 H1 g1⟩
  | _ => exact h1.elim
abbrev rSlLS (X : Cx) : V → Option Int → Option Int → Hp → VK → Prop := fun x lo hi H Q => rSlL X.K x lo hi H Q ∨ rSlS x lo hi H Q
def dSlice (f : Env → Res D) (lo hi : Env → Res (Option Int)) : Env → Res D := fun ρ => f ρ >>= fun d => lo ρ >>= fun l => hi ρ >>= fun u => dSl d l u
theorem dp_slice {e : Expr} {lo hi : Option Expr} {p2 : Pos} {f : Env → Res D} {fl fu : Env → Res (Option Int)} (he : DP X E Γ e ka f) (hl : DO X E Γ lo fl) (hu : DO X E Γ hi fu) (hk : ka ≠ none := by decide) :
    DP X E Γ (.Subscript e (.Slice lo hi none p2) pos) (some 1) (dSlice f fl fu) := by
  obtain ⟨ta, pa, qa⟩ := he.ex
  obtain ⟨tl, pl, ql⟩ := hl.ex
  obtain ⟨tu, pu, qu⟩ := hu.ex
  refine ⟨_, pe_slice (SlR.or sl_list sl_str) pa pl pu, fun I S ρ σ H Q R h => ?_⟩
  refine seq1 qa R h fun d v I1 H1 T1 e1 h1 g1 w1 n1 R1 => ?_
  refine ql I1 S ρ σ H1 _ R1 (PX.later (PX.bnd h1) (g1.evo R.trk) fun l _ ⟨e2, h2⟩ => ?_)
  intro I2 H2 g2
  have g12 := g1.trans g2
  have R2 := R1.grow g2
  refine qu I2 S ρ σ H2 _ R2 (PX.later (PX.bnd h2) (g12.evo R.trk) fun u _ ⟨e3, h3⟩ => ?_)
  intro I3 H3 g3
  have g23 := g2.trans g3
  have R3 := R2.grow g3
  have g := (g1.trans g23).fz fun a m => ⟨n1.free a m, g23.there (w1.nodes a m).ne⟩
  have r : RB true X.K (fz I3 T1) H3 v d := RB.later (w1.rb (fr := true) fun _ => hk) (fun a q => q.imp (g23.sub a) id) g23.kp
  have hI : ∀ a, fz I3 T1 a → H3 a ≠ none := fun a q => q.elim (R3.tr a) fun m => g23.there (w1.nodes a m).ne
  cases d with
  | list xs =>
    cases r with
    | lst i hh z rr =>
      refine .inl ⟨_, _, rfl, .inl (.inl hh), fun p hp => ?_⟩
      refine pv_list (X := X) hI hp (cut_rp (RBA.rp rr) l u) (Nat.le_trans (cutV_length _ _ _) z) fun v I' H' T g' vr nw => h3 v I' H' T (g.trans g') vr (nw.ahead g)
  | str z =>
    have h3 : PX X.K X.mg E I H (SU S) (PV X I H (some 1) Q) (if z.length ≤ 16777216 then .ok (.str (cutS z l u)) else .bad) := h3
    split at h3
    · rename_i hc
      exact .inr ⟨z, r.str, by rw [sizeLine_eq]; exact hc, h3 _ I3 H3 [] (g1.trans g23) ((At.str _).vr _) .nil⟩
    · exact h3.elim
  | _ => exact h3.elim
end
end DL

namespace DL
open PySem PySem.Spec PyProof.Rows L2

section
variable [Wd] {X : Cx} {E : XK} {Γ : List SK} {pos : Pos} {fr : Bool} {k ka kb : Option Nat} {n : Nat}
theorem dp_sh {e : Expr} {f : Env → Res D} (h : DP X E Γ e (some n) f) : DP X E Γ e (some 0) f := by
  obtain ⟨t, p, q⟩ := h.ex
  refine ⟨t, p, fun I S ρ σ H Q R hh => q I S ρ σ H Q R (PX.imp hh fun d e h v I' H' T g vr nw => ?_)⟩
  have vr : Ow X.K I' H' n T v d := vr
  exact h v _ H' [] (g.fz fun a m => ⟨nw.free a m, (vr.nod a m).ne⟩) (.sh (vr.rp (I' := fz I' T) (fun _ z => .inl z) fun _ m => .inr m)) .nil
theorem dp_tmp {e : Expr} {f : Env → Res D} (h : DP X E Γ e k f) : DP X E Γ e none f := by
  obtain ⟨t, p, q⟩ := h.ex
  exact ⟨t, p, fun I S ρ σ H Q R hh => q I S ρ σ H Q R (PX.imp hh fun d e h v I' H' T g vr nw => h v I' H' [] g ⟨rfl, vr.rt⟩ .nil)⟩
def asB : D → Res Bool
  | .bool b => .ok b
  | _ => .bad
def tru : D → Res Bool
  | .none => .ok false
  | .bool b => .ok b
  | .int i => .ok (i != 0)
  | .list xs => .ok (!xs.isEmpty)
  | .tuple xs => .ok (!xs.isEmpty)
  | _ => .bad
theorem isEmpty_rp {K : PySem.W.Frag} {J : Addr → Prop} {H : Hp} {vs : List V} {ds : List D} (r : RpA K J H vs ds) : vs.isEmpty = ds.isEmpty := by cases r <;> rfl
def tVal (f : Env → Res D) : Env → Res Bool := fun ρ => f ρ >>= asB
def tTru (f : Env → Res D) : Env → Res Bool := fun ρ => f ρ >>= tru
/-- an expression whose value is True or False -/
theorem dt_val {e : Expr} {f : Env → Res D} (h : DP X E Γ e k f) (he : ∀ whole, isTrue e X.env whole = (do let v ← whole; standAt e.pos; holding [v] (truthy v)) := by intro _; rfl) : DT X E Γ e (tVal f) := by
  obtain ⟨t, p, q⟩ := h.ex
  refine ⟨_, pt_val p he, fun I S ρ σ H Q R h => ?_⟩
  refine seq1 q R h fun d v I1 H1 T1 e1 h1 g1 w1 n1 R1 => ?_
  cases d with
  | bool b => exact ⟨b, w1.rt.bool, h1 I1 H1 g1⟩
  | _ => exact h1.elim
/-- any value, by its truth -/
theorem dt_tru {e : Expr} {f : Env → Res D} (h : DP X E Γ e k f) (he : ∀ whole, isTrue e X.env whole = (do let v ← whole; standAt e.pos; holding [v] (truthy v)) := by intro _; rfl) : DT X E Γ e (tTru f) := by
  obtain ⟨t, p, q⟩ := h.ex
  refine ⟨_, pt_truth p he, fun I S ρ σ H Q R h => ?_⟩
  refine seq1 q R h fun d v I1 H1 T1 e1 h1 g1 w1 n1 R1 => ?_
  have r := w1.rt
  cases d with
  | none => cases r; exact ⟨false, rfl, h1 I1 H1 g1⟩
  | bool b => cases r; exact ⟨b, rfl, h1 I1 H1 g1⟩
  | int i => cases r; exact ⟨_, rfl, h1 I1 H1 g1⟩
  | list xs =>
    cases r with
    | lst i h z rr => exact ⟨_, .inl ⟨_, .inl (.inl h), rfl⟩, by rw [isEmpty_rp rr]; exact h1 I1 H1 g1⟩
  | tuple xs =>
    cases r with
    | tup h z rr => exact ⟨_, .inr (.inl ⟨_, KT.sq h, rfl⟩), by rw [isEmpty_rp rr]; exact h1 I1 H1 g1⟩
  | _ => exact h1.elim
/-- a comparison as a test -/
theorem dt_cmp {op : CmpOp} {a b : Expr} {f g : Env → Res D} {r : R2} {sem : D → D → Res D} (ho : OpR X (compareOp op) r) (v2 : V2 X r fr sem (some 0)) (ha : DP X E Γ a ka f) (hb : DP X E Γ b kb g) (hm : behindInMarks op b = false) (hka : fr = true → ka ≠ none := by decide) (hkb : fr = true → kb ≠ none := by decide) :
    DT X E Γ (.Compare a [op] [b] pos) (tVal (d2 sem f g)) := by
  obtain ⟨ta, pa, qa⟩ := ha.ex
  obtain ⟨tb, pb, qb⟩ := hb.ex
  refine ⟨_, pt_cmpR ho pa pb hm, fun I S ρ σ H Q R h => ?_⟩
  refine two qa qb hka hkb v2 R (PX.imp (PX.bnd h) fun d e ⟨_, h⟩ v I' H' T g vr nw => ?_)
  cases d with
  | bool b => exact ⟨b, vr.rt.bool, h I' H' g⟩
  | _ => exact h.elim
def tAndD (f g : Env → Res Bool) : Env → Res Bool := fun ρ => f ρ >>= fun b => if b = true then g ρ else .ok false
def tOrD (f g : Env → Res Bool) : Env → Res Bool := fun ρ => f ρ >>= fun b => if b = true then .ok true else g ρ
def tNotD (f : Env → Res Bool) : Env → Res Bool := fun ρ => f ρ >>= fun b => .ok (!b)
theorem seqT {tt : TT} {f : Env → Res Bool} {I : Addr → Prop} {S : Nat → List Addr} {ρ : Env} {σ : L2.St} {H : Hp} {α : Type} {P : α → Prop} {h : Bool → Res α}
    (ha : ∀ I S ρ σ H Q, ER X.K I Γ ρ σ H S → PX X.K X.mg E I H (SU S) (fun b => ∀ I' H', Gr I H I' H' → Q b H') (f ρ) → tt σ H Q) (R : ER X.K I Γ ρ σ H S) (hh : PX X.K X.mg E I H (SU S) P (f ρ >>= h)) {Q : Bool → Hp → Prop}
    (hq : ∀ b I1 H1, f ρ = .ok b → PX X.K X.mg E I H (SU S) P (h b) → Gr I H I1 H1 → ER X.K I1 Γ ρ σ H1 S → Q b H1) : tt σ H Q :=
  ha I S ρ σ H Q R (PX.imp (PX.bnd hh) fun b _ ⟨e, q⟩ I1 H1 g1 => hq b I1 H1 e q g1 (R.grow g1))
/-- a part of an and, an or -/
structure DW [Wd] (X : Cx) (E : XK) (Γ : List SK) (e : Expr) (f : Env → Res Bool) : Prop where
  ex : ∃ t : TT, PW X e t ∧ ∀ I S ρ σ H Q, ER X.K I Γ ρ σ H S → PX X.K X.mg E I H (SU S) (fun b => ∀ I' H', Gr I H I' H' → Q b H') (f ρ) → t σ H Q
theorem DW.dt {e : Expr} {f : Env → Res Bool} (h : DW X E Γ e f) : DT X E Γ e f := by
  obtain ⟨t, p, q⟩ := h.ex
  exact ⟨t, p.pt, q⟩
variable {a b : Expr} {rest : List Expr}
theorem dw_and1 {f : Env → Res Bool} (h : DT X E Γ a f) : DW X E Γ (.BoolOp .And [a] pos) f := by
  obtain ⟨t, p, q⟩ := h.ex
  exact ⟨t, pw_and1 p, q⟩
theorem dw_or1 {f : Env → Res Bool} (h : DT X E Γ a f) : DW X E Γ (.BoolOp .Or [a] pos) f := by
  obtain ⟨t, p, q⟩ := h.ex
  exact ⟨t, pw_or1 p, q⟩
theorem dw_and {f g : Env → Res Bool} (ha : DT X E Γ a f) (hb : DW X E Γ (.BoolOp .And (b :: rest) pos) g) : DW X E Γ (.BoolOp .And (a :: b :: rest) pos) (tAndD f g) := by
  obtain ⟨ta, pa, qa⟩ := ha.ex
  obtain ⟨tb, pb, qb⟩ := hb.ex
  refine ⟨_, pw_and pa pb, fun I S ρ σ H Q R h => ?_⟩
  refine seqT qa R h fun c I1 H1 e1 h1 g1 R1 => ?_
  cases c with
  | true => exact qb I1 S ρ σ H1 _ R1 (PX.later h1 (g1.evo R.trk) fun b _ h I' H' g => h I' H' (g1.trans g))
  | false => exact h1 I1 H1 g1
theorem dw_or {f g : Env → Res Bool} (ha : DT X E Γ a f) (hb : DW X E Γ (.BoolOp .Or (b :: rest) pos) g) : DW X E Γ (.BoolOp .Or (a :: b :: rest) pos) (tOrD f g) := by
  obtain ⟨ta, pa, qa⟩ := ha.ex
  obtain ⟨tb, pb, qb⟩ := hb.ex
  refine ⟨_, pw_or pa pb, fun I S ρ σ H Q R h => ?_⟩
  refine seqT qa R h fun c I1 H1 e1 h1 g1 R1 => ?_
  cases c with
  | true => exact h1 I1 H1 g1
  | false => exact qb I1 S ρ σ H1 _ R1 (PX.later h1 (g1.evo R.trk) fun b _ h I' H' g => h I' H' (g1.trans g))
theorem dt_not {f : Env → Res Bool} (ha : DT X E Γ a f) : DT X E Γ (.UnaryOp .Not a pos) (tNotD f) := by
  obtain ⟨ta, pa, qa⟩ := ha.ex
  refine ⟨_, pt_not pa, fun I S ρ σ H Q R h => ?_⟩
  exact seqT qa R h fun c I1 H1 e1 h1 g1 R1 => h1 I1 H1 g1
def dAndV (f g : Env → Res D) : Env → Res D := fun ρ => f ρ >>= asB >>= fun b => if b = true then g ρ else .ok (.bool false)
def dOrV (f g : Env → Res D) : Env → Res D := fun ρ => f ρ >>= asB >>= fun b => if b = true then .ok (.bool true) else g ρ
def dNotV (f : Env → Res D) : Env → Res D := fun ρ => f ρ >>= asB >>= fun b => .ok (.bool (!b))
theorem asB_bnd {α : Type} {r : Res D} {h : Bool → Res α} : (r >>= asB >>= h) = (r >>= fun d => asB d >>= h) := by cases r <;> rfl
theorem dp_one {op : BoolOp} {f : Env → Res D} (h : DP X E Γ a k f) : DP X E Γ (.BoolOp op [a] pos) k f := by
  obtain ⟨t, p, q⟩ := h.ex
  exact ⟨t, pe_one p, q⟩
theorem dp_and {f g : Env → Res D} (ha : DP X E Γ a ka f) (hb : DP X E Γ (.BoolOp .And (b :: rest) pos) k g) : DP X E Γ (.BoolOp .And (a :: b :: rest) pos) k (dAndV f g) := by
  obtain ⟨ta, pa, qa⟩ := ha.ex
  obtain ⟨tb, pb, qb⟩ := hb.ex
  refine ⟨_, pe_and pa pb, fun I S ρ σ H Q R h => ?_⟩
  unfold dAndV at h
  rw [asB_bnd] at h
  refine seq1 qa R h fun d v I1 H1 T1 e1 h1 g1 w1 n1 R1 => ?_
  cases d with
  | bool c =>
    refine ⟨c, w1.rt.bool, ?_⟩
    cases c with
    | true => exact qb I1 S ρ σ H1 _ R1 (PX.later h1 (g1.evo R.trk) fun b _ h v I' H' T g vr nw => h v I' H' T (g1.trans g) vr (nw.ahead g1))
    | false => exact h1 _ I1 H1 [] g1 ((At.bl false).vr k) .nil
  | _ => exact h1.elim
theorem dp_or {f g : Env → Res D} (ha : DP X E Γ a ka f) (hb : DP X E Γ (.BoolOp .Or (b :: rest) pos) k g) : DP X E Γ (.BoolOp .Or (a :: b :: rest) pos) k (dOrV f g) := by
  obtain ⟨ta, pa, qa⟩ := ha.ex
  obtain ⟨tb, pb, qb⟩ := hb.ex
  refine ⟨_, pe_or pa pb, fun I S ρ σ H Q R h => ?_⟩
  unfold dOrV at h
  rw [asB_bnd] at h
  refine seq1 qa R h fun d v I1 H1 T1 e1 h1 g1 w1 n1 R1 => ?_
  cases d with
  | bool c =>
    refine ⟨c, w1.rt.bool, ?_⟩
    cases c with
    | true => exact h1 _ I1 H1 [] g1 ((At.bl true).vr k) .nil
    | false => exact qb I1 S ρ σ H1 _ R1 (PX.later h1 (g1.evo R.trk) fun b _ h v I' H' T g vr nw => h v I' H' T (g1.trans g) vr (nw.ahead g1))
  | _ => exact h1.elim
theorem dp_not {f : Env → Res D} (ha : DP X E Γ a ka f) : DP X E Γ (.UnaryOp .Not a pos) k (dNotV f) := by
  obtain ⟨ta, pa, qa⟩ := ha.ex
  refine ⟨_, pe_not pa, fun I S ρ σ H Q R h => ?_⟩
  unfold dNotV at h
  rw [asB_bnd] at h
  refine seq1 qa R h fun d v I1 H1 T1 e1 h1 g1 w1 n1 R1 => ?_
  cases d with
  | bool c => exact ⟨c, w1.rt.bool, h1 _ I1 H1 [] g1 ((At.bl _).vr k) .nil⟩
  | _ => exact h1.elim
/-- -a -/
def dNeg (f : Env → Res D) : Env → Res D := fun ρ => f ρ >>= fun d => match d with
  | .int i => .ok (.int (-i))
  | _ => .bad
theorem dp_neg {f : Env → Res D} (ha : DP X E Γ a ka f) : DP X E Γ (.UnaryOp .USub a pos) k (dNeg f) := by
  obtain ⟨ta, pa, qa⟩ := ha.ex
  refine ⟨_, pe_un un_neg pa, fun I S ρ σ H Q R h => ?_⟩
  refine seq1 qa R h fun d v I1 H1 T1 e1 h1 g1 w1 n1 R1 => ?_
  cases d with
  | int i => exact ⟨i, w1.rt.int, h1 _ I1 H1 [] g1 ((At.int _).vr k) .nil⟩
  | _ => exact h1.elim
/-- a if c else b -/
def dIf (c : Env → Res Bool) (f g : Env → Res D) : Env → Res D := fun ρ => c ρ >>= fun b => if b = true then f ρ else g ρ
theorem dp_if {c : Expr} {fc : Env → Res Bool} {f g : Env → Res D} (hc : DT X E Γ c fc) (ha : DP X E Γ a k f) (hb : DP X E Γ b k g) : DP X E Γ (.IfExp c a b pos) k (dIf fc f g) := by
  obtain ⟨tc, pc, qc⟩ := hc.ex
  obtain ⟨ta, pa, qa⟩ := ha.ex
  obtain ⟨tb, pb, qb⟩ := hb.ex
  refine ⟨_, pe_ifExp pc pa pb, fun I S ρ σ H Q R h => ?_⟩
  refine seqT qc R h fun b I1 H1 e1 h1 g1 R1 => ?_
  cases b with
  | true => exact qa I1 S ρ σ H1 _ R1 (PX.later h1 (g1.evo R.trk) fun b _ h v I' H' T g vr nw => h v I' H' T (g1.trans g) vr (nw.ahead g1))
  | false => exact qb I1 S ρ σ H1 _ R1 (PX.later h1 (g1.evo R.trk) fun b _ h v I' H' T g vr nw => h v I' H' T (g1.trans g) vr (nw.ahead g1))
/-- a <= b <= c of ints -/
def dChain (s s' : D → D → Res D) (f g h : Env → Res D) : Env → Res D := fun ρ => f ρ >>= fun d => g ρ >>= fun e => s d e >>= asB >>= fun b => if b = true then h ρ >>= fun z => s' e z else .ok (.bool false)
theorem chainQ {ta tb tc : TE} {kc : Option Nat} {f g h : Env → Res D} {r r' : R2} {s s' : D → D → Res D} (v2 : V2 X r false s (some 0)) (v2' : V2 X r' false s' k)
    (qa : ∀ I S ρ σ H Q, ER X.K I Γ ρ σ H S → PX X.K X.mg E I H (SU S) (PV X I H ka Q) (f ρ) → ta σ H Q) (qb : ∀ I S ρ σ H Q, ER X.K I Γ ρ σ H S → PX X.K X.mg E I H (SU S) (PV X I H kb Q) (g ρ) → tb σ H Q)
    (qc : ∀ I S ρ σ H Q, ER X.K I Γ ρ σ H S → PX X.K X.mg E I H (SU S) (PV X I H kc Q) (h ρ) → tc σ H Q) {I : Addr → Prop} {S : Nat → List Addr} {ρ : Env} {σ : L2.St} {H : Hp} {Q : VK}
    (R : ER X.K I Γ ρ σ H S) (hh : PX X.K X.mg E I H (SU S) (PV X I H k Q) (dChain s s' f g h ρ)) : tChain r r' ta tb tc σ H Q := by
  refine seq1 qa R hh fun d x I1 H1 T1 e1 h1 g1 w1 n1 R1 => ?_
  refine seq1 qb R1 (PX.later (P' := PV X I H k Q) h1 (g1.evo R.trk) fun _ _ z => z) fun e y I2 H2 T2 e2 h2 g2 w2 n2 R2 => ?_
  rw [asB_bnd] at h2
  have g12 := g1.trans g2
  cases e3 : s d e with
  | bad => rw [e3] at h2; exact h2.elim
  | exc c' d' => exact (v2.1 _ _ _ _ e3).elim
  | ok z =>
    rw [e3] at h2
    refine v2.2 I2 H2 x y d e z _ R2.tr (w1.later g2).rt w2.rt e3 fun v I3 H3 T3 g3 w3 n3 => ?_
    have g13 := g12.trans g3
    have R3 := R2.grow g3
    cases z with
    | bool b =>
      refine ⟨b, w3.rt.bool, ?_⟩
      cases b with
      | true =>
        refine seq1 qc R3 (PX.later (P' := PV X I H k Q) h2 ((g2.trans g3).evo R1.trk) fun _ _ z => z) fun z' y' I4 H4 T4 e4 h4 g4 w4 n4 R4 => ?_
        cases e5 : s' e z' with
        | bad => rw [e5] at h4; exact h4.elim
        | exc c' d' => exact (v2'.1 _ _ _ _ e5).elim
        | ok z5 =>
          rw [e5] at h4
          exact v2'.2 I4 H4 y y' e z' z5 Q R4.tr (w2.later (g3.trans g4)).rt w4.rt e5 fun v I' H' T g vr nw => h4 v I' H' T ((g13.trans g4).trans g) vr (nw.ahead (g13.trans g4))
      | false => exact h2 _ I3 H3 [] g13 ((At.bl false).vr k) .nil
    | _ => exact h2.elim
theorem dp_chain {op op' : CmpOp} {c : Expr} {kc : Option Nat} {f g h : Env → Res D} {r r' : R2} {s s' : D → D → Res D} (ho : OpR X (compareOp op) r) (v2 : V2 X r false s (some 0)) (ho' : OpR X (compareOp op') r') (v2' : V2 X r' false s' k)
    (ha : DP X E Γ a ka f) (hb : DP X E Γ b kb g) (hc : DP X E Γ c kc h) (hm : lastMarks [op, op'] [b, c] = false := by with_unfolding_all rfl) : DP X E Γ (.Compare a [op, op'] [b, c] pos) k (dChain s s' f g h) := by
  obtain ⟨ta, pa, qa⟩ := ha.ex
  obtain ⟨tb, pb, qb⟩ := hb.ex
  obtain ⟨tc, pc, qc⟩ := hc.ex
  exact ⟨_, pe_chain ho ho' pa pb pc hm, fun I S ρ σ H Q R hh => chainQ v2 v2' qa qb qc R hh⟩
theorem dt_chain {op op' : CmpOp} {c : Expr} {kc : Option Nat} {f g h : Env → Res D} {r r' : R2} {s s' : D → D → Res D} (ho : OpR X (compareOp op) r) (v2 : V2 X r false s (some 0)) (ho' : OpR X (compareOp op') r') (v2' : V2 X r' false s' (some 0))
    (ha : DP X E Γ a ka f) (hb : DP X E Γ b kb g) (hc : DP X E Γ c kc h) (hm : lastMarks [op, op'] [b, c] = false := by with_unfolding_all rfl) : DT X E Γ (.Compare a [op, op'] [b, c] pos) (tVal (dChain s s' f g h)) := by
  obtain ⟨ta, pa, qa⟩ := ha.ex
  obtain ⟨tb, pb, qb⟩ := hb.ex
  obtain ⟨tc, pc, qc⟩ := hc.ex
  refine ⟨_, pt_chain ho ho' pa pb pc hm, fun I S ρ σ H Q R hh => ?_⟩
  refine chainQ v2 v2' qa qb qc R (PX.imp (PX.bnd hh) fun d e ⟨_, h⟩ v I' H' T g vr nw => ?_)
  cases d with
  | bool b => exact ⟨b, vr.rt.bool, h I' H' g⟩
  | _ => exact h.elim
end
end DL

namespace DL
open PySem PySem.Spec PyProof.Rows L2

inductive Pat where
  | nm (i : Nat)
  | tp (ps : List Pat)
mutual
def bindP : Pat → D → Env → Res Env
  | .nm i, d, ρ => if i < ρ.length then .ok (ρ.set i (.d d)) else .bad
  | .tp ps, .tuple ds, ρ => bindPs ps ds ρ
  | .tp _, _, _ => .bad
def bindPs : List Pat → List D → Env → Res Env
  | [], [], ρ => .ok ρ
  | p :: ps, d :: ds, ρ => bindP p d ρ >>= fun ρ1 => bindPs ps ds ρ1
  | _, _, _ => .bad
end
mutual
def setP : Pat → List SK → List SK
  | .nm i, Γ => Γ.set i (.da 0)
  | .tp ps, Γ => setPs ps Γ
def setPs : List Pat → List SK → List SK
  | [], Γ => Γ
  | p :: ps, Γ => setPs ps (setP p Γ)
end
mutual
def slotsP : Pat → List Nat
  | .nm i => [i]
  | .tp ps => slotsPs ps
def slotsPs : List Pat → List Nat
  | [] => []
  | p :: ps => slotsP p ++ slotsPs ps
end
theorem nil_nm {α : Type} {a : α} {P : Prop} (m : a ∈ ([] : List α)) : P := by cases m
section
variable [Wd]
/-- a slot is stored -/
theorem ER.putK {K : PySem.W.Frag} {I : Addr → Prop} {Γ : List SK} {ρ : Env} {σ : L2.St} {H : Hp} {S : Nat → List Addr} (R : ER K I Γ ρ σ H S) {i : Nat} {kk : SK} {v : V} {w : W} {T : List Addr} (hi : i < ρ.length)
    (h : SlotR K I H kk T (some (some v)) (some w)) (hT : T.Nodup) (hk : ∀ a ∈ T, ∃ n, kk = .da n) (hI : ∀ a ∈ T, ¬ I a) (hS : ∀ a ∈ T, ∀ j, j ≠ i → a ∉ S j) : ER K I (Γ.set i kk) (ρ.set i w) (σ.set i (some v)) H (fun j => if j = i then T else S j) where
  slot := fun j k e => by
    by_cases hj : j = i
    · subst hj
      rw [List.getElem?_set_self (by rw [← R.lr]; exact hi)] at e
      cases e
      show SlotR K I H _ (if j = j then T else S j) _ _
      rw [if_pos rfl, List.getElem?_set_self (by rw [R.ls, ← R.lr]; exact hi), List.getElem?_set_self hi]
      exact h
    · rw [List.getElem?_set_ne (Ne.symm hj)] at e
      show SlotR K I H k (if j = i then T else S j) _ _
      rw [if_neg hj, List.getElem?_set_ne (Ne.symm hj), List.getElem?_set_ne (Ne.symm hj)]
      exact R.slot j k e
  sd := fun j a m => by
    have m : a ∈ (if j = i then T else S j) := m
    by_cases hj : j = i
    · subst hj
      rw [if_pos rfl] at m
      obtain ⟨n, e⟩ := hk a m
      exact ⟨n, by rw [List.getElem?_set_self (by rw [← R.lr]; exact hi), e]⟩
    · rw [if_neg hj] at m
      obtain ⟨k, e⟩ := R.sd j a m
      exact ⟨k, by rw [List.getElem?_set_ne (Ne.symm hj)]; exact e⟩
  dis := fun j l a hjl m1 m2 => by
    have m1 : a ∈ (if j = i then T else S j) := m1
    have m2 : a ∈ (if l = i then T else S l) := m2
    by_cases hj : j = i
    · rw [if_pos hj] at m1
      have hl : l ≠ i := fun z => hjl (hj.trans z.symm)
      rw [if_neg hl] at m2
      exact hS a m1 l hl m2
    · rw [if_neg hj] at m1
      by_cases hl : l = i
      · rw [if_pos hl] at m2
        exact hS a m2 j hj m1
      · rw [if_neg hl] at m2
        exact R.dis j l a hjl m1 m2
  nod := fun j => by
    show (if j = i then T else S j).Nodup
    by_cases hj : j = i
    · rw [if_pos hj]; exact hT
    · rw [if_neg hj]; exact R.nod j
  nI := fun j a m => by
    have m : a ∈ (if j = i then T else S j) := m
    by_cases hj : j = i
    · rw [if_pos hj] at m; exact hI a m
    · rw [if_neg hj] at m; exact R.nI j a m
  tr := R.tr
  lr := by rw [List.length_set, List.length_set]; exact R.lr
  ls := by rw [List.length_set, List.length_set]; exact R.ls
  tb := R.tb
theorem ER.put {K : PySem.W.Frag} {I : Addr → Prop} {Γ : List SK} {ρ : Env} {σ : L2.St} {H : Hp} {S : Nat → List Addr} (R : ER K I Γ ρ σ H S) {i n : Nat} {v : V} {d : D} {T : List Addr} (hi : i < ρ.length)
    (h : Ow K I H n T v d) (hT : T.Nodup) (hI : ∀ a ∈ T, ¬ I a) (hS : ∀ a ∈ T, ∀ j, j ≠ i → a ∉ S j) : ER K I (Γ.set i (.da n)) (ρ.set i (.d d)) (σ.set i (some v)) H (fun j => if j = i then T else S j) :=
  R.putK hi ⟨v, d, rfl, rfl, h⟩ hT (fun _ _ => ⟨n, rfl⟩) hI hS
/-- a slot without owned nodes -/
theorem ER.putN {K : PySem.W.Frag} {I : Addr → Prop} {Γ : List SK} {ρ : Env} {σ : L2.St} {H : Hp} {S : Nat → List Addr} (R : ER K I Γ ρ σ H S) {i : Nat} {kk : SK} {v : V} {w : W} (hi : i < ρ.length) (h : SlotR K I H kk [] (some (some v)) (some w)) :
    ER K I (Γ.set i kk) (ρ.set i w) (σ.set i (some v)) H (fun j => if j = i then [] else S j) := R.putK hi h .nil (fun _ m => nil_nm m) (fun a m => nil_nm m) fun a m => nil_nm m
theorem ER.put0 {K : PySem.W.Frag} {I : Addr → Prop} {Γ : List SK} {ρ : Env} {σ : L2.St} {H : Hp} {S : Nat → List Addr} (R : ER K I Γ ρ σ H S) {i : Nat} {v : V} {d : D} (hi : i < ρ.length) (h : Rp K I H v d) :
    ER K I (Γ.set i (.da 0)) (ρ.set i (.d d)) (σ.set i (some v)) H (fun j => if j = i then [] else S j) := R.put hi (.sh h) .nil (fun a m => nil_nm m) fun a m => nil_nm m
end
/-- σ' is σ but for some slots -/
def Off (vs : List Nat) (σ σ' : L2.St) : Prop := σ'.length = σ.length ∧ ∀ i, i ∉ vs → σ'[i]? = σ[i]?
structure DG [Wd] (X : Cx) (Γ : List SK) (tg : Expr) (p : Pat) : Prop where
  ex : ∃ t : TG, PG X tg t ∧ ∀ I S ρ σ H v d Q ρ', ER X.K I Γ ρ σ H S → Rp X.K I H v d → bindP p d ρ = .ok ρ' → (∀ σ' S', ER X.K I (setP p Γ) ρ' σ' H S' → (∀ i a, a ∈ S' i → a ∈ S i) → Off (slotsP p) σ σ' → Q σ' H) → t v σ H Q
structure DGs [Wd] (X : Cx) (Γ : List SK) (tgs : List Expr) (ps : List Pat) : Prop where
  ex : ∃ t : TGs, PGs X tgs t ∧ ∀ I S ρ σ H vs ds Q ρ', ER X.K I Γ ρ σ H S → RpA X.K I H vs ds → bindPs ps ds ρ = .ok ρ' → (∀ σ' S', ER X.K I (setPs ps Γ) ρ' σ' H S' → (∀ i a, a ∈ S' i → a ∈ S i) → Off (slotsPs ps) σ σ' → Q σ' H) → t vs σ H Q
section
variable [Wd] {X : Cx} {E : XK} {Γ : List SK} {pos : Pos} {fr : Bool} {k ka kb : Option Nat} {n : Nat}
theorem dg_name {i : Nat} {x : Str} (hN : X.N.Nodup) (hi : X.N[i]? = some x) (hx : Loc X.env.scope x) (hf : X.fn x = true ∨ X.env.scope.names.lookup x = some .local := by first | exact .inl rfl | exact .inr rfl | assumption) : DG X Γ (.Name x pos) (.nm i) := by
  refine ⟨_, pg_name hN hi hx hf, fun I S ρ σ H v d Q ρ' R r hb q => ?_⟩
  unfold bindP at hb
  split at hb
  · rename_i hl
    cases hb
    refine q _ _ (R.put0 hl r) (fun j a m => ?_) ⟨List.length_set, fun j hj => List.getElem?_set_ne (fun z => hj (List.mem_singleton.mpr z.symm))⟩
    have m : a ∈ (if j = i then [] else S j) := m
    split at m
    · cases m
    · exact m
  · cases hb
theorem dgs_nil : DGs X Γ [] [] := by
  refine ⟨_, pgs_nil, fun I S ρ σ H vs ds Q ρ' R r hb q => ?_⟩
  cases r with
  | nil => cases hb; exact ⟨rfl, q _ _ R (fun _ _ m => m) ⟨rfl, fun _ _ => rfl⟩⟩
  | cons a b => cases hb
theorem dgs_cons {e : Expr} {es : List Expr} {p : Pat} {ps : List Pat} (h1 : DG X Γ e p) (h2 : DGs X (setP p Γ) es ps) (hs : (assignEach (e :: es) X.env).map (·.2) = assign e X.env :: (assignEach es X.env).map (·.2) := by rfl) : DGs X Γ (e :: es) (p :: ps) := by
  obtain ⟨t1, p1, q1⟩ := h1.ex
  obtain ⟨t2, p2, q2⟩ := h2.ex
  refine ⟨_, pgs_cons p1 p2 hs, fun I S ρ σ H vs ds Q ρ' R r hb q => ?_⟩
  cases r with
  | nil => cases hb
  | cons r1 r2 =>
    rename_i v vs d ds
    have hb : (bindP p d ρ >>= fun ρ1 => bindPs ps ds ρ1) = .ok ρ' := hb
    cases e1 : bindP p d ρ with
    | bad => rw [e1] at hb; cases hb
    | exc c d => rw [e1] at hb; cases hb
    | ok ρ1 =>
      rw [e1] at hb
      refine ⟨v, vs, rfl, q1 I S ρ σ H v d _ ρ1 R r1 e1 fun σ1 S1 R1 s1 o1 => ?_⟩
      refine q2 I S1 ρ1 σ1 H vs ds _ ρ' R1 r2 hb fun σ2 S2 R2 s2 o2 => ?_
      exact q σ2 S2 R2 (fun i a m => s1 i a (s2 i a m)) ⟨o2.1.trans o1.1, fun i hi => (o2.2 i fun m => hi (List.mem_append_right _ m)).trans (o1.2 i fun m => hi (List.mem_append_left _ m))⟩
theorem dg_tup {es : List Expr} {kk m : Nat} {ps : List Pat} (hc : X.calm = true) (h : DGs X Γ es ps) (hm : ps.length = m := by rfl) (hn : (assignEach es X.env).length = m := by rfl) (hst : (assignEach es X.env).findIdx? (·.1) = none := by rfl) : DG X Γ (.Tuple es kk pos) (.tp ps) := by
  obtain ⟨t, p, q⟩ := h.ex
  refine ⟨_, pg_tup (n := m) hc p hn hst, fun I S ρ σ H v d Q ρ' R r hb hq => ?_⟩
  cases r with
  | tup h z rr =>
    rename_i a xs ds
    have hb : bindPs ps ds ρ = .ok ρ' := hb
    have hl : ∀ (ps : List Pat) (ds : List D) (ρ ρ' : Env), bindPs ps ds ρ = .ok ρ' → ps.length = ds.length := by
      intro ps
      induction ps with
      | nil => intro ds ρ ρ' h; cases ds with | nil => rfl | cons _ _ => cases h
      | cons p ps ih =>
        intro ds ρ ρ' h
        cases ds with
        | nil => cases h
        | cons d ds =>
          have h : (bindP p d ρ >>= fun ρ1 => bindPs ps ds ρ1) = .ok ρ' := h
          cases e : bindP p d ρ with
          | ok ρ1 => rw [e] at h; exact congrArg Nat.succ (ih ds ρ1 ρ' h)
          | exc c d => rw [e] at h; cases h
          | bad => rw [e] at h; cases h
    exact ⟨a, xs, rfl, KT.sq h, by rw [rr.len, ← hl ps ds ρ ρ' hb, hm], q I S ρ σ H xs ds Q ρ' R rr hb hq⟩
  | _ => cases hb
/-- a later state for what is walked -/
def Lt (fr : Bool) (I : Addr → Prop) (H : Hp) (I1 : Addr → Prop) (H1 : Hp) : Prop := (∀ a, I a → I1 a) ∧ ∀ a o, (I a ∨ (fr = false ∧ Nod H a)) → H a = some o → NT o → H1 a = some o
theorem Gr.lt {I I1 : Addr → Prop} {H H1 : Hp} (g : Gr I H I1 H1) : Lt fr I H I1 H1 := ⟨g.sub, fun a o _ e n => g.kp a o e n⟩
theorem RB.lt {K : PySem.W.Frag} {I I1 : Addr → Prop} {H H1 : Hp} {v : V} {d : D} (h : RB fr K I H v d) (l : Lt fr I H I1 H1) : RB fr K I1 H1 v d := by
  refine Rp.mono (I' := fun a => (I a ∨ (fr = false ∧ Nod H a)) ∧ (I1 a ∨ (fr = false ∧ Nod H1 a))) ?_ (fun a o i e n => l.2 a o i e n) h |>.mono (fun a z => z.2) fun a o _ e _ => e
  intro a z
  refine ⟨z, z.imp (l.1 a) fun q => ⟨q.1, ?_⟩⟩
  rcases q.2 with ⟨x, e⟩ | ⟨x, e⟩ | ⟨x, e⟩
  · exact .inl ⟨x, l.2 a _ (.inr q) e fun _ z => nomatch z⟩
  · exact .inr (.inl ⟨x, l.2 a _ (.inr q) e fun _ z => nomatch z⟩)
  · exact .inr (.inr ⟨x, l.2 a _ (.inr q) e fun _ z => nomatch z⟩)
structure Wk (K : PySem.W.Frag) (fr : Bool) (J : It) (I : Addr → Prop) (H : Hp) (ds : List D) : Prop where
  go : ∀ i I1 H1, i < ds.length → Lt fr I H I1 H1 → J.go i H1
  stop : ∀ I1 H1, Lt fr I H I1 H1 → J.stop ds.length H1
  yld : ∀ i d I1 H1 x H', ds[i]? = some d → Lt fr I H I1 H1 → J.yld i H1 x H' → ∃ I', Gr I1 H1 I' H' ∧ RB fr K I' H' x d
  len : ds.length ≤ sizeLine
structure DI [Wd] (X : Cx) (E : XK) (Γ : List SK) (tg iter : Expr) (fr : Bool) (f : Env → Res (List D)) : Prop where
  ex : ∃ wi : TI, PI X tg iter wi ∧ ∀ I S ρ σ H R, ER X.K I Γ ρ σ H S → PX X.K X.mg E I H (SU S) (fun ds => ∀ J I' H', Gr I H I' H' → Wk X.K fr J I' H' ds → R J H') (f ρ) → wi σ H R
def asSeq : D → Res (List D)
  | .list xs => .ok xs
  | .tuple xs => .ok xs
  | _ => .bad
def iSeq (f : Env → Res D) : Env → Res (List D) := fun ρ => f ρ >>= asSeq
theorem PI.or {tg iter : Expr} {w1 w2 : TI} (h1 : PI X tg iter w1) (h2 : PI X tg iter w2) : PI X tg iter (fun σ H R => w1 σ H R ∨ w2 σ H R) := ⟨fun pins s σ H R I h => h.elim (h1.run pins s σ H R I) (h2.run pins s σ H R I)⟩
/-- the items of a list or a tuple that stands still -/
theorem wk_list {K : PySem.W.Frag} {I : Addr → Prop} {H : Hp} {a : Addr} {xs : List V} {ds : List D} (i0 : I a ∨ (fr = false ∧ Nod H a)) (h : H a = some (.lst xs)) (z : xs.length ≤ sizeLine) (r : RBA fr K I H xs ds) : Wk K fr (Itl K a) I H ds where
  go := fun i I1 H1 hi l => by
    obtain ⟨v, e, _⟩ := r.get (List.getElem?_eq_getElem hi)
    exact ⟨xs, v, .inl (.inl (l.2 a _ i0 h fun _ z => nomatch z)), e⟩
  stop := fun I1 H1 l => ⟨xs, .inl (.inl (l.2 a _ i0 h fun _ z => nomatch z)), Nat.le_of_eq r.len⟩
  yld := fun i d I1 H1 x H' e l y => by
    obtain ⟨e1, y⟩ := y
    subst e1
    obtain ⟨v, e2, rv⟩ := r.get e
    have e3 := y xs (.inl (.inl (l.2 a _ i0 h fun _ z => nomatch z)))
    rw [e2] at e3
    cases e3
    exact ⟨I1, .refl, RB.lt rv l⟩
  len := by rw [← r.len]; exact z
theorem wk_tup {K : PySem.W.Frag} {I : Addr → Prop} {H : Hp} {a : Addr} {xs : List V} {ds : List D} (h : ((I a ∨ (fr = false ∧ Nod H a)) ∧ H a = some (.tup xs)) ∨ KT K a xs) (z : xs.length ≤ sizeLine) (r : RBA fr K I H xs ds) : Wk K fr (Itt K a) I H ds := by
  have there : ∀ {I1 : Addr → Prop} {H1 : Hp}, Lt fr I H I1 H1 → SqT K H1 a xs := fun {I1 H1} l => by
    rcases h with ⟨i0, h⟩ | h
    · exact .inl (.inl (l.2 a _ i0 h fun _ z => nomatch z))
    · exact .inr h
  refine ⟨fun i I1 H1 hi l => ?_, fun I1 H1 l => ⟨xs, there l, Nat.le_of_eq r.len⟩, fun i d I1 H1 x H' e l y => ?_, by rw [← r.len]; exact z⟩
  · obtain ⟨v, e, _⟩ := r.get (List.getElem?_eq_getElem hi)
    exact ⟨xs, v, there l, e⟩
  · obtain ⟨e1, y⟩ := y
    subst e1
    obtain ⟨v, e2, rv⟩ := r.get e
    have e3 := y xs (there l)
    rw [e2] at e3
    cases e3
    exact ⟨I1, .refl, RB.lt rv l⟩
theorem di_seq {tg e : Expr} {f : Env → Res D} (h : DP X E Γ e k f) (hk : fr = true → k ≠ none := by decide) : DI X E Γ tg e fr (iSeq f) := by
  obtain ⟨t, p, q⟩ := h.ex
  refine ⟨_, PI.or (pi_list p) (pi_tup p), fun I S ρ σ H Rr R h => ?_⟩
  -- one of both, by what the value is
  cases e0 : f ρ with
  | bad =>
    refine .inl ?_
    refine q I S ρ σ H _ R ?_
    rw [e0]
    unfold iSeq at h
    rw [e0] at h
    exact h
  | exc c d =>
    refine .inl ?_
    refine q I S ρ σ H _ R ?_
    rw [e0]
    unfold iSeq at h
    rw [e0] at h
    exact h
  | ok d =>
    unfold iSeq at h
    rw [e0] at h
    have h : PX X.K X.mg E I H (SU S) (fun ds => ∀ J I' H', Gr I H I' H' → Wk X.K fr J I' H' ds → Rr J H') (asSeq d) := h
    cases d with
    | list xs =>
      refine .inl (q I S ρ σ H _ R ?_)
      rw [e0]
      intro v I1 H1 T1 g1 w1 n1
      have g := g1.fz fun a m => ⟨n1.free a m, (w1.nodes a m).ne⟩
      have r := w1.rb (fr := fr) hk
      cases r with
      | lst i hh z rr => exact ⟨_, rfl, ⟨_, .inl (.inl hh)⟩, h _ _ H1 g (wk_list i hh z rr)⟩
    | tuple xs =>
      refine .inr (q I S ρ σ H _ R ?_)
      rw [e0]
      intro v I1 H1 T1 g1 w1 n1
      have g := g1.fz fun a m => ⟨n1.free a m, (w1.nodes a m).ne⟩
      have r := w1.rb (fr := fr) hk
      cases r with
      | tup hh z rr => exact ⟨_, rfl, ⟨_, KT.sq hh⟩, h _ _ H1 g (wk_tup hh z rr)⟩
    | _ => exact h.elim
/-- range(..) -/
def intL (lo c : Int) (n : Nat) : List D := (List.range n).map fun i => .int (lo + (i : Nat) * c)
def rngA : D → Res (List D)
  | .int j => if -(2 ^ 62) ≤ j ∧ j < 16777216 then .ok (intL 0 1 j.toNat) else .bad
  | _ => .bad
def rngB : D → D → Res (List D)
  | .int i, .int j => if (-(2 ^ 62) ≤ i ∧ i < 2 ^ 62) ∧ (-(2 ^ 62) ≤ j ∧ j < 2 ^ 62) ∧ j - i < 16777216 then .ok (intL i 1 (j - i).toNat) else .bad
  | _, _ => .bad
/-- downwards by ones -/
def rngC : D → D → D → Res (List D)
  | .int i, .int j, .int c => if (-(2 ^ 62) ≤ i ∧ i < 2 ^ 62) ∧ (-(2 ^ 62) ≤ j ∧ j < 2 ^ 62) ∧ i - j < 16777216 ∧ c = -1 then .ok (intL i (-1) (i - j).toNat) else .bad
  | _, _, _ => .bad
def iRng1D (f : Env → Res D) : Env → Res (List D) := fun ρ => f ρ >>= rngA
def iRng2D (f g : Env → Res D) : Env → Res (List D) := fun ρ => f ρ >>= fun d => g ρ >>= fun e => rngB d e
def iRng3D (f g h : Env → Res D) : Env → Res (List D) := fun ρ => f ρ >>= fun d => g ρ >>= fun e => h ρ >>= fun z => rngC d e z
theorem wk_rng {K : PySem.W.Frag} {I : Addr → Prop} {H : Hp} {lo : Int} {n : Nat} (hn : n ≤ 16777216) : Wk K fr (Itr lo n) I H (intL lo 1 n) where
  go := fun i I1 H1 hi _ => by
    have : i < n := by simpa [intL] using hi
    exact this
  stop := fun I1 H1 _ => by
    show n ≤ (intL lo 1 n).length
    simp [intL]
  yld := fun i d I1 H1 x H' e _ y => by
    obtain ⟨rfl, rfl⟩ := y
    refine ⟨I1, .refl, ?_⟩
    unfold intL at e
    rw [List.getElem?_map] at e
    by_cases hi : i < n
    · rw [List.getElem?_range hi] at e
      cases e
      show RB fr K I1 H' (V.int (lo + (i : Int))) (PyData.int (lo + (i : Nat) * 1))
      rw [Int.mul_one]
      exact Rp.int _
    · rw [List.getElem?_eq_none (by simpa using hi)] at e
      cases e
  len := by rw [sizeLine_eq]; simp [intL]; exact hn
theorem wk_rngC {K : PySem.W.Frag} {I : Addr → Prop} {H : Hp} {lo c : Int} {n : Nat} (hn : n ≤ 16777216) : Wk K fr (Itc lo c n) I H (intL lo c n) where
  go := fun i I1 H1 hi _ => by
    have : i < n := by simpa [intL] using hi
    exact this
  stop := fun I1 H1 _ => by
    show n ≤ (intL lo c n).length
    simp [intL]
  yld := fun i d I1 H1 x H' e _ y => by
    obtain ⟨rfl, rfl⟩ := y
    refine ⟨I1, .refl, ?_⟩
    unfold intL at e
    rw [List.getElem?_map] at e
    by_cases hi : i < n
    · rw [List.getElem?_range hi] at e
      cases e
      exact Rp.int _
    · rw [List.getElem?_eq_none (by simpa using hi)] at e
      cases e
  len := by rw [sizeLine_eq]; simp [intL]; exact hn
variable {tg a b c : Expr} {p : Pos} {f g h : Env → Res D} {kc : Option Nat}
theorem di_rng1 (hg : Gl X "range") (hm : X.mg "range" = none) (ha : DP X E Γ a ka f) (hs : starEach [a] X.env = [(false, eval a X.env)] := by rfl) : DI X E Γ tg (.Call (.Name "range" p) [a] [] pos) fr (iRng1D f) := by
  obtain ⟨ta, pa, qa⟩ := ha.ex
  refine ⟨_, pi_range1 hg hm (pa_cons pa pa_nil hs) hs, fun I S ρ σ H Rr R hh => ?_⟩
  refine seq1 qa R hh fun d v I1 H1 T1 e1 h1 g1 w1 n1 R1 => ?_
  cases d with
  | int j =>
    have e := w1.rt.int
    subst e
    have h1 : PX X.K X.mg E I H (SU S) (fun ds => ∀ J I' H', Gr I H I' H' → Wk X.K fr J I' H' ds → Rr J H') (if -(2 ^ 62) ≤ j ∧ j < 16777216 then .ok (intL 0 1 j.toNat) else .bad) := h1
    split at h1
    · rename_i hc
      exact ⟨j, rfl, hc.1, by omega, h1 _ I1 H1 g1 (wk_rng (by omega))⟩
    · exact h1.elim
  | _ => exact h1.elim
theorem di_rng2 (hg : Gl X "range") (hm : X.mg "range" = none) (ha : DP X E Γ a ka f) (hb : DP X E Γ b kb g) (hs : starEach [a, b] X.env = [(false, eval a X.env), (false, eval b X.env)] := by rfl) (hs2 : starEach [b] X.env = [(false, eval b X.env)] := by rfl) : DI X E Γ tg (.Call (.Name "range" p) [a, b] [] pos) fr (iRng2D f g) := by
  obtain ⟨ta, pa, qa⟩ := ha.ex
  obtain ⟨tb, pb, qb⟩ := hb.ex
  refine ⟨_, pi_range2 hg hm (pa_cons pa (pa_cons pb pa_nil hs2) (by rw [hs, hs2])) hs hs2, fun I S ρ σ H Rr R hh => ?_⟩
  refine seq1 qa R hh fun d v I1 H1 T1 e1 h1 g1 w1 n1 R1 => ?_
  refine seq1 qb R1 (PX.later (P' := fun ds => ∀ J I' H', Gr I H I' H' → Wk X.K fr J I' H' ds → Rr J H') h1 (g1.evo R.trk) fun _ _ z => z) fun e w I2 H2 T2 e2 h2 g2 w2 n2 R2 => ?_
  cases d <;> cases e <;> first | exact h2.elim | skip
  rename_i i j
  have e := w1.rt.int
  subst e
  have e := w2.rt.int
  subst e
  have h2 : PX X.K X.mg E I1 H1 (SU S) (fun ds => ∀ J I' H', Gr I H I' H' → Wk X.K fr J I' H' ds → Rr J H') (if (-(2 ^ 62) ≤ i ∧ i < 2 ^ 62) ∧ (-(2 ^ 62) ≤ j ∧ j < 2 ^ 62) ∧ j - i < 16777216 then .ok (intL i 1 (j - i).toNat) else .bad) := h2
  split at h2
  · rename_i hc
    exact ⟨i, j, rfl, ⟨hc.1.1, hc.1.2, hc.2.1.1, hc.2.1.2⟩, h2 _ I2 H2 (g1.trans g2) (wk_rng (by omega))⟩
  · exact h2.elim
theorem di_rng3 (hg : Gl X "range") (hm : X.mg "range" = none) (ha : DP X E Γ a ka f) (hb : DP X E Γ b kb g) (hc : DP X E Γ c kc h) (hs : starEach [a, b, c] X.env = (false, eval a X.env) :: starEach [b, c] X.env := by rfl) (hs2 : starEach [b, c] X.env = (false, eval b X.env) :: starEach [c] X.env := by rfl) (hs3 : starEach [c] X.env = (false, eval c X.env) :: starEach [] X.env := by rfl)
    (hpl : (backTo pos (starEach [b, c] X.env)).any (·.1) = false := by rfl) : DI X E Γ tg (.Call (.Name "range" p) [a, b, c] [] pos) fr (iRng3D f g h) := by
  obtain ⟨ta, pa, qa⟩ := ha.ex
  obtain ⟨tb, pb, qb⟩ := hb.ex
  obtain ⟨tc, pc, qc⟩ := hc.ex
  refine ⟨_, pi_range3 hg hm (pa_cons pa (pa_cons pb (pa_cons pc pa_nil hs3) hs2) hs) hs hpl, fun I S ρ σ H Rr R hh => ?_⟩
  refine seq1 qa R hh fun d v I1 H1 T1 e1 h1 g1 w1 n1 R1 => ?_
  refine seq1 qb R1 (PX.later (P' := fun ds => ∀ J I' H', Gr I H I' H' → Wk X.K fr J I' H' ds → Rr J H') h1 (g1.evo R.trk) fun _ _ z => z) fun e w I2 H2 T2 e2 h2 g2 w2 n2 R2 => ?_
  refine seq1 qc R2 (PX.later (P' := fun ds => ∀ J I' H', Gr I H I' H' → Wk X.K fr J I' H' ds → Rr J H') h2 (g2.evo R1.trk) fun _ _ z => z) fun z u I3 H3 T3 e3 h3 g3 w3 n3 R3 => ?_
  cases d <;> cases e <;> cases z <;> first | exact h3.elim | skip
  rename_i i j l
  have e := w1.rt.int
  subst e
  have e := w2.rt.int
  subst e
  have e := w3.rt.int
  subst e
  have h4 : PX X.K X.mg E I2 H2 (SU S) (fun ds => ∀ J I' H', Gr I H I' H' → Wk X.K fr J I' H' ds → Rr J H') (if (-(2 ^ 62) ≤ i ∧ i < 2 ^ 62) ∧ (-(2 ^ 62) ≤ j ∧ j < 2 ^ 62) ∧ i - j < 16777216 ∧ l = -1 then .ok (intL i (-1) (i - j).toNat) else .bad) := h3
  clear h3
  split at h4
  · rename_i hc
    have h3 := h4
    obtain ⟨⟨c1, c2⟩, ⟨c3, c4⟩, c5, c6⟩ := hc
    subst c6
    exact ⟨i, j, -1, (i - j).toNat, rfl, RgC.neg c1 c2 c3 c4, h3 _ I3 H3 ((g1.trans g2).trans g3) (wk_rngC (by omega))⟩
  · exact h4.elim
/-- enumerate(a list) -/
def enumL : Nat → List D → List D
  | _, [] => []
  | n, d :: r => .tuple [.int n, d] :: enumL (n + 1) r
theorem enumL_len : ∀ (r : List D) (n : Nat), (enumL n r).length = r.length
  | [], _ => rfl
  | d :: r, n => congrArg Nat.succ (enumL_len r (n + 1))
theorem enumL_get : ∀ (r : List D) (n i : Nat) (x : D), (enumL n r)[i]? = some x → ∃ d, r[i]? = some d ∧ x = .tuple [.int (n + i : Nat), d]
  | [], n, i, x, h => by simp [enumL] at h
  | d :: r, n, 0, x, h => ⟨d, rfl, (Option.some.inj h).symm⟩
  | d :: r, n, i + 1, x, h => by
    obtain ⟨e, h1, h2⟩ := enumL_get r (n + 1) i x (by simpa [enumL] using h)
    exact ⟨e, by simpa using h1, by rw [h2]; congr 3; omega⟩
def asList : D → Res (List D)
  | .list xs => .ok xs
  | _ => .bad
def iEnumD (f : Env → Res D) : Env → Res (List D) := fun ρ => f ρ >>= asList >>= fun xs => .ok (enumL 0 xs)
theorem asList_bnd {α : Type} {r : Res D} {h : List D → Res α} : (r >>= asList >>= h) = (r >>= fun d => asList d >>= h) := by cases r <;> rfl
theorem wk_enum {K : PySem.W.Frag} {I : Addr → Prop} {H : Hp} {a : Addr} {xs : List V} {ds : List D} (i0 : I a ∨ (fr = false ∧ Nod H a)) (h : H a = some (.lst xs)) (z : xs.length ≤ sizeLine) (r : RBA fr K I H xs ds) : Wk K fr (Ite K a) I H (enumL 0 ds) where
  go := fun i I1 H1 hi l => by
    rw [enumL_len] at hi
    obtain ⟨v, e, _⟩ := r.get (List.getElem?_eq_getElem hi)
    exact ⟨xs, v, .inl (.inl (l.2 a _ i0 h fun _ z => nomatch z)), e⟩
  stop := fun I1 H1 l => ⟨xs, .inl (.inl (l.2 a _ i0 h fun _ z => nomatch z)), by rw [enumL_len]; exact Nat.le_of_eq r.len⟩
  yld := fun i d I1 H1 x H' e l y => by
    obtain ⟨T, w, rfl, hT, rfl, y⟩ := y
    obtain ⟨d0, e0, rfl⟩ := enumL_get ds 0 i d e
    obtain ⟨v, e2, rv⟩ := r.get e0
    have e3 := y xs (.inl (.inl (l.2 a _ i0 h fun _ z => nomatch z)))
    rw [e2] at e3
    cases e3
    refine ⟨_, Gr.layI hT, .tup (.inl ⟨.inl (.inr (List.mem_singleton.mpr rfl)), upd_same⟩) (by show 2 ≤ sizeLine; decide) (.cons ?_ (.cons ?_ .nil))⟩
    · rw [Nat.zero_add]; exact .int _
    · exact RB.later (RB.lt rv l) (fun a q => .inl q) (fun a o e _ => upd_keep hT a o e)
  len := by rw [enumL_len, ← r.len]; exact z
theorem di_enum {elts : List Expr} {kk : Nat} {tpos : Pos} (hg : Gl X "enumerate") (hm : X.mg "enumerate" = none) (ha : DP X E Γ a k f) (hk : fr = true → k ≠ none := by decide) (hs : starEach [a] X.env = [(false, eval a X.env)] := by rfl) :
    DI X E Γ (.Tuple elts kk tpos) (.Call (.Name "enumerate" p) [a] [] pos) fr (iEnumD f) := by
  obtain ⟨ta, pa, qa⟩ := ha.ex
  refine ⟨_, pi_enum hg hm (pa_cons pa pa_nil hs) hs, fun I S ρ σ H Rr R hh => ?_⟩
  unfold iEnumD at hh
  rw [asList_bnd] at hh
  refine seq1 qa R hh fun d v I1 H1 T1 e1 h1 g1 w1 n1 R1 => ?_
  cases d with
  | list xs =>
    have g := g1.fz fun a m => ⟨n1.free a m, (w1.nodes a m).ne⟩
    have r := w1.rb (fr := fr) hk
    cases r with
    | lst i hh z rr => exact ⟨_, _, rfl, .inl (.inl hh), h1 _ _ H1 g (wk_enum i hh z rr)⟩
  | _ => exact h1.elim
end
end DL

namespace DL
open PySem PySem.Spec PyProof.Rows L2

def wipeG (Γ : List SK) : List Nat → List SK
  | [] => Γ
  | v :: vs => (wipeG Γ vs).set v .no
theorem wipeG_length (Γ : List SK) : ∀ vs, (wipeG Γ vs).length = Γ.length
  | [] => rfl
  | v :: vs => by unfold wipeG; rw [List.length_set, wipeG_length Γ vs]
theorem wipeG_out {Γ : List SK} {i : Nat} : ∀ {vs : List Nat}, i ∉ vs → (wipeG Γ vs)[i]? = Γ[i]?
  | [], _ => rfl
  | v :: vs, h => by
    unfold wipeG
    rw [List.getElem?_set_ne (fun z => h (by rw [z]; exact List.mem_cons_self)), wipeG_out fun m => h (List.mem_cons_of_mem _ m)]
theorem wipeG_in {Γ : List SK} {i : Nat} {k : SK} : ∀ {vs : List Nat}, i ∈ vs → (wipeG Γ vs)[i]? = some k → k = .no
  | v :: vs, h, e => by
    unfold wipeG at e
    by_cases hv : v = i
    · subst hv
      by_cases hl : v < (wipeG Γ vs).length
      · rw [List.getElem?_set_self hl] at e; exact (Option.some.inj e).symm
      · rw [List.getElem?_eq_none (by rw [List.length_set]; omega)] at e; cases e
    · rw [List.getElem?_set_ne hv] at e
      exact wipeG_in ((List.mem_cons.mp h).resolve_left fun z => hv z.symm) e
theorem wipe_in {σ : L2.St} {i : Nat} : ∀ {vs : List Nat}, i ∈ vs → (wipe σ vs)[i]? = if i < σ.length then some none else none
  | v :: vs, h => by
    unfold wipe
    by_cases hv : v = i
    · subst hv
      by_cases hl : v < σ.length
      · rw [List.getElem?_set_self (by rw [wipe_length]; exact hl), if_pos hl]
      · rw [List.getElem?_eq_none (by rw [List.length_set, wipe_length]; omega), if_neg hl]
    · rw [List.getElem?_set_ne hv]
      exact wipe_in ((List.mem_cons.mp h).resolve_left fun z => hv z.symm)
theorem wipe_off {σ σ2 : L2.St} {vs ps : List Nat} (h : Off ps (wipe σ vs) σ2) (hp : ∀ i ∈ ps, i ∈ vs) : wipe σ2 vs = wipe σ vs := by
  have hl : σ2.length = σ.length := h.1.trans (wipe_length _ _)
  refine List.ext_getElem? fun i => ?_
  by_cases hi : i ∈ vs
  · rw [wipe_in hi, wipe_in hi, hl]
  · rw [wipe_out hi, h.2 i (fun m => hi (hp i m))]
theorem ER.wipe [Wd] {K : PySem.W.Frag} {I : Addr → Prop} {Γ : List SK} {ρ : Env} {σ : L2.St} {H : Hp} {S : Nat → List Addr} (R : ER K I Γ ρ σ H S) (vs : List Nat) :
    ER K I (wipeG Γ vs) ρ (L2.wipe σ vs) H (fun i => if i ∈ vs then [] else S i) where
  slot := fun i k e => by
    by_cases hi : i ∈ vs
    · rw [wipeG_in hi e]; trivial
    · rw [wipeG_out hi] at e
      show SlotR K I H k (if i ∈ vs then [] else S i) _ _
      rw [if_neg hi, wipe_out hi]
      exact R.slot i k e
  sd := fun i a m => by
    have m : a ∈ (if i ∈ vs then [] else S i) := m
    by_cases hi : i ∈ vs
    · rw [if_pos hi] at m; cases m
    · rw [if_neg hi] at m
      obtain ⟨k, e⟩ := R.sd i a m
      exact ⟨k, by rw [wipeG_out hi]; exact e⟩
  dis := fun i j a hij m1 m2 => by
    have m1 : a ∈ (if i ∈ vs then [] else S i) := m1
    have m2 : a ∈ (if j ∈ vs then [] else S j) := m2
    split at m1
    · cases m1
    · split at m2
      · cases m2
      · exact R.dis i j a hij m1 m2
  nod := fun i => by
    show (if i ∈ vs then [] else S i).Nodup
    split
    · exact .nil
    · exact R.nod i
  nI := fun i a m => by
    have m : a ∈ (if i ∈ vs then [] else S i) := m
    split at m
    · cases m
    · exact R.nI i a m
  tr := R.tr
  lr := by rw [wipeG_length]; exact R.lr
  ls := by rw [wipeG_length, wipe_length]; exact R.ls
  tb := R.tb

structure DTs [Wd] (X : Cx) (E : XK) (Γ : List SK) (ifs : List Expr) (f : Env → Res Bool) : Prop where
  ex : ∃ t : TT, PTs X ifs t ∧ ∀ I S ρ σ H Q, ER X.K I Γ ρ σ H S → PX X.K X.mg E I H (SU S) (fun b => ∀ I' H', Gr I H I' H' → Q b H') (f ρ) → t σ H Q
def tYesD : Env → Res Bool := fun _ => .ok true
theorem dts_nil [Wd] {X : Cx} {E : XK} {Γ : List SK} : DTs X E Γ [] tYesD := ⟨_, pts_nil, fun I S ρ σ H Q R h => h I H .refl⟩
theorem dts_one [Wd] {X : Cx} {E : XK} {Γ : List SK} {c : Expr} {f : Env → Res Bool} (h : DT X E Γ c f) : DTs X E Γ [c] f := by
  obtain ⟨t, p, q⟩ := h.ex
  exact ⟨t, pts_one p, q⟩
/-- the items made -/
def compM (fr : Bool) (p : Pat) (c : Env → Res Bool) (e : Env → Res D) (ρ : Env) : List D → Res (List D)
  | [] => .ok []
  | d :: r => if fr || flat d then bindP p d ρ >>= fun ρ1 => c ρ1 >>= fun b => if b = true then e ρ1 >>= fun y => compM fr p c e ρ r >>= fun ys => .ok (y :: ys) else compM fr p c e ρ r else .bad
def dComp (fr : Bool) (it : Env → Res (List D)) (p : Pat) (c : Env → Res Bool) (e : Env → Res D) : Env → Res D := fun ρ => it ρ >>= fun xs => (compM fr p c e ρ xs).nox >>= fun ys => .ok (.list ys)
theorem comp_len {fr : Bool} {p : Pat} {c : Env → Res Bool} {e : Env → Res D} {ρ : Env} : ∀ {ds ys : List D}, compM fr p c e ρ ds = .ok ys → ys.length ≤ ds.length
  | [], ys, h => by cases h; exact Nat.le_refl _
  | d :: r, ys, h => by
    unfold compM at h
    split at h
    · cases e1 : bindP p d ρ with
      | bad => rw [e1] at h; cases h
      | exc _ _ => rw [e1] at h; cases h
      | ok ρ1 =>
        rw [e1, Res.ok_bnd] at h
        cases e2 : c ρ1 with
        | bad => rw [e2] at h; cases h
        | exc _ _ => rw [e2] at h; cases h
        | ok b =>
          rw [e2, Res.ok_bnd] at h
          cases b with
          | false => exact Nat.le_succ_of_le (comp_len h)
          | true =>
            simp only [if_true] at h
            cases e3 : e ρ1 with
            | bad => rw [e3] at h; cases h
            | exc _ _ => rw [e3] at h; cases h
            | ok y =>
              rw [e3, Res.ok_bnd] at h
              cases e4 : compM fr p c e ρ r with
              | bad => rw [e4] at h; cases h
              | exc _ _ => rw [e4] at h; cases h
              | ok ys' =>
                rw [e4] at h
                cases h
                exact Nat.succ_le_succ (comp_len e4)
    · cases h

section
variable [Wd] {X : Cx} {E : XK} {Γ : List SK} {pos : Pos} {fr : Bool} {n : Nat}
theorem RB.item {K : PySem.W.Frag} {I : Addr → Prop} {H : Hp} {v : V} {d : D} (h : RB fr K I H v d) (f : (fr || flat d) = true) : Rp K I H v d := by
  cases fr with
  | true => exact RB.rp h
  | false => exact RB.ofFlat h f
/-- the reading of a comprehension -/
theorem compQ {wi : TI} {g : TG} {tt : TT} {te : TE} {vs : List Nat} {p : Pat} {fi : Env → Res (List D)} {fc : Env → Res Bool} {fe : Env → Res D} {K : PySem.W.Frag} {mg : Str → Option Value} {E0 : XK}
    (qi : ∀ I S ρ σ H R, ER K I Γ ρ σ H S → PX K mg E I H (SU S) (fun ds => ∀ J I' H', Gr I H I' H' → Wk K fr J I' H' ds → R J H') (fi ρ) → wi σ H R)
    (qg : ∀ I S ρ σ H v d Q ρ', ER K I (wipeG Γ vs) ρ σ H S → Rp K I H v d → bindP p d ρ = .ok ρ' → (∀ σ' S', ER K I (setP p (wipeG Γ vs)) ρ' σ' H S' → (∀ i a, a ∈ S' i → a ∈ S i) → Off (slotsP p) σ σ' → Q σ' H) → g v σ H Q)
    (qt : ∀ I S ρ σ H Q, ER K I (setP p (wipeG Γ vs)) ρ σ H S → PX K mg E0 I H (SU S) (fun b => ∀ I' H', Gr I H I' H' → Q b H') (fc ρ) → tt σ H Q)
    (qe : ∀ I S ρ σ H (Q : VK), ER K I (setP p (wipeG Γ vs)) ρ σ H S → PX K mg E0 I H (SU S) (fun d => ∀ v I' H' T, Gr I H I' H' → VR K I' H' (some n) T v d → New I H I' T → Q v H') (fe ρ) → te σ H Q)
    (hp : ∀ i ∈ slotsP p, i ∈ vs) {I : Addr → Prop} {S : Nat → List Addr} {ρ : Env} {σ : L2.St} {H : Hp} {Q : VK} (R : ER K I Γ ρ σ H S)
    (h : PX K mg E I H (SU S) (fun d => ∀ v I' H' T, Gr I H I' H' → VR K I' H' (some (n + 1)) T v d → New I H I' T → Q v H') (dComp fr fi p fc fe ρ)) : tLc wi g tt te vs σ H Q := by
  refine qi I S ρ σ H _ R (PX.imp (PX.bnd h) fun ds _ ⟨e0, h⟩ => ?_)
  intro J I1 H1 g1 wk D hD
  have R1 := R.grow g1
  cases e1 : compM fr p fc fe ρ ds with
  | bad => rw [e1] at h; exact h.elim
  | exc _ _ => rw [e1] at h; exact h.elim
  | ok ys =>
    rw [e1] at h
    have h : ∀ v I' H' T, Gr I H I' H' → VR K I' H' (some (n + 1)) T v (.list ys) → New I H I' T → Q v H' := h
    have hDI : ¬ I1 D := fun z => R1.tr D z hD
    refine ⟨fun i m H2 => m = ds.length - i ∧ i ≤ ds.length ∧ ∃ (I2 : Addr → Prop) (acc : List V) (ds0 rest : List DL.D) (T : List Addr), Gr I1 H1 I2 H2 ∧ H2 D = some (.lst acc) ∧ ¬ I2 D ∧ OwA K I2 H2 n T acc ds0 ∧
      (∀ a ∈ T, H1 a = none ∧ ¬ I2 a ∧ a ≠ D) ∧ T.Nodup ∧ ds0.length ≤ i ∧ compM fr p fc fe ρ (ds.drop i) = .ok rest ∧ ds0 ++ rest = ys, ⟨ds.length, by simp, Nat.zero_le _, I1, [], [], ys, [], Gr.lay hD, upd_same, hDI, .nil, fun a m => nil_nm m, .nil, Nat.le_refl _, by simpa using e1, rfl⟩, ?_⟩
    rintro i m H2 ⟨rfl, hi, I2, acc, ds0, rest, T, g2, eD, nD, ow, fr2, nd, hl, er, ey⟩
    have R2 := R1.grow g2
    by_cases hlt : i < ds.length
    · refine .inr ⟨wk.go i I2 H2 hlt g2.lt, fun H3 => i + 1 ≤ ds.length ∧ ∃ (I2 : Addr → Prop) (acc : List V) (ds0 rest : List DL.D) (T : List Addr), Gr I1 H1 I2 H3 ∧ H3 D = some (.lst acc) ∧ ¬ I2 D ∧ OwA K I2 H3 n T acc ds0 ∧
        (∀ a ∈ T, H1 a = none ∧ ¬ I2 a ∧ a ≠ D) ∧ T.Nodup ∧ ds0.length ≤ i + 1 ∧ compM fr p fc fe ρ (ds.drop (i + 1)) = .ok rest ∧ ds0 ++ rest = ys, fun H3 z => ⟨ds.length - (i + 1), by omega, rfl, z.1, z.2⟩, fun x H3 y => ?_⟩
      obtain ⟨I3, g3, rx⟩ := wk.yld i ds[i] I2 H2 x H3 (List.getElem?_eq_getElem hlt) g2.lt y
      rw [List.drop_eq_getElem_cons hlt] at er
      unfold compM at er
      split at er
      · rename_i hf
        have rx := RB.item rx hf
        have R3 := (R2.grow g3).wipe vs
        cases e3 : bindP p ds[i] ρ with
        | bad => rw [e3] at er; cases er
        | exc _ _ => rw [e3] at er; cases er
        | ok ρ1 =>
          rw [e3, Res.ok_bnd] at er
          refine qg I3 _ ρ _ H3 x ds[i] _ ρ1 R3 rx e3 fun σ4 S4 R4 s4 o4 => ⟨wipe_off o4 hp, ?_⟩
          cases e4 : fc ρ1 with
          | bad => rw [e4] at er; cases er
          | exc _ _ => rw [e4] at er; cases er
          | ok b =>
            rw [e4, Res.ok_bnd] at er
            refine qt I3 S4 ρ1 σ4 H3 _ R4 ?_
            rw [e4]
            intro I5 H5 g5
            have g25 := g3.trans g5
            have nD5 : ¬ I5 D := fun z => (g25.new D z).elim nD fun q => by rw [eD] at q; exact nomatch q.1
            have ow5 : OwA K I5 H5 n T acc ds0 := ow.mono g25.sub (fun a o _ e n => g25.kp a o e n) fun a _ o e n => g25.kp a o e n
            have fr5 : ∀ a ∈ T, H1 a = none ∧ ¬ I5 a ∧ a ≠ D := fun a m => ⟨(fr2 a m).1, fun z => (g25.new a z).elim (fr2 a m).2.1 fun q => (OwA.nod ow a m).ne q.1, (fr2 a m).2.2⟩
            cases b with
            | false => exact ⟨hlt, I5, acc, ds0, rest, T, g2.trans g25, (g25.kp D _ eD fun _ z => nomatch z), nD5, ow5, fr5, nd, Nat.le_succ_of_le hl, er, ey⟩
            | true =>
              simp only [if_true] at er ⊢
              cases e5 : fe ρ1 with
              | bad => rw [e5] at er; cases er
              | exc _ _ => rw [e5] at er; cases er
              | ok y =>
                rw [e5, Res.ok_bnd] at er
                refine qe I5 S4 ρ1 σ4 H5 _ (R4.grow g5) ?_
                rw [e5]
                intro v I6 H6 T6 g6 w6 n6
                have w6 : Ow K I6 H6 n T6 v y := w6
                cases e6 : compM fr p fc fe ρ (ds.drop (i + 1)) with
                | bad => rw [e6] at er; cases er
                | exc _ _ => rw [e6] at er; cases er
                | ok rest' =>
                  rw [e6] at er
                  cases er
                  have eD6 : H6 D = some (.lst acc) := g6.kp D _ (g25.kp D _ eD fun _ z => nomatch z) fun _ z => nomatch z
                  have hlen : acc.length < sizeLine := by
                    have := ow.len
                    have := wk.len
                    omega
                  refine ⟨acc, eD6, hlen, hlt, I6, acc ++ [v], ds0 ++ [y], rest', T ++ T6, ?_, upd_same, ?_, ?_, ?_, ?_, ?_, rfl, ?_⟩
                  · -- the heap has grown from H1 on
                    have g16 := (g2.trans g25).trans g6
                    refine ⟨g16.sub, fun a z => (g16.new a z).imp id fun q => ⟨q.1, ?_⟩, fun b o e n => ?_, fun {a} z => ?_, fun t => (g16.tab t).nod (.inl ⟨_, eD6⟩)⟩
                    · by_cases hb : a = D
                      · rw [hb, upd_same]; exact fun z => nomatch z
                      · rw [upd_ne hb]; exact q.2
                    · have hb : b ≠ D := fun z => by rw [z, hD] at e; cases e
                      rw [upd_ne hb]
                      exact g16.kp b o e n
                    · by_cases hb : a = D
                      · rw [hb, upd_same]; exact fun z => nomatch z
                      · rw [upd_ne hb]; exact g16.there z
                  · exact fun z => (g6.new D z).elim nD5 fun q => by
                      have e := (g25.kp D _ eD fun _ z => nomatch z)
                      rw [e] at q
                      exact nomatch q.1
                  · have nD6 : ¬ I6 D := fun z => (g6.new D z).elim nD5 fun q => by
                      have e := (g25.kp D _ eD fun _ z => nomatch z)
                      rw [e] at q
                      exact nomatch q.1
                    have k6 : ∀ a o, a ≠ D → H6 a = some o → (upd H6 D (.lst (acc ++ [v]))) a = some o := fun a o na e => by rw [upd_ne na]; exact e
                    refine OwA.append ?_ (T := T6) (by
                      have := OwA.cons (T := []) (w6.mono (I' := I6) (H' := upd H6 D (.lst (acc ++ [v]))) (fun _ z => z) (fun a o ia e _ => k6 a o (fun z => nD6 (z ▸ ia)) e) fun a m o e _ => k6 a o (fun z => by
                        have := n6.free a m
                        rw [z, (g25.kp D _ eD fun _ z => nomatch z)] at this
                        cases this) e) (OwA.nil (K := K) (I := I6) (H := upd H6 D (.lst (acc ++ [v]))) (n := n))
                      rw [List.append_nil] at this
                      exact this)
                    exact ow5.mono g6.sub (fun a o ia e n => k6 a o (fun z => nD5 (z ▸ ia)) (g6.kp a o e n)) fun a m o e n => k6 a o (fr5 a m).2.2 (g6.kp a o e n)
                  · intro a m
                    rcases List.mem_append.mp m with m | m
                    · exact ⟨(fr5 a m).1, fun z => (g6.new a z).elim (fr5 a m).2.1 fun q => (OwA.nod ow5 a m).ne q.1, (fr5 a m).2.2⟩
                    · exact ⟨(g2.trans g25).free (n6.free a m), n6.nI a m, fun z => by
                        have := n6.free a m
                        rw [z, (g25.kp D _ eD fun _ z => nomatch z)] at this
                        cases this⟩
                  · refine List.nodup_append.mpr ⟨nd, n6.nod, fun a m b m' e => ?_⟩
                    subst e
                    exact (OwA.nod ow5 a m).ne (n6.free a m')
                  · rw [List.length_append]
                    simp
                    omega
                  · rw [List.append_assoc]
                    exact ey
      · cases er
    · have hi' : i = ds.length := by omega
      subst hi'
      refine .inl ⟨wk.stop I2 H2 g2.lt, ?_⟩
      rw [List.drop_length] at er
      cases er
      rw [List.append_nil] at ey
      subst ey
      refine h (.ref D) I2 H2 (D :: T) (g1.trans g2) (.lst eD (by rw [ow.len]; exact Nat.le_trans hl wk.len) ow) ⟨fun a m => ?_, fun a m => ?_, ?_⟩
      · rcases List.mem_cons.mp m with e | m
        · rw [e]; exact g1.free hD
        · exact g1.free (fr2 a m).1
      · rcases List.mem_cons.mp m with e | m
        · rw [e]; exact nD
        · exact (fr2 a m).2.1
      · exact List.nodup_cons.mpr ⟨fun m => (fr2 D m).2.2 rfl, nd⟩
def canE (K : PySem.W.Frag) (mg : Str → Option Value) (E : XK) (Γ : List SK) (k : Option Nat) (f : Env → Res D) : TE := fun σ H Q => ∃ (I : Addr → Prop) (S : Nat → List Addr) (ρ : Env), ER K I Γ ρ σ H S ∧ PX K mg E I H (SU S) (fun d => ∀ v I' H' T, Gr I H I' H' → VR K I' H' k T v d → New I H I' T → Q v H') (f ρ)
def canT (K : PySem.W.Frag) (mg : Str → Option Value) (E : XK) (Γ : List SK) (f : Env → Res Bool) : TT := fun σ H Q => ∃ (I : Addr → Prop) (S : Nat → List Addr) (ρ : Env), ER K I Γ ρ σ H S ∧ PX K mg E I H (SU S) (fun b => ∀ I' H', Gr I H I' H' → Q b H') (f ρ)
def canG (K : PySem.W.Frag) (Γ : List SK) (p : Pat) : TG := fun v σ H Q => ∃ (I : Addr → Prop) (S : Nat → List Addr) (ρ : Env) (d : D) (ρ' : Env), ER K I Γ ρ σ H S ∧ Rp K I H v d ∧ bindP p d ρ = .ok ρ' ∧ ∀ σ' S', ER K I (setP p Γ) ρ' σ' H S' → (∀ i a, a ∈ S' i → a ∈ S i) → Off (slotsP p) σ σ' → Q σ' H
theorem DP.can {e : Expr} {k : Option Nat} {f : Env → Res D} (h : DP X E Γ e k f) : PE X e (canE X.K X.mg E Γ k f) := by
  obtain ⟨t, p, q⟩ := h.ex
  exact ⟨fun pins s σ H Q I ⟨I0, S, ρ, R, h⟩ => p.run pins s σ H Q I (q I0 S ρ σ H Q R h)⟩
theorem DTs.can {ifs : List Expr} {f : Env → Res Bool} (h : DTs X E Γ ifs f) : PTs X ifs (canT X.K X.mg E Γ f) := by
  obtain ⟨t, p, q⟩ := h.ex
  exact ⟨fun pins s σ H Q I ⟨I0, S, ρ, R, h⟩ => p.run pins s σ H Q I (q I0 S ρ σ H Q R h)⟩
theorem DG.can {tg : Expr} {p : Pat} (h : DG X Γ tg p) : PG X tg (canG X.K Γ p) := by
  obtain ⟨t, p, q⟩ := h.ex
  exact ⟨fun pins s σ H v u Q I r ⟨I0, S, ρ, d, ρ', R, rv, hb, h⟩ => p.run pins s σ H v u Q I r (q I0 S ρ σ H v d Q ρ' R rv hb h)⟩
theorem dp_comp {elt tg iter : Expr} {ifs : List Expr} {scope : Scope} {own : List (Str × Nat)} {p : Pat} {fi : Env → Res (List D)} {fc : Env → Res Bool} {fe : Env → Res D} (hc : X.calm = true) (hN : X.N.Nodup) (hi : DI X E Γ tg iter fr fi) (ok : BlkOk X.N X.env.scope scope own)
    (hg : ∀ (s : Shared) (H : Hp) (C : Addr) (cl : List (Str × Addr)) (fp : List Addr), DG (X.blk s H scope (compEnvC scope cl C X.env) fp) (wipeG Γ (own.map (·.2))) tg p)
    (ht : ∀ (s : Shared) (H : Hp) (C : Addr) (cl : List (Str × Addr)) (fp : List Addr), DTs (X.blk s H scope (compEnvC scope cl C X.env) fp) E0 (setP p (wipeG Γ (own.map (·.2)))) ifs fc)
    (he : ∀ (s : Shared) (H : Hp) (C : Addr) (cl : List (Str × Addr)) (fp : List Addr), DP (X.blk s H scope (compEnvC scope cl C X.env) fp) E0 (setP p (wipeG Γ (own.map (·.2)))) elt (some n) fe)
    (hp : ∀ i ∈ slotsP p, i ∈ own.map (·.2) := by decide) (hs : ∀ x, foldedSetIterable iter X.env x = pure x := by intro _; rfl) : DP X E Γ (.ListComp elt [⟨tg, iter, ifs, 0⟩] scope pos) (some (n + 1)) (dComp fr fi p fc fe) := by
  obtain ⟨wi, pi, qi⟩ := hi.ex
  refine ⟨_, pe_lc (g := canG X.K (wipeG Γ (own.map (·.2))) p) (tt := canT X.K X.mg E0 (setP p (wipeG Γ (own.map (·.2)))) fc) (te := canE X.K X.mg E0 (setP p (wipeG Γ (own.map (·.2)))) (some n) fe) hc hN pi ok (fun s H C cl fp => (hg s H C cl fp).can) (fun s H C cl fp => (ht s H C cl fp).can) (fun s H C cl fp => (he s H C cl fp).can) hs, fun I S ρ σ H Q R h => ?_⟩
  exact compQ qi (fun I S ρ σ H v d Q ρ' R r hb q => ⟨I, S, ρ, d, ρ', R, r, hb, q⟩) (fun I S ρ σ H Q R h => ⟨I, S, ρ, R, h⟩) (fun I S ρ σ H Q R h => ⟨I, S, ρ, R, h⟩) hp R h
end
end DL

namespace DL
open PySem PySem.Spec PyProof.Rows L2

/-- a def's promise, where no repr runs around -/
structure FnG (P : Program) (w : World) (K : PySem.W.Frag) (mg : Str → Option Value) (base : Heap) (k : Nat) (f : Addr) (fd : FuncData) (ps : List Str) (sp : Sp) : Prop where
  len : ∀ vs H Q E, sp vs H Q E → vs.length = ps.length
  run : ∀ (A : Around) (outer : List PySem.Env) (s : Shared) (H : Hp) (args : Args) (us : List Value) (vs : List V) (Q : VK) (E : XK), Room k A → A.guards = some [] → Env0 P w K mg base A outer s H → BindsTo s fd args (ps.zip us) → Vals vs us → sp vs H Q E →
    codeAny (model P w) A (.call (.ref f) args) (CR (L2.CX P w) outer P w H s Q E) s
/-- what a body's context has -/
structure Cz (X : Cx) (E : XK) (k : Nat) : Prop where
  px : Passes (L2.CX X.prog X.w) X E
  hr : Room k X.A
  gd : X.A.guards = some []
  tk : Takes X (fun cls d _ H => E cls d H)
end DL
namespace DL
open PySem PySem.Spec PyProof.Rows L2
theorem FnG.mono {P : Program} {w : World} {K : PySem.W.Frag} {mg : Str → Option Value} {base : Heap} {j k : Nat} {f : Addr} {fd : FuncData} {ps : List Str} {sp : Sp} (F : FnG P w K mg base j f fd ps sp) (h : j ≤ k) : FnG P w K mg base k f fd ps sp :=
  ⟨F.len, fun A outer s H args us vs Q E hr => F.run A outer s H args us vs Q E (hr.mono h)⟩
theorem Cz.blk {X : Cx} {E : XK} {k : Nat} (c : Cz X E k) {s : Shared} {H : Hp} {scope : Scope} {cenv : PySem.Env} {fp : List Addr} : Cz (X.blk s H scope cenv fp) E0 k := ⟨L2.passL, c.hr, c.gd, fun _ _ x => by
  obtain ⟨_, _, _, _, _, _, _, _, _, _, _, _, _, _, _, _, z⟩ := x
  exact z.elim⟩
theorem Cz.of {P : Program} {w : World} {K : PySem.W.Frag} {mg : Str → Option Value} {base : Heap} {N : List Str} {qual : Str} {scope : Scope} {f : Addr} {cd : Value} {A : Around} {outer : List PySem.Env} {s : Shared} {H : Hp} {E : XK} {k : Nat}
    (hr : Room k (A.deeper (envOfC qual scope s.heap.objs.size f cd))) (gd : A.guards = some []) : Cz (cxOf (L2.CX P w) P w K mg base N qual scope f cd A outer s H E) E k :=
  ⟨passes_call (W := fun cls d _ H => E cls d H) (takes_of rfl rfl rfl rfl) fun _ _ _ _ h => h, hr, gd, takes_of rfl rfl rfl rfl⟩

/-- nothing is changed: all arguments are shared -/
def spP [Wd] (K : PySem.W.Frag) (mg : Str → Option Value) (kr : Nat) (m : List D → Res D) : Sp := fun vs H Q E => ∃ (I : Addr → Prop) (ds : List D), (∀ a, I a → H a ≠ none) ∧ LamX.Tabs Wd.T H ∧ RpA K I H vs ds ∧
  PX K mg E I H (fun _ => False) (fun d => ∀ v I' H' T, Gr I H I' H' → Ow K I' H' kr T v d → New I H I' T → Q v H') (m ds)
/-- one argument, the j-th, is owned, n levels deep; it may be changed and is handed back -/
def spM [Wd] (K : PySem.W.Frag) (mg : Str → Option Value) (j n kr : Nat) (m : List D → Res (D × D)) : Sp := fun vs H Q E => ∃ (I : Addr → Prop) (ds : List D) (T0 : List Addr) (v0 : V) (d0 : D), (∀ a, I a → H a ≠ none) ∧ LamX.Tabs Wd.T H ∧ vs.length = ds.length ∧
  (∀ i v d, i ≠ j → vs[i]? = some v → ds[i]? = some d → Rp K I H v d) ∧ vs[j]? = some v0 ∧ ds[j]? = some d0 ∧ Ow K I H n T0 v0 d0 ∧ T0.Nodup ∧ (∀ a ∈ T0, ¬ I a) ∧
  PX K mg E I H (· ∈ T0) (fun p => ∀ v I' H' T T', Evo I H (· ∈ T0) I' H' (fun a => a ∈ T ∨ a ∈ T') → Ow K I' H' kr T v p.1 → Ow K I' H' n T' v0 p.2 → (∀ a ∈ T, ¬ I' a ∧ a ∉ T') → T.Nodup → (∀ a ∈ T', ¬ I' a) → T'.Nodup → (∀ a, I' a → H' a ≠ none) → Q v H') (m ds)

section
variable [Wd] {X : Cx} {E : XK} {Γ : List SK} {k kx : Nat} {f : Addr} {fd : FuncData} {ps : List Str} {sp : Sp} {x : Str} {p pos : Pos} {e : Expr} {es : List Expr}
theorem runG {pins : List (Addr × Obj)} {σ : L2.St} {H : Hp} {s : Shared} {Q : VK} {us : List Value} {vs : List V} {E' : XK} (F : FnG X.prog X.w X.K X.mg X.base k f fd ps sp) (hr : Room k X.A) (gd : X.A.guards = some []) (hb : Binds X.K fd ps []) (hx : Passes (L2.CX X.prog X.w) X E')
    (I : Inv X pins σ H s) (r : Vals vs us) (h : sp vs H Q E') : wpAny (model X.prog X.w) X.A (call (.ref f) us) (EP X pins σ Q) X.xe s := by
  have hl : (us ++ []).length = ps.length := by rw [List.append_nil, ← r.length]; exact F.len _ _ _ _ h
  have hb := hb s us I.kIn hl
  rw [List.append_nil] at hb
  refine wpAny_call (codeAny_mono (F.run X.A X.stack s H ⟨us, []⟩ us vs Q E' hr gd I.env0 hb r h) fun r s' hq => ?_)
  cases r with
  | error e => exact hx pins σ H s e s' I hq
  | ok fl =>
    cases fl with
    | ret u => exact I.after hq
    | next => exact False.elim hq
    | brk => exact False.elim hq
    | cont => exact False.elim hq
theorem pe_callG {t : TA} {E' : XK} (F : FnG X.prog X.w X.K X.mg X.base k f fd ps sp) (hr : Room k X.A) (gd : X.A.guards = some []) (hg : Gl X x) (hm : X.mg x = some (.ref f)) (hk : PySem.W.keepIn X.K (.ref f) = true) (hb : Binds X.K fd ps []) (hx : Passes (L2.CX X.prog X.w) X E')
    (ha : PA X (e :: es) t) (hdb : (x == ("__debug__" : Str)) = false := by decide) (he : starEach (e :: es) X.env = (false, eval e X.env) :: starEach es X.env := by rfl) (hpl : (backTo pos (starEach es X.env)).any (·.1) = false := by rfl) :
    PE X (.Call (.Name x p) (e :: es) [] pos) (fun σ H Q => t σ H fun vs H1 => sp vs H1 Q E') := by
  refine ⟨fun pins s σ H Q I h => wpAny_Call_Name_kw (ld_glob I hg hm ?_ hdb)⟩
  exact PySem.W.callWith_K (h₀ := X.base) I.ok.mod.kin hk (thn (ha.run pos pins s σ H _ I h) fun us s1 ⟨vs, H1, I1, r, q⟩ => ⟨I1.kIn, runG F hr gd hb hx I1 r q⟩) he hpl
theorem pe_callG0 {E' : XK} (F : FnG X.prog X.w X.K X.mg X.base k f fd ps sp) (hr : Room k X.A) (gd : X.A.guards = some []) (hg : Gl X x) (hm : X.mg x = some (.ref f)) (hk : PySem.W.keepIn X.K (.ref f) = true) (hb : Binds X.K fd ps []) (hx : Passes (L2.CX X.prog X.w) X E')
    (hdb : (x == ("__debug__" : Str)) = false := by decide) : PE X (.Call (.Name x p) [] [] pos) (fun σ H Q => sp [] H Q E') := by
  refine ⟨fun pins s σ H Q I h => wpAny_Call_Name_kw (ld_glob I hg hm ?_ hdb)⟩
  exact PySem.W.callWith_K0 I.kIn hk (runG (us := []) F hr gd hb hx I .nil h)
/-- f(..) by position, nothing changed -/
theorem dp_call {m : List D → Res D} {kr : Nat} {gs : Env → Res (List D)} (F : FnG X.prog X.w X.K X.mg X.base k f fd ps (spP X.K X.mg kr m)) (c : Cz X E kx) (hk : k ≤ kx) (hg : Gl X x) (hm : X.mg x = some (.ref f)) (hkp : PySem.W.keepIn X.K (.ref f) = true) (hb : Binds X.K fd ps [])
    (ha : DA X E Γ (e :: es) true gs) (hdb : (x == ("__debug__" : Str)) = false := by decide) (he : starEach (e :: es) X.env = (false, eval e X.env) :: starEach es X.env := by rfl) (hpl : (backTo pos (starEach es X.env)).any (·.1) = false := by rfl) :
    DP X E Γ (.Call (.Name x p) (e :: es) [] pos) (some kr) (dN m gs) := by
  obtain ⟨ta, pa, qa⟩ := ha.ex
  refine ⟨_, pe_callG F (c.hr.mono hk) c.gd hg hm hkp hb c.px pa hdb he hpl, fun I S ρ σ H Q R h => ?_⟩
  refine qa I S ρ σ H _ R (PX.imp (PX.bnd h) fun ds _ ⟨e, h1⟩ => ?_)
  intro vs I1 H1 g1 r1
  have R1 := R.grow g1
  refine ⟨I1, ds, R1.tr, R1.tb, RBA.rp r1, ?_⟩
  · cases e3 : m ds with
    | bad => rw [e3] at h1; exact h1.elim
    | exc c d => rw [e3] at h1; exact (WX.later h1 (g1.evo R.trk)).less fun _ z => z.elim
    | ok d =>
      rw [e3] at h1
      exact fun v I' H' T g ow nw => h1 v I' H' T (g1.trans g) ow (nw.ahead g1)
/-- behind such an expression -/
def PC2 [Wd] (K : PySem.W.Frag) (Γ : List SK) (σ : L2.St) (I : Addr → Prop) (H : Hp) (S : Nat → List Addr) (kk : Option Nat) (Q : VK) : D × Env → Prop := fun p => ∀ v I' H' S' T, Evo I H (SU S) I' H' (SU S') → ER K I' Γ p.2 σ H' S' → VR K I' H' kk T v p.1 → (∀ a ∈ T, (SU S a ∨ H a = none) ∧ ¬ I' a ∧ ¬ SU S' a) → T.Nodup → Q v H'
structure DX [Wd] (X : Cx) (E : XK) (Γ : List SK) (e : Expr) (kk : Option Nat) (f : Env → Res (D × Env)) : Prop where
  ex : ∃ t : TE, PE X e t ∧ ∀ I S ρ σ H Q, ER X.K I Γ ρ σ H S → PX X.K X.mg E I H (SU S) (PC2 X.K Γ σ I H S kk Q) (f ρ) → t σ H Q
def lift (f : Env → Res D) : Env → Res (D × Env) := fun ρ => f ρ >>= fun d => .ok (d, ρ)
theorem dx_lift {e : Expr} {kk : Option Nat} {f : Env → Res D} (h : DP X E Γ e kk f) : DX X E Γ e kk (lift f) := by
  obtain ⟨t, p, q⟩ := h.ex
  refine ⟨t, p, fun I S ρ σ H Q R h => q I S ρ σ H Q R (PX.imp (PX.bnd h) fun d _ ⟨e, h⟩ => ?_)⟩
  intro v I' H' T g vr nw
  refine h v I' H' S T (g.evo R.trk) (R.grow g) vr (fun a m => ⟨.inr (nw.free a m), nw.nI a m, fun z => ?_⟩) nw.nod
  exact (R.trk a z) (nw.free a m)
/-- arguments of which one, the j-th, is an owned slot -/
structure DM [Wd] (X : Cx) (E : XK) (Γ : List SK) (es : List Expr) (i n : Nat) (f : Env → Res (List D)) : Prop where
  ex : ∃ t : TA, PA X es t ∧ ∀ I S ρ σ H Q, ER X.K I Γ ρ σ H S → PX X.K X.mg E I H (SU S) (fun ds => ∀ v vs I' H', Gr I H I' H' → σ[i]? = some (some v) → RpA X.K I' H' vs ds → Q (v :: vs) H') (f ρ) → t σ H Q
/-- the first argument is the name of an owned slot -/
theorem dm_first {i n : Nat} {y : Str} {p2 : Pos} {es : List Expr} {gs : Env → Res (List D)} (hN : X.N[i]? = some y) (hv : Vis X.env.scope y) (hk : Γ[i]? = some (.da n)) (ha : DA X E Γ es true gs)
    (hs : starEach (.Name y p2 :: es) X.env = (false, eval (.Name y p2) X.env) :: starEach es X.env := by rfl) (hd : (y == ("__debug__" : Str)) = false := by decide) (hcd : (y == ("__classdict__" : Str)) = false := by decide) : DM X E Γ (.Name y p2 :: es) i n gs := by
  obtain ⟨ta, pa, qa⟩ := ha.ex
  refine ⟨_, pa_cons (pe_var hN hv hd hcd) pa hs, fun I S ρ σ H Q R h => ?_⟩
  obtain ⟨v, d, e1, e2, o⟩ := R.slot i _ hk
  refine ⟨v, e1, qa I S ρ σ H _ R (PX.imp h fun ds _ h vs I' H' g r => ?_)⟩
  exact h v vs I' H' g e1 (RBA.rp r)
/-- the slot's data, the answer, the slot's new data -/
def dM (i : Nat) (m : List D → Res (D × D)) (gs : Env → Res (List D)) : Env → Res (D × Env) := fun ρ => gs ρ >>= fun ds => dVar i ρ >>= fun d0 => m (d0 :: ds) >>= fun p => .ok (p.1, ρ.set i (.d p.2))
theorem dx_call {m : List D → Res (D × D)} {i n kr : Nat} {gs : Env → Res (List D)} (F : FnG X.prog X.w X.K X.mg X.base k f fd ps (spM X.K X.mg 0 n kr m)) (c : Cz X E kx) (hk : k ≤ kx) (hg : Gl X x) (hm : X.mg x = some (.ref f)) (hkp : PySem.W.keepIn X.K (.ref f) = true) (hb : Binds X.K fd ps [])
    (hi : Γ[i]? = some (.da n)) (ha : DM X E Γ (e :: es) i n gs) (hdb : (x == ("__debug__" : Str)) = false := by decide) (he : starEach (e :: es) X.env = (false, eval e X.env) :: starEach es X.env := by rfl) (hpl : (backTo pos (starEach es X.env)).any (·.1) = false := by rfl) :
    DX X E Γ (.Call (.Name x p) (e :: es) [] pos) (some kr) (dM i m gs) := by
  obtain ⟨ta, pa, qa⟩ := ha.ex
  refine ⟨_, pe_callG F (c.hr.mono hk) c.gd hg hm hkp hb c.px pa hdb he hpl, fun I S ρ σ H Q R h => ?_⟩
  refine qa I S ρ σ H _ R (PX.imp (PX.bnd h) fun ds _ ⟨e, h1⟩ => ?_)
  intro v vs I1 H1 g1 ev r1
  have R1 := R.grow g1
  obtain ⟨v', d0, e1, e2, o⟩ := R1.slot i _ hi
  rw [ev] at e1
  cases e1
  have hil : i < ρ.length := by
    have := (List.getElem?_eq_some_iff.mp e2).1
    exact this
  have ev0 : dVar i ρ = .ok d0 := by unfold dVar; rw [e2]
  rw [ev0, Res.ok_bnd] at h1
  refine ⟨I1, d0 :: ds, S i, v, d0, R1.tr, R1.tb, ?_, fun j v' d' hj q1 q2 => ?_, rfl, rfl, o, R1.nod i, R1.nI i, ?_⟩
  · show vs.length + 1 = ds.length + 1
    rw [r1.len]
  · cases j with
    | zero => exact absurd rfl hj
    | succ j =>
      obtain ⟨w, q3, q4⟩ := r1.get (i := j) (d := d') (by simpa using q2)
      have : vs[j]? = some v' := by simpa using q1
      rw [this] at q3
      cases q3
      exact q4
  · cases e3 : m (d0 :: ds) with
    | bad => rw [e3] at h1; exact h1.elim
    | exc c d => rw [e3] at h1; exact (WX.later h1 (g1.evo R.trk)).less fun a z => ⟨i, z⟩
    | ok p =>
      rw [e3] at h1
      intro w I2 H2 T T' ev2 ow ow' hT hTn hT' hTn' tr2
      have o_nod : ∀ a ∈ S i, Nod H1 a := o.nod
      -- the slots behind the call
      have hS : ∀ a j, j ≠ i → a ∈ S j → a ∉ S i := fun a j hj m1 m2 => R1.dis j i a hj m1 m2
      have old : ∀ a, (a ∈ T ∨ a ∈ T') → ∀ j, j ≠ i → a ∉ S j := fun a m j hj mj => by
        rcases (ev2.own a m).1 with z | z
        · exact hS a j hj mj z
        · exact (R1.trk a ⟨j, mj⟩) z
      have keepI : Later I1 H1 I2 H2 := ⟨ev2.sub, fun a o ia q n => ev2.keep a o q (fun z => R1.nI i a z ia) n, fun a o q fx => ev2.keep a o q (fun z => fx.nod q (o_nod a z)) fx.nt⟩
      have R3 : ER X.K I2 Γ (ρ.set i (.d p.2)) σ H2 (fun j => if j = i then T' else S j) := by
        refine ⟨fun j kj q => ?_, fun j a m => ?_, fun j l a hjl m1 m2 => ?_, fun j => ?_, fun j a m => ?_, tr2, by rw [List.length_set]; exact R.lr, R.ls, ev2.tab R1.tb⟩
        · by_cases hj : j = i
          · subst hj
            rw [hi] at q
            cases q
            show SlotR X.K I2 H2 _ (if j = j then T' else S j) _ _
            rw [if_pos rfl, List.getElem?_set_self hil]
            exact ⟨v, p.2, ev, rfl, ow'⟩
          · show SlotR X.K I2 H2 kj (if j = i then T' else S j) _ _
            rw [if_neg hj, List.getElem?_set_ne (Ne.symm hj)]
            exact (R1.slot j kj q).mono keepI fun a m o q n => ev2.keep a o q (fun z => hS a j hj m z) n
        · have m : a ∈ (if j = i then T' else S j) := m
          by_cases hj : j = i
          · subst hj; exact ⟨n, hi⟩
          · rw [if_neg hj] at m; exact R.sd j a m
        · have m1 : a ∈ (if j = i then T' else S j) := m1
          have m2 : a ∈ (if l = i then T' else S l) := m2
          by_cases hj : j = i
          · rw [if_pos hj] at m1
            have hl : l ≠ i := fun z => hjl (hj.trans z.symm)
            rw [if_neg hl] at m2
            exact old a (.inr m1) l hl m2
          · rw [if_neg hj] at m1
            by_cases hl : l = i
            · rw [if_pos hl] at m2
              exact old a (.inr m2) j hj m1
            · rw [if_neg hl] at m2
              exact R.dis j l a hjl m1 m2
        · show (if j = i then T' else S j).Nodup
          by_cases hj : j = i
          · rw [if_pos hj]; exact hTn'
          · rw [if_neg hj]; exact R.nod j
        · have m : a ∈ (if j = i then T' else S j) := m
          by_cases hj : j = i
          · rw [if_pos hj] at m; exact hT' a m
          · rw [if_neg hj] at m
            intro z
            rcases ev2.new a z with z | ⟨z, _⟩
            · exact R1.nI j a m z
            · rcases z with z | z
              · exact hS a j hj m z
              · exact (R1.trk a ⟨j, m⟩) z
      have evo : Evo I H (SU S) I2 H2 (SU fun j => if j = i then T' else S j) := by
        refine (g1.evo R.trk).trans ⟨ev2.sub, fun a z => (ev2.new a z).imp id fun z => ⟨z.1.imp (fun z => ⟨i, z⟩) id, z.2⟩, fun b o q z n => ev2.keep b o q (fun m => z ⟨i, m⟩) n, fun a z => ?_, ev2.there, ev2.tab⟩
        obtain ⟨j, m⟩ := z
        have m : a ∈ (if j = i then T' else S j) := m
        by_cases hj : j = i
        · rw [if_pos hj] at m
          exact ⟨(ev2.own a (.inr m)).1.imp (fun z => ⟨i, z⟩) id, (ev2.own a (.inr m)).2⟩
        · rw [if_neg hj] at m
          exact ⟨.inl ⟨j, m⟩, ev2.there a (R1.trk a ⟨j, m⟩)⟩
      refine h1 w I2 H2 _ T evo R3 ow (fun a m => ⟨?_, (hT a m).1, fun ⟨j, mj⟩ => ?_⟩) hTn
      · rcases (ev2.own a (.inl m)).1 with z | z
        · exact .inl ⟨i, z⟩
        · exact .inr (g1.free z)
      · have mj : a ∈ (if j = i then T' else S j) := mj
        by_cases hj : j = i
        · rw [if_pos hj] at mj; exact (hT a m).2 mj
        · rw [if_neg hj] at mj; exact old a (.inl m) j hj mj
end
end DL

namespace DL
open PySem PySem.Spec PyProof.Rows L2

inductive Out where
  | nx (ρ : Env)
  | rt (d : D) (ρ : Env)
  | bk (ρ : Env)
  | ct (ρ : Env)
/-- what is fixed in a body: the slots that are handed back (their values stay), the kinds at a break, a continue, a return, the kind of what is returned -/
structure Cf where
  M : List Nat
  Gb : List SK
  Gc : List SK
  Gr : List SK
  kr : Nat
def Mk (M : List Nat) (σ σ' : L2.St) : Prop := ∀ i ∈ M, σ'[i]? = σ[i]?
theorem Mk.refl {M : List Nat} {σ : L2.St} : Mk M σ σ := fun _ _ => rfl
theorem Mk.trans {M : List Nat} {σ σ1 σ2 : L2.St} (a : Mk M σ σ1) (b : Mk M σ1 σ2) : Mk M σ σ2 := fun i m => (b i m).trans (a i m)
def SPo [Wd] (K : PySem.W.Frag) (C : Cf) (Γn : List SK) (σ : L2.St) (I : Addr → Prop) (H : Hp) (S : Nat → List Addr) (Dd : Ends) : Out → Prop
  | .nx ρ' => ∀ I' H' S' σ', Evo I H (SU S) I' H' (SU S') → ER K I' Γn ρ' σ' H' S' → Mk C.M σ σ' → Dd.nx σ' H'
  | .bk ρ' => ∀ I' H' S' σ', Evo I H (SU S) I' H' (SU S') → ER K I' C.Gb ρ' σ' H' S' → Mk C.M σ σ' → Dd.bk σ' H'
  | .ct ρ' => ∀ I' H' S' σ', Evo I H (SU S) I' H' (SU S') → ER K I' C.Gc ρ' σ' H' S' → Mk C.M σ σ' → Dd.ct σ' H'
  | .rt d ρ' => ∀ I' H' S' σ' v T, Evo I H (SU S) I' H' (fun a => SU S' a ∨ a ∈ T) → ER K I' C.Gr ρ' σ' H' S' → Mk C.M σ σ' → Ow K I' H' C.kr T v d → (∀ a ∈ T, ¬ I' a ∧ ¬ SU S' a) → T.Nodup → Dd.rt v H'
theorem SPo.later [Wd] {K : PySem.W.Frag} {C : Cf} {Γn : List SK} {σ σ1 : L2.St} {I I1 : Addr → Prop} {H H1 : Hp} {S S1 : Nat → List Addr} {Dd : Ends} {o : Out} (h : SPo K C Γn σ I H S Dd o) (e : Evo I H (SU S) I1 H1 (SU S1)) (m : Mk C.M σ σ1) : SPo K C Γn σ1 I1 H1 S1 Dd o := by
  cases o with
  | nx ρ => exact fun I' H' S' σ' e' R m' => h I' H' S' σ' (e.trans e') R (m.trans m')
  | bk ρ => exact fun I' H' S' σ' e' R m' => h I' H' S' σ' (e.trans e') R (m.trans m')
  | ct ρ => exact fun I' H' S' σ' e' R m' => h I' H' S' σ' (e.trans e') R (m.trans m')
  | rt d ρ => exact fun I' H' S' σ' v T e' R m' => h I' H' S' σ' v T (e.trans e') R (m.trans m')
structure DS1 [Wd] (X : Cx) (E : XK) (C : Cf) (Γ : List SK) (st : Stmt) (Γn : List SK) (f : Env → Res Out) : Prop where
  ex : ∃ t : TS, PS X st t ∧ ∀ I S ρ σ H Dd, ER X.K I Γ ρ σ H S → PX X.K X.mg E I H (SU S) (SPo X.K C Γn σ I H S Dd) (f ρ) → t Dd σ H
structure DS [Wd] (X : Cx) (E : XK) (C : Cf) (Γ : List SK) (st : List Stmt) (Γn : List SK) (f : Env → Res Out) : Prop where
  ex : ∃ t : TS, PSs X st t ∧ ∀ I S ρ σ H Dd, ER X.K I Γ ρ σ H S → PX X.K X.mg E I H (SU S) (SPo X.K C Γn σ I H S Dd) (f ρ) → t Dd σ H
/-- then -/
def thenO (r : Res Out) (g : Env → Res Out) : Res Out := r >>= fun o => match o with
  | .nx ρ => g ρ
  | o => .ok o
def sSeq (f g : Env → Res Out) : Env → Res Out := fun ρ => thenO (f ρ) g
def sNil : Env → Res Out := fun ρ => .ok (.nx ρ)
def lessK : SK → SK → Bool
  | _, .no => true
  | .da n, .da m => m == 0 || m == n
  | .cl, .cl => true
  | .cls, .cls => true
  | .er, .er => true
  | .fn, .fn => true
  | .sc, .sc => true
  | _, _ => false
def lessG : List SK → List SK → Bool
  | [], [] => true
  | a :: r, b :: s => lessK a b && lessG r s
  | _, _ => false
theorem lessG_at : ∀ {Γ Γ' : List SK}, lessG Γ Γ' = true → ∀ {i : Nat} {b : SK}, Γ'[i]? = some b → ∃ a, Γ[i]? = some a ∧ lessK a b = true
  | [], [], _, i, b, e => by simp at e
  | a :: r, b :: s, h, 0, c, e => by
    have h : (lessK a b && lessG r s) = true := h
    rw [Bool.and_eq_true] at h
    cases Option.some.inj e
    exact ⟨a, rfl, h.1⟩
  | a :: r, b :: s, h, i + 1, c, e => by
    have h : (lessK a b && lessG r s) = true := h
    rw [Bool.and_eq_true] at h
    exact lessG_at h.2 (i := i) (by simpa using e)
theorem lessG_len : ∀ {Γ Γ' : List SK}, lessG Γ Γ' = true → Γ'.length = Γ.length
  | [], [], _ => rfl
  | a :: r, b :: s, h => by
    have h : (lessK a b && lessG r s) = true := h
    rw [Bool.and_eq_true] at h
    exact congrArg Nat.succ (lessG_len h.2)
/-- the owned nodes that stay owned -/
def keepS (Γ' : List SK) (S : Nat → List Addr) : Nat → List Addr := fun i => match Γ'[i]? with
  | some (.da (_ + 1)) => S i
  | _ => []
def lgI (Γ' : List SK) (I : Addr → Prop) (S : Nat → List Addr) : Addr → Prop := fun a => I a ∨ ∃ i, Γ'[i]? = some (.da 0) ∧ a ∈ S i
theorem keepS_of {Γ' : List SK} {S : Nat → List Addr} {i : Nat} {a : Addr} (h : a ∈ keepS Γ' S i) : a ∈ S i ∧ ∃ n, Γ'[i]? = some (.da (n + 1)) := by
  unfold keepS at h
  split at h
  · rename_i n e
    exact ⟨h, n, e⟩
  · cases h
theorem ER.less [Wd] {K : PySem.W.Frag} {I : Addr → Prop} {Γ Γ' : List SK} {ρ : Env} {σ : L2.St} {H : Hp} {S : Nat → List Addr} (R : ER K I Γ ρ σ H S) (h : lessG Γ Γ' = true) : ER K (lgI Γ' I S) Γ' ρ σ H (keepS Γ' S) where
  slot := fun i k e => by
    obtain ⟨a, e1, l⟩ := lessG_at h e
    have sl := R.slot i a e1
    have up : Later I H (lgI Γ' I S) H := ⟨fun _ z => .inl z, fun _ _ _ e _ => e, fun _ _ e _ => e⟩
    cases k with
    | no => trivial
    | da m =>
      cases a with
      | da n =>
        obtain ⟨v, d, q1, q2, o⟩ := sl
        refine ⟨v, d, q1, q2, ?_⟩
        cases m with
        | zero =>
          have : keepS Γ' S i = [] := by unfold keepS; rw [e]
          rw [this]
          exact .sh (o.rp (fun _ z => .inl z) fun a m => .inr ⟨i, e, m⟩)
        | succ m =>
          have hn : n = m + 1 := by
            have l : (m + 1 == 0 || m + 1 == n) = true := l
            simp at l
            exact l.symm
          subst hn
          have : keepS Γ' S i = S i := by unfold keepS; rw [e]
          rw [this]
          exact o.mono (fun _ z => .inl z) (fun _ _ _ e _ => e) fun _ _ _ e _ => e
      | _ => cases l
    | cl => cases a with
      | cl => exact SlotR.mono (S := keepS Γ' S i) up (fun _ _ _ e _ => e) sl
      | _ => cases l
    | cls => cases a with
      | cls => exact SlotR.mono (S := keepS Γ' S i) up (fun _ _ _ e _ => e) sl
      | _ => cases l
    | er => cases a with
      | er => exact SlotR.mono (S := keepS Γ' S i) up (fun _ _ _ e _ => e) sl
      | _ => cases l
    | fn => cases a with
      | fn => exact SlotR.mono (S := keepS Γ' S i) up (fun _ _ _ e _ => e) sl
      | _ => cases l
    | sc => cases a with
      | sc => exact SlotR.mono (S := keepS Γ' S i) up (fun _ _ _ e _ => e) sl
      | _ => cases l
  sd := fun i a m => let ⟨_, n, e⟩ := keepS_of m; ⟨n + 1, e⟩
  dis := fun i j a hij m1 m2 => R.dis i j a hij (keepS_of m1).1 (keepS_of m2).1
  nod := fun i => by
    unfold keepS
    split
    · exact R.nod i
    · exact .nil
  nI := fun i a m z => by
    obtain ⟨m, n, e⟩ := keepS_of m
    rcases z with z | ⟨j, e', m'⟩
    · exact R.nI i a m z
    · by_cases hij : i = j
      · subst hij
        rw [e] at e'; cases e'
      · exact R.dis i j a hij m m'
  tr := fun a z => by
    rcases z with z | ⟨j, _, m⟩
    · exact R.tr a z
    · exact R.trk a ⟨j, m⟩
  lr := by rw [lessG_len h]; exact R.lr
  ls := by rw [lessG_len h]; exact R.ls
  tb := R.tb
theorem ER.lessE [Wd] {K : PySem.W.Frag} {I : Addr → Prop} {Γ Γ' : List SK} {ρ : Env} {σ : L2.St} {H : Hp} {S : Nat → List Addr} (R : ER K I Γ ρ σ H S) : Evo I H (SU S) (lgI Γ' I S) H (SU (keepS Γ' S)) where
  sub := fun _ z => .inl z
  new := fun a z => z.imp id fun ⟨j, _, m⟩ => ⟨.inl ⟨j, m⟩, R.trk a ⟨j, m⟩⟩
  keep := fun _ _ e _ _ => e
  own := fun a ⟨j, m⟩ => ⟨.inl ⟨j, (keepS_of m).1⟩, R.trk a ⟨j, (keepS_of m).1⟩⟩
  there := fun _ z => z
  tab := fun t => t

section
variable [Wd] {X : Cx} {E : XK} {C : Cf} {Γ Γ1 Γ2 Γn : List SK} {pos : Pos} {st : Stmt} {rest : List Stmt} {f g : Env → Res Out}
mutual
theorem bindP_nx : ∀ (p : Pat) (d : D) (ρ : Env) (c : Str) (v : D), bindP p d ρ ≠ .exc c v
  | .nm i, d, ρ, c, v => by
    unfold bindP
    split <;> exact (fun z => nomatch z)
  | .tp ps, .tuple ds, ρ, c, v => bindPs_nx ps ds ρ c v
  | .tp _, .none, _, _, _ => (fun z => nomatch z)
  | .tp _, .bool _, _, _, _ => (fun z => nomatch z)
  | .tp _, .int _, _, _, _ => (fun z => nomatch z)
  | .tp _, .str _, _, _, _ => (fun z => nomatch z)
  | .tp _, .list _, _, _, _ => (fun z => nomatch z)
  | .tp _, .dict _, _, _, _ => (fun z => nomatch z)
theorem bindPs_nx : ∀ (ps : List Pat) (ds : List D) (ρ : Env) (c : Str) (v : D), bindPs ps ds ρ ≠ .exc c v
  | [], [], _, _, _ => (fun z => nomatch z)
  | [], _ :: _, _, _, _ => (fun z => nomatch z)
  | _ :: _, [], _, _, _ => (fun z => nomatch z)
  | p :: ps, d :: ds, ρ, c, v => by
    show (bindP p d ρ >>= fun ρ1 => bindPs ps ds ρ1) ≠ _
    cases e : bindP p d ρ with
    | ok ρ1 => exact bindPs_nx ps ds ρ1 c v
    | exc c' d' => exact absurd e (bindP_nx p d ρ c' d')
    | bad => exact (fun z => nomatch z)
end
theorem ds_nil : DS X E C Γ [] Γ sNil := ⟨_, pss_nil, fun I S ρ σ H Dd R h => h I H S σ (.refl R.trk) R .refl⟩
theorem seqO {t u : TS} {I : Addr → Prop} {S : Nat → List Addr} {ρ : Env} {σ : L2.St} {H : Hp} {Dd : Ends} (qf : ∀ I S ρ σ H Dd, ER X.K I Γ ρ σ H S → PX X.K X.mg E I H (SU S) (SPo X.K C Γ1 σ I H S Dd) (f ρ) → t Dd σ H)
    (qg : ∀ I S ρ σ H Dd, ER X.K I Γ1 ρ σ H S → PX X.K X.mg E I H (SU S) (SPo X.K C Γ2 σ I H S Dd) (g ρ) → u Dd σ H) (R : ER X.K I Γ ρ σ H S) (h : PX X.K X.mg E I H (SU S) (SPo X.K C Γ2 σ I H S Dd) (sSeq f g ρ)) :
    tSeq t u Dd σ H := by
  refine qf I S ρ σ H _ R (PX.imp (PX.bnd (f := fun o => match o with | .nx ρ => g ρ | o => .ok o) h) fun o _ ⟨e, h⟩ => ?_)
  cases o with
  | nx ρ1 => exact fun I' H' S' σ' ev R' m => qg I' S' ρ1 σ' H' Dd R' (PX.later h ev fun o _ z => z.later ev m)
  | rt d ρ1 => exact h
  | bk ρ1 => exact h
  | ct ρ1 => exact h
theorem ds_cons (h1 : DS1 X E C Γ st Γ1 f) (h2 : DS X E C Γ1 rest Γ2 g) : DS X E C Γ (st :: rest) Γ2 (sSeq f g) := by
  obtain ⟨t, p, q⟩ := h1.ex
  obtain ⟨u, p2, q2⟩ := h2.ex
  exact ⟨_, pss_cons p p2, fun I S ρ σ H Dd R h => seqO q q2 R h⟩
theorem ds_one (h1 : DS1 X E C Γ st Γ1 f) : DS X E C Γ [st] Γ1 f := by
  obtain ⟨t, p, q⟩ := h1.ex
  exact ⟨_, pss_one p, q⟩
/-- kinds let go ahead, behind -/
theorem ds_pre {sts : List Stmt} (hl : lessG Γ Γ1 = true) (h : DS X E C Γ1 sts Γn f) : DS X E C Γ sts Γn f := by
  obtain ⟨t, p, q⟩ := h.ex
  exact ⟨t, p, fun I S ρ σ H Dd R h => q _ _ ρ σ H Dd (R.less hl) (PX.later h R.lessE fun o _ z => z.later R.lessE .refl)⟩
theorem SPo.post {K : PySem.W.Frag} {σ : L2.St} {I : Addr → Prop} {H : Hp} {S : Nat → List Addr} {Dd : Ends} {o : Out} (hl : lessG Γ1 Γn = true) (h : SPo K C Γn σ I H S Dd o) : SPo K C Γ1 σ I H S Dd o := by
  cases o with
  | nx ρ => exact fun I' H' S' σ' e' R m' => h _ H' _ σ' (e'.trans R.lessE) (R.less hl) m'
  | bk ρ => exact h
  | ct ρ => exact h
  | rt d ρ => exact h
theorem ds_post {sts : List Stmt} (h : DS X E C Γ sts Γ1 f) (hl : lessG Γ1 Γn = true) : DS X E C Γ sts Γn f := by
  obtain ⟨t, p, q⟩ := h.ex
  exact ⟨t, p, fun I S ρ σ H Dd R h => q I S ρ σ H Dd R (PX.imp h fun o _ z => z.post hl)⟩
theorem ds1_pre (hl : lessG Γ Γ1 = true) (h : DS1 X E C Γ1 st Γn f) : DS1 X E C Γ st Γn f := by
  obtain ⟨t, p, q⟩ := h.ex
  exact ⟨t, p, fun I S ρ σ H Dd R h => q _ _ ρ σ H Dd (R.less hl) (PX.later h R.lessE fun o _ z => z.later R.lessE .refl)⟩
theorem ds1_post (h : DS1 X E C Γ st Γ1 f) (hl : lessG Γ1 Γn = true) : DS1 X E C Γ st Γn f := by
  obtain ⟨t, p, q⟩ := h.ex
  exact ⟨t, p, fun I S ρ σ H Dd R h => q I S ρ σ H Dd R (PX.imp h fun o _ z => z.post hl)⟩
def sPass : Env → Res Out := fun ρ => .ok (.nx ρ)
theorem ds_pass : DS1 X E C Γ (.Pass pos) Γ sPass := ⟨_, ps_pass, fun I S ρ σ H Dd R h => h I H S σ (.refl R.trk) R .refl⟩
def sBreak : Env → Res Out := fun ρ => .ok (.bk ρ)
def sCont : Env → Res Out := fun ρ => .ok (.ct ρ)
theorem ds_break (hl : lessG Γ C.Gb = true) : DS1 X E C Γ (.Break pos) Γn sBreak := ⟨_, ps_break, fun I S ρ σ H Dd R h => h _ H _ σ R.lessE (R.less hl) .refl⟩
theorem ds_cont (hl : lessG Γ C.Gc = true) : DS1 X E C Γ (.Continue pos) Γn sCont := ⟨_, ps_continue, fun I S ρ σ H Dd R h => h _ H _ σ R.lessE (R.less hl) .refl⟩
/-- what an expression gives, with the owned slots as they are then -/
theorem seqX {te : TE} {kk : Option Nat} {fe : Env → Res (D × Env)} {e : Expr} {I : Addr → Prop} {S : Nat → List Addr} {ρ : Env} {σ : L2.St} {H : Hp} {α : Type} {P : α → Prop} {h : D × Env → Res α}
    (qe : ∀ I S ρ σ H Q, ER X.K I Γ ρ σ H S → PX X.K X.mg E I H (SU S) (PC2 X.K Γ σ I H S kk Q) (fe ρ) → te σ H Q) (R : ER X.K I Γ ρ σ H S) (hh : PX X.K X.mg E I H (SU S) P (fe ρ >>= h)) {Q : VK}
    (hq : ∀ d ρ1 v I1 H1 S1 T, fe ρ = .ok (d, ρ1) → PX X.K X.mg E I H (SU S) P (h (d, ρ1)) → Evo I H (SU S) I1 H1 (SU S1) → ER X.K I1 Γ ρ1 σ H1 S1 → VR X.K I1 H1 kk T v d → (∀ a ∈ T, (SU S a ∨ H a = none) ∧ ¬ I1 a ∧ ¬ SU S1 a) → T.Nodup → Q v H1) : te σ H Q :=
  qe I S ρ σ H Q R (PX.imp (PX.bnd hh) fun p _ ⟨e, q⟩ v I1 H1 S1 T ev R1 vr hT hn => hq p.1 p.2 v I1 H1 S1 T e q ev R1 vr hT hn)
/-- name = e -/
def sSet (i : Nat) (fe : Env → Res (D × Env)) : Env → Res Out := fun ρ => fe ρ >>= fun p => .ok (.nx (p.2.set i (.d p.1)))
theorem put_nx {I I1 : Addr → Prop} {S S1 : Nat → List Addr} {ρ1 : Env} {σ : L2.St} {H H1 : Hp} {Dd : Ends} {i n : Nat} {v : V} {d : D} {T : List Addr} (hi : i < Γ.length) (hM : i ∉ C.M)
    (h : SPo X.K C (Γ.set i (.da n)) σ I H S Dd (.nx (ρ1.set i (.d d)))) (ev : Evo I H (SU S) I1 H1 (SU S1)) (R1 : ER X.K I1 Γ ρ1 σ H1 S1) (vr : Ow X.K I1 H1 n T v d) (hT : ∀ a ∈ T, (SU S a ∨ H a = none) ∧ ¬ I1 a ∧ ¬ SU S1 a) (hn : T.Nodup) : Dd.nx (σ.set i (some v)) H1 := by
  have R2 := R1.put (by rw [R1.lr]; exact hi) vr hn (fun a m => (hT a m).2.1) fun a m j _ mj => (hT a m).2.2 ⟨j, mj⟩
  refine h I1 H1 _ _ ⟨ev.sub, ev.new, ev.keep, fun a z => ?_, ev.there, ev.tab⟩ R2 fun j hj => List.getElem?_set_ne (fun z : i = j => hM (by rw [z]; exact hj))
  obtain ⟨j, m⟩ := z
  have m : a ∈ (if j = i then T else S1 j) := m
  by_cases hj : j = i
  · rw [if_pos hj] at m
    exact ⟨(hT a m).1, (Ow.nod vr a m).ne⟩
  · rw [if_neg hj] at m
    exact ev.own a ⟨j, m⟩
theorem ds_set {i n : Nat} {x : Str} {e : Expr} {fe : Env → Res (D × Env)} {p2 : Pos} (hN : X.N.Nodup) (hi : X.N[i]? = some x) (hx : Loc X.env.scope x) (he : DX X E Γ e (some n) fe) (hl : i < Γ.length := by decide) (hM : i ∉ C.M := by decide)
    (hs : swapsWith e (some (.Name x p2)) pos.line X.env = pure false := by rfl) (hf : X.fn x = true ∨ X.env.scope.names.lookup x = some .local := by first | exact .inl rfl | exact .inr rfl | assumption) : DS1 X E C Γ (.Assign [.Name x p2] e pos) (Γ.set i (.da n)) (sSet i fe) := by
  obtain ⟨t, p, q⟩ := he.ex
  refine ⟨_, ps_set hN hi hx p hs hf, fun I S ρ σ H Dd R h => ?_⟩
  exact seqX (e := e) q R h fun d ρ1 v I1 H1 S1 T e1 h1 ev R1 vr hT hn => put_nx hl hM h1 ev R1 vr hT hn
/-- name = [.. for ..] -/
theorem ds_setLc {i n : Nat} {y : Str} {py spos : Pos} {elt tg iter : Expr} {ifs : List Expr} {scope : Scope} {own : List (Str × Nat)} {fr : Bool} {p : Pat} {fi : Env → Res (List D)} {fc : Env → Res Bool} {fe : Env → Res D} (hc : X.calm = true) (hN : X.N.Nodup) (hy : X.N[i]? = some y)
    (hyl : X.env.scope.names.lookup y = some .local) (hsw : swapsWith (.ListComp elt [⟨tg, iter, ifs, 0⟩] scope pos) (some (.Name y py)) spos.line X.env = pure true) (hi : DI X E Γ tg iter fr fi) (ok : BlkOk X.N X.env.scope scope own)
    (hg : ∀ (s : Shared) (H : Hp) (C : Addr) (cl : List (Str × Addr)) (fp : List Addr), DG (X.blk s H scope (compEnvC scope cl C X.env) fp) (wipeG Γ (own.map (·.2))) tg p)
    (ht : ∀ (s : Shared) (H : Hp) (C : Addr) (cl : List (Str × Addr)) (fp : List Addr), DTs (X.blk s H scope (compEnvC scope cl C X.env) fp) E0 (setP p (wipeG Γ (own.map (·.2)))) ifs fc)
    (he : ∀ (s : Shared) (H : Hp) (C : Addr) (cl : List (Str × Addr)) (fp : List Addr), DP (X.blk s H scope (compEnvC scope cl C X.env) fp) E0 (setP p (wipeG Γ (own.map (·.2)))) elt (some n) fe)
    (hp : ∀ i ∈ slotsP p, i ∈ own.map (·.2) := by decide) (hs : ∀ x, foldedSetIterable iter X.env x = pure x := by intro _; rfl) (hl : i < Γ.length := by decide) (hM : i ∉ C.M := by decide) :
    DS1 X E C Γ (.Assign [.Name y py] (.ListComp elt [⟨tg, iter, ifs, 0⟩] scope pos) spos) (Γ.set i (.da (n + 1))) (sSet i (lift (dComp fr fi p fc fe))) := by
  obtain ⟨wi, pi, qi⟩ := hi.ex
  refine ⟨_, ps_setLc (g := canG X.K (wipeG Γ (own.map (·.2))) p) (tt := canT X.K X.mg E0 (setP p (wipeG Γ (own.map (·.2)))) fc) (te := canE X.K X.mg E0 (setP p (wipeG Γ (own.map (·.2)))) (some n) fe) hc hN hy hyl hsw pi ok (fun s H C cl fp => (hg s H C cl fp).can)
    (fun s H C cl fp => (ht s H C cl fp).can) (fun s H C cl fp => (he s H C cl fp).can) hs, fun I S ρ σ H Dd R h => ?_⟩
  refine compQ qi (fun I S ρ σ H v d Q ρ' R r hb q => ⟨I, S, ρ, d, ρ', R, r, hb, q⟩) (fun I S ρ σ H Q R h => ⟨I, S, ρ, R, h⟩) (fun I S ρ σ H Q R h => ⟨I, S, ρ, R, h⟩) hp R ?_
  have h : PX X.K X.mg E I H (SU S) (SPo X.K C (Γ.set i (.da (n + 1))) σ I H S Dd) ((lift (dComp fr fi p fc fe) ρ) >>= fun p => .ok (.nx (p.2.set i (.d p.1)))) := h
  unfold lift at h
  cases e1 : dComp fr fi p fc fe ρ with
  | bad => rw [e1] at h; exact h.elim
  | exc c d => rw [e1] at h; exact h
  | ok d =>
    rw [e1] at h
    intro v I' H' T g vr nw
    exact put_nx hl hM h (g.evo R.trk) (R.grow g) vr (fun a m => ⟨.inr (nw.free a m), nw.nI a m, fun z => R.trk a z (nw.free a m)⟩) nw.nod
/-- a, b = a tuple -/
def sBind (p : Pat) (fe : Env → Res (D × Env)) : Env → Res Out := fun ρ => fe ρ >>= fun q => bindP p q.1 q.2 >>= fun ρ1 => .ok (.nx ρ1)
theorem Mk.off {M vs : List Nat} {σ σ' : L2.St} (o : Off vs σ σ') (h : ∀ i ∈ vs, i ∉ M) : Mk M σ σ' := fun i m => o.2 i fun z => h i z m
theorem Evo.shrink {I : Addr → Prop} {H : Hp} {S S' : Nat → List Addr} (hS : ∀ a, SU S a → H a ≠ none) (h : ∀ i a, a ∈ S' i → a ∈ S i) : Evo I H (SU S) I H (SU S') :=
  ⟨fun _ z => z, fun _ z => .inl z, fun _ _ e _ _ => e, fun a ⟨j, m⟩ => ⟨.inl ⟨j, h j a m⟩, hS a ⟨j, h j a m⟩⟩, fun _ z => z, fun t => t⟩
theorem ds_bind {tg e : Expr} {p : Pat} {fe : Env → Res (D × Env)} (hg : DG X Γ tg p) (he : DX X E Γ e (some 0) fe) (hM : ∀ i ∈ slotsP p, i ∉ C.M := by decide) (hs : swapsWithSole [tg] e pos.line X.env = pure false := by rfl) (hw : swappedStores [tg] e X.env = pure none := by rfl)
    (h1 : (assignEach [tg] X.env).map (·.2) = [assign tg X.env] := by rfl) : DS1 X E C Γ (.Assign [tg] e pos) (setP p Γ) (sBind p fe) := by
  obtain ⟨t, pe, q⟩ := he.ex
  obtain ⟨tg', pg, qg⟩ := hg.ex
  refine ⟨_, ps_asg pe pg hs hw h1, fun I S ρ σ H Dd R h => ?_⟩
  refine seqX (e := e) q R h fun d ρ1 v I1 H1 S1 T e1 h1 ev R1 vr hT hn => ?_
  have vr : Ow X.K I1 H1 0 T v d := vr
  cases vr with
  | sh r =>
    cases e2 : bindP p d ρ1 with
    | bad => rw [e2] at h1; exact h1.elim
    | exc c d' =>
      exfalso
      exact bindP_nx p d ρ1 c d' e2
    | ok ρ2 =>
      rw [e2] at h1
      exact qg I1 S1 ρ1 σ H1 v d _ ρ2 R1 r e2 fun σ2 S2 R2 s2 o2 => h1 I1 H1 S2 σ2 (ev.trans (.shrink R1.trk s2)) R2 (.off o2 hM)
end
end DL

namespace DL
open PySem PySem.Spec PyProof.Rows L2

section
variable [Wd] {X : Cx} {E : XK} {C : Cf} {Γ Γ1 Γ2 Γn : List SK} {pos : Pos} {st : Stmt} {rest : List Stmt} {f g : Env → Res Out}
def sIf (c : Env → Res Bool) (f g : Env → Res Out) : Env → Res Out := fun ρ => c ρ >>= fun b => if b = true then f ρ else g ρ
theorem ds_if {c : Expr} {a b : List Stmt} {fc : Env → Res Bool} (hc : DT X E Γ c fc) (ha : DS X E C Γ a Γn f) (hb : DS X E C Γ b Γn g) : DS1 X E C Γ (.If c a b pos) Γn (sIf fc f g) := by
  obtain ⟨t, p, q⟩ := hc.ex
  obtain ⟨ta, pa, qa⟩ := ha.ex
  obtain ⟨tb, pb, qb⟩ := hb.ex
  refine ⟨_, ps_if p pa pb, fun I S ρ σ H Dd R h => ?_⟩
  refine seqT q R h fun b I1 H1 e1 h1 g1 R1 => ?_
  have e := g1.evo (S := SU S) R.trk
  cases b with
  | true => exact qa I1 S ρ σ H1 Dd R1 (PX.later h1 e fun o _ z => z.later e .refl)
  | false => exact qb I1 S ρ σ H1 Dd R1 (PX.later h1 e fun o _ z => z.later e .refl)
/-- a test that may change an owned slot -/
structure DTX [Wd] (X : Cx) (E : XK) (Γ : List SK) (e : Expr) (f : Env → Res (Bool × Env)) : Prop where
  ex : ∃ t : TT, PT X e t ∧ ∀ I S ρ σ H Q, ER X.K I Γ ρ σ H S → PX X.K X.mg E I H (SU S) (fun p => ∀ I' H' S', Evo I H (SU S) I' H' (SU S') → ER X.K I' Γ p.2 σ H' S' → Q p.1 H') (f ρ) → t σ H Q
def sIfX (c : Env → Res (Bool × Env)) (f g : Env → Res Out) : Env → Res Out := fun ρ => c ρ >>= fun p => if p.1 = true then f p.2 else g p.2
theorem ds_ifX {c : Expr} {a b : List Stmt} {fc : Env → Res (Bool × Env)} (hc : DTX X E Γ c fc) (ha : DS X E C Γ a Γn f) (hb : DS X E C Γ b Γn g) : DS1 X E C Γ (.If c a b pos) Γn (sIfX fc f g) := by
  obtain ⟨t, p, q⟩ := hc.ex
  obtain ⟨ta, pa, qa⟩ := ha.ex
  obtain ⟨tb, pb, qb⟩ := hb.ex
  refine ⟨_, ps_if p pa pb, fun I S ρ σ H Dd R h => q I S ρ σ H _ R (PX.imp (PX.bnd h) fun p _ ⟨e, h1⟩ I1 H1 S1 ev R1 => ?_)⟩
  obtain ⟨b, ρ1⟩ := p
  cases b with
  | true => exact qa I1 S1 ρ1 σ H1 Dd R1 (PX.later h1 ev fun o _ z => z.later ev .refl)
  | false => exact qb I1 S1 ρ1 σ H1 Dd R1 (PX.later h1 ev fun o _ z => z.later ev .refl)
def tValX (f : Env → Res (D × Env)) : Env → Res (Bool × Env) := fun ρ => f ρ >>= fun p => asB p.1 >>= fun b => .ok (b, p.2)
theorem dtx_val {e : Expr} {kk : Option Nat} {f : Env → Res (D × Env)} (h : DX X E Γ e kk f) (he : ∀ whole, isTrue e X.env whole = (do let v ← whole; standAt e.pos; holding [v] (truthy v)) := by intro _; rfl) : DTX X E Γ e (tValX f) := by
  obtain ⟨t, p, q⟩ := h.ex
  refine ⟨_, pt_val p he, fun I S ρ σ H Q R h => ?_⟩
  refine seqX (e := e) q R h fun d ρ1 v I1 H1 S1 T e1 h1 ev R1 vr hT hn => ?_
  cases d with
  | bool b => exact ⟨b, vr.rt.bool, h1 I1 H1 S1 ev R1⟩
  | _ => exact h1.elim
def tNotX (f : Env → Res (Bool × Env)) : Env → Res (Bool × Env) := fun ρ => f ρ >>= fun p => .ok (!p.1, p.2)
theorem dtx_not {e : Expr} {f : Env → Res (Bool × Env)} (h : DTX X E Γ e f) : DTX X E Γ (.UnaryOp .Not e pos) (tNotX f) := by
  obtain ⟨t, p, q⟩ := h.ex
  exact ⟨_, pt_not p, fun I S ρ σ H Q R h => q I S ρ σ H _ R (PX.imp (PX.bnd h) fun p _ ⟨e, h1⟩ I1 H1 S1 ev R1 => h1 I1 H1 S1 ev R1)⟩
theorem dtx_lift {e : Expr} {f : Env → Res Bool} (h : DT X E Γ e f) : DTX X E Γ e (fun ρ => f ρ >>= fun b => .ok (b, ρ)) := by
  obtain ⟨t, p, q⟩ := h.ex
  exact ⟨_, p, fun I S ρ σ H Q R h => q I S ρ σ H _ R (PX.imp (PX.bnd h) fun b _ ⟨e, h1⟩ I1 H1 g => h1 I1 H1 S (g.evo R.trk) (R.grow g))⟩
def sRet (fe : Env → Res (D × Env)) : Env → Res Out := fun ρ => fe ρ >>= fun p => .ok (.rt p.1 p.2)
theorem evo_keep {K : PySem.W.Frag} {I I1 : Addr → Prop} {H H1 : Hp} {S S1 : Nat → List Addr} {T : List Addr} {ρ : Env} {σ : L2.St} (R1 : ER K I1 Γ ρ σ H1 S1) (ev : Evo I H (SU S) I1 H1 (SU S1)) (hT : ∀ a ∈ T, (SU S a ∨ H a = none) ∧ H1 a ≠ none) :
    Evo I H (SU S) (lgI Γn I1 S1) H1 (fun a => SU (keepS Γn S1) a ∨ a ∈ T) := by
  have e2 := ev.trans (R1.lessE (Γ' := Γn))
  exact ⟨e2.sub, e2.new, e2.keep, fun a z => z.elim (e2.own a) (hT a), e2.there, e2.tab⟩
theorem ds_ret {e : Expr} {fe : Env → Res (D × Env)} (he : DX X E Γ e (some C.kr) fe) (hl : lessG Γ C.Gr = true := by rfl) : DS1 X E C Γ (.Return (some e) pos) Γn (sRet fe) := by
  obtain ⟨t, p, q⟩ := he.ex
  refine ⟨_, ps_ret p, fun I S ρ σ H Dd R h => ?_⟩
  refine seqX (e := e) q R h fun d ρ1 v I1 H1 S1 T e1 h1 ev R1 vr hT hn => ?_
  have vr : Ow X.K I1 H1 C.kr T v d := vr
  refine h1 _ H1 (keepS C.Gr S1) σ v T (evo_keep R1 ev fun a m => ⟨(hT a m).1, (vr.nod a m).ne⟩) (R1.less hl) .refl (vr.mono (fun _ z => .inl z) (fun _ _ _ e _ => e) fun _ _ _ e _ => e) (fun a m => ⟨fun z => ?_, fun ⟨j, mj⟩ => (hT a m).2.2 ⟨j, (keepS_of mj).1⟩⟩) hn
  rcases z with z | ⟨j, _, mj⟩
  · exact (hT a m).2.1 z
  · exact (hT a m).2.2 ⟨j, mj⟩
/-- return of an owned slot -/
def sRetV (i : Nat) : Env → Res Out := fun ρ => dVar i ρ >>= fun d => .ok (.rt d ρ)
theorem ds_retV {i : Nat} {x : Str} {p2 : Pos} (hN : X.N[i]? = some x) (hv : Vis X.env.scope x) (hk : Γ[i]? = some (.da C.kr) := by rfl) (hl : lessG Γ C.Gr = true := by rfl) (hr : C.Gr[i]? = some .no := by rfl) (hd : (x == ("__debug__" : Str)) = false := by decide) (hcd : (x == ("__classdict__" : Str)) = false := by decide) :
    DS1 X E C Γ (.Return (some (.Name x p2)) pos) Γn (sRetV i) := by
  refine ⟨_, ps_ret (pe_var hN hv hd hcd), fun I S ρ σ H Dd R h => ?_⟩
  obtain ⟨v, d, e1, e2, o⟩ := R.slot i _ hk
  have h : PX X.K X.mg E I H (SU S) (SPo X.K C Γn σ I H S Dd) (dVar i ρ >>= fun d => .ok (.rt d ρ)) := h
  have ev0 : dVar i ρ = .ok d := by unfold dVar; rw [e2]
  rw [ev0] at h
  have nS : ∀ a ∈ S i, ∀ j, j ≠ i → a ∉ S j := fun a m j hj m' => R.dis j i a hj m' m
  have nI : ∀ a ∈ S i, ¬ lgI C.Gr I S a := fun a m z => by
    rcases z with z | ⟨j, ej, mj⟩
    · exact R.nI i a m z
    · by_cases hj : j = i
      · rw [hj, hr] at ej; cases ej
      · exact nS a m j hj mj
  refine ⟨v, e1, h _ H (keepS C.Gr S) σ v (S i) (evo_keep R (.refl R.trk) fun a m => ⟨.inl ⟨i, m⟩, R.trk a ⟨i, m⟩⟩) (R.less hl) .refl (o.mono (fun _ z => .inl z) (fun _ _ _ e _ => e) fun _ _ _ e _ => e) (fun a m => ⟨nI a m, fun ⟨j, mj⟩ => ?_⟩) (R.nod i)⟩
  by_cases hj : j = i
  · obtain ⟨_, n, en⟩ := keepS_of mj
    rw [hj, hr] at en; cases en
  · exact nS a m j hj (keepS_of mj).1
def sRetN : Env → Res Out := fun ρ => .ok (.rt .none ρ)
theorem ds_retN (hl : lessG Γ C.Gr = true := by rfl) : DS1 X E C Γ (.Return none pos) Γn sRetN := by
  refine ⟨_, ps_retN, fun I S ρ σ H Dd R h => ?_⟩
  have := evo_keep (Γn := C.Gr) (T := []) R (.refl R.trk) fun a m => nil_nm m
  exact h _ H (keepS C.Gr S) σ .non [] this (R.less hl) .refl ((At.vr .non (some C.kr) : VR X.K _ H (some C.kr) [] .non .none)) (fun a m => nil_nm m) .nil
def sDrop (fe : Env → Res (D × Env)) : Env → Res Out := fun ρ => fe ρ >>= fun p => .ok (.nx p.2)
theorem ds_expr {e : Expr} {kk : Option Nat} {fe : Env → Res (D × Env)} (he : DX X E Γ e kk fe) (hs : swapsWith e none pos.line X.env = pure false := by rfl) : DS1 X E C Γ (.Expr e pos) Γ (sDrop fe) := by
  obtain ⟨t, p, q⟩ := he.ex
  refine ⟨_, ps_expr p hs, fun I S ρ σ H Dd R h => ?_⟩
  exact seqX (e := e) q R h fun d ρ1 v I1 H1 S1 T e1 h1 ev R1 vr hT hn => h1 I1 H1 S1 σ ev R1 .refl
def forM (p : Pat) (body : Env → Res Out) : List D → Env → Res Out
  | [], ρ => .ok (.nx ρ)
  | d :: r, ρ => bindP p d ρ >>= fun ρ1 => body ρ1 >>= fun o => match o with
    | .nx ρ2 => forM p body r ρ2
    | .ct ρ2 => forM p body r ρ2
    | .bk ρ2 => .ok (.nx ρ2)
    | .rt d ρ2 => .ok (.rt d ρ2)
def sFor (it : Env → Res (List D)) (p : Pat) (body : Env → Res Out) : Env → Res Out := fun ρ => it ρ >>= fun xs => forM p body xs ρ
theorem ds_for {tg iter : Expr} {body : List Stmt} {p : Pat} {fi : Env → Res (List D)} {fb : Env → Res Out} (hp : PassesOwn (model X.prog X.w) X.A X.env X.xe) (hc : X.calm = true) (hi : DI X E Γ tg iter true fi) (hg : DG X Γ tg p)
    (hb : DS X E { C with Gb := Γ, Gc := Γ } (setP p Γ) body Γ fb) (hM : ∀ i ∈ slotsP p, i ∉ C.M := by decide) (hs : ∀ x, foldedSetIterable iter X.env x = pure x := by intro _; rfl) : DS1 X E C Γ (.For tg iter body [] pos) Γ (sFor fi p fb) := by
  obtain ⟨wi, pi, qi⟩ := hi.ex
  obtain ⟨tg', pg, qg⟩ := hg.ex
  obtain ⟨tb, pb, qb⟩ := hb.ex
  refine ⟨_, ps_for hp hc pi pg pb hs, fun I S ρ σ H Dd R h => ?_⟩
  refine qi I S ρ σ H _ R (PX.imp (PX.bnd h) fun ds _ ⟨e0, h⟩ => ?_)
  intro J I1 H1 g1 wk
  have ev1 := g1.evo (S := SU S) R.trk
  have R1 := R.grow g1
  refine ⟨fun i m σ2 H2 => m = ds.length - i ∧ i ≤ ds.length ∧ ∃ (I2 : Addr → Prop) (S2 : Nat → List Addr) (ρ2 : Env), Evo I1 H1 (SU S) I2 H2 (SU S2) ∧ ER X.K I2 Γ ρ2 σ2 H2 S2 ∧ Mk C.M σ σ2 ∧ PX X.K X.mg E I2 H2 (SU S2) (SPo X.K C Γ σ2 I2 H2 S2 Dd) (forM p fb (ds.drop i) ρ2),
    ⟨ds.length, by simp, Nat.zero_le _, I1, S, ρ, .refl R1.trk, R1, .refl, PX.later h ev1 fun o _ z => z.later ev1 .refl⟩, ?_⟩
  rintro i m σ2 H2 ⟨rfl, hi, I2, S2, ρ2, ev2, R2, mk2, h2⟩
  have lt2 : Lt true I1 H1 I2 H2 := ⟨ev2.sub, fun a o z e n => ev2.keep a o e (fun ⟨j, mj⟩ => by
    rcases z with z | z
    · exact R1.nI j a mj z
    · exact nomatch z.1) n⟩
  by_cases hlt : i < ds.length
  · refine .inr ⟨wk.go i I2 H2 hlt lt2, fun σ3 H3 => i + 1 ≤ ds.length ∧ ∃ (I2 : Addr → Prop) (S2 : Nat → List Addr) (ρ2 : Env), Evo I1 H1 (SU S) I2 H3 (SU S2) ∧ ER X.K I2 Γ ρ2 σ3 H3 S2 ∧ Mk C.M σ σ3 ∧ PX X.K X.mg E I2 H3 (SU S2) (SPo X.K C Γ σ3 I2 H3 S2 Dd) (forM p fb (ds.drop (i + 1)) ρ2),
      fun σ3 H3 z => ⟨ds.length - (i + 1), by omega, rfl, z.1, z.2⟩, fun x H3 y => ?_⟩
    obtain ⟨I3, g3, rx⟩ := wk.yld i ds[i] I2 H2 x H3 (List.getElem?_eq_getElem hlt) lt2 y
    have rx := RB.rp rx
    have ev3 := g3.evo (S := SU S2) R2.trk
    have R3 := R2.grow g3
    rw [List.drop_eq_getElem_cons hlt] at h2
    have h3 : PX X.K X.mg E I3 H3 (SU S2) (SPo X.K C Γ σ2 I3 H3 S2 Dd) (forM p fb (ds[i] :: ds.drop (i + 1)) ρ2) := PX.later h2 ev3 fun o _ z => z.later ev3 .refl
    cases e4 : bindP p ds[i] ρ2 with
    | bad => unfold forM at h3; rw [e4] at h3; exact h3.elim
    | exc c d => exact absurd e4 (bindP_nx _ _ _ _ _)
    | ok ρ4 =>
      unfold forM at h3
      rw [e4, Res.ok_bnd] at h3
      refine qg I3 S2 ρ2 σ2 H3 x ds[i] _ ρ4 R3 rx e4 fun σ4 S4 R4 s4 o4 => ?_
      have ev4 : Evo I3 H3 (SU S2) I3 H3 (SU S4) := .shrink R3.trk s4
      have mk4 : Mk C.M σ2 σ4 := .off o4 hM
      have base := ((ev2.trans ev3).trans ev4)
      have h4 := PX.later (P' := SPo X.K C Γ σ4 I3 H3 S4 Dd) h3 ev4 fun o _ z => z.later ev4 mk4
      refine qb I3 S4 ρ4 σ4 H3 _ R4 (PX.imp (PX.bnd h4) fun o _ ⟨e5, h5⟩ => ?_)
      cases o with
      | nx ρ5 => exact fun I6 H6 S6 σ6 ev6 R6 mk6 => ⟨hlt, I6, S6, ρ5, base.trans ev6, R6, (mk2.trans mk4).trans mk6, PX.later h5 ev6 fun o _ z => z.later ev6 mk6⟩
      | ct ρ5 => exact fun I6 H6 S6 σ6 ev6 R6 mk6 => ⟨hlt, I6, S6, ρ5, base.trans ev6, R6, (mk2.trans mk4).trans mk6, PX.later h5 ev6 fun o _ z => z.later ev6 mk6⟩
      | bk ρ5 => exact fun I6 H6 S6 σ6 ev6 R6 mk6 => h5 I6 H6 S6 σ6 ev6 R6 mk6
      | rt d ρ5 => exact fun I6 H6 S6 σ6 v T ev6 R6 mk6 ow hT hn => h5 I6 H6 S6 σ6 v T ev6 R6 mk6 ow hT hn
  · have hi' : i = ds.length := by omega
    subst hi'
    rw [List.drop_length] at h2
    exact .inl ⟨wk.stop I2 H2 lt2, h2 I2 H2 S2 σ2 (.refl R2.trk) R2 .refl⟩
def whileM (c : Env → Res Bool) (body : Env → Res Out) : Nat → Env → Res Out
  | 0, _ => .bad
  | n + 1, ρ => c ρ >>= fun b => if b = true then body ρ >>= fun o => match o with
      | .nx ρ2 => whileM c body n ρ2
      | .ct ρ2 => whileM c body n ρ2
      | .bk ρ2 => .ok (.nx ρ2)
      | .rt d ρ2 => .ok (.rt d ρ2)
    else .ok (.nx ρ)
theorem ds_while {c : Expr} {body : List Stmt} {fc : Env → Res Bool} {fb : Env → Res Out} (n : Nat) (hp : PassesOwn (model X.prog X.w) X.A X.env X.xe) (hc : DT X E Γ c fc) (hb : DS X E { C with Gb := Γ, Gc := Γ } Γ body Γ fb) : DS1 X E C Γ (.While c body [] pos) Γ (whileM fc fb n) := by
  obtain ⟨tc, pc, qc⟩ := hc.ex
  obtain ⟨tb, pb, qb⟩ := hb.ex
  refine ⟨_, ps_while hp pc pb, fun I S ρ σ H Dd R h => ?_⟩
  refine ⟨fun m σ2 H2 => ∃ (I2 : Addr → Prop) (S2 : Nat → List Addr) (ρ2 : Env), ER X.K I2 Γ ρ2 σ2 H2 S2 ∧ PX X.K X.mg E I2 H2 (SU S2) (SPo X.K C Γ σ2 I2 H2 S2 Dd) (whileM fc fb m ρ2), ⟨n, I, S, ρ, R, h⟩, ?_⟩
  rintro m σ2 H2 ⟨I2, S2, ρ2, R2, h2⟩
  cases m with
  | zero => exact h2.elim
  | succ m =>
    unfold whileM at h2
    refine seqT qc R2 h2 fun b I3 H3 e3 h3 g3 R3 => ?_
    have ev3 := g3.evo (S := SU S2) R2.trk
    cases b with
    | true =>
      rw [if_pos rfl] at h3 ⊢
      refine ⟨fun σ3 H3 => ∃ (I2 : Addr → Prop) (S2 : Nat → List Addr) (ρ2 : Env), ER X.K I2 Γ ρ2 σ3 H3 S2 ∧ PX X.K X.mg E I2 H3 (SU S2) (SPo X.K C Γ σ3 I2 H3 S2 Dd) (whileM fc fb m ρ2), fun σ3 H3 z => ⟨m, Nat.lt_succ_self m, z⟩, ?_⟩
      have h4 := PX.later (P' := SPo X.K C Γ σ2 I3 H3 S2 Dd) h3 ev3 fun o _ z => z.later ev3 .refl
      refine qb I3 S2 ρ2 σ2 H3 _ R3 (PX.imp (PX.bnd h4) fun o _ ⟨e5, h5⟩ => ?_)
      cases o with
      | nx ρ5 => exact fun I6 H6 S6 σ6 ev6 R6 mk6 => ⟨I6, S6, ρ5, R6, PX.later h5 ev6 fun o _ z => z.later ev6 mk6⟩
      | ct ρ5 => exact fun I6 H6 S6 σ6 ev6 R6 mk6 => ⟨I6, S6, ρ5, R6, PX.later h5 ev6 fun o _ z => z.later ev6 mk6⟩
      | bk ρ5 => exact fun I6 H6 S6 σ6 ev6 R6 mk6 => h5 I6 H6 S6 σ6 ev6 R6 mk6
      | rt d ρ5 => exact fun I6 H6 S6 σ6 v T ev6 R6 mk6 ow hT hn => h5 I6 H6 S6 σ6 v T ev6 R6 mk6 ow hT hn
    | false =>
      rw [if_neg Bool.false_ne_true] at h3 ⊢
      exact h3 I3 H3 S2 σ2 ev3 R3 .refl
end
end DL

namespace DL
open PySem PySem.Spec PyProof.Rows L2

section
variable [Wd] {P : Program} {w : World} {K : PySem.W.Frag} {mg : Str → Option Value} {base : Heap} {k : Nat} {f : Addr} {fd : FuncData} {N ps : List Str} {sp : Sp} {x qual : Str} {st : Stmt}
/-- the end of a body's run -/
theorem body_end {CX : CXT} {X : Cx} {outer : List PySem.Env} {s : Shared} {H : Hp} {Q : VK} {E : XK} (ho : X.outer = outer) (hP : X.prog = P) (hw : X.w = w) (hs : X.s_0 = s) (hH : X.H_0 = H) (hex : X.ex = []) {fl : Flow} {s' : Shared}
    (h : SP X [] { nx := fun _ H' => Q .non H', rt := Q } fl s') : CR CX outer P w H s Q E (.ok (.ret (match fl with | .ret v => v | _ => Value.none))) s' := by
  subst ho hP hw hs hH
  have fin : ∀ {σ' : L2.St} {H' : Hp} {v : V} {u : Value}, Inv X [] σ' H' s' → RelV v u → Q v H' → CE X.outer X.prog X.w X.H_0 X.s_0 Q u s' := fun {σ' H' v u} J rv q => by
    have un := J.base
    rw [hex] at un
    exact ⟨v, H', J.os, J.bare, un, J.hok, rv, q⟩
  cases fl with
  | ret u => obtain ⟨v, σ', H', J, rv, q⟩ := h; exact fin J rv q
  | next => obtain ⟨σ', H', J, q⟩ := h; exact fin (v := V.non) J rfl q
  | brk => obtain ⟨_, _, _, q⟩ := h; exact q.elim
  | cont => obtain ⟨_, _, _, q⟩ := h; exact q.elim
theorem fnG_of (F : Fun K x qual st f fd) (Sc : FnScope N ps (defScope st)) (len : ∀ vs H Q E, sp vs H Q E → vs.length = ps.length)
    (hbody : ∀ (cdv : Value) (A : Around) (outer : List PySem.Env) (s : Shared) (H : Hp) (vs : List V) (Q : VK) (E : XK), Room k (A.deeper (envOfC qual (defScope st) s.heap.objs.size f cdv)) → A.guards = some [] → sp vs H Q E →
      ∃ t, PSs (cxOf (L2.CX P w) P w K mg base N qual (defScope st) f cdv A outer s H E) (defBody st) t ∧ t { nx := fun _ H' => Q .non H', rt := Q } (start N vs) H) : FnG P w K mg base (k + 1) f fd ps sp := by
  obtain ⟨oc, od, kV, doc, pm, an, cdv, ct, osl, rfl, lk, hcd⟩ := F.ex
  refine ⟨len, fun A outer s H args us vs Q E hr gd e0 hb r hsp => ?_⟩
  have hl : vs.length = ps.length := len _ _ _ _ hsp
  have there : ∀ b o, base.get? b = some o → s.heap.get? b = some o := fun b o e => (e0.bs b o e).1
  have KX : K.In s.heap := e0.mod.kin.keeps there
  have lim : s.heap.NoLimit := e0.mod.nolimit.keeps there
  refine codeAny_call_function hr.depth (KX _ _ lk) rfl Sc.co Sc.gen rfl (PySem.W.codeRec_of KX hcd) (hb _ _ _ _ ?_)
  refine wpAny_newFunctionEnv_cells Sc.kind (fun ⟨n, v⟩ hy => ?_) fun env he s1 x1 => ?_
  · exact (Sc.par n (List.of_mem_zip hy).1).imp id fun q => ⟨q, PySem.W.cellsFrom_some _ _ _ (.inl q)⟩
  · subst he
    refine ⟨lim.keeps x1.toInCall.keep, codeAny_func ?_⟩
    obtain ⟨t, ht, hq⟩ := hbody cdv A outer s H vs Q E (hr.deeper _) gd hsp
    have J : Inv (cxOf (L2.CX P w) P w K mg base N qual (defScope st) f cdv A outer s H E) [] (start N vs) H s1 := inv_start Sc hr.hd e0 hl r x1
    exact wpAny_mono (ht.run [] s1 (start N vs) H _ J hq) (fun fl s' hs => by
      have := body_end (CX := L2.CX P w) (E := E) rfl rfl rfl rfl rfl rfl hs
      cases fl <;> exact this) fun e s' hs => hs
/-- the result of a body -/
def outD : Out → Res D
  | .rt d _ => .ok d
  | .nx _ => .ok .none
  | _ => .bad
def env0 (nN : Nat) (ds : List D) : Env := ds.map W.d ++ List.replicate (nN - ds.length) (W.d .none)
def runP (np nN : Nat) (fb : Env → Res Out) (ds : List D) : Res D := if ds.length = np then fb (env0 nN ds) >>= outD else .bad
def gam0 (np nN : Nat) : List SK := List.replicate np (.da 0) ++ List.replicate (nN - np) .no
theorem gam0_len {np nN : Nat} (h : np ≤ nN) : (gam0 np nN).length = nN := by unfold gam0; simp; omega
theorem er0 {I : Addr → Prop} {H : Hp} {vs : List V} {ds : List D} (tr : ∀ a, I a → H a ≠ none) (tb : LamX.Tabs Wd.T H) (r : RpA K I H vs ds) (hN : vs.length ≤ N.length) : ER K I (gam0 vs.length N.length) (env0 N.length ds) (start N vs) H (fun _ => []) where
  slot := fun i k e => by
    have hl := r.len
    by_cases hi : i < vs.length
    · have e' : (gam0 vs.length N.length)[i]? = some (.da 0) := by
        unfold gam0
        rw [List.getElem?_append_left (by simpa using hi), List.getElem?_replicate, if_pos hi]
      rw [e'] at e
      cases e
      obtain ⟨v, q1, q2⟩ := r.get (i := i) (d := ds[i]'(by omega)) (List.getElem?_eq_getElem _)
      refine ⟨v, ds[i]'(by omega), ?_, ?_, .sh q2⟩
      · unfold L2.start
        rw [List.getElem?_append_left (by simpa using hi), List.getElem?_map, q1]
        rfl
      · unfold env0
        rw [List.getElem?_append_left (by simpa using (by omega : i < ds.length)), List.getElem?_map, List.getElem?_eq_getElem (by omega)]
        rfl
    · have : k = .no := by
        unfold gam0 at e
        rw [List.getElem?_append_right (by simpa using hi), List.getElem?_replicate] at e
        split at e
        · exact (Option.some.inj e).symm
        · cases e
      subst this
      trivial
  sd := fun _ _ m => nil_nm m
  dis := fun _ _ _ _ m _ => nil_nm m
  nod := fun _ => .nil
  nI := fun _ _ m => nil_nm m
  tr := tr
  lr := by unfold env0 gam0; simp; have := r.len; omega
  ls := by unfold L2.start gam0; simp
  tb := tb
/-- a def that changes nothing -/
theorem fnP {C : Cf} {Γn : List SK} {fb : Env → Res Out} (F : Fun K x qual st f fd) (Sc : FnScope N ps (defScope st)) (hN : ps.length ≤ N.length)
    (hbody : ∀ (cdv : Value) (A : Around) (outer : List PySem.Env) (s : Shared) (H : Hp) (E : XK), Cz (cxOf (L2.CX P w) P w K mg base N qual (defScope st) f cdv A outer s H E) E k →
      DS (cxOf (L2.CX P w) P w K mg base N qual (defScope st) f cdv A outer s H E) E C (gam0 ps.length N.length) (defBody st) Γn fb) : FnG P w K mg base (k + 1) f fd ps (spP K mg C.kr (runP ps.length N.length fb)) := by
  have len : ∀ vs H Q E, spP K mg C.kr (runP ps.length N.length fb) vs H Q E → vs.length = ps.length := fun vs H Q E ⟨I, ds, tr, tb, r, h⟩ => by
    unfold runP at h
    split at h
    · rename_i e
      rw [r.len]; exact e
    · exact h.elim
  refine fnG_of F Sc len fun cdv A outer s H vs Q E hr gd hsp => ?_
  have hl := len _ _ _ _ hsp
  obtain ⟨I, ds, tr, tb, r, h⟩ := hsp
  obtain ⟨t, p, q⟩ := (hbody cdv A outer s H E (.of hr gd)).ex
  refine ⟨t, p, ?_⟩
  have hd : ds.length = ps.length := by rw [← r.len]; exact hl
  have R := er0 (N := N) tr tb r (by rw [hl]; exact hN)
  rw [hl] at R
  refine q I _ (env0 N.length ds) (start N vs) H _ R ?_
  unfold runP at h
  rw [if_pos hd] at h
  have e0 : ∀ a, SU (fun _ => ([] : List Addr)) a ↔ False := fun a => ⟨fun ⟨j, m⟩ => nil_nm m, fun z => z.elim⟩
  have gr : ∀ {I' : Addr → Prop} {H' : Hp} {S' : Addr → Prop}, Evo I H (SU fun _ => []) I' H' S' → Gr I H I' H' := fun e => ⟨e.sub, fun a z => (e.new a z).imp id fun z => ⟨z.1.elim (fun z => ((e0 a).mp z).elim) id, z.2⟩, fun b o q n => e.keep b o q (fun z => (e0 b).mp z) n, fun z => e.there _ z, e.tab⟩
  refine PX.imp ?_ (fun o _ z => z)
  cases e1 : fb (env0 N.length ds) with
  | bad => rw [e1] at h; exact h.elim
  | exc c d =>
    rw [e1] at h
    exact WX.less h fun a z => (e0 a).mp z
  | ok o =>
    rw [e1] at h
    cases o with
    | nx ρ => exact fun I' H' S' σ' ev R' mk => h .non I' H' [] (gr ev) (At.vr .non (some C.kr) : VR K I' H' (some C.kr) [] .non .none) .nil
    | rt d ρ => exact fun I' H' S' σ' v T ev R' mk ow hT hn => h v I' H' T (gr ev) ow ⟨fun a m => ((ev.own a (.inr m)).1).elim (fun z => ((e0 a).mp z).elim) id, fun a m => (hT a m).1, hn⟩
    | bk ρ => exact h.elim
    | ct ρ => exact h.elim
/-- a def whose first parameter is owned and handed back -/
def outM : Out → Res (D × D)
  | .rt d ρ => dVar 0 ρ >>= fun d' => .ok (d, d')
  | .nx ρ => dVar 0 ρ >>= fun d' => .ok (.none, d')
  | _ => .bad
def runM (np nN : Nat) (fb : Env → Res Out) (ds : List D) : Res (D × D) := if ds.length = np then fb (env0 nN ds) >>= outM else .bad
def gamM (n np nN : Nat) : List SK := .da n :: (List.replicate (np - 1) (.da 0) ++ List.replicate (nN - np) .no)
def gamR (n nN : Nat) : List SK := .da n :: List.replicate (nN - 1) .no
theorem getV {vs : List V} {i : Nat} {v : V} {N : List Str} (h : vs[i]? = some v) : (L2.start N vs)[i]? = some (some v) := by
  unfold L2.start
  have hi := (List.getElem?_eq_some_iff.mp h).1
  rw [List.getElem?_append_left (by simpa using hi), List.getElem?_map, h]
  rfl
theorem getD {ds : List D} {i n : Nat} {d : D} (h : ds[i]? = some d) : (env0 n ds)[i]? = some (.d d) := by
  unfold env0
  have hi := (List.getElem?_eq_some_iff.mp h).1
  rw [List.getElem?_append_left (by simpa using hi), List.getElem?_map, h]
  rfl
theorem fnM {C : Cf} {Γn : List SK} {fb : Env → Res Out} {n : Nat} (F : Fun K x qual st f fd) (Sc : FnScope N ps (defScope st)) (hp : 0 < ps.length) (hN : ps.length ≤ N.length) (hM : C.M = [0]) (hR : C.Gr = gamR n N.length) (hl : lessG Γn C.Gr = true)
    (hbody : ∀ (cdv : Value) (A : Around) (outer : List PySem.Env) (s : Shared) (H : Hp) (E : XK), Cz (cxOf (L2.CX P w) P w K mg base N qual (defScope st) f cdv A outer s H E) E k →
      DS (cxOf (L2.CX P w) P w K mg base N qual (defScope st) f cdv A outer s H E) E C (gamM n ps.length N.length) (defBody st) Γn fb) : FnG P w K mg base (k + 1) f fd ps (spM K mg 0 n C.kr (runM ps.length N.length fb)) := by
  have len : ∀ vs H Q E, spM K mg 0 n C.kr (runM ps.length N.length fb) vs H Q E → vs.length = ps.length := fun vs H Q E ⟨I, ds, T0, v0, d0, tr, tb, hl, _, _, _, _, _, _, h⟩ => by
    unfold runM at h
    split at h
    · rename_i e
      rw [hl]; exact e
    · exact h.elim
  refine fnG_of F Sc len fun cdv A outer s H vs Q E hr gd hsp => ?_
  have hv := len _ _ _ _ hsp
  obtain ⟨I, ds, T0, v0, d0, tr, tb, hlen, hoth, ev0, ed0, ow0, nd0, nI0, h⟩ := hsp
  obtain ⟨t, p, q⟩ := (ds_post (hbody cdv A outer s H E (.of hr gd)) hl).ex
  refine ⟨t, p, ?_⟩
  have hd : ds.length = ps.length := by omega
  have R : ER K I (gamM n ps.length N.length) (env0 N.length ds) (L2.start N vs) H (fun j => if j = 0 then T0 else []) := by
    refine ⟨fun i k e => ?_, fun i a m => ?_, fun i j a hij m1 m2 => ?_, fun i => ?_, fun i a m => ?_, tr, ?_, ?_, tb⟩
    · cases i with
      | zero =>
        cases e
        exact ⟨v0, d0, getV ev0, getD ed0, ow0⟩
      | succ i =>
        show SlotR K I H k (if i + 1 = 0 then T0 else []) _ _
        rw [if_neg (Nat.succ_ne_zero i)]
        by_cases hi : i + 1 < vs.length
        · have e' : (gamM n ps.length N.length)[i + 1]? = some (.da 0) := by
            unfold gamM
            rw [List.getElem?_cons_succ, List.getElem?_append_left (by simp; omega), List.getElem?_replicate, if_pos (by omega)]
          rw [e'] at e
          cases e
          have q1 := List.getElem?_eq_getElem (l := vs) (i := i + 1) hi
          have q2 := List.getElem?_eq_getElem (l := ds) (i := i + 1) (by omega)
          exact ⟨_, _, getV q1, getD q2, .sh (hoth _ _ _ (Nat.succ_ne_zero i) q1 q2)⟩
        · have : k = .no := by
            unfold gamM at e
            rw [List.getElem?_cons_succ, List.getElem?_append_right (by simp; omega), List.getElem?_replicate] at e
            split at e
            · exact (Option.some.inj e).symm
            · cases e
          subst this
          trivial
    · have m : a ∈ (if i = 0 then T0 else []) := m
      by_cases hi : i = 0
      · subst hi; exact ⟨n, rfl⟩
      · rw [if_neg hi] at m; exact nil_nm m
    · have m1 : a ∈ (if i = 0 then T0 else []) := m1
      have m2 : a ∈ (if j = 0 then T0 else []) := m2
      by_cases hi : i = 0
      · rw [if_neg (fun z => hij (hi.trans z.symm))] at m2; exact nil_nm m2
      · rw [if_neg hi] at m1; exact nil_nm m1
    · show (if i = 0 then T0 else []).Nodup
      split
      · exact nd0
      · exact .nil
    · have m : a ∈ (if i = 0 then T0 else []) := m
      by_cases hi : i = 0
      · rw [if_pos hi] at m; exact nI0 a m
      · rw [if_neg hi] at m; exact nil_nm m
    · unfold env0 gamM; simp; omega
    · unfold L2.start gamM; simp; omega
  refine q I _ (env0 N.length ds) (L2.start N vs) H _ R ?_
  unfold runM at h
  rw [if_pos hd] at h
  have sS : ∀ a, SU (fun j => if j = 0 then T0 else []) a ↔ a ∈ T0 := fun a => ⟨fun ⟨j, m⟩ => by
    have m : a ∈ (if j = 0 then T0 else []) := m
    by_cases hj : j = 0
    · rw [if_pos hj] at m; exact m
    · rw [if_neg hj] at m; exact nil_nm m, fun m => ⟨0, m⟩⟩
  -- what a return leaves
  have fin : ∀ {d : D} {ρ' : Env} {d' : D} {I' : Addr → Prop} {H' : Hp} {S' : Nat → List Addr} {σ' : L2.St} {v : V} {T : List Addr}, dVar 0 ρ' = .ok d' →
      (∀ v I' H' T T', Evo I H (· ∈ T0) I' H' (fun a => a ∈ T ∨ a ∈ T') → Ow K I' H' C.kr T v d → Ow K I' H' n T' v0 d' → (∀ a ∈ T, ¬ I' a ∧ a ∉ T') → T.Nodup → (∀ a ∈ T', ¬ I' a) → T'.Nodup → (∀ a, I' a → H' a ≠ none) → Q v H') →
      Evo I H (SU fun j => if j = 0 then T0 else []) I' H' (fun a => SU S' a ∨ a ∈ T) → ER K I' C.Gr ρ' σ' H' S' → Mk C.M (L2.start N vs) σ' → Ow K I' H' C.kr T v d → (∀ a ∈ T, ¬ I' a ∧ ¬ SU S' a) → T.Nodup → Q v H' := by
    intro d ρ' d' I' H' S' σ' v T ed hq ev R' mk ow hT hn
    obtain ⟨v', d2, q1, q2, o⟩ := R'.slot 0 (.da n) (by rw [hR]; rfl)
    have mk0 := mk 0 (by rw [hM]; exact List.mem_singleton.mpr rfl)
    rw [getV ev0, q1] at mk0
    cases mk0
    have : d2 = d' := by
      unfold dVar at ed
      rw [q2] at ed
      exact Res.ok.inj ed
    subst this
    refine hq v I' H' T (S' 0) ⟨ev.sub, fun a z => (ev.new a z).imp id fun z => ⟨z.1.imp (sS a).mp id, z.2⟩, fun b o e z n => ev.keep b o e (fun z' => z ((sS b).mp z')) n, fun a z => ?_, ev.there, ev.tab⟩ ow o (fun a m => ⟨(hT a m).1, fun z => (hT a m).2 ⟨0, z⟩⟩) hn (R'.nI 0) (R'.nod 0) R'.tr
    have := ev.own a (z.elim .inr fun z => .inl ⟨0, z⟩)
    exact ⟨this.1.imp (sS a).mp id, this.2⟩
  cases e1 : fb (env0 N.length ds) with
  | bad => rw [e1] at h; exact h.elim
  | exc c d =>
    rw [e1] at h
    exact WX.less h fun a z => (sS a).mp z
  | ok o =>
    rw [e1] at h
    cases o with
    | nx ρ =>
      have h : PX K mg E I H (· ∈ T0) _ (dVar 0 ρ >>= fun d' => .ok (PyData.none, d')) := h
      cases e2 : dVar 0 ρ with
      | bad => rw [e2] at h; exact h.elim
      | exc c d => unfold dVar at e2; split at e2 <;> cases e2
      | ok d' =>
        rw [e2] at h
        intro I' H' S' σ' ev R' mk
        exact fin (v := .non) (T := []) e2 h ⟨ev.sub, ev.new, ev.keep, fun a z => z.elim (ev.own a) fun z => nil_nm z, ev.there, ev.tab⟩ R' mk (At.vr .non (some C.kr) : VR K I' H' (some C.kr) [] .non .none) (fun a m => nil_nm m) .nil
    | rt d ρ =>
      have h : PX K mg E I H (· ∈ T0) _ (dVar 0 ρ >>= fun d' => .ok (d, d')) := h
      cases e2 : dVar 0 ρ with
      | bad => rw [e2] at h; exact h.elim
      | exc c d => unfold dVar at e2; split at e2 <;> cases e2
      | ok d' =>
        rw [e2] at h
        exact fun I' H' S' σ' v T ev R' mk ow hT hn => fin e2 h ev R' mk ow hT hn
    | bk ρ => exact h.elim
    | ct ρ => exact h.elim
end
end DL

namespace DL
open PySem PySem.Spec PyProof.Rows L2
open PySem.W (ksEnv ksFn ks_superIn)

/-- what the written part says of the base of all errors, at D: its __init__ at fI -/
structure PErr (P : Program) (K : PySem.W.Frag) (mg : Str → Option Value) (st : Stmt) (D fI : Addr) (fd : FuncData) : Prop where
  ex : ∃ (oc dV kV doc pm ct ccl cl : Value) (od an cdd cld : Option Addr) (osl ccs csl : Array (Option Value)) (cc cda : Addr) (vs : Array Value) (file : Str) (tf : Tok) (cdD : ClassData),
    fd = ksFn "__init__" "PictureError.__init__" (defArgs st) (defBody st) (defScope st) dV kV doc pm an (.ref cda) ct cc ∧ K.lookup fI = some ⟨oc, od, .func fd, osl⟩ ∧ PySem.W.codeIn K (.ref cda) "PictureError.__init__" = true ∧
    K.lookup cda = some ⟨ccl, cdd, .fields vs, ccs⟩ ∧ vs[2]? = some (.str file tf) ∧ ((P.main.file : Str) == file) = true ∧ K.lookup cc = some ⟨cl, cld, .cell (some (.ref D)), csl⟩ ∧ PySem.W.clsIn K D = some cdD
  sup : mg "super" = none
  top : (P.main.scope.names.lookup ("super" : Str)).isSome = false
  opq : PySem.W.nsIn K PySem.cStatics "thirdparty.any" = some none
/-- of a class of errors, at C -/
structure PCls (K : PySem.W.Frag) (D fI C : Addr) : Prop where
  oex : OexC K C
  ini : PySem.W.findIn K (.ref C) "__init__" = some (some (.ref fI))
  tyI : PySem.W.typeIn K (.ref fI) = some (.type "function")
  noV : PySem.W.findIn K (.ref C) "value" = some none
  mro : PySem.W.mroIn K C (.ref D) = some true
  sup : ks_superIn K C D "__init__" = some (some (.builtin "ValueError.__init__"))
  sub : PySem.W.subIn K (.ref C) (.type "ValueError") = some true
def initBody (p1 p2 p3 p4 p5 p6 p7 p8 p9 : Pos) : List Stmt :=
  [.Expr (.Call (.Attribute (.Call (.Name "super" p1) [] [] p2) "__init__" p3) [.Name "value" p4] [] p5) p6, .Assign [.Attribute (.Name "self" p7) "value" p8] (.Name "value" p9) p6]
def spInit (K : PySem.W.Frag) (D fI : Addr) : Sp := fun vs H Q _ => ∃ (a C : Addr) (v : V), vs = [.ref a, v] ∧ H a = some (exo a C none) ∧ PCls K D fI C ∧
  ∀ dx, H dx = none → dx ≠ a → Q .non (upd (upd H dx (exd dx [("value", v)])) a (exo a C (some dx)))

section
variable {prog : Program} {w : World} {A : Around} {E : Value → Shared → Prop}
/-- ValueError.__init__, bound to an instance, called -/
theorem call_mw {nm q : Str} {C N : Addr} {bs bm : List Value} {hdct : Bool} {sn : List Str} {sub : List Value} {ab : Bool} {col : Option Bool} {dd : Option Addr} {k0 k1 k2 k3 k5 : Option Value} {h : Heap} {g : Array GenState} {d : Drawn} {t : Nat} {os : OsState}
    {u e t0 : Addr} {rest : List Value} {Q : Value → Shared → Prop} (hC : h.get? C = some (excClassObj nm q C N bs bm hdct sn sub ab col dd k0 k1 k2 k3 k5 "ValueError.__new__")) (he : h.get? e = some (HandSPX.excO C t0)) (hu : h.get? u = some (PySem.W.kxs_mw "ValueError.__init__" e)) (hrest : rest.length ≤ sizeLine)
    (hq : ∀ h' t1, (∀ b o, b ≠ e → h.get? b = some o → h'.get? b = some o) → h'.get? e = some (HandSPX.excO C t1) → Q .none ⟨h', g, d, t, os⟩) : wpAny (model prog w) A (call (.ref u) rest) Q E ⟨h, g, d, t, os⟩ := by
  refine wpAny_call (codeAny_of_tree (show wpAny _ A.in1 (callAny (.ref u) ⟨rest, []⟩) _ _ _ from ?_))
  simp only [callAny]
  refine wpAny_bind (wpAny_load hu ?_)
  have m1 : (Value.type "method-wrapper" == Value.type "method" || Value.type "method-wrapper" == Value.type "builtin_function_or_method" || Value.type "method-wrapper" == Value.type "method-wrapper") = true := by decide
  simp only [PySem.W.kxs_mw, m1, if_true]
  refine W.KFB.if_so (by decide) (wpAny_bind (ESX.check_bound F.excBase_ValueError hC he rfl (wpAny_bind (wpAny_pure (wpAny_pure ⟨Code.quiet_builtin _ (by decide +kernel), codeAny_builtin F.excBase_ValueError.initEntry ?_⟩)))))
  rw [Around.under_plainId F.excBase_ValueError.init.plain _]
  wp_walk
  refine hq _ h.objs.size (fun b o hb ho => ?_) ?_
  · exact (Heap.get?_update_other _ _ (Ne.symm hb)).trans (Heap.get?_push_of_some _ ho)
  · rw [Heap.get?_update_self _ (Heap.get?_push_of_some _ he) rfl]; rfl
end
section
variable [Wd] {P : Program} {w : World} {K : PySem.W.Frag} {mg : Str → Option Value} {base : Heap} {st : Stmt} {D fI : Addr} {fd : FuncData}
/-- PictureError.__init__ keeps its promise -/
theorem init_ok (T : PErr P K mg st D fI fd) {p1 p2 p3 p4 p5 p6 p7 p8 p9 p10 : Pos} (hb : defBody st = [.Expr (.Call (.Attribute (.Call (.Name "super" p1) [] [] p2) "__init__" p3) [.Name "value" p4] [] p5) p6, .Assign [.Attribute (.Name "self" p7) "value" p8] (.Name "value" p9) p10])
    (hsc : NdefX.NScope ["self", "value", "__class__"] ["self", "value"] ["__class__"] (defScope st)) (hks : (defScope st).names.lookup ("super" : Str) = some .globalImplicit) (hpar : ((defArgs st).posonlyargs ++ (defArgs st).args).head?.map (·.arg) = some ("self" : Str))
    (hev : ∀ env : PySem.Env, eval (.Call (.Attribute (.Call (.Name "super" p1) [] [] p2) "__init__" p3) [.Name "value" p4] [] p5) env = (do
      let ov ← attributeBase (.Call (.Name "super" p1) [] [] p2) "__init__" env (eval (.Call (.Name "super" p1) [] [] p2) env)
      standAt p3.atName
      let (f, first) ← holding [ov] (getMethod ov "__init__" (do return (← importBound (.Call (.Name "super" p1) [] [] p2) env).getD true))
      callWith p5 f first (backTo p5 (starEach [.Name "value" p4] env)) []) := by intro _; rfl) : FnOk P w K mg base CX0 1 fI fd ["self", "value"] (spInit K D fI) := by
  obtain ⟨oc, dV, kV, doc, pm, ct, ccl, cl, od, an, cdd, cld, osl, ccs, csl, cc, cda, vs, file, tf, cdD, rfl, lk, hcd, lcd, hvs, hfile, lcc, hD⟩ := T.ex
  refine ⟨fun vs H Q E ⟨a, C, v, e, _⟩ => by rw [e]; rfl, fun A outer s H args us vs' Q E hr e0 hbd rv hsp => ?_⟩
  obtain ⟨a, C, v, rfl, ha, TC, hq⟩ := hsp
  obtain ⟨u1, u2, rfl, ru1, ru2⟩ := vals2 rv
  cases (show u1 = Value.ref a from ru1)
  have there : ∀ b o, base.get? b = some o → s.heap.get? b = some o := fun b o e => (e0.bs b o e).1
  have KX : K.In s.heap := e0.mod.kin.keeps there
  have lim : s.heap.NoLimit := e0.mod.nolimit.keeps there
  obtain ⟨nm, q, N, bs, bm, sn, sub, ab, col, dd, k0, k1, k2, k3, k5, hC, hbm⟩ := TC.oex.cls
  obtain ⟨cdC, hcC⟩ : ∃ cdC, PySem.W.clsIn K C = some cdC := by
    have := TC.sup
    unfold ks_superIn at this
    cases e : PySem.W.clsIn K C with
    | none => rw [e] at this; cases this
    | some cdC => exact ⟨cdC, rfl⟩
  have hsup : PySem.W.alongIn K "__init__" ((cdC.mro.dropWhile (· != .ref D)).drop 1) = some (some (.builtin "ValueError.__init__")) := by
    have := TC.sup
    unfold ks_superIn at this
    rw [hcC] at this
    exact this
  -- the names of the frame
  let F : NdefX.NF := ⟨"__init__", "PictureError.__init__", defArgs st, defBody st, defScope st, [("__class__", cc)], cda⟩
  have hcc : s.heap.IsCell cc (some (.ref D)) := ⟨_, KX _ _ lcc, rfl⟩
  have nocell : ∀ y ∈ (defScope st).names, y.2 ≠ .cell := hsc.nocell
  refine PySem.ks_codeAny_call_defAt (fd := ksFn "__init__" "PictureError.__init__" (defArgs st) (defBody st) (defScope st) dV kV doc pm an (.ref cda) ct cc) (body := defBody st) hr.depth (KX _ _ lk) rfl lim (PySem.W.codeRec_of KX hcd) rfl hbd nocell (fun y hy => ?_) (fun h₁ hns kp => ?_) hsc.co hsc.gen hsc.kind
  · exact hsc.par y.1 (List.of_mem_zip hy).1
  · have J : Inv (NdefX.ncx CX0 P w K mg base ["self", "value", "__class__"] F fI A outer s H E) [] (NdefX.startF ["self", "value", "__class__"] [.ref a, v] [some (.ref D)]) H { s with heap := h₁, toks := s.toks + (["self", "value"].zip [Value.ref a, u2]).length } := by
      refine NdefX.inv_startN (us := [.ref a, u2]) (vs := [.ref a, v]) (fr := ["__class__"]) hsc hr.hd e0 rfl rv ⟨rfl, fun y c e => ?_, fun x y c e1 e2 => ?_, fun i y e => ?_⟩ hns kp
      · by_cases hy : y = "__class__"
        · rw [hy] at e
          cases e
          refine ⟨?_, _, hcc⟩
          exact (e0.bs _ _ (e0.mod.kin _ _ lcc)).2
        · have e : (match y == ("__class__" : Str) with | true => some cc | false => none) = some c := e
          rw [beq_eq_false_iff_ne.mpr hy] at e
          cases e
      · have w1 : ∀ z c, F.cl.lookup z = some c → z = "__class__" := fun z c e => by
          by_cases hz : z = "__class__"
          · exact hz
          · have e : (match z == ("__class__" : Str) with | true => some cc | false => none) = some c := e
            rw [beq_eq_false_iff_ne.mpr hz] at e
            cases e
        rw [w1 x c e1, w1 y c e2]
      · cases i with
        | zero =>
          cases e
          refine ⟨cc, rfl, fun v hv => ?_⟩
          cases hv
          exact ⟨_, rfl, hcc⟩
        | succ i => simp at e
    show _root_.PySem.wpAt (model P w) (A.deeper (ksEnv "PictureError.__init__" (defScope st) s.heap.objs.size fI (.ref cda) cc)) (.func (defBody st) (ksEnv "PictureError.__init__" (defScope st) s.heap.objs.size fI (.ref cda) cc)) (execs (defBody st) (ksEnv "PictureError.__init__" (defScope st) s.heap.objs.size fI (.ref cda) cc)) _ _ _
    have hk : (ksEnv "PictureError.__init__" (defScope st) s.heap.objs.size fI (.ref cda) cc).scope.kind = .function := hsc.kind
    have ks : (ksEnv "PictureError.__init__" (defScope st) s.heap.objs.size fI (.ref cda) cc).kindOf "super" = some .globalImplicit := hks
    have kc : (ksEnv "PictureError.__init__" (defScope st) s.heap.objs.size fI (.ref cda) cc).kindOf "__class__" = some .free := hsc.frk _ List.mem_cons_self
    have kself : (ksEnv "PictureError.__init__" (defScope st) s.heap.objs.size fI (.ref cda) cc).kindOf "self" = some .local := hsc.par _ List.mem_cons_self
    have kval : (ksEnv "PictureError.__init__" (defScope st) s.heap.objs.size fI (.ref cda) cc).kindOf "value" = some .local := hsc.par _ (List.mem_cons_of_mem _ List.mem_cons_self)
    obtain ⟨ar, har, har2⟩ : ∃ ar, ((defArgs st).posonlyargs ++ (defArgs st).args).head? = some ar ∧ ar.arg = ("self" : Str) := by
      cases e : ((defArgs st).posonlyargs ++ (defArgs st).args).head? with
      | none => rw [e] at hpar; cases hpar
      | some ar => rw [e] at hpar; exact ⟨ar, rfl, Option.some.inj hpar⟩
    rw [hb]
    have hint : interactive (ksEnv "PictureError.__init__" (defScope st) s.heap.objs.size fI (.ref cda) cc) = false := by simp [interactive, hsc.kind, hk]
    refine PySem.ks_wpAt_execs_cons (PySem.ks_wpAt_Expr_any (PySem.ks_wpAt_MethodCall ?_ (hev _)) hint)
    refine PySem.ks_wpAt_super_base (f := fI) (cc := cda) (ar := ar) ks kc (by decide) rfl (J.kIn _ _ lk) rfl har rfl (J.kIn _ _ lcd) rfl hvs hfile T.top ?_
    obtain ⟨mb, mb1, mb2⟩ := J.mod.blt
    refine PySem.W.ks_loadName_global hk ks (Calls.loadGlobal_builtin (env := ksEnv "PictureError.__init__" (defScope st) s.heap.objs.size fI (.ref cda) cc) (J.mod.glob.keeps J.bk) T.sup (mb1.keeps J.bk) ((mb2 _ (by decide)).trans PyProof.Rows.Boot.«super») ⟨rfl, ?_⟩)
    refine wpAny_loadName_free hk kc rfl ⟨_, J.kIn _ _ lcc, rfl⟩ ?_
    rw [har2]
    refine wpAny_loadName_local (v := .ref a) hk kself hns rfl ?_
    obtain ⟨oc1, od1, sl1, lD⟩ : ∃ oc1 od1 sl1, K.lookup D = some ⟨oc1, od1, .cls cdD, sl1⟩ := by
      have hD := hD
      unfold PySem.W.clsIn at hD
      split at hD
      · rename_i x e
        cases hD
        exact ⟨_, _, _, e⟩
      · cases hD
    refine PySem.ks_wpAny_isType_cls (J.kIn _ _ lD) rfl ⟨rfl, ?_⟩
    obtain ⟨t1, hoa⟩ := exo_at J.hok ha
    refine PySem.ks_wpAny_call_super (J.kIn _ _ lD) rfl hoa rfl (fun c z => by cases z) (PySem.W.looks_mroIn J.kIn TC.mro) (fun h2 hso k2 => ?_)
    have J2 := J.kept (h' := h2) (t' := s.toks + (["self", "value"].zip [Value.ref a, u2]).length) k2
    obtain ⟨t2, hoa2⟩ := exo_at J2.hok ha
    have IA : PySem.W.InstAt h2 a _ C none := ⟨hoa2, rfl, rfl, trivial⟩
    refine PySem.W.kxs_getMethod PySem.W.kxs_ValueError hso (PySem.W.looks_opaque J2.kIn T.opq) (l₀ := cdC.mro) ?_ rfl J2.kIn hsup (IA.type.andThen (PySem.W.looks_subIn J2.kIn TC.sub)) (PySem.W.ks_ne J2.kIn IA hcC) (by decide) ?_
    · exact fun A Q E s k q => wpAny_bind ((PySem.W.looks_clsIn J2.kIn hcC) A _ E s k (wpAny_pure q))
    have k3 : ∀ b o, h2.get? b = some o → (h2.push (PySem.W.kxs_mw "ValueError.__init__" a)).get? b = some o := fun b o e => Heap.get?_push_of_some _ e
    have J3 := J2.kept (h' := h2.push (PySem.W.kxs_mw "ValueError.__init__" a)) (t' := s.toks + (["self", "value"].zip [Value.ref a, u2]).length + 1) k3
    have hmw : (h2.push (PySem.W.kxs_mw "ValueError.__init__" a)).get? h2.objs.size = some (PySem.W.kxs_mw "ValueError.__init__" a) := Heap.get?_push_size _ rfl
    show wpAny _ _ (callWith p5 (Value.ref h2.objs.size) [] _ []) _ _ _
    refine PySem.W.kxs_callWith (i := "ValueError.__init__") (x := a) rfl (Calls.evalArgs_plain (show wpAny _ _ (spliced [(false, eval (.Name "value" p4) _)]) _ _ _ from ?_))
    have J3p := J3.pins_of (pins' := [(h2.objs.size, PySem.W.kxs_mw "ValueError.__init__" a)]) fun p hp => by
      rw [List.mem_singleton.mp hp]
      exact ⟨hmw, J2.hok.fresh (Nat.le_refl _), Nat.ne_of_gt J2.lt, J2.nofs (Nat.le_refl _), fun v z => by cases z⟩
    refine Calls.spliced_cons (thn ((pe_var (X := NdefX.ncx CX0 P w K mg base ["self", "value", "__class__"] F fI A outer s H E) (pos := p4) (i := 1) (x := "value") rfl (.inl kval)).run _ _ _ H (fun x H' => x = v ∧ H' = H) J3p ⟨v, rfl, rfl, rfl⟩) fun u3 s3 ⟨x3, H3, J4, r3, ex3, eH3⟩ => ?_)
    subst ex3
    rw [eH3] at J4
    have hmw3 := (J4.pin (h2.objs.size, PySem.W.kxs_mw "ValueError.__init__" a) (List.mem_append_right _ (List.mem_singleton.mpr rfl))).1
    refine Calls.spliced_nil ⟨hmw3, ?_⟩
    obtain ⟨t4, hoa4⟩ := exo_at J4.hok ha
    obtain ⟨hp3, g3, d3, tk3, os3⟩ := s3
    refine call_mw (rest := [u3]) (J4.kIn _ _ hC) hoa4 hmw3 (by rw [sizeLine_eq]; exact (by decide : (1 : Nat) ≤ 16777216)) fun h5 t5 k5 ha5 => ?_
    have J5 := (J4.write (h' := h5) (t' := tk3) (x := a) (e := a) (o := exo a C none) (by rw [ha]; exact True.intro) (.inl rfl) k5 ⟨_, ha5⟩ (exo_ok ha5))
    have eu : upd H a (exo a C none) = H := by
      funext b
      by_cases hb : b = a
      · rw [hb, upd_same, ha]
      · rw [upd_ne hb]
    rw [eu] at J5
    have J5 := Inv.pins_of (pins' := []) J5 (fun p hp => by cases hp)
    dsimp only
    refine PySem.wpAt_of_wpAny ?_
    have PP := (pss_one (st := .Assign [.Attribute (.Name "self" p7) "value" p8] (.Name "value" p9) p10) (ps_ost (X := NdefX.ncx CX0 P w K mg base ["self", "value", "__class__"] F fI A outer s H E) (f := "value") (p' := p8) (pe_var (X := NdefX.ncx CX0 P w K mg base ["self", "value", "__class__"] F fI A outer s H E) (pos := p7) (i := 0) (x := "self") rfl (.inl kself))
      (pe_var (X := NdefX.ncx CX0 P w K mg base ["self", "value", "__class__"] F fI A outer s H E) (pos := p9) (i := 1) (x := "value") rfl (.inl kval)))).run [] _ _ H { nx := fun _ H' => Q .non H', rt := Q } J5
      ⟨x3, rfl, .ref a, rfl, a, C, rfl, TC.oex, TC.noV, .inl ⟨ha, fun dx n ne => hq dx n ne⟩⟩
    exact wpAny_mono PP (fun fl s' hs => by
      have := body_end (CX := CX0) (E := E) rfl rfl rfl rfl rfl rfl hs
      cases fl <;> exact this) fun e s' hs => hs
end
end DL

namespace DL
open PySem PySem.Spec PyProof.Rows L2

section
variable [Wd] {X : Cx} {E : XK} {C : Cf} {Γ Γ1 Γ2 Γn : List SK} {pos : Pos}
/-- raise C(e) -/
def sRaise (x : Str) (gs : Env → Res (List D)) : Env → Res Out := fun ρ => gs ρ >>= fun ds => match ds with
  | [d] => .exc x d
  | _ => .bad
theorem ds_raise {k kx : Nat} {Cc Dd fI : Addr} {fd : FuncData} {x : Str} {p1 p2 : Pos} {e : Expr} {gs : Env → Res (List D)} (T : PCls X.K Dd fI Cc) (tI : PySem.W.typeIn X.K (.ref fI) = some (.type "function")) (F1 : FnOk X.prog X.w X.K X.mg X.base CX0 k fI fd ["self", "value"] (spInit X.K Dd fI)) (c : Cz X E kx) (hk : k + 1 ≤ kx)
    (hcalm : X.calm = true) (hg : Gl X x) (hm : X.mg x = some (.ref Cc)) (hb : Binds X.K fd ["self", "value"] []) (ha : DA X E Γ [e] true gs) (hdb : (x == ("__debug__" : Str)) = false := by decide) (he : starEach [e] X.env = (false, eval e X.env) :: starEach [] X.env := by rfl) :
    DS1 X E C Γ (.Raise (some (.Call (.Name x p1) [e] [] p2)) none pos) Γn (sRaise x gs) := by
  obtain ⟨ta, pa, qa⟩ := ha.ex
  refine ⟨_, ps_raise hcalm c.tk (pmk_oex T.oex T.ini tI F1 (c.hr.mono hk) hb .nil pass0 hg hm pa hdb he), fun I S ρ σ H Dd R h => ?_⟩
  refine qa I S ρ σ H _ R (PX.imp (PX.bnd h) fun ds _ ⟨e, h1⟩ => ?_)
  intro vs I1 H1 g1 r1
  have hl := r1.len
  match ds, vs, h1, r1, hl with
  | [d], [v], h1, r1, _ =>
    refine ⟨by simp, fun a na => ⟨a, Cc, v, rfl, upd_same, T, fun dx nd hne => ⟨rfl, dx, [("value", v)], upd_same, ?_, ?_, ?_⟩⟩⟩
    · rw [upd_ne hne, upd_same]
    · rw [upd_ne hne] at nd
      exact nd
    · rw [upd_ne hne] at nd
      have eH : upd (del (upd (upd (upd H1 a (exo a Cc none)) dx (exd dx [("value", v)])) a (exo a Cc (some dx))) a) dx (.xd [("value", v)]) = upd H1 dx (.xd [("value", v)]) := by
        funext b
        by_cases hb : b = dx
        · rw [hb, upd_same, upd_same]
        · rw [upd_ne hb, upd_ne hb]
          by_cases hba : b = a
          · rw [hba, del_same, na]
          · rw [del_ne hba, upd_ne hba, upd_ne hb, upd_ne hba]
      rw [eH]
      have h1 : WX X.K X.mg E I H (SU S) x d := h1
      refine h1 Cc dx v I1 _ (SU S) hm ((g1.trans (.lay nd)).evo R.trk) ?_ upd_same
      cases r1 with
      | cons r _ => exact (RB.rp r).mono (fun _ z => z) fun b o _ q _ => upd_keep nd b o q
  | [], _, h1, _, _ => exact h1.elim
  | _ :: _ :: _, _, h1, _, _ => exact h1.elim
end
end DL

namespace DL
open PySem PySem.Spec PyProof.Rows L2

def getAt : List Int → D → Option D
  | [], d => some d
  | j :: js, .list ds => (ixN ds.length j).bind fun k => ds[k]?.bind (getAt js)
  | _ :: _, _ => none
def setAt : List Int → D → D → D
  | [], z, _ => z
  | j :: js, z, .list ds => match ixN ds.length j with
    | some k => match ds[k]? with
      | some d => .list (ds.set k (setAt js z d))
      | none => .list ds
    | none => .list ds
  | _ :: _, _, d => d
inductive Walk (H : Hp) : List Int → V → V → Prop
  | here {v : V} : Walk H [] v v
  | step {a : Addr} {xs : List V} {j : Int} {k : Nat} {x l : V} {js : List Int} : H a = some (.lst xs) → ixN xs.length j = some k → xs[k]? = some x → Walk H js x l → Walk H (j :: js) (.ref a) l
section
variable {K : PySem.W.Frag} {I : Addr → Prop} {H : Hp}
/-- one item apart -/
theorem OwA.split {n : Nat} : ∀ {S : List Addr} {xs : List V} {ds : List D} {k : Nat} {d : D}, OwA K I H n S xs ds → ds[k]? = some d → ∃ (S1 Sk S2 : List Addr) (x : V), xs[k]? = some x ∧ S = S1 ++ (Sk ++ S2) ∧ Ow K I H n Sk x d ∧
    ∀ (I' : Addr → Prop) (H' : Hp) (Sk' : List Addr) (x' : V) (d' : D), (∀ a, I a → I' a) → (∀ a o, I a → H a = some o → NT o → H' a = some o) → (∀ a ∈ S1 ++ S2, ∀ o, H a = some o → NT o → H' a = some o) → Ow K I' H' n Sk' x' d' →
      OwA K I' H' n (S1 ++ (Sk' ++ S2)) (xs.set k x') (ds.set k d')
  | _, _, _, _, _, .nil, e => by simp at e
  | _, _, _, 0, d, .cons (S := S) (T := T) h r, e => by
    cases Option.some.inj e
    exact ⟨[], S, T, _, rfl, rfl, h, fun I' H' Sk' x' d' hI hH hS o => .cons (S := Sk') (T := T) o (r.mono hI hH fun a m => hS a (by simpa using m))⟩
  | _, _, _, k + 1, d, .cons (S := S) (T := T) h r, e => by
    obtain ⟨S1, Sk, S2, x, e1, e2, o, q⟩ := OwA.split r (k := k) (d := d) (by simpa using e)
    refine ⟨S ++ S1, Sk, S2, x, by simpa using e1, by rw [e2, List.append_assoc], o, fun I' H' Sk' x' d' hI hH hS o' => ?_⟩
    have := OwA.cons (h.mono hI hH fun a m => hS a (by simp [m])) (q I' H' Sk' x' d' hI hH (fun a m => hS a (by simp at m ⊢; rcases m with m | m <;> simp [m])) o')
    rw [List.append_assoc]
    exact this
/-- the node at the end of a walk, what may be written there -/
theorem focus {m : Nat} : ∀ {js : List Int} {S : List Addr} {v y : V} {d : D} {ds : List D}, Ow K I H (js.length + (m + 1)) S v d → getAt js d = some (.list ds) → Walk H js v y → S.Nodup →
    ∃ (l : Addr) (xs : List V) (Sl : List Addr), y = .ref l ∧ H l = some (.lst xs) ∧ xs.length ≤ sizeLine ∧ OwA K I H m Sl xs ds ∧ l ∈ S ∧ (∀ a ∈ Sl, a ∈ S) ∧ l ∉ Sl ∧ Sl.Nodup ∧
      ∀ (I' : Addr → Prop) (H' : Hp) (ys : List V) (es : List D) (T : List Addr), (∀ a, I a → I' a) → (∀ a o, I a → H a = some o → NT o → H' a = some o) → (∀ a ∈ S, a ≠ l → a ∉ Sl → ∀ o, H a = some o → NT o → H' a = some o) →
        H' l = some (.lst ys) → ys.length ≤ sizeLine → OwA K I' H' m T ys es → ∃ S', Ow K I' H' (js.length + (m + 1)) S' v (setAt js (.list es) d) ∧ (∀ a ∈ S', (a ∈ S ∧ a ∉ Sl) ∨ a ∈ T) ∧ (T.Nodup → (∀ a ∈ T, a ∈ S → a ∈ Sl) → S'.Nodup)
  | [], S, v, y, d, ds, o, e, w, nd => by
    cases Option.some.inj e
    cases w
    have o : Ow K I H (0 + (m + 1)) S v (.list ds) := o
    rw [Nat.zero_add] at o
    cases o with
    | fl r f => cases f
    | @lst _ S0 a xs _ h z r =>
      obtain ⟨n1, n2⟩ := List.nodup_cons.mp nd
      refine ⟨a, xs, S0, rfl, h, z, r, List.mem_cons_self, fun b mb => List.mem_cons_of_mem _ mb, n1, n2, fun I' H' ys es T hI hH hS hl hz o' => ⟨a :: T, ?_, fun b mb => ?_, fun nT dj => ?_⟩⟩
      · show Ow K I' H' (0 + (m + 1)) _ _ _
        rw [Nat.zero_add]
        exact .lst hl hz o'
      · rcases List.mem_cons.mp mb with rfl | mb
        · exact .inl ⟨List.mem_cons_self, n1⟩
        · exact .inr mb
      · exact List.nodup_cons.mpr ⟨fun z => n1 (dj a z List.mem_cons_self), nT⟩
  | j :: js, S, v, y, d, ds, o, e, w, nd => by
    cases d with
    | list dd =>
      have e : ((ixN dd.length j).bind fun k => dd[k]?.bind (getAt js)) = some (.list ds) := e
      have hn : (j :: js).length + (m + 1) = (js.length + (m + 1)) + 1 := by simp; omega
      rw [hn] at o ⊢
      cases o with
      | fl r f => cases f
      | @lst _ S0 a xs _ h z r =>
        cases w with
        | @step _ _ _ kk x0 _ _ h' i1 i2 w =>
          rw [h] at h'
          cases h'
          rw [r.len] at i1
          rw [i1, Option.bind_some] at e
          cases ek : dd[kk]? with
          | none => rw [ek] at e; cases e
          | some dk =>
            rw [ek, Option.bind_some] at e
            obtain ⟨S1, Sk, S2, x, e1, e2, ok, q⟩ := OwA.split r ek
            rw [i2] at e1
            cases e1
            obtain ⟨n1, n2⟩ := List.nodup_cons.mp nd
            rw [e2] at n2
            have n3 := (List.nodup_append.mp n2)
            have n4 := (List.nodup_append.mp n3.2.1)
            have mk : ∀ b, b ∈ Sk → b ∈ a :: S0 := fun b mb => List.mem_cons_of_mem _ (by rw [e2]; simp [mb])
            have m1 : ∀ b, b ∈ S1 → b ∈ a :: S0 := fun b mb => List.mem_cons_of_mem _ (by rw [e2]; simp [mb])
            have m2 : ∀ b, b ∈ S2 → b ∈ a :: S0 := fun b mb => List.mem_cons_of_mem _ (by rw [e2]; simp [mb])
            obtain ⟨l, zs, Sl, ey, hl, hz, ol, ml, ms, nl, nnl, put⟩ := focus ok e w n4.1
            have nSk : ∀ b ∈ S1 ++ S2, b ∉ Sk := fun b mb mk => by
              rcases List.mem_append.mp mb with mb | mb
              · exact n3.2.2 b mb b (List.mem_append_left _ mk) rfl
              · exact n4.2.2 b mk b mb rfl
            have nak : a ∉ Sk := fun z => n1 (by rw [e2]; simp [z])
            refine ⟨l, zs, Sl, ey, hl, hz, ol, mk l ml, fun b mb => mk b (ms b mb), nl, nnl, fun I' H' ys es T hI hH hS hl' hz' o' => ?_⟩
            obtain ⟨Sk', o2, sub2, nd2⟩ := put I' H' ys es T hI hH (fun b mb => hS b (mk b mb)) hl' hz' o'
            have hA := q I' H' Sk' _ _ hI hH (fun b mb => hS b ((List.mem_append.mp mb).elim (m1 b) (m2 b)) (fun z => nSk b mb (z ▸ ml)) fun z => nSk b mb (ms b z)) o2
            have ha : H' a = some (.lst xs) := hS a List.mem_cons_self (fun z => nak (z ▸ ml)) (fun z => nak (ms a z)) _ h fun _ z => nomatch z
            have hk : xs.set kk x0 = xs := List.ext_getElem? fun i => by
              rw [List.getElem?_set]
              split
              · rename_i hi
                subst hi
                split
                · exact i2.symm
                · rename_i hlt
                  rw [List.getElem?_eq_none (by omega)]
              · rfl
            rw [hk] at hA
            have hs : setAt (j :: js) (.list es) (.list dd) = .list (dd.set kk (setAt js (.list es) dk)) := by
              show (match ixN dd.length j with
                | some k => match dd[k]? with
                  | some d => PyData.list (dd.set k (setAt js (.list es) d))
                  | none => .list dd
                | none => .list dd) = _
              rw [i1]
              simp only [ek]
            refine ⟨a :: (S1 ++ (Sk' ++ S2)), ?_, fun b mb => ?_, fun nT dj => ?_⟩
            · rw [hs]
              exact .lst ha z hA
            · rcases List.mem_cons.mp mb with rfl | mb
              · exact .inl ⟨List.mem_cons_self, fun z => nak (ms _ z)⟩
              · rcases List.mem_append.mp mb with mb | mb
                · exact .inl ⟨m1 b mb, fun z => nSk b (List.mem_append_left _ mb) (ms b z)⟩
                · rcases List.mem_append.mp mb with mb | mb
                  · exact (sub2 b mb).imp (fun z => ⟨mk b z.1, z.2⟩) id
                  · exact .inl ⟨m2 b mb, fun z => nSk b (List.mem_append_right _ mb) (ms b z)⟩
            · have nd3 := nd2 nT fun b mb mk' => dj b mb (mk b mk')
              have sk : ∀ b ∈ Sk', b ∈ Sk ∨ (b ∈ T ∧ b ∉ a :: S0) ∨ b ∈ Sl := fun b mb => by
                rcases sub2 b mb with z | z
                · exact .inl z.1
                · by_cases hb : b ∈ a :: S0
                  · exact .inr (.inr (dj b z hb))
                  · exact .inr (.inl ⟨z, hb⟩)
              have off : ∀ b ∈ Sk', ∀ c ∈ a :: S0, c ∉ Sk → b ≠ c := fun b mb c mc nc e => by
                subst e
                rcases sk b mb with z | ⟨_, z⟩ | z
                · exact nc z
                · exact z mc
                · exact nc (ms b z)
              refine List.nodup_cons.mpr ⟨fun mz => ?_, List.nodup_append.mpr ⟨n3.1, List.nodup_append.mpr ⟨nd3, n4.2.1, fun b mb c mc => off b mb c (m2 c mc) (nSk c (List.mem_append_right _ mc))⟩, fun b mb c mc e => ?_⟩⟩
              · rcases List.mem_append.mp mz with mz | mz
                · exact n1 (by rw [e2]; simp [mz])
                · rcases List.mem_append.mp mz with mz | mz
                  · exact off a mz a List.mem_cons_self nak rfl
                  · exact n1 (by rw [e2]; simp [mz])
              · rcases List.mem_append.mp mc with mc | mc
                · exact off c mc b (m1 b mb) (nSk b (List.mem_append_left _ mb)) e.symm
                · exact n3.2.2 b mb c (List.mem_append_right _ mc) e
    | _ => cases e
end
end DL

namespace DL
open PySem PySem.Spec PyProof.Rows L2

theorem Walk.mono {H H' : Hp} {js : List Int} {v y : V} (w : Walk H js v y) (h : ∀ a o, H a = some o → NT o → H' a = some o) : Walk H' js v y := by
  induction w with
  | here => exact .here
  | step e i1 i2 _ ih => exact .step (h _ _ e fun _ z => nomatch z) i1 i2 ih
theorem Walk.snoc {H : Hp} {js : List Int} {v : V} {a : Addr} {xs : List V} {j : Int} {k : Nat} {x : V} {y : V} (w : Walk H js v y) (ey : y = .ref a) (h : H a = some (.lst xs)) (i1 : ixN xs.length j = some k) (i2 : xs[k]? = some x) : Walk H (js ++ [j]) v x := by
  induction w with
  | here => subst ey; exact .step h i1 i2 .here
  | step e k1 k2 _ ih => exact .step e k1 k2 (ih ey)
theorem getAt_snoc {js : List Int} {j : Int} : ∀ {d : D}, getAt (js ++ [j]) d = (getAt js d).bind (getAt [j]) := by
  induction js with
  | nil => intro d; rfl
  | cons i js ih =>
    intro d
    cases d with
    | list ds =>
      show ((ixN ds.length i).bind fun k => ds[k]?.bind (getAt (js ++ [j]))) = ((ixN ds.length i).bind fun k => ds[k]?.bind (getAt js)).bind (getAt [j])
      cases ixN ds.length i with
      | none => rfl
      | some k =>
        rw [Option.bind_some, Option.bind_some]
        cases ds[k]? with
        | none => rfl
        | some d => rw [Option.bind_some, Option.bind_some]; exact ih
    | _ => rfl
theorem walk_rp {K : PySem.W.Frag} {J : Addr → Prop} {H : Hp} {js : List Int} {v y : V} (w : Walk H js v y) : ∀ {d d' : D}, Rp K J H v d → getAt js d = some d' → Rp K J H y d' := by
  induction w with
  | here => intro d d' r e; cases Option.some.inj e; exact r
  | @step a xs j k x l js e i1 i2 _ ih =>
    intro d d' r g
    cases d with
    | list ds =>
      cases r with
      | lst i0 h z rr =>
        rw [h] at e
        cases e
        have g : ((ixN ds.length j).bind fun k => ds[k]?.bind (getAt js)) = some d' := g
        rw [rr.len] at i1
        rw [i1, Option.bind_some] at g
        cases ek : ds[k]? with
        | none => rw [ek] at g; cases g
        | some dk =>
          rw [ek, Option.bind_some] at g
          obtain ⟨x', q1, q2⟩ := rr.get ek
          rw [i2] at q1
          cases q1
          exact ih q2 g
    | _ => cases g
section
variable [Wd] {X : Cx} {E : XK} {C : Cf} {Γ Γ1 Γ2 Γn : List SK} {pos : Pos}
/-- the tree of one slot is written -/
theorem ER.slotUpd {K : PySem.W.Frag} {I0 I1 I2 : Addr → Prop} {H0 H1 H2 : Hp} {S0 S : Nat → List Addr} {ρ : Env} {σ : L2.St} {i n : Nat} {v : V} {d : D} {T : List Addr} (ev0 : Evo I0 H0 (SU S0) I1 H1 (SU S)) (R1 : ER K I1 Γ ρ σ H1 S) (hi : Γ[i]? = some (.da n)) (hv : σ[i]? = some (some v))
    (hsub : ∀ a, I1 a → I2 a) (hnew : ∀ a, I2 a → I1 a ∨ (H1 a = none ∧ H2 a ≠ none)) (hkeep : ∀ b o, H1 b = some o → b ∉ S i → NT o → H2 b = some o) (hthere : ∀ a, H1 a ≠ none → H2 a ≠ none) (htab : LamX.Tabs Wd.T H1 → LamX.Tabs Wd.T H2)
    (hT : ∀ a ∈ T, (a ∈ S i ∨ ¬ SU S a) ∧ (SU S0 a ∨ H0 a = none)) (ow' : Ow K I2 H2 n T v d) (hT' : ∀ a ∈ T, ¬ I2 a) (hTn' : T.Nodup) :
    ER K I2 Γ (ρ.set i (.d d)) σ H2 (fun j => if j = i then T else S j) ∧ Evo I0 H0 (SU S0) I2 H2 (SU fun j => if j = i then T else S j) := by
  have hil : i < ρ.length := by
    rw [R1.lr]
    exact (List.getElem?_eq_some_iff.mp hi).1
  have sNod : ∀ a ∈ S i, Nod H1 a := fun a m => R1.tracked ⟨i, m⟩
  have hS : ∀ a j, j ≠ i → a ∈ S j → a ∉ S i := fun a j hj m1 m2 => R1.dis j i a hj m1 m2
  have old : ∀ a, a ∈ T → ∀ j, j ≠ i → a ∉ S j := fun a m j hj mj => by
    rcases (hT a m).1 with z | z
    · exact hS a j hj mj z
    · exact z ⟨j, mj⟩
  have keepI : Later I1 H1 I2 H2 := ⟨hsub, fun a o ia q n => hkeep a o q (fun z => R1.nI i a z ia) n, fun a o q fx => hkeep a o q (fun z => fx.nod q (sNod a z)) fx.nt⟩
  have tr2 : ∀ a, I2 a → H2 a ≠ none := fun a z => (hnew a z).elim (fun z => hthere a (R1.tr a z)) And.right
  constructor
  · refine ⟨fun j kj q => ?_, fun j a m => ?_, fun j l a hjl m1 m2 => ?_, fun j => ?_, fun j a m => ?_, tr2, by rw [List.length_set]; exact R1.lr, R1.ls, htab R1.tb⟩
    · by_cases hj : j = i
      · subst hj
        rw [hi] at q
        cases q
        show SlotR K I2 H2 _ (if j = j then T else S j) _ _
        rw [if_pos rfl, List.getElem?_set_self hil]
        exact ⟨v, d, hv, rfl, ow'⟩
      · show SlotR K I2 H2 kj (if j = i then T else S j) _ _
        rw [if_neg hj, List.getElem?_set_ne (Ne.symm hj)]
        exact (R1.slot j kj q).mono keepI fun a m o q n => hkeep a o q (fun z => hS a j hj m z) n
    · have m : a ∈ (if j = i then T else S j) := m
      by_cases hj : j = i
      · subst hj; exact ⟨n, hi⟩
      · rw [if_neg hj] at m; exact R1.sd j a m
    · have m1 : a ∈ (if j = i then T else S j) := m1
      have m2 : a ∈ (if l = i then T else S l) := m2
      by_cases hj : j = i
      · rw [if_pos hj] at m1
        have hl : l ≠ i := fun z => hjl (hj.trans z.symm)
        rw [if_neg hl] at m2
        exact old a m1 l hl m2
      · rw [if_neg hj] at m1
        by_cases hl : l = i
        · rw [if_pos hl] at m2
          exact old a m2 j hj m1
        · rw [if_neg hl] at m2
          exact R1.dis j l a hjl m1 m2
    · show (if j = i then T else S j).Nodup
      by_cases hj : j = i
      · rw [if_pos hj]; exact hTn'
      · rw [if_neg hj]; exact R1.nod j
    · have m : a ∈ (if j = i then T else S j) := m
      by_cases hj : j = i
      · rw [if_pos hj] at m; exact hT' a m
      · rw [if_neg hj] at m
        intro z
        rcases hnew a z with z | ⟨z, _⟩
        · exact R1.nI j a m z
        · exact (R1.trk a ⟨j, m⟩) z
  · refine ⟨fun a z => hsub a (ev0.sub a z), fun a z => ?_, fun b o q nz n => ?_, fun a z => ?_, fun a z => hthere a (ev0.there a z), fun t => htab (ev0.tab t)⟩
    · rcases hnew a z with z | ⟨z, z'⟩
      · exact (ev0.new a z).imp id fun q => ⟨q.1, hthere a q.2⟩
      · exact .inr ⟨ev0.old (.inr z), z'⟩
    · refine hkeep b o (ev0.keep b o q nz n) (fun m => ?_) n
      rcases (ev0.own b ⟨i, m⟩).1 with z | z
      · exact nz z
      · rw [q] at z; cases z
    · obtain ⟨j, m⟩ := z
      have m : a ∈ (if j = i then T else S j) := m
      by_cases hj : j = i
      · rw [if_pos hj] at m
        exact ⟨(hT a m).2, (Ow.nod ow' a m).ne⟩
      · rw [if_neg hj] at m
        exact ⟨(ev0.own a ⟨j, m⟩).1, hthere a (R1.trk a ⟨j, m⟩)⟩
structure DPa [Wd] (X : Cx) (E : XK) (Γ : List SK) (e : Expr) (i p : Nat) (f : Env → Res (List Int)) : Prop where
  ex : ∃ t : TE, PE X e t ∧ ∀ I S ρ σ H Q, ER X.K I Γ ρ σ H S → PX X.K X.mg E I H (SU S) (fun js => ∀ y I' H', Gr I H I' H' → (∃ v, σ[i]? = some (some v) ∧ Walk H' js v y) → Q y H') (f ρ) → t σ H Q
  len : ∀ ρ js, f ρ = .ok js → js.length = p
  nx : ∀ ρ js, f ρ = .ok js → ∃ d d', dVar i ρ = .ok d ∧ getAt js d = some d'
def aNil (i : Nat) : Env → Res (List Int) := fun ρ => dVar i ρ >>= fun _ => .ok []
theorem dpa_var {i n : Nat} {x : Str} (hN : X.N[i]? = some x) (hv : Vis X.env.scope x) (hk : Γ[i]? = some (.da n)) (hd : (x == ("__debug__" : Str)) = false := by decide) (hcd : (x == ("__classdict__" : Str)) = false := by decide) :
    DPa X E Γ (.Name x pos) i 0 (aNil i) := by
  refine ⟨⟨tVar i, pe_var hN hv hd hcd, fun I S ρ σ H Q R h => ?_⟩, fun ρ js e => ?_, fun ρ js e => ?_⟩
  · obtain ⟨v, d, e1, e2, o⟩ := R.slot i _ hk
    unfold aNil dVar at h
    rw [e2] at h
    have h : ∀ y I' H', Gr I H I' H' → (∃ v, σ[i]? = some (some v) ∧ Walk H' [] v y) → Q y H' := h
    exact ⟨v, e1, h v I H .refl ⟨v, e1, .here⟩⟩
  · unfold aNil at e
    cases h : dVar i ρ with
    | ok d => rw [h] at e; cases e; rfl
    | exc c d => rw [h] at e; cases e
    | bad => rw [h] at e; cases e
  · unfold aNil at e
    cases h : dVar i ρ with
    | ok d => rw [h] at e; cases e; exact ⟨d, d, rfl, rfl⟩
    | exc c d => rw [h] at e; cases e
    | bad => rw [h] at e; cases e
def aSub (i : Nat) (fo : Env → Res (List Int)) (fj : Env → Res D) : Env → Res (List Int) := fun ρ => fo ρ >>= fun js => fj ρ >>= fun j => match j with
  | .int j => dVar i ρ >>= fun d => match getAt (js ++ [j]) d with
    | some _ => .ok (js ++ [j])
    | none => .bad
  | _ => .bad
theorem aSub_inv {i : Nat} {fo : Env → Res (List Int)} {fj : Env → Res D} {ρ : Env} {js' : List Int} (e : aSub i fo fj ρ = .ok js') : ∃ js j d d', fo ρ = .ok js ∧ fj ρ = .ok (.int j) ∧ dVar i ρ = .ok d ∧ getAt (js ++ [j]) d = some d' ∧ js' = js ++ [j] := by
  unfold aSub at e
  cases h1 : fo ρ with
  | exc c d => rw [h1] at e; cases e
  | bad => rw [h1] at e; cases e
  | ok js =>
    rw [h1, Res.ok_bnd] at e
    cases h2 : fj ρ with
    | exc c d => rw [h2] at e; cases e
    | bad => rw [h2] at e; cases e
    | ok j =>
      rw [h2, Res.ok_bnd] at e
      cases j with
      | int j =>
        dsimp only at e
        cases h3 : dVar i ρ with
        | exc c d => rw [h3] at e; cases e
        | bad => rw [h3] at e; cases e
        | ok d =>
          rw [h3, Res.ok_bnd] at e
          cases h4 : getAt (js ++ [j]) d with
          | none => rw [h4] at e; cases e
          | some d' =>
            rw [h4] at e
            cases e
            exact ⟨js, j, d, d', rfl, rfl, rfl, h4, rfl⟩
      | _ => cases e
/-- where a walk goes on -/
theorem walk_on {K : PySem.W.Frag} {I : Addr → Prop} {H : Hp} {n : Nat} {S : List Addr} {v y : V} {d d' : D} {js : List Int} {j : Int} (o : Ow K I H n S v d) (w : Walk H js v y) (g : getAt (js ++ [j]) d = some d') :
    ∃ (a : Addr) (xs : List V) (k : Nat) (x : V), y = .ref a ∧ H a = some (.lst xs) ∧ ixN xs.length j = some k ∧ xs[k]? = some x := by
  rw [getAt_snoc] at g
  cases e : getAt js d with
  | none => rw [e] at g; cases g
  | some d1 =>
    rw [e, Option.bind_some] at g
    have r := walk_rp w o.rt e
    cases d1 with
    | list ds =>
      cases r with
      | lst i0 h z rr =>
        have g : ((ixN ds.length j).bind fun k => ds[k]?.bind (getAt [])) = some d' := g
        cases e2 : ixN ds.length j with
        | none => rw [e2] at g; cases g
        | some k =>
          rw [e2, Option.bind_some] at g
          cases e3 : ds[k]? with
          | none => rw [e3] at g; cases g
          | some dk =>
            obtain ⟨x, q1, q2⟩ := rr.get e3
            exact ⟨_, _, k, x, rfl, h, by rw [rr.len]; exact e2, q1⟩
    | _ => cases g
theorem dpa_sub {i n p : Nat} {o j : Expr} {kj : Option Nat} {fo : Env → Res (List Int)} {fj : Env → Res D} (hk : Γ[i]? = some (.da n)) (ho : DPa X E Γ o i p fo) (hj : DP X E Γ j kj fj) (hm : PlainIx j := by intro _ _; rfl) : DPa X E Γ (.Subscript o j pos) i (p + 1) (aSub i fo fj) := by
  obtain ⟨ta, pa, qa⟩ := ho.ex
  obtain ⟨tb, pb, qb⟩ := hj.ex
  refine ⟨⟨_, pe_ix ix_list pa pb hm, fun I S ρ σ H Q R h => ?_⟩, fun ρ js e => ?_, fun ρ js e => ?_⟩
  · refine qa I S ρ σ H _ R (PX.imp (PX.bnd h) fun js _ ⟨e1, h1⟩ => ?_)
    intro y I1 H1 g1 ⟨v, ev, w1⟩
    have R1 := R.grow g1
    refine seq1 qb R1 (PX.later (P' := fun js => ∀ y I' H', Gr I H I' H' → (∃ v, σ[i]? = some (some v) ∧ Walk H' js v y) → Q y H') h1 (g1.evo R.trk) fun _ _ z => z) fun dj x I2 H2 T2 e2 h2 g2 w2 n2 R2 => ?_
    cases dj with
    | int jj =>
      dsimp only at h2
      obtain ⟨v', d, e3, e4, ow⟩ := R2.slot i _ hk
      rw [ev] at e3
      cases e3
      have ev0 : dVar i ρ = .ok d := by unfold dVar; rw [e4]
      rw [ev0, Res.ok_bnd] at h2
      cases e5 : getAt (js ++ [jj]) d with
      | none => rw [e5] at h2; exact h2.elim
      | some d' =>
        rw [e5] at h2
        have w12 := w1.mono g2.kp
        obtain ⟨a, xs, k, z, ey, ha, hi, hx⟩ := walk_on ow w12 e5
        subst ey
        refine ⟨a, xs, jj, z, rfl, w2.rt.int, .inl (.inl ha), ?_, h2 z I2 H2 (g1.trans g2) ⟨v, ev, w12.snoc rfl ha hi hx⟩⟩
        show (ixN xs.length jj).bind (fun j => xs[j]?) = some z
        rw [hi, Option.bind_some, hx]
    | _ => exact h2.elim
  · obtain ⟨js0, jj, d, d', q1, q2, q3, q4, rfl⟩ := aSub_inv e
    rw [List.length_append, ho.len ρ js0 q1]
    rfl
  · obtain ⟨js0, jj, d, d', q1, q2, q3, q4, rfl⟩ := aSub_inv e
    exact ⟨d, d', q3, q4⟩
def sApp (i : Nat) (fp : Env → Res (List Int)) (fe : Env → Res D) : Env → Res Out := fun ρ => fp ρ >>= fun js => dVar i ρ >>= fun d0 => match getAt js d0 with
  | some (.list ds) => fe ρ >>= fun y => if ds.length < 16777216 then .ok (.nx (ρ.set i (.d (setAt js (.list (ds ++ [y])) d0)))) else .bad
  | _ => .bad
/-- a node of slot i is written, its items told anew -/
theorem write_at {K : PySem.W.Frag} {I0 I1 I2 : Addr → Prop} {H0 H1 H2 : Hp} {S0 S : Nat → List Addr} {ρ : Env} {σ : L2.St} {i m : Nat} {v y : V} {d0 : D} {js : List Int} {ds : List D} (ev0 : Evo I0 H0 (SU S0) I1 H1 (SU S)) (R1 : ER K I1 Γ ρ σ H1 S) (g : Gr I1 H1 I2 H2) (hk : Γ[i]? = some (.da (js.length + (m + 1)))) (ev : σ[i]? = some (some v)) (ed : dVar i ρ = .ok d0)
    (w : Walk H2 js v y) (e : getAt js d0 = some (.list ds)) :
    ∃ (l : Addr) (xs : List V) (Sl : List Addr), y = .ref l ∧ H2 l = some (.lst xs) ∧ xs.length ≤ sizeLine ∧ OwA K I2 H2 m Sl xs ds ∧ (∀ a ∈ Sl, a ∈ S i) ∧ l ∈ S i ∧ l ∉ Sl ∧ Sl.Nodup ∧
      ∀ (ys : List V) (es : List D) (T : List Addr), ys.length ≤ sizeLine → OwA K I2 H2 m T ys es → T.Nodup → (∀ a ∈ T, a ∈ Sl ∨ (¬ SU S a ∧ (SU S0 a ∨ H0 a = none))) → (∀ a ∈ T, ¬ I2 a) →
        ∃ S' : Nat → List Addr, ER K I2 Γ (ρ.set i (.d (setAt js (.list es) d0))) σ (upd H2 l (.lst ys)) S' ∧ Evo I0 H0 (SU S0) I2 (upd H2 l (.lst ys)) (SU S') := by
  have R2 := R1.grow g
  obtain ⟨v', d, e3, e4, ow⟩ := R2.slot i _ hk
  rw [ev] at e3
  cases e3
  have : d = d0 := by
    unfold dVar at ed
    rw [e4] at ed
    exact Res.ok.inj ed
  subst this
  obtain ⟨l, xs, Sl, ey, hl, hz, ol, ml, ms, nl, nnl, put⟩ := focus ow e w (R1.nod i)
  refine ⟨l, xs, Sl, ey, hl, hz, ol, ms, ml, nl, nnl, fun ys es T hz' o' nT hT hTI => ?_⟩
  have nlI : ¬ I2 l := R2.nI i l ml
  have neI : ∀ a, I2 a → a ≠ l := fun a ia z => nlI (by rw [← z]; exact ia)
  have lT : ∀ a ∈ T, a ≠ l := fun a m z => by
    subst z
    rcases hT a m with q | q
    · exact nl q
    · exact q.1 ⟨i, ml⟩
  have o3 : OwA K I2 (upd H2 l (.lst ys)) m T ys es := o'.mono (fun _ z => z) (fun a o ia q _ => by rw [upd_ne (neI a ia)]; exact q) fun a m o q _ => by rw [upd_ne (lT a m)]; exact q
  obtain ⟨S', o4, sub4, nd4⟩ := put I2 (upd H2 l (.lst ys)) ys es T (fun _ z => z) (fun a o ia q _ => by rw [upd_ne (neI a ia)]; exact q) (fun a m na _ o q _ => by rw [upd_ne na]; exact q) upd_same hz' o3
  have nI' : ∀ a ∈ S', ¬ I2 a := fun a m => (sub4 a m).elim (fun z => R2.nI i a z.1) fun z => hTI a z
  have nd : S'.Nodup := nd4 nT fun a m mS => (hT a m).elim id fun z => absurd ⟨i, mS⟩ z.1
  have hthere : ∀ a, H1 a ≠ none → upd H2 l (.lst ys) a ≠ none := fun a z => by
    by_cases ha : a = l
    · rw [ha, upd_same]; exact fun z => nomatch z
    · rw [upd_ne ha]; exact g.there z
  have := R1.slotUpd ev0 hk ev g.sub (fun a z => (g.new a z).imp id fun q => ⟨q.1, by
    by_cases ha : a = l
    · rw [ha, upd_same]; exact fun z => nomatch z
    · rw [upd_ne ha]; exact q.2⟩) (fun b o q nb n => by
      have hb : b ≠ l := fun z => nb (z ▸ ml)
      rw [upd_ne hb]
      exact g.kp b o q n) hthere (fun t => (g.tab t).nod (.inl ⟨_, hl⟩)) (fun a m => ?_) o4 nI' nd
  · exact ⟨_, this.1, this.2⟩
  · rcases sub4 a m with z | z
    · exact ⟨.inl z.1, (ev0.own a ⟨i, z.1⟩).1⟩
    · rcases hT a z with q | q
      · exact ⟨.inl (ms a q), (ev0.own a ⟨i, ms a q⟩).1⟩
      · exact ⟨.inr q.1, q.2⟩
theorem ds_app {i p m : Nat} {P e : Expr} {ap cp : Pos} {fp : Env → Res (List Int)} {fe : Env → Res D} (hk : Γ[i]? = some (.da (p + (m + 1)))) (hp : DPa X E Γ P i p fp) (he : DP X E Γ e (some m) fe)
    (hs : swapsWith (.Call (.Attribute P "append" ap) [e] [] cp) none pos.line X.env = pure false := by rfl) (hbase : attributeBase P "append" X.env (eval P X.env) = eval P X.env := by rfl)
    (hfew : ((backTo cp (starEach [e] X.env)).all (fun x => !x.1) && (backToKw cp (keywordEach [] X.env)).all (fun x => x.1.isSome)
      && decide ([e].length + ([] : List Keyword).length + (if ([] : List Keyword).isEmpty then 0 else 1) < 30)) = true := by rfl)
    (hline : (ap.endLine == cp.line) = true := by rfl) (hst : starEach [e] X.env = (false, eval e X.env) :: starEach [] X.env := by rfl) : DS1 X E C Γ (.Expr (.Call (.Attribute P "append" ap) [e] [] cp) pos) Γ (sApp i fp fe) := by
  obtain ⟨ta, pa, qa⟩ := hp.ex
  obtain ⟨tb, pb, qb⟩ := he.ex
  refine ⟨_, ps_expr (pe_bm PySem.F.plainAttrs_list PySem.F.slot_list_append PySem.F.type_list_append mt_append pa (pa_cons pb pa_nil hst) hbase hfew hline hst) hs, fun I S ρ σ H Dd R h => ?_⟩
  refine qa I S ρ σ H _ R (PX.imp (PX.bnd h) fun js _ ⟨e1, h1⟩ => ?_)
  intro y I1 H1 g1 ⟨v, ev, w1⟩
  have R1 := R.grow g1
  have hlen := hp.len ρ js e1
  obtain ⟨d, d', ed, eg⟩ := hp.nx ρ js e1
  subst hlen
  obtain ⟨v', d1, e3, e4, ow⟩ := R1.slot i _ hk
  rw [ev] at e3
  cases e3
  have hdd : d1 = d := by
    unfold dVar at ed
    rw [e4] at ed
    exact Res.ok.inj ed
  subst hdd
  have r := walk_rp w1 ow.rt eg
  rw [ed, Res.ok_bnd, eg] at h1
  cases d' with
  | list ds =>
    dsimp only at h1
    have h1' := PX.later h1 (g1.evo R.trk) fun o _ z => z
    refine ⟨?_, ?_⟩
    · cases r with
      | lst i0 hh z rr => exact .inl ⟨rfl, _, .inl (.inl hh)⟩
    · refine seq1 qb R1 h1' fun dy x I2 H2 T2 e2 h2 g2 w2 n2 R2 => ?_
      split at h2
      · rename_i hlt
        obtain ⟨l, xs, Sl, ey, hl, hz, ol, ms, ml, nl, nnl, put⟩ := write_at (g1.evo R.trk) R1 g2 hk ev ed (w1.mono g2.kp) eg
        have hxl : xs.length < sizeLine := by rw [ol.len, sizeLine_eq]; exact hlt
        have w2 : Ow X.K I2 H2 m T2 x dy := w2
        have oo : OwA X.K I2 H2 m (Sl ++ (T2 ++ [])) (xs ++ [x]) (ds ++ [dy]) := ol.append (.cons w2 .nil)
        rw [List.append_nil] at oo
        obtain ⟨S', R3, ev3⟩ := put (xs ++ [x]) (ds ++ [dy]) (Sl ++ T2) (by rw [List.length_append]; exact hxl) oo (List.nodup_append.mpr ⟨nnl, n2.nod, fun a m b m' e => R1.trk a ⟨i, ms a m⟩ (n2.free a (by rw [e]; exact m'))⟩)
          (fun a m => (List.mem_append.mp m).elim .inl fun z => .inr ⟨fun q => (R1.trk a q) (n2.free a z), .inr (g1.free (n2.free a z))⟩) (fun a m => (List.mem_append.mp m).elim (fun z => R2.nI i a (ms a z)) (n2.nI a))
        exact ⟨l, xs, x, ey, rfl, hl, hxl, h2 I2 _ S' σ ev3 R3 .refl⟩
      · exact h2.elim
  | _ => exact h1.elim
def putD (js : List Int) (j y d0 : D) : Res D := match j with
  | .int jj => match getAt js d0 with
    | some (.list ds) => match ixN ds.length jj with
      | some k => .ok (setAt js (.list (ds.set k y)) d0)
      | none => .bad
    | _ => .bad
  | _ => .bad
theorem putD_inv {js : List Int} {j y d0 z : D} (h : putD js j y d0 = .ok z) : ∃ jj ds k, j = .int jj ∧ getAt js d0 = some (.list ds) ∧ ixN ds.length jj = some k ∧ z = setAt js (.list (ds.set k y)) d0 := by
  unfold putD at h
  split at h
  · split at h
    · rename_i e
      split at h
      · rename_i e2
        cases h
        exact ⟨_, _, _, rfl, e, e2, rfl⟩
      · cases h
    · cases h
  · cases h
theorem putD_nx {js : List Int} {j y d0 : D} {c : Str} {v : D} : putD js j y d0 ≠ .exc c v := by
  unfold putD
  split
  · split
    · split <;> exact fun z => nomatch z
    · exact fun z => nomatch z
  · exact fun z => nomatch z
theorem setQ {K : PySem.W.Frag} {I0 I1 I2 : Addr → Prop} {H0 H1 H2 : Hp} {S0 S : Nat → List Addr} {ρ : Env} {σ : L2.St} {i m k : Nat} {v y x : V} {d0 dy : D} {js : List Int} {ds : List D} {T : List Addr} {jj : Int} {Q : Hp → Prop} (ev0 : Evo I0 H0 (SU S0) I1 H1 (SU S)) (R1 : ER K I1 Γ ρ σ H1 S) (g : Gr I1 H1 I2 H2)
    (hk : Γ[i]? = some (.da (js.length + (m + 1)))) (ev : σ[i]? = some (some v)) (ed : dVar i ρ = .ok d0) (w : Walk H2 js v y) (e : getAt js d0 = some (.list ds)) (ek : ixN ds.length jj = some k) (ox : Ow K I2 H2 m T x dy) (hT : ∀ a ∈ T, (SU S0 a ∨ H0 a = none) ∧ ¬ I2 a ∧ ¬ SU S a) (nT : T.Nodup)
    (hq : ∀ H3 S', ER K I2 Γ (ρ.set i (.d (setAt js (.list (ds.set k dy)) d0))) σ H3 S' → Evo I0 H0 (SU S0) I2 H3 (SU S') → Q H3) : rSetL y (.int jj) x H2 Q := by
  obtain ⟨l, xs, Sl, ey, hl, hz, ol, ms, ml, nl, nnl, put⟩ := write_at ev0 R1 g hk ev ed w e
  have hkl : k < ds.length := (ixN_seq ek).2.1
  obtain ⟨S1, Sk, S2, x0, e1, e2, o1, q⟩ := OwA.split ol (List.getElem?_eq_getElem hkl)
  have oo := q I2 H2 T x dy (fun _ z => z) (fun _ _ _ q _ => q) (fun _ _ _ q _ => q) ox
  rw [e2] at nnl ms
  obtain ⟨n1, n2, n3⟩ := List.nodup_append.mp nnl
  obtain ⟨n4, n5, n6⟩ := List.nodup_append.mp n2
  have m1 : ∀ a ∈ S1, a ∈ S i := fun a m => ms a (by simp [m])
  have m2 : ∀ a ∈ S2, a ∈ S i := fun a m => ms a (by simp [m])
  have R2 := R1.grow g
  obtain ⟨S', R3, ev3⟩ := put (xs.set k x) (ds.set k dy) (S1 ++ (T ++ S2)) (by rw [List.length_set]; exact hz) oo
    (List.nodup_append.mpr ⟨n1, List.nodup_append.mpr ⟨nT, n5, fun a m b m' e => (hT a m).2.2 ⟨i, by rw [e]; exact m2 b m'⟩⟩, fun a m b m' e => by
      rcases List.mem_append.mp m' with m' | m'
      · exact (hT b m').2.2 ⟨i, by rw [← e]; exact m1 a m⟩
      · exact n3 a m b (List.mem_append_right _ m') e⟩)
    (fun a m => by
      rw [e2]
      rcases List.mem_append.mp m with m | m
      · exact .inl (List.mem_append_left _ m)
      · rcases List.mem_append.mp m with m | m
        · exact .inr ⟨(hT a m).2.2, (hT a m).1⟩
        · exact .inl (List.mem_append_right _ (List.mem_append_right _ m)))
    (fun a m => by
      rcases List.mem_append.mp m with m | m
      · exact R2.nI i a (m1 a m)
      · rcases List.mem_append.mp m with m | m
        · exact (hT a m).2.1
        · exact R2.nI i a (m2 a m))
  exact ⟨l, xs, jj, k, ey, rfl, hl, by rw [ol.len]; exact ek, hq _ S' R3 ev3⟩
def sPut (i : Nat) (fp : Env → Res (List Int)) (fj : Env → Res D) (fe : Env → Res (D × Env)) : Env → Res Out := fun ρ => fe ρ >>= fun p => fp p.2 >>= fun js => fj p.2 >>= fun j => dVar i p.2 >>= fun d0 => putD js j p.1 d0 >>= fun d1 => .ok (.nx (p.2.set i (.d d1)))
theorem ds_put {i p m : Nat} {P j e : Expr} {tp : Pos} {kj : Option Nat} {fp : Env → Res (List Int)} {fj : Env → Res D} {fe : Env → Res (D × Env)} (hk : Γ[i]? = some (.da (p + (m + 1)))) (hp : DPa X E Γ P i p fp) (hj : DP X E Γ j kj fj) (he : DX X E Γ e (some m) fe)
    (hs : swapsWithSole [.Subscript P j tp] e pos.line X.env = pure false := by rfl) (hw : swappedStores [.Subscript P j tp] e X.env = pure none := by rfl) (h1 : (assignEach [.Subscript P j tp] X.env).map (·.2) = [assign (.Subscript P j tp) X.env] := by rfl)
    (ha : ∀ v, assign (.Subscript P j tp) X.env v = (do
      let ov ← holding [v] (eval P X.env)
      let iv ← holding [v, ov] (eval j X.env)
      standAt tp
      holding [v, ov, iv] (setItem ov iv v)
      release [v, ov, iv] []) := by intro _; rfl) : DS1 X E C Γ (.Assign [.Subscript P j tp] e pos) Γ (sPut i fp fj fe) := by
  obtain ⟨te, pe, qe⟩ := he.ex
  obtain ⟨ta, pa, qa⟩ := hp.ex
  obtain ⟨tb, pb, qb⟩ := hj.ex
  refine ⟨_, ps_asg pe (pg_sub pa pb set_list ha) hs hw h1, fun I S ρ σ H Dd R h => ?_⟩
  refine seqX (e := e) qe R h fun dy ρ1 x I1 H1 S1 T e0 h1 ev0 R1 vr hT hn => ?_
  have ox : Ow X.K I1 H1 m T x dy := vr
  have h1' := PX.later h1 ev0 fun o _ z => z
  refine qa I1 S1 ρ1 σ H1 _ R1 (PX.imp (PX.bnd h1') fun js _ ⟨e1, h2⟩ => ?_)
  intro y I2 H2 g2 ⟨v, ev, w2⟩
  have R2 := R1.grow g2
  have hlen := hp.len ρ1 js e1
  obtain ⟨d, d', ed, eg⟩ := hp.nx ρ1 js e1
  subst hlen
  refine seq1 qb R2 (PX.later h2 (g2.evo R1.trk) fun o _ z => z) fun dj xj I3 H3 T3 e3 h3 g3 w3 n3 R3 => ?_
  rw [ed, Res.ok_bnd] at h3
  cases e4 : putD js dj dy d with
  | bad => rw [e4] at h3; exact h3.elim
  | exc c v => exact absurd e4 putD_nx
  | ok d1 =>
    rw [e4] at h3
    obtain ⟨jj, ds, k, rfl, eg', ek, rfl⟩ := putD_inv e4
    have g23 := g2.trans g3
    have ox3 : Ow X.K I3 H3 m T x dy := ox.mono g23.sub (fun a o _ q n => g23.kp a o q n) fun a _ o q n => g23.kp a o q n
    have hxj := w3.rt.int
    subst hxj
    exact setQ ev0 R1 g23 hk ev ed (w2.mono g3.kp) eg' ek ox3 (fun a m => ⟨(hT a m).1, fun z => (g23.new a z).elim (hT a m).2.1 fun q => (Ow.nod ox a m).ne q.1, (hT a m).2.2⟩) hn fun H4 S' R4 ev4 => h3 I3 H4 S' σ ev4 R4 .refl
/-- x[i] = e, i may change owned slots -/
def sPutI (i : Nat) (fj fe : Env → Res (D × Env)) : Env → Res Out := fun ρ => fe ρ >>= fun p => fj p.2 >>= fun q => dVar i q.2 >>= fun d0 => putD [] q.1 p.1 d0 >>= fun d1 => .ok (.nx (q.2.set i (.d d1)))
theorem ds_putI {i m : Nat} {x : Str} {j e : Expr} {tp px : Pos} {kj : Option Nat} {fj fe : Env → Res (D × Env)} (hN : X.N[i]? = some x) (hv : Vis X.env.scope x) (hk : Γ[i]? = some (.da (m + 1))) (hj : DX X E Γ j kj fj) (he : DX X E Γ e (some m) fe)
    (hs : swapsWithSole [.Subscript (.Name x px) j tp] e pos.line X.env = pure false := by rfl) (hw : swappedStores [.Subscript (.Name x px) j tp] e X.env = pure none := by rfl) (h1 : (assignEach [.Subscript (.Name x px) j tp] X.env).map (·.2) = [assign (.Subscript (.Name x px) j tp) X.env] := by rfl)
    (ha : ∀ v, assign (.Subscript (.Name x px) j tp) X.env v = (do
      let ov ← holding [v] (eval (.Name x px) X.env)
      let iv ← holding [v, ov] (eval j X.env)
      standAt tp
      holding [v, ov, iv] (setItem ov iv v)
      release [v, ov, iv] []) := by intro _; rfl) (hd : (x == ("__debug__" : Str)) = false := by decide) (hcd : (x == ("__classdict__" : Str)) = false := by decide) : DS1 X E C Γ (.Assign [.Subscript (.Name x px) j tp] e pos) Γ (sPutI i fj fe) := by
  obtain ⟨te, pe, qe⟩ := he.ex
  obtain ⟨tb, pb, qb⟩ := hj.ex
  refine ⟨_, ps_asg pe (pg_sub (pe_var hN hv hd hcd) pb set_list ha) hs hw h1, fun I S ρ σ H Dd R h => ?_⟩
  refine seqX (e := e) qe R h fun dy ρ1 x I1 H1 S1 T e0 h1 ev0 R1 vr hT hn => ?_
  have ox : Ow X.K I1 H1 m T x dy := vr
  obtain ⟨v, d, ev, e4, ow⟩ := R1.slot i _ hk
  refine ⟨v, ev, ?_⟩
  have h1' := PX.later h1 ev0 fun o _ z => z
  refine seqX (e := j) qb R1 h1' fun dj ρ2 xj I2 H2 S2 T2 e2 h2 ev1 R2 vr2 hT2 hn2 => ?_
  obtain ⟨v', d0, ev', e5, ow2⟩ := R2.slot i _ hk
  rw [ev] at ev'
  cases ev'
  have ed : dVar i ρ2 = .ok d0 := by unfold dVar; rw [e5]
  rw [ed, Res.ok_bnd] at h2
  cases e6 : putD [] dj dy d0 with
  | bad => rw [e6] at h2; exact h2.elim
  | exc c v => exact absurd e6 putD_nx
  | ok d1 =>
    rw [e6] at h2
    obtain ⟨jj, ds, k, rfl, eg', ek, rfl⟩ := putD_inv e6
    have ev02 := ev0.trans ev1
    have nS1 : ∀ a ∈ T, ¬ SU S1 a := fun a m => (hT a m).2.2
    have trT : ∀ a ∈ T, H1 a ≠ none := fun a m => (Ow.nod ox a m).ne
    have ox2 : Ow X.K I2 H2 m T x dy := ox.mono ev1.sub (fun a o ia q n => ev1.keep a o q (fun ⟨j, mj⟩ => R1.nI j a mj ia) n) fun a m o q n => ev1.keep a o q (nS1 a m) n
    have hxj := vr2.rt.int
    subst hxj
    refine setQ (js := []) ev02 R2 .refl (by rw [hk]; simp) ev ed .here eg' ek ox2 (fun a m => ⟨(hT a m).1, fun z => ?_, fun z => ?_⟩) hn fun H4 S' R4 ev4 => h2 I2 H4 S' σ ev4 R4 .refl
    · rcases ev1.new a z with z | ⟨z, _⟩
      · exact (hT a m).2.1 z
      · exact z.elim (nS1 a m) (trT a m)
    · exact (ev1.own a z).1.elim (nS1 a m) (trT a m)
end
end DL

namespace DL
open PySem PySem.Spec PyProof.Rows L2

section
variable [Wd] {X : Cx} {E : XK} {Γ : List SK} {pos : Pos} {ka kb k : Option Nat} {n : Nat}
theorem ER.fz {K : PySem.W.Frag} {I : Addr → Prop} {ρ : Env} {σ : L2.St} {H : Hp} {S : Nat → List Addr} {T : List Addr} (R : ER K I Γ ρ σ H S) (hT : ∀ a ∈ T, H a ≠ none ∧ ¬ SU S a) : ER K (DL.fz I T) Γ ρ σ H S where
  slot := fun i k e => (R.slot i k e).mono ⟨fun _ z => .inl z, fun _ _ _ e _ => e, fun _ _ e _ => e⟩ fun _ _ _ e _ => e
  sd := R.sd
  dis := R.dis
  nod := R.nod
  nI := fun i a m z => z.elim (R.nI i a m) fun z => (hT a z).2 ⟨i, m⟩
  tr := fun a z => z.elim (R.tr a) fun z => (hT a z).1
  lr := R.lr
  ls := R.ls
  tb := R.tb
theorem Evo.fz {I I' S S' : Addr → Prop} {H H' : Hp} {T : List Addr} (e : Evo I H S I' H' S') (hT : ∀ a ∈ T, (S a ∨ H a = none) ∧ H' a ≠ none) : Evo I H S (DL.fz I' T) H' S' :=
  ⟨fun a z => .inl (e.sub a z), fun a z => z.elim (e.new a) fun z => .inr (hT a z), e.keep, e.own, e.there, e.tab⟩
/-- a value that is held while slots are changed -/
theorem Ow.held {K : PySem.W.Frag} {I1 I2 S2 : Addr → Prop} {H1 H2 : Hp} {S1 : Nat → List Addr} {ρ : Env} {σ : L2.St} {T : List Addr} {x : V} {d : D} (R1 : ER K I1 Γ ρ σ H1 S1) (ow : Ow K I1 H1 n T x d) (hT : ∀ a ∈ T, ¬ SU S1 a) (ev : Evo I1 H1 (SU S1) I2 H2 S2) : Ow K I2 H2 n T x d :=
  ow.mono ev.sub (fun a o ia q n => ev.keep a o q (fun ⟨j, mj⟩ => R1.nI j a mj ia) n) fun a m o q n => ev.keep a o q (hT a m) n
theorem Ow.heldI {K : PySem.W.Frag} {I1 I2 S2 : Addr → Prop} {H1 H2 : Hp} {S1 : Nat → List Addr} {T : List Addr} {x : V} {d : D} (ow : Ow K I1 H1 n T x d) (hT : ∀ a ∈ T, ¬ I1 a ∧ ¬ SU S1 a) (ev : Evo I1 H1 (SU S1) I2 H2 S2) : ∀ a ∈ T, ¬ I2 a ∧ ¬ S2 a := fun a m => by
  have tr := (Ow.nod ow a m).ne
  refine ⟨fun z => ?_, fun z => ?_⟩
  · rcases ev.new a z with z | ⟨z, _⟩
    · exact (hT a m).1 z
    · exact z.elim (hT a m).2 tr
  · exact (ev.own a z).1.elim (hT a m).2 tr
def d2X (sem : D → D → Res D) (f g : Env → Res (D × Env)) : Env → Res (D × Env) := fun ρ => f ρ >>= fun p => g p.2 >>= fun q => sem p.1 q.1 >>= fun d => .ok (d, q.2)
theorem twoX {ea eb : Expr} {f g : Env → Res (D × Env)} {na : Nat} {ta tb : TE} {sem : D → D → Res D} {fr : Bool} {I : Addr → Prop} {S : Nat → List Addr} {ρ : Env} {σ : L2.St} {H : Hp} {Q : VK}
    (qa : ∀ I S ρ σ H Q, ER X.K I Γ ρ σ H S → PX X.K X.mg E I H (SU S) (PC2 X.K Γ σ I H S (some na) Q) (f ρ) → ta σ H Q) (qb : ∀ I S ρ σ H Q, ER X.K I Γ ρ σ H S → PX X.K X.mg E I H (SU S) (PC2 X.K Γ σ I H S kb Q) (g ρ) → tb σ H Q)
    (hkb : fr = true → kb ≠ none) {r : R2} (v2 : V2 X r fr sem k) (R : ER X.K I Γ ρ σ H S) (h : PX X.K X.mg E I H (SU S) (PC2 X.K Γ σ I H S k Q) (d2X sem f g ρ)) : ta σ H fun x H1 => tb σ H1 fun y H2 => r x y H2 Q := by
  refine seqX (e := ea) qa R h fun d ρ1 x I1 H1 S1 T1 e1 h1 ev1 R1 w1 hT1 n1 => ?_
  have w1 : Ow X.K I1 H1 na T1 x d := w1
  refine seqX (e := eb) qb R1 (PX.later h1 ev1 fun _ _ z => z) fun e ρ2 y I2 H2 S2 T2 e2 h2 ev2 R2 w2 hT2 n2 => ?_
  cases e3 : sem d e with
  | bad => rw [e3] at h2; exact h2.elim
  | exc c d' => exact (v2.1 _ _ _ _ e3).elim
  | ok z =>
    rw [e3] at h2
    have hT1' := w1.heldI (fun a m => (hT1 a m).2) ev2
    have w1' := w1.held R1 (fun a m => (hT1 a m).2.2) ev2
    have ev12 := ev1.trans ev2
    have ev3 : Evo I H (SU S) (fz (fz I2 T1) T2) H2 (SU S2) := (ev12.fz fun a m => ⟨(hT1 a m).1, (Ow.nod w1' a m).ne⟩).fz fun a m => ⟨ev1.old (hT2 a m).1, (w2.nodes a m).ne⟩
    have R3 : ER X.K (fz (fz I2 T1) T2) Γ ρ2 σ H2 S2 := (R2.fz fun a m => ⟨(Ow.nod w1' a m).ne, (hT1' a m).2⟩).fz fun a m => ⟨(w2.nodes a m).ne, (hT2 a m).2.2⟩
    refine v2.2 (fz (fz I2 T1) T2) H2 x y d e z Q R3.tr ?_ ?_ e3 fun v I' H' T g vr nw => h2 v I' H' S2 T (ev3.trans (g.evo R3.trk)) (R3.grow g) vr (fun a m => ⟨?_, nw.nI a m, fun z => (R3.trk a z) (nw.free a m)⟩) nw.nod
    · exact ((Ow.rp (I' := fz (fz I2 T1) T2) (fun a z => .inl (.inl z)) w1' fun a m => .inl (.inr m))).rb
    · exact RB.later (w2.rb hkb) (fun a q => q.elim (fun q => .inl (.inl q)) fun m => .inr m) fun _ _ q _ => q
    · exact ev12.old (.inr (nw.free a m))
variable {a b : Expr} {f g : Env → Res (D × Env)}
theorem dx_op {na : Nat} {op : Operator} {r : R2} {fr : Bool} {sem : D → D → Res D} (ho : OpR X (binaryOp op) r) (v2 : V2 X r fr sem k) (ha : DX X E Γ a (some na) f) (hb : DX X E Γ b kb g) (hkb : fr = true → kb ≠ none := by decide) : DX X E Γ (.BinOp a op b pos) k (d2X sem f g) := by
  obtain ⟨ta, pa, qa⟩ := ha.ex
  obtain ⟨tb, pb, qb⟩ := hb.ex
  exact ⟨_, pe_op ho pa pb, fun I S ρ σ H Q R h => twoX (ea := a) (eb := b) qa qb hkb v2 R h⟩
theorem dx_cmp {na : Nat} {op : CmpOp} {r : R2} {fr : Bool} {sem : D → D → Res D} (ho : OpR X (compareOp op) r) (v2 : V2 X r fr sem k) (ha : DX X E Γ a (some na) f) (hb : DX X E Γ b kb g) (hm : behindInMarks op b = false) (hkb : fr = true → kb ≠ none := by decide) :
    DX X E Γ (.Compare a [op] [b] pos) k (d2X sem f g) := by
  obtain ⟨ta, pa, qa⟩ := ha.ex
  obtain ⟨tb, pb, qb⟩ := hb.ex
  exact ⟨_, pe_cmpR ho pa pb hm, fun I S ρ σ H Q R h => twoX (ea := a) (eb := b) qa qb hkb v2 R h⟩
theorem dx_ix {na : Nat} {r : R2} {fr : Bool} {sem : D → D → Res D} (ho : IxR X r) (v2 : V2 X r fr sem k) (ha : DX X E Γ a (some na) f) (hb : DX X E Γ b kb g) (hm : PlainIx b := by intro _ _; rfl) (hkb : fr = true → kb ≠ none := by decide) :
    DX X E Γ (.Subscript a b pos) k (d2X sem f g) := by
  obtain ⟨ta, pa, qa⟩ := ha.ex
  obtain ⟨tb, pb, qb⟩ := hb.ex
  exact ⟨_, pe_ix ho pa pb hm, fun I S ρ σ H Q R h => twoX (ea := a) (eb := b) qa qb hkb v2 R h⟩
/-- arguments, all shared then -/
structure DAX [Wd] (X : Cx) (E : XK) (Γ : List SK) (es : List Expr) (f : Env → Res (List D × Env)) : Prop where
  ex : ∃ t : TA, PA X es t ∧ ∀ I S ρ σ H Q, ER X.K I Γ ρ σ H S → PX X.K X.mg E I H (SU S) (fun p => ∀ vs I' H' S', Evo I H (SU S) I' H' (SU S') → ER X.K I' Γ p.2 σ H' S' → RpA X.K I' H' vs p.1 → Q vs H') (f ρ) → t σ H Q
def liftA (f : Env → Res (List D)) : Env → Res (List D × Env) := fun ρ => f ρ >>= fun ds => .ok (ds, ρ)
theorem dax_lift {es : List Expr} {f : Env → Res (List D)} (h : DA X E Γ es true f) : DAX X E Γ es (liftA f) := by
  obtain ⟨t, p, q⟩ := h.ex
  exact ⟨t, p, fun I S ρ σ H Q R h => q I S ρ σ H Q R (PX.imp (PX.bnd h) fun ds _ ⟨_, h⟩ vs I' H' g r => h vs I' H' S (g.evo R.trk) (R.grow g) (RBA.rp r))⟩
def dConsX (f : Env → Res (D × Env)) (g : Env → Res (List D × Env)) : Env → Res (List D × Env) := fun ρ => f ρ >>= fun p => g p.2 >>= fun q => .ok (p.1 :: q.1, q.2)
theorem dax_cons {na : Nat} {es : List Expr} {gs : Env → Res (List D × Env)} (ha : DX X E Γ a (some na) f) (hb : DAX X E Γ es gs) (hs : starEach (a :: es) X.env = (false, eval a X.env) :: starEach es X.env := by rfl) : DAX X E Γ (a :: es) (dConsX f gs) := by
  obtain ⟨ta, pa, qa⟩ := ha.ex
  obtain ⟨tb, pb, qb⟩ := hb.ex
  refine ⟨_, pa_cons pa pb hs, fun I S ρ σ H Q R h => ?_⟩
  refine seqX (e := a) qa R h fun d ρ1 x I1 H1 S1 T1 e1 h1 ev1 R1 w1 hT1 n1 => ?_
  have w1 : Ow X.K I1 H1 na T1 x d := w1
  -- the value is let go at once
  have R1' := R1.fz fun a m => ⟨(Ow.nod w1 a m).ne, (hT1 a m).2.2⟩
  have ev1' := ev1.fz fun a m => ⟨(hT1 a m).1, (Ow.nod w1 a m).ne⟩
  have r1 : Rp X.K (fz I1 T1) H1 x d := Ow.rp (fun _ z => .inl z) w1 fun a m => .inr m
  refine qb _ S1 ρ1 σ H1 _ R1' (PX.later (PX.bnd h1) ev1' fun q _ ⟨e2, h2⟩ => ?_)
  intro vs I' H' S' ev2 R2 r2
  exact h2 (x :: vs) I' H' S' (ev1'.trans ev2) R2 (.cons (r1.mono ev2.sub fun a o ia q n => ev2.keep a o q (fun ⟨j, mj⟩ => R1'.nI j a mj ia) n) r2)
/-- behind the arguments -/
theorem seqA {ta : TA} {es : List Expr} {gs : Env → Res (List D × Env)} {I : Addr → Prop} {S : Nat → List Addr} {ρ : Env} {σ : L2.St} {H : Hp} {α : Type} {P : α → Prop} {h : List D × Env → Res α}
    (qa : ∀ I S ρ σ H Q, ER X.K I Γ ρ σ H S → PX X.K X.mg E I H (SU S) (fun p => ∀ vs I' H' S', Evo I H (SU S) I' H' (SU S') → ER X.K I' Γ p.2 σ H' S' → RpA X.K I' H' vs p.1 → Q vs H') (gs ρ) → ta σ H Q) (R : ER X.K I Γ ρ σ H S) (hh : PX X.K X.mg E I H (SU S) P (gs ρ >>= h)) {Q : List V → Hp → Prop}
    (hq : ∀ ds ρ1 vs I1 H1 S1, gs ρ = .ok (ds, ρ1) → PX X.K X.mg E I H (SU S) P (h (ds, ρ1)) → Evo I H (SU S) I1 H1 (SU S1) → ER X.K I1 Γ ρ1 σ H1 S1 → RpA X.K I1 H1 vs ds → Q vs H1) : ta σ H Q :=
  qa I S ρ σ H Q R (PX.imp (PX.bnd hh) fun p _ ⟨e, q⟩ vs I1 H1 S1 ev R1 r => hq p.1 p.2 vs I1 H1 S1 e q ev R1 r)
def dNX (sem : List D → Res D) (gs : Env → Res (List D × Env)) : Env → Res (D × Env) := fun ρ => gs ρ >>= fun p => sem p.1 >>= fun d => .ok (d, p.2)
theorem pc2_of {I I1 : Addr → Prop} {H H1 : Hp} {S S1 : Nat → List Addr} {ρ1 : Env} {σ : L2.St} {Q : VK} {d : D} (h : PC2 X.K Γ σ I H S k Q (d, ρ1)) (ev : Evo I H (SU S) I1 H1 (SU S1)) (R1 : ER X.K I1 Γ ρ1 σ H1 S1) : PV X I1 H1 k Q d := fun v I' H' T g vr nw =>
  h v I' H' S1 T (ev.trans (g.evo R1.trk)) (R1.grow g) vr (fun a m => ⟨ev.old (.inr (nw.free a m)), nw.nI a m, fun z => (R1.trk a z) (nw.free a m)⟩) nw.nod
theorem manyX {fr : Bool} {ta : TA} {es : List Expr} {gs : Env → Res (List D × Env)} {r : List V → Hp → VK → Prop} {sem : List D → Res D} {I : Addr → Prop} {S : Nat → List Addr} {ρ : Env} {σ : L2.St} {H : Hp} {Q : VK}
    (qa : ∀ I S ρ σ H Q, ER X.K I Γ ρ σ H S → PX X.K X.mg E I H (SU S) (fun p => ∀ vs I' H' S', Evo I H (SU S) I' H' (SU S') → ER X.K I' Γ p.2 σ H' S' → RpA X.K I' H' vs p.1 → Q vs H') (gs ρ) → ta σ H Q) (vn : VN X r fr sem k)
    (R : ER X.K I Γ ρ σ H S) (h : PX X.K X.mg E I H (SU S) (PC2 X.K Γ σ I H S k Q) (dNX sem gs ρ)) : ta σ H fun vs H1 => r vs H1 Q := by
  refine seqA (es := es) qa R h fun ds ρ1 vs I1 H1 S1 e h1 ev1 R1 r1 => ?_
  cases e3 : sem ds with
  | bad => rw [e3] at h1; exact h1.elim
  | exc c d' => exact (vn.1 _ _ _ e3).elim
  | ok z =>
    rw [e3] at h1
    exact vn.2 I1 H1 vs ds z Q R1.tr r1.rb e3 (pc2_of h1 ev1 R1)
theorem dx_callB {x : Str} {p : Pos} {id : String} {fr : Bool} {e : Expr} {es : List Expr} {r : List V → Hp → VK → Prop} {sem : List D → Res D} {gs : Env → Res (List D × Env)} (hc : CallR X (.builtin id) r) (vn : VN X r fr sem k) (hg : Gl X x) (hm : X.mg x = none)
    (hv : bootBuiltins x = some (.builtin id)) (ha : DAX X E Γ (e :: es) gs) (hn : x ≠ "__name__" := by decide) (hdb : (x == ("__debug__" : Str)) = false := by decide)
    (he : starEach (e :: es) X.env = (false, eval e X.env) :: starEach es X.env := by rfl) (hpl : (backTo pos (starEach es X.env)).any (·.1) = false := by rfl) : DX X E Γ (.Call (.Name x p) (e :: es) [] pos) k (dNX sem gs) := by
  obtain ⟨ta, pa, qa⟩ := ha.ex
  exact ⟨_, pe_callB hc hg hm hv pa hn hdb he hpl, fun I S ρ σ H Q R h => manyX (es := e :: es) qa vn R h⟩
theorem dx_callTy {x : Str} {p : Pos} {T : String} {fr : Bool} {e : Expr} {es : List Expr} {r : List V → Hp → VK → Prop} {sem : List D → Res D} {gs : Env → Res (List D × Env)} (hc : CallR X (.type T) r) (vn : VN X r fr sem k) (hg : Gl X x) (hm : X.mg x = none)
    (hv : bootBuiltins x = some (.type T)) (ha : DAX X E Γ (e :: es) gs) (hn : x ≠ "__name__" := by decide) (hdb : (x == ("__debug__" : Str)) = false := by decide)
    (he : starEach (e :: es) X.env = (false, eval e X.env) :: starEach es X.env := by rfl) (hpl : (backTo pos (starEach es X.env)).any (·.1) = false := by rfl) : DX X E Γ (.Call (.Name x p) (e :: es) [] pos) k (dNX sem gs) := by
  obtain ⟨ta, pa, qa⟩ := ha.ex
  exact ⟨_, pe_callTy hc hg hm hv pa hn hdb he hpl, fun I S ρ σ H Q R h => manyX (es := e :: es) qa vn R h⟩
/-- f(..), nothing changed by f -/
theorem dx_callF {kx kf : Nat} {fa : Addr} {fd : FuncData} {ps : List Str} {x : Str} {p : Pos} {e : Expr} {es : List Expr} {m : List D → Res D} {kr : Nat} {gs : Env → Res (List D × Env)} (F : FnG X.prog X.w X.K X.mg X.base kf fa fd ps (spP X.K X.mg kr m)) (c : Cz X E kx) (hk : kf ≤ kx) (hg : Gl X x) (hm : X.mg x = some (.ref fa)) (hkp : PySem.W.keepIn X.K (.ref fa) = true) (hb : Binds X.K fd ps [])
    (ha : DAX X E Γ (e :: es) gs) (hdb : (x == ("__debug__" : Str)) = false := by decide) (he : starEach (e :: es) X.env = (false, eval e X.env) :: starEach es X.env := by rfl) (hpl : (backTo pos (starEach es X.env)).any (·.1) = false := by rfl) :
    DX X E Γ (.Call (.Name x p) (e :: es) [] pos) (some kr) (dNX m gs) := by
  obtain ⟨ta, pa, qa⟩ := ha.ex
  refine ⟨_, pe_callG F (c.hr.mono hk) c.gd hg hm hkp hb c.px pa hdb he hpl, fun I S ρ σ H Q R h => ?_⟩
  refine seqA (es := e :: es) qa R h fun ds ρ1 vs I1 H1 S1 e h1 ev1 R1 r1 => ?_
  refine ⟨I1, ds, R1.tr, R1.tb, r1, ?_⟩
  cases e3 : m ds with
  | bad => rw [e3] at h1; exact h1.elim
  | exc c d => rw [e3] at h1; exact (WX.later h1 ev1).less fun _ z => z.elim
  | ok d => rw [e3] at h1; exact pc2_of h1 ev1 R1
def dTupX (gs : Env → Res (List D × Env)) : Env → Res (D × Env) := fun ρ => gs ρ >>= fun p => dLim p.1.length (.tuple p.1) >>= fun d => .ok (d, p.2)
def dLstX (gs : Env → Res (List D × Env)) : Env → Res (D × Env) := fun ρ => gs ρ >>= fun p => dLim p.1.length (.list p.1) >>= fun d => .ok (d, p.2)
theorem limX {I S : Addr → Prop} {H : Hp} {P : D × Env → Prop} {n : Nat} {d : D} {ρ : Env} (h : PX X.K X.mg E I H S P (dLim n d >>= fun d => .ok (d, ρ))) : n ≤ sizeLine ∧ P (d, ρ) := by
  unfold dLim at h
  split at h
  · rename_i q
    exact ⟨by rw [sizeLine_eq]; exact q, h⟩
  · exact h.elim
theorem dx_tup {es : List Expr} {gs : Env → Res (List D × Env)} {x1 : Nat} (ha : DAX X E Γ es gs) : DX X E Γ (.Tuple es x1 pos) (some 0) (dTupX gs) := by
  obtain ⟨ta, pa, qa⟩ := ha.ex
  refine ⟨_, pe_tup pa, fun I S ρ σ H Q R h => ?_⟩
  refine seqA (es := es) qa R h fun ds ρ1 vs I1 H1 S1 e h1 ev1 R1 r1 => ?_
  obtain ⟨hz, h1⟩ := limX h1
  have hz : vs.length ≤ sizeLine := by rw [r1.len]; exact hz
  refine ⟨hz, fun p hp => ?_⟩
  refine pc2_of h1 ev1 R1 (.ref p) _ _ [] (Gr.layI hp) (.sh (.tup (.inl ⟨.inr (List.mem_singleton.mpr rfl), upd_same⟩) hz ?_)) .nil
  exact r1.mono (fun a q => .inl q) fun a o _ q _ => upd_keep hp a o q
theorem dx_lst {es : List Expr} {gs : Env → Res (List D × Env)} (ha : DAX X E Γ es gs) : DX X E Γ (.List es pos) (some 1) (dLstX gs) := by
  obtain ⟨ta, pa, qa⟩ := ha.ex
  refine ⟨_, pe_lst pa, fun I S ρ σ H Q R h => ?_⟩
  refine seqA (es := es) qa R h fun ds ρ1 vs I1 H1 S1 e h1 ev1 R1 r1 => ?_
  obtain ⟨hz, h1⟩ := limX h1
  have hz : vs.length ≤ sizeLine := by rw [r1.len]; exact hz
  refine ⟨hz, fun p hp => ?_⟩
  refine pc2_of h1 ev1 R1 (.ref p) I1 _ [p] (Gr.lay hp) (.lst upd_same hz ((r1.mono (fun a q => q) fun a o _ q _ => upd_keep hp a o q).owA0)) ⟨fun a m => ?_, fun a m q => ?_, ?_⟩
  · rw [List.mem_singleton.mp m]; exact hp
  · rw [List.mem_singleton.mp m] at q
    exact R1.tr p q hp
  · simp
end
end DL

namespace DL
open PySem PySem.Spec PyProof.Rows L2

/-- a part of an and, an or -/
structure DWX [Wd] (X : Cx) (E : XK) (Γ : List SK) (e : Expr) (f : Env → Res (Bool × Env)) : Prop where
  ex : ∃ t : TT, PW X e t ∧ ∀ I S ρ σ H Q, ER X.K I Γ ρ σ H S → PX X.K X.mg E I H (SU S) (fun p => ∀ I' H' S', Evo I H (SU S) I' H' (SU S') → ER X.K I' Γ p.2 σ H' S' → Q p.1 H') (f ρ) → t σ H Q
section
variable [Wd] {X : Cx} {E : XK} {Γ : List SK} {pos : Pos} {ka kb k : Option Nat} {n : Nat} {a b : Expr} {rest : List Expr}
theorem DWX.dtx {e : Expr} {f : Env → Res (Bool × Env)} (h : DWX X E Γ e f) : DTX X E Γ e f := by
  obtain ⟨t, p, q⟩ := h.ex
  exact ⟨t, p.pt, q⟩
theorem dwx_and1 {f : Env → Res (Bool × Env)} (h : DTX X E Γ a f) : DWX X E Γ (.BoolOp .And [a] pos) f := by
  obtain ⟨t, p, q⟩ := h.ex
  exact ⟨t, pw_and1 p, q⟩
theorem dwx_or1 {f : Env → Res (Bool × Env)} (h : DTX X E Γ a f) : DWX X E Γ (.BoolOp .Or [a] pos) f := by
  obtain ⟨t, p, q⟩ := h.ex
  exact ⟨t, pw_or1 p, q⟩
def tAndX (f g : Env → Res (Bool × Env)) : Env → Res (Bool × Env) := fun ρ => f ρ >>= fun p => if p.1 = true then g p.2 else .ok (false, p.2)
def tOrX (f g : Env → Res (Bool × Env)) : Env → Res (Bool × Env) := fun ρ => f ρ >>= fun p => if p.1 = true then .ok (true, p.2) else g p.2
theorem seqTX {tt : TT} {fc : Env → Res (Bool × Env)} {I : Addr → Prop} {S : Nat → List Addr} {ρ : Env} {σ : L2.St} {H : Hp} {α : Type} {P : α → Prop} {h : Bool × Env → Res α}
    (q : ∀ I S ρ σ H Q, ER X.K I Γ ρ σ H S → PX X.K X.mg E I H (SU S) (fun p => ∀ I' H' S', Evo I H (SU S) I' H' (SU S') → ER X.K I' Γ p.2 σ H' S' → Q p.1 H') (fc ρ) → tt σ H Q) (R : ER X.K I Γ ρ σ H S) (hh : PX X.K X.mg E I H (SU S) P (fc ρ >>= h)) {Q : Bool → Hp → Prop}
    (hq : ∀ b ρ1 I1 H1 S1, fc ρ = .ok (b, ρ1) → PX X.K X.mg E I H (SU S) P (h (b, ρ1)) → Evo I H (SU S) I1 H1 (SU S1) → ER X.K I1 Γ ρ1 σ H1 S1 → Q b H1) : tt σ H Q :=
  q I S ρ σ H Q R (PX.imp (PX.bnd hh) fun p _ ⟨e, q⟩ I1 H1 S1 ev R1 => hq p.1 p.2 I1 H1 S1 e q ev R1)
theorem dwx_and {f g : Env → Res (Bool × Env)} (ha : DTX X E Γ a f) (hb : DWX X E Γ (.BoolOp .And (b :: rest) pos) g) : DWX X E Γ (.BoolOp .And (a :: b :: rest) pos) (tAndX f g) := by
  obtain ⟨ta, pa, qa⟩ := ha.ex
  obtain ⟨tb, pb, qb⟩ := hb.ex
  refine ⟨_, pw_and pa pb, fun I S ρ σ H Q R h => ?_⟩
  refine seqTX qa R h fun c ρ1 I1 H1 S1 e1 h1 ev1 R1 => ?_
  cases c with
  | true => exact qb I1 S1 ρ1 σ H1 _ R1 (PX.later h1 ev1 fun b _ h I' H' S' ev R' => h I' H' S' (ev1.trans ev) R')
  | false => exact h1 I1 H1 S1 ev1 R1
theorem dwx_or {f g : Env → Res (Bool × Env)} (ha : DTX X E Γ a f) (hb : DWX X E Γ (.BoolOp .Or (b :: rest) pos) g) : DWX X E Γ (.BoolOp .Or (a :: b :: rest) pos) (tOrX f g) := by
  obtain ⟨ta, pa, qa⟩ := ha.ex
  obtain ⟨tb, pb, qb⟩ := hb.ex
  refine ⟨_, pw_or pa pb, fun I S ρ σ H Q R h => ?_⟩
  refine seqTX qa R h fun c ρ1 I1 H1 S1 e1 h1 ev1 R1 => ?_
  cases c with
  | true => exact h1 I1 H1 S1 ev1 R1
  | false => exact qb I1 S1 ρ1 σ H1 _ R1 (PX.later h1 ev1 fun b _ h I' H' S' ev R' => h I' H' S' (ev1.trans ev) R')
def dAndX (f g : Env → Res (D × Env)) : Env → Res (D × Env) := fun ρ => f ρ >>= fun p => asB p.1 >>= fun b => if b = true then g p.2 else .ok (.bool false, p.2)
def dOrX (f g : Env → Res (D × Env)) : Env → Res (D × Env) := fun ρ => f ρ >>= fun p => asB p.1 >>= fun b => if b = true then .ok (.bool true, p.2) else g p.2
def dNotX (f : Env → Res (D × Env)) : Env → Res (D × Env) := fun ρ => f ρ >>= fun p => asB p.1 >>= fun b => .ok (.bool (!b), p.2)
theorem dx_one {op : BoolOp} {f : Env → Res (D × Env)} (h : DX X E Γ a k f) : DX X E Γ (.BoolOp op [a] pos) k f := by
  obtain ⟨t, p, q⟩ := h.ex
  exact ⟨t, pe_one p, q⟩
theorem pc2_at {I I1 : Addr → Prop} {H H1 : Hp} {S S1 : Nat → List Addr} {ρ1 : Env} {σ : L2.St} {Q : VK} {v : V} {d : D} (h : PC2 X.K Γ σ I H S k Q (d, ρ1)) (ev : Evo I H (SU S) I1 H1 (SU S1)) (R1 : ER X.K I1 Γ ρ1 σ H1 S1) (a : At v d) : Q v H1 :=
  h v I1 H1 S1 [] ev R1 (a.vr k) (fun a m => nil_nm m) .nil
theorem pc2_later {I I1 : Addr → Prop} {H H1 : Hp} {S S1 : Nat → List Addr} {p : D × Env} {σ : L2.St} {Q : VK} (h : PC2 X.K Γ σ I H S k Q p) (ev : Evo I H (SU S) I1 H1 (SU S1)) : PC2 X.K Γ σ I1 H1 S1 k Q p :=
  fun v I' H' S' T ev' R' vr hT hn => h v I' H' S' T (ev.trans ev') R' vr (fun a m => ⟨ev.old (hT a m).1, (hT a m).2⟩) hn
theorem dx_and {f g : Env → Res (D × Env)} (ha : DX X E Γ a ka f) (hb : DX X E Γ (.BoolOp .And (b :: rest) pos) k g) : DX X E Γ (.BoolOp .And (a :: b :: rest) pos) k (dAndX f g) := by
  obtain ⟨ta, pa, qa⟩ := ha.ex
  obtain ⟨tb, pb, qb⟩ := hb.ex
  refine ⟨_, pe_and pa pb, fun I S ρ σ H Q R h => ?_⟩
  refine seqX (e := a) qa R h fun d ρ1 v I1 H1 S1 T1 e1 h1 ev1 R1 w1 hT1 n1 => ?_
  cases d with
  | bool c =>
    refine ⟨c, w1.rt.bool, ?_⟩
    cases c with
    | true => exact qb I1 S1 ρ1 σ H1 _ R1 (PX.later h1 ev1 fun b _ h => pc2_later h ev1)
    | false => exact pc2_at (v := .bl false) h1 ev1 R1 (.bl false)
  | _ => exact h1.elim
theorem dx_or {f g : Env → Res (D × Env)} (ha : DX X E Γ a ka f) (hb : DX X E Γ (.BoolOp .Or (b :: rest) pos) k g) : DX X E Γ (.BoolOp .Or (a :: b :: rest) pos) k (dOrX f g) := by
  obtain ⟨ta, pa, qa⟩ := ha.ex
  obtain ⟨tb, pb, qb⟩ := hb.ex
  refine ⟨_, pe_or pa pb, fun I S ρ σ H Q R h => ?_⟩
  refine seqX (e := a) qa R h fun d ρ1 v I1 H1 S1 T1 e1 h1 ev1 R1 w1 hT1 n1 => ?_
  cases d with
  | bool c =>
    refine ⟨c, w1.rt.bool, ?_⟩
    cases c with
    | true => exact pc2_at (v := .bl true) h1 ev1 R1 (.bl true)
    | false => exact qb I1 S1 ρ1 σ H1 _ R1 (PX.later h1 ev1 fun b _ h => pc2_later h ev1)
  | _ => exact h1.elim
theorem dx_not {f : Env → Res (D × Env)} (ha : DX X E Γ a ka f) : DX X E Γ (.UnaryOp .Not a pos) k (dNotX f) := by
  obtain ⟨ta, pa, qa⟩ := ha.ex
  refine ⟨_, pe_not pa, fun I S ρ σ H Q R h => ?_⟩
  refine seqX (e := a) qa R h fun d ρ1 v I1 H1 S1 T1 e1 h1 ev1 R1 w1 hT1 n1 => ?_
  cases d with
  | bool c => exact ⟨c, w1.rt.bool, pc2_at (v := .bl (!c)) h1 ev1 R1 (.bl _)⟩
  | _ => exact h1.elim
/-- a if c else b -/
def dIfX (c : Env → Res (Bool × Env)) (f g : Env → Res (D × Env)) : Env → Res (D × Env) := fun ρ => c ρ >>= fun p => if p.1 = true then f p.2 else g p.2
theorem dx_if {c : Expr} {fc : Env → Res (Bool × Env)} {f g : Env → Res (D × Env)} (hc : DTX X E Γ c fc) (ha : DX X E Γ a k f) (hb : DX X E Γ b k g) : DX X E Γ (.IfExp c a b pos) k (dIfX fc f g) := by
  obtain ⟨tc, pc, qc⟩ := hc.ex
  obtain ⟨ta, pa, qa⟩ := ha.ex
  obtain ⟨tb, pb, qb⟩ := hb.ex
  refine ⟨_, pe_ifExp pc pa pb, fun I S ρ σ H Q R h => ?_⟩
  refine seqTX qc R h fun b ρ1 I1 H1 S1 e1 h1 ev1 R1 => ?_
  cases b with
  | true => exact qa I1 S1 ρ1 σ H1 _ R1 (PX.later h1 ev1 fun b _ h => pc2_later h ev1)
  | false => exact qb I1 S1 ρ1 σ H1 _ R1 (PX.later h1 ev1 fun b _ h => pc2_later h ev1)
/-- a fresh value is let go: shared from here on -/
theorem dx_sh {m : Nat} {f : Env → Res (D × Env)} (ha : DX X E Γ a (some m) f) : DX X E Γ a (some 0) f := by
  obtain ⟨t, p, q⟩ := ha.ex
  refine ⟨t, p, fun I S ρ σ H Q R h => q I S ρ σ H Q R (PX.imp h fun p _ h v I' H' S' T ev R' vr hT hn => ?_)⟩
  have vr : Ow X.K I' H' m T v p.1 := vr
  exact h v (DL.fz I' T) H' S' [] (ev.fz fun a m => ⟨(hT a m).1, (Ow.nod vr a m).ne⟩) (R'.fz fun a m => ⟨(Ow.nod vr a m).ne, (hT a m).2.2⟩) (.sh (Ow.rp (fun _ z => .inl z) vr fun a m => .inr m)) (fun a m => nil_nm m) .nil
/-- a flat value may be kept, whoever owns it -/
def dFlatX (f : Env → Res (D × Env)) : Env → Res (D × Env) := fun ρ => f ρ >>= fun p => if flat p.1 = true then .ok p else .bad
theorem dx_flat {e : Expr} {f : Env → Res (D × Env)} {m : Nat} (h : DX X E Γ e k f) : DX X E Γ e (some m) (dFlatX f) := by
  obtain ⟨t, p, q⟩ := h.ex
  refine ⟨t, p, fun I S ρ σ H Q R h => ?_⟩
  refine seqX (e := e) q R h fun d ρ1 v I1 H1 S1 T1 e1 h1 ev1 R1 w1 hT1 n1 => ?_
  by_cases hf : flat d = true
  · rw [if_pos hf] at h1
    exact h1 v I1 H1 S1 [] ev1 R1 (Rp.ow (RB.ofFlat w1.rt hf) hf m) (fun a m => nil_nm m) .nil
  · rw [if_neg hf] at h1
    exact h1.elim
variable {C : Cf} {Γn : List SK}
def sPar (i j : Nat) (f g : Env → Res (D × Env)) : Env → Res Out := fun ρ => f ρ >>= fun p => g p.2 >>= fun q => .ok (.nx ((q.2.set i (.d p.1)).set j (.d q.1)))
theorem ds_par {i j n1 n2 : Nat} {x y : Str} {px py pt : Pos} {kt k2 pt2} {f g : Env → Res (D × Env)} (hc : X.calm = true) (hN : X.N.Nodup) (hi : X.N[i]? = some x) (hj : X.N[j]? = some y) (hij : i ≠ j)
    (hx : X.env.scope.names.lookup x = some .local) (hy : X.env.scope.names.lookup y = some .local) (ha : DX X E Γ a (some n1) f) (hb : DX X E Γ b (some n2) g)
    (hw : swappedStores [.Tuple [.Name x px, .Name y py] kt pt] (.Tuple [a, b] k2 pt2) X.env = pure (some [x, y])) (hli : i < Γ.length := by decide) (hlj : j < Γ.length := by decide) (hMi : i ∉ C.M := by decide) (hMj : j ∉ C.M := by decide)
    (hs : swapsWithSole [.Tuple [.Name x px, .Name y py] kt pt] (.Tuple [a, b] k2 pt2) pos.line X.env = pure false := by rfl) (hsa : starEach [a, b] X.env = (false, eval a X.env) :: starEach [b] X.env := by rfl) (hsb : starEach [b] X.env = (false, eval b X.env) :: starEach [] X.env := by rfl) :
    DS1 X E C Γ (.Assign [.Tuple [.Name x px, .Name y py] kt pt] (.Tuple [a, b] k2 pt2) pos) ((Γ.set i (.da n1)).set j (.da n2)) (sPar i j f g) := by
  obtain ⟨ta, pa, qa⟩ := ha.ex
  obtain ⟨tb, pb, qb⟩ := hb.ex
  refine ⟨_, ps_par hc hN hi hj hij hx hy (pa_cons pa (pa_cons pb pa_nil hsb) hsa) hw hs, fun I S ρ σ H Dd R h => ?_⟩
  refine seqX (e := a) qa R h fun d ρ1 v I1 H1 S1 T1 e1 h1 ev1 R1 w1 hT1 m1 => ?_
  have w1 : Ow X.K I1 H1 n1 T1 v d := w1
  refine seqX (e := b) qb R1 (PX.later h1 ev1 fun o _ z => z) fun e ρ2 w I2 H2 S2 T2 e2 h2 ev2 R2 w2 hT2 m2 => ?_
  have w2 : Ow X.K I2 H2 n2 T2 w e := w2
  have w1' := w1.held R1 (fun a m => (hT1 a m).2.2) ev2
  have hT1' := w1.heldI (fun a m => (hT1 a m).2) ev2
  have d12 : ∀ a ∈ T1, a ∉ T2 := fun a m1 m2 => (hT2 a m2).1.elim (hT1 a m1).2.2 (Ow.nod w1 a m1).ne
  have R3 := R2.put (by rw [R2.lr]; exact hli) w1' m1 (fun a m => (hT1' a m).1) fun a m j' _ mj => (hT1' a m).2 ⟨j', mj⟩
  have R4 := R3.put (i := j) (by rw [R3.lr, List.length_set]; exact hlj) w2 m2 (fun a m => (hT2 a m).2.1) fun a m j' hj' mj => by
    have mj : a ∈ (if j' = i then T1 else S2 j') := mj
    by_cases hji : j' = i
    · rw [if_pos hji] at mj; exact d12 a mj m
    · rw [if_neg hji] at mj; exact (hT2 a m).2.2 ⟨j', mj⟩
  refine ⟨v, w, rfl, ?_⟩
  have ev12 := ev1.trans ev2
  have h2 : SPo X.K C ((Γ.set i (.da n1)).set j (.da n2)) σ I H S Dd (.nx ((ρ2.set i (.d d)).set j (.d e))) := h2
  refine h2 I2 H2 _ _ ⟨ev12.sub, ev12.new, ev12.keep, fun a z => ?_, ev12.there, ev12.tab⟩ R4 fun l hl => ?_
  · obtain ⟨l, m⟩ := z
    have m : a ∈ (if l = j then T2 else if l = i then T1 else S2 l) := m
    by_cases hlj : l = j
    · rw [if_pos hlj] at m
      exact ⟨ev1.old (hT2 a m).1, (Ow.nod w2 a m).ne⟩
    · rw [if_neg hlj] at m
      by_cases hli : l = i
      · rw [if_pos hli] at m
        exact ⟨(hT1 a m).1, (Ow.nod w1' a m).ne⟩
      · rw [if_neg hli] at m
        exact ev12.own a ⟨l, m⟩
  · rw [List.getElem?_set_ne (fun z : j = l => hMj (by rw [z]; exact hl)), List.getElem?_set_ne (fun z : i = l => hMi (by rw [z]; exact hl))]
variable {kx kf kr : Nat} {fa : Addr} {fd : FuncData} {ps ks : List Str} {x : Str} {p : Pos} {m : List D → Res D}
theorem dp_call0 (F : FnG X.prog X.w X.K X.mg X.base kf fa fd ps (spP X.K X.mg kr m)) (c : Cz X E kx) (hk : kf ≤ kx) (hg : Gl X x) (hm : X.mg x = some (.ref fa)) (hkp : PySem.W.keepIn X.K (.ref fa) = true) (hb : Binds X.K fd ps []) (hdb : (x == ("__debug__" : Str)) = false := by decide) :
    DP X E Γ (.Call (.Name x p) [] [] pos) (some kr) (fun _ => m []) := by
  refine ⟨_, pe_callG0 F (c.hr.mono hk) c.gd hg hm hkp hb c.px hdb, fun I S ρ σ H Q R h => ?_⟩
  refine ⟨I, [], R.tr, R.tb, .nil, ?_⟩
  cases e3 : m [] with
  | bad => rw [e3] at h; exact h.elim
  | exc c d => rw [e3] at h; exact WX.less h fun _ z => z.elim
  | ok d => rw [e3] at h; exact h
/-- how the keywords' values are put in the parameters' order -/
def perm {α : Type} (ix : List Nat) (l : List α) : List α := ix.filterMap (l[·]?)
/-- only keywords -/
def KwB (K : PySem.W.Frag) (fd : FuncData) (ps ks : List Str) (ix : List Nat) : Prop := ∀ (s : Shared) (ws : List Value), K.In s.heap → ws.length = ks.length → BindsTo s fd ⟨[], ks.zip ws⟩ (ps.zip (perm ix ws))
structure DK [Wd] (X : Cx) (E : XK) (Γ : List SK) (kws : List Keyword) (f : Env → Res (List D)) : Prop where
  ex : ∃ t : TA, PK X kws t ∧ ∀ I S ρ σ H Q, ER X.K I Γ ρ σ H S → PX X.K X.mg E I H (SU S) (fun ds => ∀ vs I' H', Gr I H I' H' → RpA X.K I' H' vs ds → Q vs H') (f ρ) → t σ H Q
theorem dk_nil : DK X E Γ [] dNil := ⟨tNil, pk_nil, fun I S ρ σ H Q R h => h [] I H .refl .nil⟩
theorem dk_cons {na : Nat} {nm : Option Str} {kpos : Pos} {kws : List Keyword} {f : Env → Res D} {gs : Env → Res (List D)} (ha : DP X E Γ a (some na) f) (hb : DK X E Γ kws gs) : DK X E Γ (⟨nm, a, kpos⟩ :: kws) (dCons f gs) := by
  obtain ⟨ta, pa, qa⟩ := ha.ex
  obtain ⟨tb, pb, qb⟩ := hb.ex
  refine ⟨_, pk_cons pa pb, fun I S ρ σ H Q R h => ?_⟩
  refine seq1 qa R h fun d x I1 H1 T1 e1 h1 g1 w1 n1 R1 => ?_
  refine qb I1 S ρ σ H1 _ R1 (PX.later (PX.bnd h1) (g1.evo R.trk) fun ds _ ⟨e2, h2⟩ => ?_)
  intro vs I' H' g2 r2
  have g3 := (g1.trans g2).fz fun a m => ⟨n1.free a m, g2.there (w1.nodes a m).ne⟩
  exact h2 (x :: vs) _ H' g3 (.cons (RB.rp (RB.later (w1.rb (fr := true) fun _ => by simp) (fun a q => q.elim (fun q => .inl (g2.sub a q)) fun m => .inr m) g2.kp)) (r2.mono (fun a q => .inl q) fun _ _ _ q _ => q))
theorem permR {K : PySem.W.Frag} {I : Addr → Prop} {H : Hp} {vs : List V} {ds : List D} (r : RpA K I H vs ds) : ∀ ix : List Nat, RpA K I H (perm ix vs) (perm ix ds)
  | [] => .nil
  | i :: ix => by
    have ih := permR r ix
    show RpA K I H ((i :: ix).filterMap (vs[·]?)) ((i :: ix).filterMap (ds[·]?))
    rw [List.filterMap_cons, List.filterMap_cons]
    cases e : ds[i]? with
    | none =>
      have : vs[i]? = none := by
        rw [List.getElem?_eq_none_iff] at e ⊢
        rw [r.len]; exact e
      rw [this]
      exact ih
    | some d =>
      obtain ⟨v, q1, q2⟩ := r.get e
      rw [q1]
      exact .cons q2 ih
theorem permV {vs : List V} {us : List Value} (r : Vals vs us) : ∀ ix : List Nat, Vals (perm ix vs) (perm ix us)
  | [] => .nil
  | i :: ix => by
    have ih := permV r ix
    show Vals ((i :: ix).filterMap (vs[·]?)) ((i :: ix).filterMap (us[·]?))
    rw [List.filterMap_cons, List.filterMap_cons]
    have : ∀ {vs : List V} {us : List Value}, Vals vs us → ∀ i : Nat, (vs[i]? = none ∧ us[i]? = none) ∨ ∃ v u, vs[i]? = some v ∧ us[i]? = some u ∧ RelV v u := by
      intro vs us r
      induction r with
      | nil => intro i; exact .inl ⟨rfl, rfl⟩
      | cons h _ ih =>
        intro i
        cases i with
        | zero => exact .inr ⟨_, _, rfl, rfl, h⟩
        | succ i => simpa using ih i
    rcases this r i with ⟨e1, e2⟩ | ⟨v, u, e1, e2, h⟩
    · rw [e1, e2]; exact ih
    · rw [e1, e2]; exact .cons h ih
theorem dp_callK {kws : List Keyword} {ix : List Nat} {gs : Env → Res (List D)} (F : FnG X.prog X.w X.K X.mg X.base kf fa fd ps (spP X.K X.mg kr m)) (c : Cz X E kx) (hk : kf ≤ kx) (hg : Gl X x) (hm : X.mg x = some (.ref fa)) (hkp : PySem.W.keepIn X.K (.ref fa) = true) (hb : KwB X.K fd ps ks ix) (hpl : ps.length = ks.length)
    (hkw : DK X E Γ kws gs) (hall : (backToKw pos (keywordEach kws X.env)).all (·.1.isSome) = true := by rfl) (hks : (backToKw pos (keywordEach kws X.env)).filterMap (·.1) = ks := by rfl) (hlen : kws.length = ks.length := by rfl)
    (hdb : (x == ("__debug__" : Str)) = false := by decide) (hpl2 : ((backTo pos (starEach [] X.env)).any (·.1) || (backToKw pos (keywordEach kws X.env)).any (·.1.isNone)) = false := by rfl) :
    DP X E Γ (.Call (.Name x p) [] kws pos) (some kr) (fun ρ => gs ρ >>= fun ds => if ds.length = ks.length then m (perm ix ds) else .bad) := by
  obtain ⟨ta, pa, qa⟩ := hkw.ex
  have PEK : PE X (.Call (.Name x p) [] kws pos) (fun σ H Q => ta σ H fun vs H1 => vs.length = ks.length ∧ spP X.K X.mg kr m (perm ix vs) H1 Q E) := by
    refine ⟨fun pins s σ H Q I h => wpAny_Call_Name_kw (ld_glob I hg hm ?_ hdb)⟩
    refine PySem.W.callWith_KW0 (h₀ := X.base) I.ok.mod.kin hkp hall (thn (pa.run pos pins s σ H _ I h) fun ws s1 ⟨vs, H1, I1, r, hl, q⟩ => ⟨I1.kIn, ?_⟩) hpl2
    rw [hks]
    have r2 := permV r ix
    refine wpAny_call (codeAny_mono (F.run X.A X.stack s1 H1 ⟨[] ++ [], ks.zip ws⟩ (perm ix ws) (perm ix vs) Q E (c.hr.mono hk) c.gd I1.env0 (hb s1 ws I1.kIn (by rw [← r.length]; exact hl)) r2 q) fun r s' hq => ?_)
    cases r with
    | error e => exact c.px pins σ H1 s1 e s' I1 hq
    | ok fl =>
      cases fl with
      | ret u => exact I1.after hq
      | next => exact False.elim hq
      | brk => exact False.elim hq
      | cont => exact False.elim hq
  refine ⟨_, PEK, fun I S ρ σ H Q R h => ?_⟩
  refine qa I S ρ σ H _ R (PX.imp (PX.bnd h) fun ds _ ⟨e, h1⟩ => ?_)
  intro vs I1 H1 g1 r1
  have R1 := R.grow g1
  split at h1
  · rename_i hl
    refine ⟨by rw [r1.len]; exact hl, I1, perm ix ds, R1.tr, R1.tb, permR r1 ix, ?_⟩
    cases e3 : m (perm ix ds) with
    | bad => rw [e3] at h1; exact h1.elim
    | exc c d => rw [e3] at h1; exact (WX.later h1 (g1.evo R.trk)).less fun _ z => z.elim
    | ok d =>
      rw [e3] at h1
      exact fun v I' H' T g ow nw => h1 v I' H' T (g1.trans g) ow (nw.ahead g1)
  · exact h1.elim
end
end DL

namespace DL
open PySem PySem.Spec PyProof.Rows L2

/-- ρ' but for the slots vs, which are as in ρ -/
def restE : List Nat → Env → Env → Env
  | [], _, ρ' => ρ'
  | v :: vs, ρ, ρ' => match ρ[v]? with
    | some w => (restE vs ρ ρ').set v w
    | none => restE vs ρ ρ'
theorem restE_len {ρ ρ' : Env} : ∀ {vs : List Nat}, (restE vs ρ ρ').length = ρ'.length
  | [] => rfl
  | v :: vs => by
    unfold restE
    split
    · rw [List.length_set]; exact restE_len
    · exact restE_len
theorem restE_out {ρ ρ' : Env} {i : Nat} : ∀ {vs : List Nat}, i ∉ vs → (restE vs ρ ρ')[i]? = ρ'[i]?
  | [], _ => rfl
  | v :: vs, h => by
    have h1 : v ≠ i := fun z => h (by rw [z]; exact List.mem_cons_self)
    have h2 := restE_out (ρ := ρ) (ρ' := ρ') (i := i) (vs := vs) fun m => h (List.mem_cons_of_mem _ m)
    unfold restE
    split
    · rw [List.getElem?_set_ne h1]; exact h2
    · exact h2
theorem restE_in {ρ ρ' : Env} {i : Nat} (hl : ρ'.length = ρ.length) : ∀ {vs : List Nat}, i ∈ vs → (restE vs ρ ρ')[i]? = ρ[i]?
  | v :: vs, h => by
    unfold restE
    by_cases hv : v = i
    · subst hv
      cases e : ρ[v]? with
      | some w =>
        have : v < ρ.length := (List.getElem?_eq_some_iff.mp e).1
        exact List.getElem?_set_self (by rw [restE_len, hl]; exact this)
      | none =>
        rw [List.getElem?_eq_none_iff] at e
        exact List.getElem?_eq_none (by rw [restE_len, hl]; exact e)
    · have ih := restE_in (ρ := ρ) (ρ' := ρ') (i := i) hl (vs := vs) ((List.mem_cons.mp h).resolve_left fun z => hv z.symm)
      split
      · rw [List.getElem?_set_ne hv]; exact ih
      · exact ih
def compMX (fr : Bool) (vs : List Nat) (p : Pat) (c : Env → Res Bool) (e : Env → Res (D × Env)) : List D → Env → Res (List D × Env)
  | [], ρ => .ok ([], ρ)
  | d :: r, ρ => if fr || flat d then bindP p d ρ >>= fun ρ1 => c ρ1 >>= fun b => if b = true then e ρ1 >>= fun q => compMX fr vs p c e r (restE vs ρ q.2) >>= fun z => .ok (q.1 :: z.1, z.2) else compMX fr vs p c e r ρ else .bad
def dCompX (fr : Bool) (vs : List Nat) (it : Env → Res (List D)) (p : Pat) (c : Env → Res Bool) (e : Env → Res (D × Env)) : Env → Res (D × Env) := fun ρ => it ρ >>= fun xs => (compMX fr vs p c e xs ρ).nox >>= fun z => .ok (.list z.1, z.2)
theorem setP_out {i : Nat} : ∀ (p : Pat) (Γ : List SK), i ∉ slotsP p → (setP p Γ)[i]? = Γ[i]? := by
  apply Pat.rec (motive_1 := fun p => ∀ Γ, i ∉ slotsP p → (setP p Γ)[i]? = Γ[i]?) (motive_2 := fun ps => ∀ Γ, i ∉ slotsPs ps → (setPs ps Γ)[i]? = Γ[i]?)
  · intro v Γ h
    unfold setP
    exact List.getElem?_set_ne fun z => h (by unfold slotsP; rw [z]; exact List.mem_singleton.mpr rfl)
  · intro ps ih Γ h
    unfold setP
    exact ih Γ (by unfold slotsP at h; exact h)
  · intro Γ h
    rfl
  · intro p ps h1 h2 Γ h
    unfold slotsPs at h
    unfold setPs
    rw [h2 _ fun m => h (List.mem_append_right _ m), h1 _ fun m => h (List.mem_append_left _ m)]
section
variable [Wd] {K : PySem.W.Frag} {Γ : List SK} {vs : List Nat} {p : Pat} {I2 I6 : Addr → Prop} {H2 H6 : Hp} {S2 S4 S6 : Nat → List Addr} {ρ2 ρ6 : Env} {σ σ4 : L2.St}
/-- back from the block -/
theorem ER.unwipe (R2 : ER K I2 Γ ρ2 σ H2 S2) (h4 : ∀ i a, a ∈ S4 i → i ∉ vs ∧ a ∈ S2 i) (hp : ∀ i ∈ slotsP p, i ∈ vs) (of : Off (slotsP p) (L2.wipe σ vs) σ4) (ev : Evo I2 H2 (SU S4) I6 H6 (SU S6)) (R6 : ER K I6 (setP p (wipeG Γ vs)) ρ6 σ4 H6 S6) :
    ER K I6 Γ (restE vs ρ2 ρ6) σ H6 (fun i => if i ∈ vs then S2 i else S6 i) ∧ Evo I2 H2 (SU S2) I6 H6 (SU fun i => if i ∈ vs then S2 i else S6 i) := by
  have len6 : ρ6.length = ρ2.length := by
    rw [R6.lr, R2.lr]
    have : ∀ (p : Pat) (Γ : List SK), (setP p Γ).length = Γ.length := by
      apply Pat.rec (motive_1 := fun p => ∀ Γ, (setP p Γ).length = Γ.length) (motive_2 := fun ps => ∀ Γ, (setPs ps Γ).length = Γ.length)
      · intro v Γ; unfold setP; rw [List.length_set]
      · intro ps ih Γ; unfold setP; exact ih Γ
      · intro Γ; rfl
      · intro p ps h1 h2 Γ; unfold setPs; rw [h2, h1]
    rw [this, wipeG_length]
  have nS4 : ∀ i a, i ∈ vs → a ∈ S2 i → ¬ SU S4 a := fun i a hi m ⟨j, mj⟩ => R2.dis i j a (fun z => (h4 j a mj).1 (z ▸ hi)) m (h4 j a mj).2
  have sub4 : ∀ a, SU S4 a → SU S2 a := fun a ⟨j, m⟩ => ⟨j, (h4 j a m).2⟩
  have lt : Later I2 H2 I6 H6 := ⟨ev.sub, fun a o ia q n => ev.keep a o q (fun z => let ⟨j, m⟩ := sub4 a z; R2.nI j a m ia) n, fun a o q f => ev.keep a o q (fun z => f.nod q (R2.tracked (sub4 a z))) f.nt⟩
  have inS : ∀ {i a}, a ∈ (if i ∈ vs then S2 i else S6 i) → (i ∈ vs ∧ a ∈ S2 i) ∨ (i ∉ vs ∧ a ∈ S6 i) := fun {i a} m => by
    by_cases hi : i ∈ vs
    · rw [if_pos hi] at m; exact .inl ⟨hi, m⟩
    · rw [if_neg hi] at m; exact .inr ⟨hi, m⟩
  have old6 : ∀ i a, a ∈ S6 i → ∀ j, j ∈ vs → a ∉ S2 j := fun i a m j hj mj => by
    rcases (ev.own a ⟨i, m⟩).1 with z | z
    · exact nS4 j a hj mj z
    · exact R2.trk a ⟨j, mj⟩ z
  constructor
  · refine ⟨fun i k e => ?_, fun i a m => ?_, fun i j a hij m1 m2 => ?_, fun i => ?_, fun i a m => ?_, R6.tr, by rw [restE_len, len6]; exact R2.lr, R2.ls, ev.tab R2.tb⟩
    · by_cases hi : i ∈ vs
      · show SlotR K I6 H6 k (if i ∈ vs then S2 i else S6 i) _ _
        rw [if_pos hi, restE_in len6 hi]
        exact (R2.slot i k e).mono lt fun a m o q n => ev.keep a o q (nS4 i a hi m) n
      · show SlotR K I6 H6 k (if i ∈ vs then S2 i else S6 i) _ _
        rw [if_neg hi, restE_out hi]
        have hs : i ∉ slotsP p := fun m => hi (hp i m)
        have := R6.slot i k (by rw [setP_out p _ hs, wipeG_out hi]; exact e)
        rw [of.2 i hs, wipe_out hi] at this
        exact this
    · rcases inS m with ⟨hi, m⟩ | ⟨hi, m⟩
      · exact R2.sd i a m
      · obtain ⟨k, e⟩ := R6.sd i a m
        rw [setP_out p _ (fun m => hi (hp i m)), wipeG_out hi] at e
        exact ⟨k, e⟩
    · rcases inS m1 with ⟨h1, m1⟩ | ⟨h1, m1⟩ <;> rcases inS m2 with ⟨h2, m2⟩ | ⟨h2, m2⟩
      · exact R2.dis i j a hij m1 m2
      · exact old6 j a m2 i h1 m1
      · exact old6 i a m1 j h2 m2
      · exact R6.dis i j a hij m1 m2
    · show (if i ∈ vs then S2 i else S6 i).Nodup
      split
      · exact R2.nod i
      · exact R6.nod i
    · rcases inS m with ⟨h, m⟩ | ⟨h, m⟩
      · intro z
        rcases ev.new a z with z | ⟨z, _⟩
        · exact R2.nI i a m z
        · exact z.elim (nS4 i a h m) (R2.trk a ⟨i, m⟩)
      · exact R6.nI i a m
  · refine ⟨ev.sub, fun a z => (ev.new a z).imp id fun q => ⟨q.1.imp (sub4 a) id, q.2⟩, fun b o q n => ev.keep b o q fun z => n (sub4 b z), fun a ⟨i, m⟩ => ?_, ev.there, ev.tab⟩
    rcases inS m with ⟨h, m⟩ | ⟨h, m⟩
    · exact ⟨.inl ⟨i, m⟩, ev.there a (R2.trk a ⟨i, m⟩)⟩
    · exact ⟨(ev.own a ⟨i, m⟩).1.imp (sub4 a) id, (ev.own a ⟨i, m⟩).2⟩
end
section
variable [Wd] {X : Cx} {E : XK} {Γ : List SK} {pos : Pos} {n : Nat}
theorem compQX {wi : TI} {g : TG} {tt : TT} {te : TE} {vs : List Nat} {p : Pat} {fi : Env → Res (List D)} {fc : Env → Res Bool} {fe : Env → Res (D × Env)} {K : PySem.W.Frag} {mg : Str → Option Value} {E0 : XK}
    (qi : ∀ I S ρ σ H R, ER K I Γ ρ σ H S → PX K mg E I H (SU S) (fun ds => ∀ J I' H', Gr I H I' H' → Wk K true J I' H' ds → R J H') (fi ρ) → wi σ H R)
    (qg : ∀ I S ρ σ H v d Q ρ', ER K I (wipeG Γ vs) ρ σ H S → Rp K I H v d → bindP p d ρ = .ok ρ' → (∀ σ' S', ER K I (setP p (wipeG Γ vs)) ρ' σ' H S' → (∀ i a, a ∈ S' i → a ∈ S i) → Off (slotsP p) σ σ' → Q σ' H) → g v σ H Q)
    (qt : ∀ I S ρ σ H Q, ER K I (setP p (wipeG Γ vs)) ρ σ H S → PX K mg E0 I H (SU S) (fun b => ∀ I' H', Gr I H I' H' → Q b H') (fc ρ) → tt σ H Q)
    (qe : ∀ I S ρ σ H (Q : VK), ER K I (setP p (wipeG Γ vs)) ρ σ H S → PX K mg E0 I H (SU S) (PC2 K (setP p (wipeG Γ vs)) σ I H S (some n) Q) (fe ρ) → te σ H Q)
    (hp : ∀ i ∈ slotsP p, i ∈ vs) {I : Addr → Prop} {S : Nat → List Addr} {ρ : Env} {σ : L2.St} {H : Hp} {Q : VK} (R : ER K I Γ ρ σ H S)
    (h : PX K mg E I H (SU S) (PC2 K Γ σ I H S (some (n + 1)) Q) (dCompX true vs fi p fc fe ρ)) : tLc wi g tt te vs σ H Q := by
  refine qi I S ρ σ H _ R (PX.imp (PX.bnd h) fun ds _ ⟨e0, h⟩ => ?_)
  intro J I1 H1 g1 wk D hD
  have R1 := R.grow g1
  cases e1 : compMX true vs p fc fe ds ρ with
  | bad => rw [e1] at h; exact h.elim
  | exc _ _ => rw [e1] at h; exact h.elim
  | ok yz =>
    obtain ⟨ys, ρz⟩ := yz
    rw [e1] at h
    have h : PC2 K Γ σ I H S (some (n + 1)) Q (.list ys, ρz) := h
    have hDI : ¬ I1 D := fun z => R1.tr D z hD
    have hDS : ¬ SU S D := fun z => R1.trk D z hD
    have ev0 : Evo I1 H1 (SU S) I1 (upd H1 D (.lst [])) (SU S) := (Gr.lay hD).evo R1.trk
    refine ⟨fun i m H2 => m = ds.length - i ∧ i ≤ ds.length ∧ ∃ (I2 : Addr → Prop) (S2 : Nat → List Addr) (ρ2 : Env) (acc : List V) (ds0 rest : List DL.D) (T : List Addr), Evo I1 H1 (SU S) I2 H2 (SU S2) ∧ ER K I2 Γ ρ2 σ H2 S2 ∧ H2 D = some (.lst acc) ∧ ¬ I2 D ∧ ¬ SU S2 D ∧ OwA K I2 H2 n T acc ds0 ∧
      (∀ a ∈ T, (SU S a ∨ H1 a = none) ∧ ¬ I2 a ∧ ¬ SU S2 a ∧ a ≠ D) ∧ T.Nodup ∧ ds0.length ≤ i ∧ compMX true vs p fc fe (ds.drop i) ρ2 = .ok (rest, ρz) ∧ ds0 ++ rest = ys,
      ⟨ds.length, by simp, Nat.zero_le _, I1, S, ρ, [], [], ys, [], ev0, R1.grow (.lay hD), upd_same, hDI, hDS, .nil, fun a m => nil_nm m, .nil, Nat.le_refl _, by simpa using e1, rfl⟩, ?_⟩
    rintro i m H2 ⟨rfl, hi, I2, S2, ρ2, acc, ds0, rest, T, ev2, R2, eD, nD, nDS, ow, fr2, nd, hl, er, ey⟩
    have lt2 : Lt true I1 H1 I2 H2 := ⟨ev2.sub, fun a o z e n => ev2.keep a o e (fun ⟨j, mj⟩ => by
      rcases z with z | z
      · exact R1.nI j a mj z
      · exact nomatch z.1) n⟩
    by_cases hlt : i < ds.length
    · refine .inr ⟨wk.go i I2 H2 hlt lt2, fun H3 => i + 1 ≤ ds.length ∧ ∃ (I2 : Addr → Prop) (S2 : Nat → List Addr) (ρ2 : Env) (acc : List V) (ds0 rest : List DL.D) (T : List Addr), Evo I1 H1 (SU S) I2 H3 (SU S2) ∧ ER K I2 Γ ρ2 σ H3 S2 ∧ H3 D = some (.lst acc) ∧ ¬ I2 D ∧ ¬ SU S2 D ∧ OwA K I2 H3 n T acc ds0 ∧
        (∀ a ∈ T, (SU S a ∨ H1 a = none) ∧ ¬ I2 a ∧ ¬ SU S2 a ∧ a ≠ D) ∧ T.Nodup ∧ ds0.length ≤ i + 1 ∧ compMX true vs p fc fe (ds.drop (i + 1)) ρ2 = .ok (rest, ρz) ∧ ds0 ++ rest = ys, fun H3 z => ⟨ds.length - (i + 1), by omega, rfl, z.1, z.2⟩, fun x H3 y => ?_⟩
      obtain ⟨I3, g3, rx⟩ := wk.yld i ds[i] I2 H2 x H3 (List.getElem?_eq_getElem hlt) lt2 y
      have rx := RB.rp rx
      rw [List.drop_eq_getElem_cons hlt] at er
      unfold compMX at er
      rw [Bool.true_or, if_pos rfl] at er
      have R3 := R2.grow g3
      have R3w := R3.wipe vs
      cases e3 : bindP p ds[i] ρ2 with
      | bad => rw [e3] at er; cases er
      | exc _ _ => rw [e3] at er; cases er
      | ok ρ4 =>
        rw [e3, Res.ok_bnd] at er
        refine qg I3 _ ρ2 _ H3 x ds[i] _ ρ4 R3w rx e3 fun σ4 S4 R4 s4 o4 => ⟨wipe_off o4 hp, ?_⟩
        have h4 : ∀ i a, a ∈ S4 i → i ∉ vs ∧ a ∈ S2 i := fun i a m => by
          have m := s4 i a m
          have m : a ∈ (if i ∈ vs then [] else S2 i) := m
          by_cases hi : i ∈ vs
          · rw [if_pos hi] at m; cases m
          · rw [if_neg hi] at m; exact ⟨hi, m⟩
        have nS4 : ∀ a, ¬ SU S2 a → ¬ SU S4 a := fun a n ⟨j, m⟩ => n ⟨j, (h4 j a m).2⟩
        cases e4 : fc ρ4 with
        | bad => rw [e4] at er; cases er
        | exc _ _ => rw [e4] at er; cases er
        | ok b =>
          rw [e4, Res.ok_bnd] at er
          refine qt I3 S4 ρ4 σ4 H3 _ R4 ?_
          rw [e4]
          intro I5 H5 g5
          have g25 := g3.trans g5
          have R5 := R2.grow g25
          have ev25 : Evo I2 H2 (SU S2) I5 H5 (SU S2) := g25.evo R2.trk
          have eD5 : H5 D = some (.lst acc) := g25.kp D _ eD fun _ z => nomatch z
          have nD5 : ¬ I5 D := fun z => (g25.new D z).elim nD fun q => by rw [eD] at q; exact nomatch q.1
          have ow5 : OwA K I5 H5 n T acc ds0 := ow.mono g25.sub (fun a o _ e n => g25.kp a o e n) fun a _ o e n => g25.kp a o e n
          have fr5 : ∀ a ∈ T, (SU S a ∨ H1 a = none) ∧ ¬ I5 a ∧ ¬ SU S2 a ∧ a ≠ D := fun a m => ⟨(fr2 a m).1, fun z => (g25.new a z).elim (fr2 a m).2.1 fun q => (OwA.nod ow a m).ne q.1, (fr2 a m).2.2⟩
          cases b with
          | false => exact ⟨hlt, I5, S2, ρ2, acc, ds0, rest, T, ev2.trans ev25, R5, eD5, nD5, nDS, ow5, fr5, nd, Nat.le_succ_of_le hl, er, ey⟩
          | true =>
            simp only [if_true] at er ⊢
            cases e5 : fe ρ4 with
            | bad => rw [e5] at er; cases er
            | exc _ _ => rw [e5] at er; cases er
            | ok yq =>
              obtain ⟨y, ρ6⟩ := yq
              rw [e5, Res.ok_bnd] at er
              refine qe I5 S4 ρ4 σ4 H5 _ (R4.grow g5) ?_
              rw [e5]
              intro v I6 H6 S6 T6 ev6 R6 w6 hT6 n6
              have w6 : Ow K I6 H6 n T6 v y := w6
              cases e6 : compMX true vs p fc fe (ds.drop (i + 1)) (restE vs ρ2 ρ6) with
              | bad => simp only [e6] at er; cases er
              | exc _ _ => simp only [e6] at er; cases er
              | ok zz =>
                obtain ⟨rest', ρz'⟩ := zz
                simp only [e6] at er
                cases er
                obtain ⟨R7, ev7⟩ := R5.unwipe h4 hp o4 ev6 R6
                have eD6 : H6 D = some (.lst acc) := ev6.keep D _ eD5 (nS4 D nDS) fun _ z => nomatch z
                have trD5 : H5 D ≠ none := by rw [eD5]; exact fun z => nomatch z
                have nD6 : ¬ I6 D := fun z => (ev6.new D z).elim nD5 fun q => q.1.elim (nS4 D nDS) trD5
                have inS7 : ∀ a, SU (fun i => if i ∈ vs then S2 i else S6 i) a → SU S2 a ∨ SU S6 a := fun a ⟨j, m⟩ => by
                  have m : a ∈ (if j ∈ vs then S2 j else S6 j) := m
                  by_cases hj : j ∈ vs
                  · rw [if_pos hj] at m; exact .inl ⟨j, m⟩
                  · rw [if_neg hj] at m; exact .inr ⟨j, m⟩
                have off6 : ∀ a, ¬ SU S2 a → H5 a ≠ none → ¬ SU S6 a := fun a n t z => (ev6.own a z).1.elim (nS4 a n) t
                have nD7 : ¬ SU (fun i => if i ∈ vs then S2 i else S6 i) D := fun z => (inS7 D z).elim nDS (off6 D nDS trD5)
                have trT5 : ∀ a ∈ T, H5 a ≠ none := fun a m => (OwA.nod ow5 a m).ne
                have fr6 : ∀ a ∈ T, (SU S a ∨ H1 a = none) ∧ ¬ I6 a ∧ ¬ SU (fun i => if i ∈ vs then S2 i else S6 i) a ∧ a ≠ D := fun a m =>
                  ⟨(fr5 a m).1, fun z => (ev6.new a z).elim (fr5 a m).2.1 fun q => q.1.elim (nS4 a (fr5 a m).2.2.1) (trT5 a m), fun z => (inS7 a z).elim (fr5 a m).2.2.1 (off6 a (fr5 a m).2.2.1 (trT5 a m)), (fr5 a m).2.2.2⟩
                have T6D : ∀ a ∈ T6, a ≠ D := fun a m z => by
                  subst z
                  exact (hT6 a m).1.elim (nS4 a nDS) trD5
                have T6T : ∀ a ∈ T6, a ∉ T := fun a m m' => (hT6 a m).1.elim (nS4 a (fr5 a m').2.2.1) (trT5 a m')
                have hlen : acc.length < sizeLine := by
                  have := ow.len
                  have := wk.len
                  omega
                have R5n : ∀ a, SU S2 a → a ≠ D := fun a z e => nDS (e ▸ z)
                -- the list of items is written
                have k6 : ∀ a o, a ≠ D → H6 a = some o → (upd H6 D (.lst (acc ++ [v]))) a = some o := fun a o na e => by rw [upd_ne na]; exact e
                have hthere : ∀ a, H6 a ≠ none → upd H6 D (.lst (acc ++ [v])) a ≠ none := fun a z => by
                  by_cases hb : a = D
                  · rw [hb, upd_same]; exact fun z => nomatch z
                  · rw [upd_ne hb]; exact z
                have lt8 : Later I6 H6 I6 (upd H6 D (.lst (acc ++ [v]))) := ⟨fun _ z => z, fun a o ia e _ => k6 a o (fun z => nD6 (z ▸ ia)) e, fun a o e f => k6 a o (fun z => by
                  subst z
                  exact f.nod e (.inl ⟨_, eD6⟩)) e⟩
                have R8 : ER K I6 Γ (restE vs ρ2 ρ6) σ (upd H6 D (.lst (acc ++ [v]))) (fun i => if i ∈ vs then S2 i else S6 i) :=
                  ⟨fun j k e => (R7.slot j k e).mono lt8 fun a m o e _ => k6 a o (fun z => nD7 ⟨j, z ▸ m⟩) e, R7.sd, R7.dis, R7.nod, R7.nI, fun a z => hthere a (R7.tr a z), R7.lr, R7.ls, R7.tb.nod (.inl ⟨_, eD6⟩)⟩
                have ev16 := (ev2.trans ev25).trans ev7
                have ev8 : Evo I1 H1 (SU S) I6 (upd H6 D (.lst (acc ++ [v]))) (SU fun i => if i ∈ vs then S2 i else S6 i) :=
                  ⟨ev16.sub, fun a z => (ev16.new a z).imp id fun q => ⟨q.1, hthere a q.2⟩, fun b o e nb n => k6 b o (fun z => by rw [z, hD] at e; cases e) (ev16.keep b o e nb n), fun a z => ⟨(ev16.own a z).1, hthere a (ev16.own a z).2⟩, fun a z => hthere a (ev16.there a z), fun t => (ev16.tab t).nod (.inl ⟨_, eD6⟩)⟩
                have ow6 : OwA K I6 H6 n T acc ds0 := ow5.mono ev6.sub (fun a o ia e n => ev6.keep a o e (fun ⟨j, mj⟩ => R5.nI j a (h4 j a mj).2 ia) n) fun a m o e n => ev6.keep a o e (nS4 a (fr5 a m).2.2.1) n
                have ow8 : OwA K I6 (upd H6 D (.lst (acc ++ [v]))) n T acc ds0 := ow6.mono (fun _ z => z) (fun a o ia e _ => k6 a o (fun z => nD6 (z ▸ ia)) e) fun a m o e _ => k6 a o (fr5 a m).2.2.2 e
                have w8 : Ow K I6 (upd H6 D (.lst (acc ++ [v]))) n T6 v y := w6.mono (fun _ z => z) (fun a o ia e _ => k6 a o (fun z => nD6 (z ▸ ia)) e) fun a m o e _ => k6 a o (T6D a m) e
                have oA := OwA.append ow8 (T := T6 ++ []) (.cons w8 .nil)
                rw [List.append_nil] at oA
                have old6 : ∀ a, SU S2 a ∨ H5 a = none → SU S a ∨ H1 a = none := fun a z => (ev2.trans ev25).old z
                refine ⟨acc, eD6, hlen, hlt, I6, _, _, acc ++ [v], ds0 ++ [y], rest', T ++ T6, ev8, R8, upd_same, nD6, nD7, oA, fun a m => ?_, ?_, ?_, e6, ?_⟩
                · rcases List.mem_append.mp m with m | m
                  · exact fr6 a m
                  · refine ⟨old6 a ((hT6 a m).1.imp (fun ⟨j, mj⟩ => ⟨j, (h4 j a mj).2⟩) id), (hT6 a m).2.1, fun ⟨j, mj⟩ => ?_, T6D a m⟩
                    have mj : a ∈ (if j ∈ vs then S2 j else S6 j) := mj
                    by_cases hj : j ∈ vs
                    · rw [if_pos hj] at mj
                      rcases (hT6 a m).1 with ⟨l, ml⟩ | z
                      · exact R5.dis j l a (fun z => (h4 l a ml).1 (z ▸ hj)) mj (h4 l a ml).2
                      · exact R5.trk a ⟨j, mj⟩ z
                    · rw [if_neg hj] at mj
                      exact (hT6 a m).2.2 ⟨j, mj⟩
                · exact List.nodup_append.mpr ⟨nd, n6, fun a m b m' e => T6T b m' (e ▸ m)⟩
                · rw [List.length_append]
                  simp
                  omega
                · rw [List.append_assoc]
                  exact ey
    · have hi' : i = ds.length := by omega
      subst hi'
      refine .inl ⟨wk.stop I2 H2 lt2, ?_⟩
      rw [List.drop_length] at er
      cases er
      rw [List.append_nil] at ey
      subst ey
      refine h (.ref D) I2 H2 S2 (D :: T) ((g1.evo R.trk).trans ev2) R2 (.lst eD (by rw [ow.len]; exact Nat.le_trans hl wk.len) ow) (fun a m => ?_) ?_
      · rcases List.mem_cons.mp m with e | m
        · rw [e]; exact ⟨.inr (g1.free hD), nD, nDS⟩
        · exact ⟨(fr2 a m).1.imp id g1.free, (fr2 a m).2.1, (fr2 a m).2.2.1⟩
      · exact List.nodup_cons.mpr ⟨fun m => (fr2 D m).2.2.2 rfl, nd⟩
def canX (K : PySem.W.Frag) (mg : Str → Option Value) (E : XK) (Γ : List SK) (k : Option Nat) (f : Env → Res (D × Env)) : TE := fun σ H Q => ∃ (I : Addr → Prop) (S : Nat → List Addr) (ρ : Env), ER K I Γ ρ σ H S ∧ PX K mg E I H (SU S) (PC2 K Γ σ I H S k Q) (f ρ)
theorem DX.can {e : Expr} {k : Option Nat} {f : Env → Res (D × Env)} (h : DX X E Γ e k f) : PE X e (canX X.K X.mg E Γ k f) := by
  obtain ⟨t, p, q⟩ := h.ex
  exact ⟨fun pins s σ H Q I ⟨I0, S, ρ, R, h⟩ => p.run pins s σ H Q I (q I0 S ρ σ H Q R h)⟩
theorem dx_comp {elt tg iter : Expr} {ifs : List Expr} {scope : Scope} {own : List (Str × Nat)} {p : Pat} {fi : Env → Res (List D)} {fc : Env → Res Bool} {fe : Env → Res (D × Env)} (hc : X.calm = true) (hN : X.N.Nodup) (hi : DI X E Γ tg iter true fi) (ok : BlkOk X.N X.env.scope scope own)
    (hg : ∀ (s : Shared) (H : Hp) (C : Addr) (cl : List (Str × Addr)) (fp : List Addr), DG (X.blk s H scope (compEnvC scope cl C X.env) fp) (wipeG Γ (own.map (·.2))) tg p)
    (ht : ∀ (s : Shared) (H : Hp) (C : Addr) (cl : List (Str × Addr)) (fp : List Addr), DTs (X.blk s H scope (compEnvC scope cl C X.env) fp) E0 (setP p (wipeG Γ (own.map (·.2)))) ifs fc)
    (he : ∀ (s : Shared) (H : Hp) (C : Addr) (cl : List (Str × Addr)) (fp : List Addr), DX (X.blk s H scope (compEnvC scope cl C X.env) fp) E0 (setP p (wipeG Γ (own.map (·.2)))) elt (some n) fe)
    (hp : ∀ i ∈ slotsP p, i ∈ own.map (·.2) := by decide) (hs : ∀ x, foldedSetIterable iter X.env x = pure x := by intro _; rfl) : DX X E Γ (.ListComp elt [⟨tg, iter, ifs, 0⟩] scope pos) (some (n + 1)) (dCompX true (own.map (·.2)) fi p fc fe) := by
  obtain ⟨wi, pi, qi⟩ := hi.ex
  refine ⟨_, pe_lc (g := canG X.K (wipeG Γ (own.map (·.2))) p) (tt := canT X.K X.mg E0 (setP p (wipeG Γ (own.map (·.2)))) fc) (te := canX X.K X.mg E0 (setP p (wipeG Γ (own.map (·.2)))) (some n) fe) hc hN pi ok (fun s H C cl fp => (hg s H C cl fp).can) (fun s H C cl fp => (ht s H C cl fp).can) (fun s H C cl fp => (he s H C cl fp).can) hs, fun I S ρ σ H Q R h => ?_⟩
  exact compQX qi (fun I S ρ σ H v d Q ρ' R r hb q => ⟨I, S, ρ, d, ρ', R, r, hb, q⟩) (fun I S ρ σ H Q R h => ⟨I, S, ρ, R, h⟩) (fun I S ρ σ H Q R h => ⟨I, S, ρ, R, h⟩) hp R h
end
end DL

namespace DL
open PySem PySem.Spec PyProof.Rows L2

mutual
theorem reads_of {P : Program} {w : World} {K : PySem.W.Frag} {J : Addr → Prop} {H : Hp} {h : Heap} (hok : HOk P w H h) (KX : K.In h) {v : V} {d : D} : Rp K J H v d → d.hasDict = false → ∀ {u : Value}, RelV v u → ∃ as, Reads h u d as
  | .non, _, u, r => by cases (show u = Value.none from r); exact ⟨_, .none⟩
  | .bl b, _, u, r => by cases (show u = Value.bool b from r); exact ⟨_, .bool b⟩
  | .int i, _, u, r => by obtain ⟨t, rfl⟩ := r; exact ⟨_, .int i t⟩
  | .str x, _, u, r => by obtain ⟨t, rfl⟩ := r; exact ⟨_, .str x t⟩
  | .lst (ds := ds) _ e _ rr, f, u, r => by
    obtain rfl : u = Value.ref _ := r
    obtain ⟨_, its, n, rv, ho⟩ := hok _ _ e
    obtain ⟨as, q⟩ := readsA_of hok KX rr (by simpa [PyData.hasDict] using f) rv
    exact ⟨_, .list ho rfl rfl (by simpa using q)⟩
  | .tup hh _ rr, f, u, r => by
    obtain rfl : u = Value.ref _ := r
    rcases hh with ⟨_, e⟩ | ⟨o, its, n, e, hc, hd, _, rv⟩
    · obtain ⟨_, its, rv, o, ho, hc, n, hd⟩ := hok _ _ e
      obtain ⟨as, q⟩ := readsA_of hok KX rr (by simpa [PyData.hasDict] using f) rv
      exact ⟨_, .tuple ho hc hd (by simpa using q)⟩
    · obtain ⟨as, q⟩ := readsA_of hok KX rr (by simpa [PyData.hasDict] using f) rv
      exact ⟨_, .tuple (KX _ _ e) hc hd q⟩
  | .dK _ _ _, f, u, r => by simp [PyData.hasDict] at f
  | .dT _ _ _, f, u, r => by simp [PyData.hasDict] at f
theorem readsA_of {P : Program} {w : World} {K : PySem.W.Frag} {J : Addr → Prop} {H : Hp} {h : Heap} (hok : HOk P w H h) (KX : K.In h) {vs : List V} {ds : List D} : RpA K J H vs ds → PyData.hasDictAll ds = false → ∀ {us : List Value}, Vals vs us → ∃ as, ReadsAll h us ds as
  | .nil, _, us, r => by cases r; exact ⟨_, .nil⟩
  | .cons a r, f, us, rv => by
    cases rv with
    | cons r1 r2 =>
      have f : (PyData.hasDict _ || PyData.hasDictAll _) = false := f
      rw [Bool.or_eq_false_iff] at f
      obtain ⟨as, q⟩ := reads_of hok KX a f.1 r1
      obtain ⟨bs, q2⟩ := readsA_of hok KX r f.2 r2
      exact ⟨_, .cons q q2⟩
end
/-- what repr makes, where it may -/
def reprD (d : D) : Res D := if d.showable && !d.hasDict && decide (d.depth < 60) && decide (d.shown.length ≤ 16777216) then .ok (.str d.shown) else .bad
section
variable [Wd] {X : Cx} {k : Option Nat} {fr : Bool}
def rReprD (K : PySem.W.Frag) : List V → Hp → VK → Prop := fun xs H Q => ∃ (x : V) (J : Addr → Prop) (d : D), xs = [x] ∧ Rp K J H x d ∧ d.showable = true ∧ d.hasDict = false ∧ d.depth < 60 ∧ d.shown.length ≤ 16777216 ∧ Q (.str d.shown) H
theorem cr_reprD {kx : Nat} (hr : Room kx X.A) (gd : X.A.guards = some []) : CallR X (.builtin "repr") (rReprD X.K) := by
  intro pins s σ H xs us Q I r h
  obtain ⟨x, J, d, rfl, rp, h1, h2, h3, h4, q⟩ := h
  obtain ⟨u, rfl, ru⟩ := vals1 r
  have hz : d.shown.length ≤ sizeLine := by rw [sizeLine_eq]; exact h4
  have un := hr.un
  have hu := hr.units
  cases rp with
  | non =>
    cases (show u = Value.none from ru)
    exact PySem.P.repr_of_none ⟨.str _, H, I.tok _, ⟨_, rfl⟩, q⟩
  | bl b =>
    cases (show u = Value.bool b from ru)
    exact PySem.P.repr_of_bool ⟨.str _, H, I.tok _, ⟨_, rfl⟩, by cases b <;> exact q⟩
  | int i =>
    obtain ⟨t, rfl⟩ := ru
    exact PySem.P.repr_of_int (by simpa [PyData.showable] using h1) ⟨.str _, H, I.tok _, ⟨_, rfl⟩, q⟩
  | str z =>
    obtain ⟨t, rfl⟩ := ru
    exact PySem.P.repr_of_str ⟨.str _, H, I.tok _, ⟨_, rfl⟩, q⟩ hz
  | lst i0 e z rr =>
    obtain rfl : u = Value.ref _ := ru
    obtain ⟨as, rd⟩ := reads_of I.hok I.kIn (.lst i0 e z rr) h2 (u := .ref _) rfl
    exact repr_of_reads' rd h1 (PyData.noDict_hsm h2) gd (by omega) (fun _ _ e => e) (fun h' u tk hk => ⟨.str _, H, I.kept hk, ⟨_, rfl⟩, q⟩) hz
  | tup e z rr =>
    obtain rfl : u = Value.ref _ := ru
    obtain ⟨as, rd⟩ := reads_of I.hok I.kIn (.tup e z rr) h2 (u := .ref _) rfl
    exact repr_of_reads' rd h1 (PyData.noDict_hsm h2) gd (by omega) (fun _ _ e => e) (fun h' u tk hk => ⟨.str _, H, I.kept hk, ⟨_, rfl⟩, q⟩) hz
  | dK _ _ _ => simp [PyData.hasDict] at h2
  | dT _ _ _ => simp [PyData.hasDict] at h2
def nRepr : List D → Res D
  | [d] => reprD d
  | _ => .bad
theorem vn_repr : VN X (rReprD X.K) fr nRepr k := by
  refine ⟨fun ds c v => ?_, fun I H xs ds z Q hI r e q => ?_⟩
  · unfold nRepr
    split
    · unfold reprD; split <;> exact fun z => nomatch z
    · exact fun z => nomatch z
  · unfold nRepr at e
    split at e
    · rename_i d
      cases r with
      | cons rd rn =>
        cases rn
        unfold reprD at e
        split at e
        · rename_i hc
          cases e
          simp only [Bool.and_eq_true, decide_eq_true_eq, Bool.not_eq_true'] at hc
          obtain ⟨⟨⟨h1, h2⟩, h3⟩, h4⟩ := hc
          exact ⟨_, _, d, rfl, rd, h1, h2, h3, h4, pv_at (.str _) q⟩
        · cases e
    · cases e
end
end DL

namespace DL
open PySem PySem.Spec PyProof.Rows L2

/-- at a: the object o -/
def TrkO (a : Addr) (o : Obj) : HO := .ext fun h => h.get? a = some o
theorem TrkO.fx {a : Addr} {o : Obj} : Fx (TrkO a o) := .inl ⟨_, rfl⟩
theorem TrkO.own {a x : Addr} {o : Obj} : TrkO a o ≠ .own x := fun z => by
  have z' : HO.ext _ = HO.own x := z
  cases z'
theorem TrkO.tup {a : Addr} {o : Obj} {xs : List V} : TrkO a o ≠ .tup xs := fun z => by
  have z' : HO.ext _ = HO.tup xs := z
  cases z'
def trk (H : Hp) (G : Addr → Option Obj) : Hp := fun a => match G a with
  | some o => some (TrkO a o)
  | none => H a
def hid (H : Hp) (G : Addr → Option Obj) : Hp := fun a => match G a with
  | some _ => none
  | none => H a
section
variable {P : Program} {w : World} {H H1 : Hp} {h h' : Heap} {G : Addr → Option Obj}
theorem trk_in {a : Addr} {o : Obj} (e : G a = some o) : trk H G a = some (TrkO a o) := by unfold trk; rw [e]
theorem trk_out {a : Addr} (e : G a = none) : trk H G a = H a := by unfold trk; rw [e]
theorem hid_in {a : Addr} {o : Obj} (e : G a = some o) : hid H G a = none := by unfold hid; rw [e]
theorem hid_out {a : Addr} (e : G a = none) : hid H G a = H a := by unfold hid; rw [e]
theorem trkO_at (hok : HOk P w H h) {a : Addr} {o : Obj} (e : H a = some (TrkO a o)) : h.get? a = some o := by
  have x : ObjOk P w H h a (.ext fun h => h.get? a = some o) := hok a _ e
  exact x.1
theorem ok_trk (hok : HOk P w H h) (g : ∀ a o, G a = some o → h.get? a = some o ∧ H a = none) : HOk P w (trk H G) h := fun b u e => by
  have out : ∀ {c : Addr} {v : HO}, H c = some v → trk H G c = some v := fun {c v} q => by
    cases e : G c with
    | some o => rw [(g c o e).2] at q; cases q
    | none => rw [trk_out e]; exact q
  cases eg : G b with
  | some o =>
    rw [trk_in eg] at e
    cases e
    exact ⟨(g b o eg).1, ⟨o, (g b o eg).1⟩, fun h1 h2 p st => st _ p⟩
  | none =>
    rw [trk_out eg] at e
    exact (hok b u e).stay (fun _ _ _ q => q) (fun _ q => out q) fun _ _ q => out q
theorem ok_hid (hok : HOk P w H h) (g : ∀ a o, G a = some o → H a = some (TrkO a o)) : HOk P w (hid H G) h := fun b u e => by
  have out : ∀ {c : Addr} {v : HO}, H c = some v → (∀ o, v ≠ TrkO c o) → hid H G c = some v := fun {c v} q n => by
    cases e : G c with
    | some o => rw [g c o e] at q; exact absurd (Option.some.inj q).symm (n o)
    | none => rw [hid_out e]; exact q
  cases eg : G b with
  | some o => rw [hid_in eg] at e; cases e
  | none =>
    rw [hid_out eg] at e
    exact (hok b u e).stay (fun _ _ _ q => q) (fun _ q => out q fun o z => TrkO.own z.symm) fun _ _ q => out q fun o z => TrkO.tup z.symm
/-- what is tracked for a call's time -/
theorem un_trk {fs : List Addr} (g : ∀ a o, G a = some o → h.get? a = some o ∧ H a = none ∧ a ∉ fs) (un : Un fs [] (trk H G) H1 h h') (hok : HOk P w H1 h') (k : ∀ a o, G a = some o → H1 a = some (TrkO a o)) : Un fs [] H (hid H1 G) h h' := by
  have tn : ∀ {b : Addr} {v : HO}, H b = some v → G b = none := fun {b v} q => by
    cases e : G b with
    | none => rfl
    | some o => rw [(g b o e).2.1] at q; cases q
  refine ⟨fun b o e n hf hx => ?_, fun b o e n hf hx => ?_, fun b o e n hx => ?_, fun b o e hx => un.there b o e hx, fun b xs e => ?_, fun b o u e => ?_, fun b ps e => ?_⟩
  · cases eg : G b with
    | some o' =>
      have := (g b o' eg).1
      rw [e] at this
      cases this
      exact trkO_at hok (k b o eg)
    | none => exact un.keep b o e (by rw [trk_out eg]; exact n) hf hx
  · cases eg : G b with
    | some o' => exact absurd hf (g b o' eg).2.2
    | none => exact un.slot b o e (by rw [trk_out eg]; exact n) hf hx
  · cases eg : G b with
    | some o' => exact hid_in eg
    | none => rw [hid_out eg]; exact un.free b o e (by rw [trk_out eg]; exact n) hx
  · rw [hid_out (tn e)]; exact un.tups b xs (by rw [trk_out (tn e)]; exact e)
  · rw [hid_out (tn e)]; exact un.frzs b o u (by rw [trk_out (tn e)]; exact e)
  · rw [hid_out (tn e)]; exact un.tbls b ps (by rw [trk_out (tn e)]; exact e)
theorem cr_trk {outer : List PySem.Env} {s s' : Shared} {Q : VK} {E : XK} {r : Result} (g : ∀ a o, G a = some o → s.heap.get? a = some o ∧ H a = none ∧ a ∉ frs outer)
    (h : CR (L2.CX P w) outer P w (trk H G) s (fun v H1 => (∀ a o, G a = some o → H1 a = some (TrkO a o)) ∧ Q v (hid H1 G)) (fun c d H1 => (∀ a o, G a = some o → H1 a = some (TrkO a o)) ∧ E c d (hid H1 G)) r s') : CR (L2.CX P w) outer P w H s Q E r s' := by
  cases r with
  | ok fl =>
    cases fl with
    | ret u =>
      obtain ⟨v, H1, os, bare, un, hok, rv, k, q⟩ := h
      exact ⟨v, _, os, bare, un_trk g un hok k, ok_hid hok k, rv, q⟩
    | next => exact False.elim h
    | brk => exact False.elim h
    | cont => exact False.elim h
  | error e =>
    obtain ⟨a, B, H1, cls, d, ea, fl, hok, ub, na, os, bare, k, q⟩ := h
    have tn : ∀ {b : Addr} {v : HO}, H b = some v → G b = none := fun {b v} q => by
      cases e : G b with
      | none => rfl
      | some o => rw [(g b o e).2.1] at q; cases q
    refine ⟨a, B, _, cls, d, ea, fl, ok_hid hok k, ⟨fun b o e n hf => ?_, ub.slot, fun b o e n => ?_, ub.there, fun b xs e => ?_, fun b o u e => ?_, fun b ps e => ?_⟩, ?_, os, bare, q⟩
    · cases eg : G b with
      | some o' =>
        have := (g b o' eg).1
        rw [e] at this
        cases this
        exact trkO_at hok (k b o eg)
      | none => exact ub.keep b o e (by rw [trk_out eg]; exact n) hf
    · cases eg : G b with
      | some o' => exact hid_in eg
      | none => rw [hid_out eg]; exact ub.free b o e (by rw [trk_out eg]; exact n)
    · rw [hid_out (tn e)]; exact ub.tups b xs (by rw [trk_out (tn e)]; exact e)
    · rw [hid_out (tn e)]; exact ub.frzs b o u (by rw [trk_out (tn e)]; exact e)
    · rw [hid_out (tn e)]; exact ub.tbls b ps (by rw [trk_out (tn e)]; exact e)
    · cases eg : G a with
      | some o => exact hid_in eg
      | none => rw [hid_out eg]; exact na
/-- what is tracked is not so for a call's time -/
theorem cr_hid {outer : List PySem.Env} {s s' : Shared} {Q : VK} {E : XK} {r : Result} (hs : HOk P w H s.heap) (g : ∀ a o, G a = some o → H a = some (TrkO a o) ∧ a ∉ frs outer)
    (h : CR (L2.CX P w) outer P w (hid H G) s (fun v H1 => (∀ a o, G a = some o → H1 a = none) → Q v (trk H1 G)) (fun c d H1 => (∀ a o, G a = some o → H1 a = none) → E c d (trk H1 G)) r s') : CR (L2.CX P w) outer P w H s Q E r s' := by
  have ga : ∀ {a o}, G a = some o → s.heap.get? a = some o := fun {a o} e => trkO_at hs (g a o e).1
  have tn : ∀ {b : Addr} {v : HO}, H b = some v → (∀ o, v ≠ TrkO b o) → G b = none := fun {b v} q n => by
    cases e : G b with
    | none => rfl
    | some o => rw [(g b o e).1] at q; exact absurd (Option.some.inj q).symm (n o)
  have nn : ∀ {b : Addr}, H b = none → G b = none := fun {b} q => by
    cases e : G b with
    | none => rfl
    | some o => rw [(g b o e).1] at q; cases q
  cases r with
  | ok fl =>
    cases fl with
    | ret u =>
      obtain ⟨v, H1, os, bare, un, hok, rv, q⟩ := h
      have k : ∀ a o, G a = some o → s'.heap.get? a = some o ∧ H1 a = none := fun a o e => ⟨un.keep a o (ga e) (hid_in e) (g a o e).2 (by simp), un.free a o (ga e) (hid_in e) (by simp)⟩
      refine ⟨v, _, os, bare, ⟨fun b o e n hf hx => un.keep b o e (by rw [hid_out (nn n)]; exact n) hf hx, fun b o e n hf hx => un.slot b o e (by rw [hid_out (nn n)]; exact n) hf hx, fun b o e n hx => ?_, un.there, fun b xs e => ?_, fun b o u e => ?_, fun b ps e => ?_⟩, ok_trk hok k, rv, q fun a o e => (k a o e).2⟩
      · rw [trk_out (nn n)]; exact un.free b o e (by rw [hid_out (nn n)]; exact n) hx
      · have := tn e fun o z => TrkO.tup z.symm
        rw [trk_out this]; exact un.tups b xs (by rw [hid_out this]; exact e)
      · have := tn e fun o z => by cases z
        rw [trk_out this]; exact un.frzs b o u (by rw [hid_out this]; exact e)
      · have := tn e fun o z => by cases z
        rw [trk_out this]; exact un.tbls b ps (by rw [hid_out this]; exact e)
    | next => exact False.elim h
    | brk => exact False.elim h
    | cont => exact False.elim h
  | error e =>
    obtain ⟨a, B, H1, cls, d, ea, fl, hok, ub, na, os, bare, q⟩ := h
    have k : ∀ a o, G a = some o → B.get? a = some o ∧ H1 a = none := fun a o e => ⟨ub.keep a o (ga e) (hid_in e) (g a o e).2, ub.free a o (ga e) (hid_in e)⟩
    refine ⟨a, B, _, cls, d, ea, fl, ok_trk hok k, ⟨fun b o e n hf => ub.keep b o e (by rw [hid_out (nn n)]; exact n) hf, ub.slot, fun b o e n => ?_, ub.there, fun b xs e => ?_, fun b o u e => ?_, fun b ps e => ?_⟩, ?_, os, bare, q fun a o e => (k a o e).2⟩
    · rw [trk_out (nn n)]; exact ub.free b o e (by rw [hid_out (nn n)]; exact n)
    · have := tn e fun o z => TrkO.tup z.symm
      rw [trk_out this]; exact ub.tups b xs (by rw [hid_out this]; exact e)
    · have := tn e fun o z => by cases z
      rw [trk_out this]; exact ub.frzs b o u (by rw [hid_out this]; exact e)
    · have := tn e fun o z => by cases z
      rw [trk_out this]; exact ub.tbls b ps (by rw [hid_out this]; exact e)
    · cases eg : G a with
      | some o =>
        exfalso
        have hb := (k a o eg).1
        obtain ⟨_, hn, _⟩ := fl
        rw [hn] at hb
        cases hb
      | none => rw [trk_out eg]; exact na
end

abbrev lamObj (X : Cx) (params : Arguments) (body : Expr) (scope : Scope) (pm : Value) (c' : Addr) (ctv : Value) : Obj := PySem.W.kla_obj "<lambda>" (X.env.qual ++ "<lambda>") params body scope (cloFrom X.env.cells scope.names []) pm c' ctv
/-- f is a lambda of this body, made in X -/
def LamAt (X : Cx) (params : Arguments) (body : Expr) (scope : Scope) (H : Hp) (f : Addr) : Prop := ∃ (c' : Addr) (pm ctv : Value), H f = some (TrkO f (lamObj X params body scope pm c' ctv)) ∧ H c' = some (LamX.CodeO c' (X.env.qual ++ "<lambda>"))
section
variable [Wd] {X : Cx}
theorem LamAt.later {params : Arguments} {body : Expr} {scope : Scope} {I I1 : Addr → Prop} {H H1 : Hp} {f : Addr} (h : LamAt X params body scope H f) (l : Later I H I1 H1) : LamAt X params body scope H1 f :=
  let ⟨c', pm, ctv, e1, e2⟩ := h; ⟨c', pm, ctv, l.fx _ _ e1 TrkO.fx, l.fx _ _ e2 (.inl ⟨_, rfl⟩)⟩
def tLamK (X : Cx) (params : Arguments) (body : Expr) (scope : Scope) : TE := fun _ H Q => LamX.Tabs Wd.T H ∧ ∀ f H1, (∀ I, Gr I H I H1) → LamAt X params body scope H1 f → Q (.ref f) H1
/-- what the maker of lambdas has -/
structure LamM (X : Cx) (c P : Addr) : Prop where
  tb : LamX.TabB X.base X.mg c P
  code : X.env.code = .ref c
  mem : (P, X.env.qual ++ "<lambda>") ∈ Wd.T
  uni : ∀ p ∈ Wd.T, p.1 = P → p.2 = X.env.qual ++ "<lambda>"
theorem tabs_new {T : List (Addr × Str)} {H : Hp} {P c' : Addr} {q : Str} {ps : Array Value} {pos : Pos} (hT : LamX.Tabs T H) (hu : ∀ p ∈ T, p.1 = P → p.2 = q) (hP : H P = some (.tbl ps)) (ht : TriplesOk ps.toList) (nC : H c' = none)
    (ha : ∀ (pos : Pos) (cv : Value), codeAmong pos ps.toList = some cv → ∃ c, cv = .ref c ∧ H c = some (LamX.CodeO c q)) : LamX.Tabs T (upd (upd H P (.tbl (ps ++ #[rawInt pos.line, rawInt pos.col, .ref c']))) c' (LamX.CodeO c' q)) := fun p hp => by
  have up : ∀ {b : Addr} {o : HO}, H b = some o → b ≠ P → upd (upd H P (.tbl (ps ++ #[rawInt pos.line, rawInt pos.col, .ref c']))) c' (LamX.CodeO c' q) b = some o := fun {b o} e nb => by
    rw [upd_ne (ne_of_none e nC), upd_ne nb]; exact e
  have nt : ∀ {b : Addr} {q0 : Str}, H b = some (LamX.CodeO b q0) → b ≠ P := fun {b q0} e z => by
    rw [z, hP] at e
    exact LamX.codeO_ne ps (Option.some.inj e).symm
  by_cases hb : p.1 = P
  · rw [hu p hp hb, hb]
    have eL : (ps ++ #[rawInt pos.line, rawInt pos.col, .ref c']).toList = ps.toList ++ [rawInt pos.line, rawInt pos.col, .ref c'] := by simp
    refine ⟨_, by rw [upd_ne (ne_of_none hP nC), upd_same], by rw [eL]; exact PySem.TriplesOk_snoc _ _ _ _ ht, fun p' cv hcv => ?_⟩
    rw [eL] at hcv
    rcases LamX.among_app _ ht hcv with z | z
    · obtain ⟨c0, e1, e2⟩ := ha p' cv z
      exact ⟨c0, e1, up e2 (nt e2)⟩
    · exact ⟨c', z, upd_same⟩
  · obtain ⟨ps', a1, a2, a3⟩ := hT p hp
    refine ⟨ps', up a1 hb, a2, fun p' cv hcv => ?_⟩
    obtain ⟨c0, e1, e2⟩ := a3 p' cv hcv
    exact ⟨c0, e1, up e2 (nt e2)⟩
theorem pe_lamK {c P : Addr} {params : Arguments} {body : Expr} {scope : Scope} {pos : Pos} (M : LamM X c P) (L : LamX.LamS X.env.scope scope) (hdef : defaultsOf params X.env = ([], [])) : PE X (.Lambda params body scope pos) (tLamK X params body scope) := by
  refine ⟨fun pins s σ H Q I h => ?_⟩
  obtain ⟨hT, h⟩ := h
  obtain ⟨ps, hP, ht, ha⟩ := hT _ M.mem
  have bm := M.tb.bm.keeps I.bk
  have cd := M.tb.code.keeps I.bk
  have oP : s.heap.get? P = some { cls := .none, data := .fields ps } := I.hok P _ hP
  have clo := closure_ok (L.has I.ok)
  refine PySem.W.kla_eval hdef ?_
  -- the function's object is laid, tracked
  have lay : ∀ (c' : Addr) (pm ctv : Value) (H0 : Hp) (h' : Heap) (t' : Nat), Inv X pins σ H0 { s with heap := h', toks := t' } → (∀ I, Gr I H I H0) → H0 c' = some (LamX.CodeO c' (X.env.qual ++ "<lambda>")) → EP X pins σ Q (.ref h'.objs.size) { s with heap := h'.push (lamObj X params body scope pm c' ctv), toks := t' } := by
    intro c' pm ctv H0 h' t' I0 g0 ec
    have nf : H0 h'.objs.size = none := I0.hok.fresh (Nat.le_refl _)
    have of : (h'.push (lamObj X params body scope pm c' ctv)).get? h'.objs.size = some (lamObj X params body scope pm c' ctv) := Heap.get?_push_size _ rfl
    have I1 := I0.laid (h' := h'.push (lamObj X params body scope pm c' ctv)) (a := h'.objs.size) (o := TrkO h'.objs.size (lamObj X params body scope pm c' ctv)) (t' := t') (fun b u e => Heap.get?_push_of_some _ e) (Nat.le_refl _) ⟨of, ⟨_, of⟩, fun h1 h2 p st => st _ p⟩
    exact ⟨.ref h'.objs.size, _, I1, rfl, h _ _ (fun I => (g0 I).trans (.lay nf)) ⟨c', pm, ctv, upd_same, by rw [upd_ne (ne_of_none ec nf)]; exact ec⟩⟩
  cases hc : codeAmong pos ps.toList with
  | some cv =>
    obtain ⟨c', e, hco⟩ := ha pos cv hc
    subst e
    exact PySem.W.kla_makeFunctionHit (mg := X.mg) (c := c) (P := P) (ps := ps) clo I.ok.glob (I.mod.glob.keeps I.bk) M.code cd oP ht hc bm fun ctv h' tk hx _ => lay c' _ ctv H h' tk (I.kept hx) (fun _ => .refl) hco
  | none =>
    refine PySem.W.kla_makeFunction (mg := X.mg) (c := c) (P := P) (ps := ps) clo I.ok.glob (I.mod.glob.keeps I.bk) M.code cd oP ht hc M.tb.gP bm fun c' ctv h' tk hx hge _ hrec htb => ?_
    obtain ⟨_, oc, vs, t, e2, hoc, hd, hv⟩ := hrec
    cases e2
    have nC : H c' = none := I.hok.fresh hge
    have I1 := LamX.inv_table (t' := tk) (q := X.env.qual ++ "<lambda>") (more := #[rawInt pos.line, rawInt pos.col, .ref c']) (h' := h') I hP (fun b o hb e => hx b o hb e) htb hge ⟨oc, vs, t, hoc, hd, hv⟩
    refine lay c' _ ctv _ h' tk I1 (fun I => ⟨fun _ z => z, fun _ z => .inl z, fun b o e n => ?_, fun {a} z => ?_, fun hT' => tabs_new hT' M.uni hP ht nC ha⟩) upd_same
    · rw [upd_ne (ne_of_none e nC), upd_ne fun z => n ps (Option.some.inj (e.symm.trans (by rw [z]; exact hP)))]
      exact e
    · by_cases hb : a = c'
      · exact absurd (hb ▸ nC) z
      · rw [upd_ne hb]
        by_cases hb2 : a = P
        · rw [hb2, upd_same]; exact fun z => nomatch z
        · rw [upd_ne hb2]; exact z
section
variable {H H1 H' : Hp} {G : Addr → Option Obj} {T : List (Addr × Str)}
theorem tabs_trk (t : LamX.Tabs T H) (g : ∀ a o, G a = some o → H a = none) : LamX.Tabs T (trk H G) := fun p hp => by
  have out : ∀ {b : Addr} {o : HO}, H b = some o → trk H G b = some o := fun {b o} e => by
    cases eg : G b with
    | some o' => rw [g b o' eg] at e; cases e
    | none => rw [trk_out eg]; exact e
  obtain ⟨ps, a1, a2, a3⟩ := t p hp
  refine ⟨ps, out a1, a2, fun pos cv hc => ?_⟩
  obtain ⟨c, e1, e2⟩ := a3 pos cv hc
  exact ⟨c, e1, out e2⟩
theorem tabs_hid {P : Program} {w : World} {h : Heap} (hok : HOk P w H h) (t : LamX.Tabs T H) (g : ∀ a o, G a = some o → H a = some (TrkO a o) ∧ ∃ v, o.data = .cell v) : LamX.Tabs T (hid H G) := fun p hp => by
  obtain ⟨ps, a1, a2, a3⟩ := t p hp
  have hP : G p.1 = none := by
    cases e : G p.1 with
    | none => rfl
    | some o =>
      have := (g _ _ e).1
      rw [a1] at this
      cases this
  refine ⟨ps, by rw [hid_out hP]; exact a1, a2, fun pos cv hc => ?_⟩
  obtain ⟨c, e1, e2⟩ := a3 pos cv hc
  have hc' : G c = none := by
    cases e : G c with
    | none => rfl
    | some o =>
      obtain ⟨q1, v, q2⟩ := g _ _ e
      have o1 := trkO_at hok q1
      obtain ⟨⟨oc, vs, tk, o2, o3, _⟩, _⟩ := hok c _ e2
      rw [o1] at o2
      cases o2
      rw [q2] at o3
      cases o3
  exact ⟨c, e1, by rw [hid_out hc']; exact e2⟩
end
/-- the names of a lambda's body -/
theorem lam_start3 {X : Cx} {pins : List (Addr × Obj)} {σ : L2.St} {H H0 : Hp} {s s1 : Shared} {A : Around} {outer : List PySem.Env} {E : XK} {scope : Scope} {f c' : Addr} {h1 : Heap} {tk : Nat} (I : Inv X pins σ H s) (L : LamX.LamS X.env.scope scope) (e0 : Env0 X.prog X.w X.K X.mg X.base A outer s1 H0) (hd : A.handled = none)
    (cells : ∀ x c o, X.env.cells.lookup x = some c → s.heap.get? c = some o → s1.heap.get? c = some o ∧ H0 c = none) (hns : h1.Ns s1.heap.objs.size fun y => ([] : List (Str × Value)).reverse.lookup y) (kp : ∀ b o, s1.heap.get? b = some o → h1.get? b = some o) :
    Inv (LamX.lamCx X A outer s1 H0 E scope f c') [] σ H0 { s1 with heap := h1, toks := tk } := by
  have hfree := L.has I.ok
  have back : ∀ {y c}, (cloFrom X.env.cells scope.names []).lookup y = some c → X.env.cells.lookup y = some c := fun {y c} e => by
    rcases cloFrom_mem (PySem.mem_of_lookup e) with hm | ⟨q1, q2⟩
    · cases hm
    · obtain ⟨c1, hc⟩ := hfree _ q1 rfl
      have hc : X.env.cells.lookup y = some c1 := hc
      have e2 : c = c1 := by rw [q2, hc] <;> rfl
      rw [e2]; exact hc
  have cellN : ∀ {y}, scope.names.lookup y ≠ some .cell := fun {y} q => (L.own _ (PySem.mem_of_lookup q)).2 rfl
  have locN : ∀ {y}, scope.names.lookup y ≠ some .local := fun {y} q => (L.own _ (PySem.mem_of_lookup q)).1 rfl
  have capt : ∀ {y}, scope.names.lookup y = some .free → ∃ c, (cloFrom X.env.cells scope.names []).lookup y = some c := fun {y} q => mem_lookup (cloFrom_has (cells := X.env.cells) (acc := []) (PySem.mem_of_lookup q))
  have noex : ∀ b : Addr, b ∉ (LamX.lamCx X A outer s1 H0 E scope f c').ex := fun b z => nil_nm z
  constructor
  · constructor
    · exact e0.mod
    · exact L.kind
    · rfl
    · rfl
    · exact Nat.le_refl _
    · exact fun y z c e1 e2 => I.ok.inj y z c (back e1) (back e2)
    · intro y hy
      rcases hy with hy | hy
      · exact absurd hy cellN
      · exact capt hy
    · intro y c z _
      cases (show false = true from z)
    · exact fun _ => hd
    · exact Around.frames_deeper e0.frames
    · exact .inr ⟨rfl, rfl⟩
    · exact fun b z => absurd z (noex b)
    · exact e0.bs
    · exact e0.bsz
    · exact fun b _ _ => noex b
    · exact fun b z => absurd z (noex b)
    · exact e0.funs
    · exact e0.frf
  · rfl
  · exact e0.bare
  · exact Un.kept kp
  · refine ⟨_, hns, fun i y v e1 e2 e3 => ?_⟩
    have e3 : Vis scope y := e3
    rcases e3 with q | q | q
    · exact absurd q locN
    · exact absurd q cellN
    · obtain ⟨m, _, hl⟩ := I.loc
      have up := L.free _ (PySem.mem_of_lookup q) rfl
      obtain ⟨u, r, lk⟩ := hl i y v e1 e2 (up.elim (fun z => .inr (.inl z)) fun z => .inr (.inr z))
      obtain ⟨c2, q2⟩ := capt q
      refine ⟨u, r, .inr ⟨.inr q, c2, q2, ?_⟩⟩
      rcases lk with ⟨k0, _⟩ | ⟨_, c3, k1, o, k2, k3⟩
      · have k0 : X.env.scope.names.lookup y = some .local := k0
        rcases up with z | z <;> (rw [k0] at z; cases z)
      · have := back q2
        rw [k1] at this
        cases this
        exact ⟨o, kp _ _ (cells y _ o k1 k2).1, k3⟩
  · intro y c e
    obtain ⟨v, o, k2, k3⟩ := I.cell y c (back e)
    exact ⟨v, o, kp _ _ (cells y c o (back e) k2).1, k3⟩
  · exact e0.hok.fresh (Nat.le_refl _)
  · intro y c e
    obtain ⟨v, o, k2, k3⟩ := I.cell y c (back e)
    exact (cells y c o (back e) k2).2
  · intro q hq
    exact nil_nm (show q ∈ ([] : List (Addr × Obj)) ++ [] from hq)
  · exact e0.hok.kept kp
  · exact I.len
end

open Classical in
/-- the cells of X's frame as they are -/
noncomputable def cellsAt (X : Cx) (s : Shared) : Addr → Option Obj := fun a => if ∃ x, X.env.cells.lookup x = some a then s.heap.get? a else none
theorem cellsAt_of {X : Cx} {s : Shared} {a : Addr} {o : Obj} (h : cellsAt X s a = some o) : (∃ x, X.env.cells.lookup x = some a) ∧ s.heap.get? a = some o := by
  unfold cellsAt at h
  split at h
  · rename_i q; exact ⟨q, h⟩
  · cases h
theorem cellsAt_in {X : Cx} {s : Shared} {x : Str} {c : Addr} {o : Obj} (h : X.env.cells.lookup x = some c) (e : s.heap.get? c = some o) : cellsAt X s c = some o := by
  unfold cellsAt
  rw [if_pos ⟨x, h⟩]; exact e
section
variable [Wd] {X : Cx} {Γ Γb : List SK}
/-- X is of this world -/
structure InW (X : Cx) : Prop where
  P : X.prog = Wd.P
  w : X.w = Wd.w
  K : X.K = Wd.K
  mg : X.mg = Wd.mg
  base : X.base = Wd.base
/-- all kinds told are shared ones -/
def allSh : List SK → Bool
  | [] => true
  | .da (_ + 1) :: _ => false
  | _ :: r => allSh r
theorem allSh_at : ∀ {Γ : List SK}, allSh Γ = true → ∀ {i n : Nat}, Γ[i]? = some (.da n) → n = 0
  | [], _, i, n, e => by simp at e
  | k :: r, h, 0, n, e => by
    cases Option.some.inj e
    cases n with
    | zero => rfl
    | succ n => cases h
  | k :: r, h, i + 1, n, e => by
    have h : allSh r = true := by
      cases k with
      | da m => cases m with
        | zero => exact h
        | succ m => cases h
      | _ => exact h
    exact allSh_at h (i := i) (by simpa using e)
theorem clo_of {params : Arguments} {body : Expr} {scope : Scope} {pins : List (Addr × Obj)} {σ : L2.St} {H : Hp} {s : Shared} {I : Addr → Prop} {S : Nat → List Addr} {ρ : Env} {f : Addr} {fb : Env → Res D} (N : InW X) (J : Inv X pins σ H s) (R : ER X.K I Γ ρ σ H S) (hl : lessG Γ Γb = true) (hz : allSh Γb = true)
    (hf : LamAt X params body scope H f) (L : LamX.LamS X.env.scope scope) (hbind : ∀ (q : Str) (cl : List (Str × Addr)) (pm cv ctv : Value), bindArgs (PySem.W.kla_fn "<lambda>" q params body scope cl pm cv ctv) ⟨[], []⟩ = pure [])
    (hbody : ∀ (A : Around) (outer : List PySem.Env) (s1 : Shared) (H1 : Hp) (E : XK) (f c' : Addr), Cz (LamX.lamCx X A outer s1 H1 E scope f c') E (Wd.kc - 1) → DP (LamX.lamCx X A outer s1 H1 E scope f c') E Γb body (some 0) fb) (hkc : 0 < Wd.kc) : CloT (lgI Γb I S) (trk H (cellsAt X s)) (.ref f) (fb ρ) := by
  refine ⟨f, rfl, fun I1 H1 l => ⟨fun h hok _ => ?_, fun A outer s1 Q E hr gd e0 hT tr hpx => ?_⟩⟩
  · obtain ⟨c', pm, ctv, ef, _⟩ := hf
    have ng : cellsAt X s f = none := by
      cases q : cellsAt X s f with
      | none => rfl
      | some o =>
        obtain ⟨⟨x, q1⟩, _⟩ := cellsAt_of q
        rw [J.freeC x f q1] at ef
        cases ef
    exact ⟨_, _, _, _, trkO_at hok (l.fx _ _ (by rw [trk_out ng]; exact ef) TrkO.fx)⟩
  have hcell : ∀ {a o}, cellsAt X s a = some o → H a = none ∧ s.heap.get? a = some o ∧ ∃ v, o.data = .cell v := fun {a o} e => by
    obtain ⟨⟨x, q1⟩, q2⟩ := cellsAt_of e
    obtain ⟨v, o', q3, q4⟩ := J.cell x a q1
    rw [q2] at q3
    cases q3
    exact ⟨J.freeC x a q1, q2, v, q4⟩
  have gN : ∀ {a : Addr} {o : HO}, H a = some o → cellsAt X s a = none := fun {a o} e => by
    cases q : cellsAt X s a with
    | none => rfl
    | some o' => rw [(hcell q).1] at e; cases e
  have up : ∀ {a : Addr} {o : HO}, H a = some o → trk H (cellsAt X s) a = some o := fun {a o} e => by rw [trk_out (gN e)]; exact e
  -- what is there then
  obtain ⟨c', pm, ctv, ef, ec⟩ := hf
  have f1 := l.fx _ _ (up ef) TrkO.fx
  have c1 := l.fx _ _ (up ec) (.inl ⟨_, rfl⟩)
  have g1 : ∀ a o, cellsAt X s a = some o → H1 a = some (TrkO a o) := fun a o e => l.fx _ _ (trk_in e) TrkO.fx
  have g2 : ∀ a o, cellsAt X s a = some o → H1 a = some (TrkO a o) ∧ a ∉ frs outer := fun a o e => ⟨g1 a o e, fun z => by
    have := e0.frf a z
    rw [g1 a o e] at this
    cases this⟩
  have g3 : ∀ a o, cellsAt X s a = some o → H1 a = some (TrkO a o) ∧ ∃ v, o.data = .cell v := fun a o e => ⟨g1 a o e, (hcell e).2.2⟩
  have of1 := trkO_at e0.hok f1
  obtain ⟨⟨oc, vs, tq, hoc, hdc, hvc⟩, _⟩ := e0.hok c' _ c1
  have nN : ∀ {a : Addr}, H1 a = none → cellsAt X s a = none := fun {a} e => by
    cases q : cellsAt X s a with
    | none => rfl
    | some o => rw [g1 a o q] at e; cases e
  have gT : ∀ {a : Addr} {o : HO}, H1 a = some o → (∀ o', o ≠ TrkO a o') → cellsAt X s a = none := fun {a o} e n => by
    cases q : cellsAt X s a with
    | none => rfl
    | some o' => rw [g1 a o' q] at e; exact absurd (Option.some.inj e).symm (n o')
  have e1 : Env0 X.prog X.w X.K X.mg X.base A outer s1 (hid H1 (cellsAt X s)) := by
    rw [N.P, N.w, N.K, N.mg, N.base]
    exact ⟨e0.frames, e0.mod, fun b o e => ⟨(e0.bs b o e).1, by rw [hid_out (nN (e0.bs b o e).2)]; exact (e0.bs b o e).2⟩, e0.bsz, e0.funs, fun b z => by rw [hid_out (nN (e0.frf b z))]; exact e0.frf b z, ok_hid e0.hok g1, e0.bare⟩
  refine codeAny_mono (?_ : codeAny _ _ _ (CR (L2.CX Wd.P Wd.w) outer Wd.P Wd.w (hid H1 (cellsAt X s)) s1 (fun v H2 => (∀ a o, cellsAt X s a = some o → H2 a = none) → Q v (trk H2 (cellsAt X s))) (fun c d H2 => (∀ a o, cellsAt X s a = some o → H2 a = none) → E c d (trk H2 (cellsAt X s)))) s1) fun r s' h => cr_hid e0.hok g2 h
  generalize hQ : (fun (v : V) (H2 : Hp) => (∀ a o, cellsAt X s a = some o → H2 a = none) → Q v (trk H2 (cellsAt X s))) = Q'
  generalize hE : (fun (c : Value) (d : Option Addr) (H2 : Hp) => (∀ a o, cellsAt X s a = some o → H2 a = none) → E c d (trk H2 (cellsAt X s))) = E'
  rw [← N.P, ← N.w]
  refine PySem.W.kla_callFunE hr.depth of1 rfl L.co L.gen rfl ⟨c', oc, vs, tq, rfl, hoc, hdc, hvc⟩ ?_
  rw [hbind]
  refine wpAny_pure (wpAny_newFunctionEnv (fun y hy => (L.own y hy).2) (fun y hy => absurd hy (by simp)) (fun h₁ hns hsb => ⟨(e1.mod.nolimit.keeps fun b o e => (e1.bs b o e).1).fresh _ hsb, ?_⟩) L.kind)
  show codeAny _ _ (.expr body (LamX.lamEnv X scope s1.heap.objs.size f c')) _ _
  have kp : ∀ b o, s1.heap.get? b = some o → h₁.get? b = some o := fun b o e => hsb.extBut b o (Nat.ne_of_lt (Heap.lt_size e)) (Heap.get?_push_of_some _ e)
  have J1 : Inv (LamX.lamCx X A outer s1 (hid H1 (cellsAt X s)) E' scope f c') [] σ (hid H1 (cellsAt X s)) { s1 with heap := h₁, toks := s1.toks + ([] : List (Str × Value)).length } :=
    lam_start3 J L e1 hr.hd (fun x c o k1 k2 => ⟨trkO_at e0.hok (g1 c o (cellsAt_in k1 k2)), hid_in (cellsAt_in k1 k2)⟩) hns kp
  have hr1 : Room (Wd.kc - 1) (A.deeper (LamX.lamEnv X scope s1.heap.objs.size f c')) := Room.deeper (hr.mono (by omega)) _
  have cz : Cz (LamX.lamCx X A outer s1 (hid H1 (cellsAt X s)) E' scope f c') E' (Wd.kc - 1) :=
    ⟨passes_call (W := fun cls d _ H => E' cls d H) (takes_of rfl rfl rfl rfl) fun _ _ _ _ h => h, hr1, gd, takes_of rfl rfl rfl rfl⟩
  obtain ⟨t, pb, qb⟩ := (hbody A outer s1 (hid H1 (cellsAt X s)) E' f c' cz).ex
  -- the captured names
  have l0 : Later (lgI Γb I S) H (fun a => I1 a ∧ cellsAt X s a = none) (hid H1 (cellsAt X s)) :=
    ⟨fun a ia => ⟨l.sub a ia, by
      cases q : H a with
      | none => exact absurd q ((R.less hl).tr a ia)
      | some o => exact gN q⟩, fun a o ia e n => by rw [hid_out (gN e)]; exact l.shr a o ia (up e) n, fun a o e fx => by rw [hid_out (gN e)]; exact l.fx a o (up e) fx⟩
  have R0 := R.less hl
  have kS : ∀ i, keepS Γb S i = [] := fun i => by
    unfold keepS
    split
    · rename_i n e
      exact absurd (allSh_at hz e) (Nat.succ_ne_zero n)
    · rfl
  have Rb : ER X.K (fun a => I1 a ∧ cellsAt X s a = none) Γb ρ σ (hid H1 (cellsAt X s)) (fun _ => []) :=
    ⟨fun i k e => by
      have := R0.slot i k e
      rw [kS i] at this
      exact this.mono l0 fun a m => nil_nm m, fun i a m => nil_nm m, fun i j a _ m _ => nil_nm m, fun i => .nil, fun i a m => nil_nm m, fun a ia => by rw [hid_out ia.2]; exact tr a ia.1, R0.lr, R0.ls, tabs_hid e0.hok hT g3⟩
  -- back
  have back : ∀ {I' : Addr → Prop} {H' : Hp} {S1 S' : Addr → Prop}, (∀ a, ¬ S1 a) → (∀ a, ¬ S' a) → Evo (fun a => I1 a ∧ cellsAt X s a = none) (hid H1 (cellsAt X s)) S1 I' H' S' → (∀ a o, cellsAt X s a = some o → H' a = none) →
      Gr I1 H1 (fun a => I1 a ∨ I' a) (trk H' (cellsAt X s)) := fun {I' H' S1 S'} n1 n2 ev gn => by
    refine ⟨fun a z => .inl z, fun a z => ?_, fun b o e n => ?_, fun {a} z => ?_, fun t => tabs_trk (ev.tab (tabs_hid e0.hok t g3)) gn⟩
    · rcases z with z | z
      · exact .inl z
      · rcases ev.new a z with z | ⟨z, z'⟩
        · exact .inl z.1
        · have hg : cellsAt X s a = none := by
            cases q : cellsAt X s a with
            | none => rfl
            | some o => exact absurd (gn a o q) z'
          rcases z with z | z
          · exact absurd z (n1 a)
          · rw [hid_out hg] at z
            exact .inr ⟨z, by rw [trk_out hg]; exact z'⟩
    · cases q : cellsAt X s b with
      | some o' =>
        rw [g1 b o' q] at e
        cases e
        exact trk_in q
      | none => rw [trk_out q]; exact ev.keep b o (by rw [hid_out q]; exact e) (n1 b) n
    · cases q : cellsAt X s a with
      | some o' => rw [trk_in q]; exact fun z => nomatch z
      | none => rw [trk_out q]; exact ev.there a (by rw [hid_out q]; exact z)
  have rpB : ∀ {I' : Addr → Prop} {H' : Hp} {v : V} {d : D}, (∀ a o, cellsAt X s a = some o → H' a = none) → Rp X.K I' H' v d → Rp Wd.K (fun a => I1 a ∨ I' a) (trk H' (cellsAt X s)) v d := fun {I' H' v d} gn r => by
    rw [← N.K]
    refine r.mono (fun _ z => .inr z) fun a o _ e _ => ?_
    cases q : cellsAt X s a with
    | some o' => rw [gn a o' q] at e; cases e
    | none => rw [trk_out q]; exact e
  have wish : PX X.K X.mg E' (fun a => I1 a ∧ cellsAt X s a = none) (hid H1 (cellsAt X s)) (SU fun _ => []) (PV X (fun a => I1 a ∧ cellsAt X s a = none) (hid H1 (cellsAt X s)) (some 0) Q') (fb ρ) := by
    have nS : ∀ a, ¬ SU (fun _ => ([] : List Addr)) a := fun a ⟨_, m⟩ => nil_nm m
    cases e : fb ρ with
    | bad => rw [e] at hpx; exact hpx.elim
    | ok d =>
      rw [e] at hpx
      intro v I' H' T g vr nw
      rw [← hQ]
      intro gn
      have vr : Ow X.K I' H' 0 T v d := vr
      cases vr with
      | sh r => exact hpx v _ _ (back nS nS (g.evo fun a z => absurd z (nS a)) gn) (rpB gn r)
    | exc c d =>
      rw [e] at hpx
      intro C a v I' H' S' hm ev r x
      rw [← hE]
      intro gn
      rw [N.mg] at hm
      have hpx : WX Wd.K Wd.mg E I1 H1 (fun _ => False) c d := hpx
      have nS' : ∀ a, ¬ (fun _ => False : Addr → Prop) a := fun _ z => z
      have ev' : Evo (fun a => I1 a ∧ cellsAt X s a = none) (hid H1 (cellsAt X s)) (SU fun _ => []) I' H' (fun _ => False) := ⟨ev.sub, ev.new, ev.keep, fun _ z => z.elim, ev.there, ev.tab⟩
      have g := back nS nS' ev' gn
      refine hpx C a v _ _ (fun _ => False) hm (g.evo fun _ z => z.elim) (rpB gn r) ?_
      cases q : cellsAt X s a with
      | some o' => rw [gn a o' q] at x; cases x
      | none => rw [trk_out q]; exact x
  have run := pb.run [] _ σ _ Q' J1 (qb _ _ ρ σ _ Q' Rb wish)
  refine PySem.W.kla_codeExpr (wpAny_mono run (fun v s' hq => ?_) fun e s' hq => hq)
  obtain ⟨w', H', J', rv, q⟩ := hq
  exact ⟨w', H', J'.os, J'.bare, J'.base, J'.hok, rv, q⟩
end
end DL

namespace DL
open PySem PySem.Spec PyProof.Rows L2

theorem _root_.PySem.Paired.imp {α β : Type} {F G : α → β → Prop} {l : List α} {m : List β} (h : Paired F l m) (f : ∀ a b, F a b → G a b) : Paired G l m := by
  induction h with
  | nil => exact .nil
  | cons a r ih => exact .cons (f _ _ a) ih
section
variable [Wd]
/-- a def's promise: parameters of any kinds without owned nodes -/
def spC (K : PySem.W.Frag) (mg : Str → Option Value) (Γp : List SK) (kk : SK) (m : List W → Res W) : Sp := fun vs H Q E => ∃ (I : Addr → Prop) (ws : List W), (∀ a, I a → H a ≠ none) ∧ LamX.Tabs Wd.T H ∧ vs.length = Γp.length ∧ ws.length = Γp.length ∧
  (∀ (i : Nat) (k : SK), Γp[i]? = some k → SlotR K I H k [] (vs[i]?.map some) ws[i]?) ∧ PX K mg E I H (fun _ => False) (fun w => ∀ v I' H' T, Gr I H I' H' → SlotR K I' H' kk T (some (some v)) (some w) → New I H I' T → (∀ a ∈ T, ∃ n, kk = .da n) → Q v H') (m ws)
/-- kinds kept or let go, no ownership changed -/
def sameG : List SK → List SK → Bool
  | [], [] => true
  | _ :: r, .no :: s => sameG r s
  | .da 0 :: r, .da 0 :: s => sameG r s
  | .cl :: r, .cl :: s => sameG r s
  | .cls :: r, .cls :: s => sameG r s
  | .er :: r, .er :: s => sameG r s
  | .fn :: r, .fn :: s => sameG r s
  | .sc :: r, .sc :: s => sameG r s
  | _, _ => false
theorem sameG_less : ∀ {Γ Γ' : List SK}, sameG Γ Γ' = true → lessG Γ Γ' = true ∧ allSh Γ' = true ∧ ∀ i : Nat, Γ'[i]? = some (.da 0) → Γ[i]? = some (.da 0)
  | [], [], _ => ⟨rfl, rfl, fun i e => by simp at e⟩
  | [], _ :: _, h => by simp [sameG] at h
  | _ :: _, [], h => by simp [sameG] at h
  | a :: r, b :: s, h => by
    have key : ∀ (hr : sameG r s = true) (h1 : lessK a b = true) (h2 : b = .da 0 → a = .da 0) (h3 : ∀ n, b ≠ .da (n + 1)), lessG (a :: r) (b :: s) = true ∧ allSh (b :: s) = true ∧ ∀ i : Nat, (b :: s)[i]? = some (.da 0) → (a :: r)[i]? = some (.da 0) := by
      intro hr h1 h2 h3
      obtain ⟨q1, q2, q3⟩ := sameG_less hr
      refine ⟨?_, ?_, fun i e => ?_⟩
      · show (lessK a b && lessG r s) = true
        rw [h1, q1]; rfl
      · cases b with
        | da n => cases n with
          | zero => exact q2
          | succ n => exact absurd rfl (h3 n)
        | _ => exact q2
      · cases i with
        | zero =>
          have e := Option.some.inj (show some b = some (.da 0) from e)
          show some a = _
          rw [h2 e]
        | succ i => exact q3 i (by simpa using e)
    cases b with
    | no => exact key (by simpa [sameG] using h) (by cases a <;> rfl) (fun z => nomatch z) (fun n z => nomatch z)
    | da m =>
      cases a <;> cases m <;> first | (simp [sameG] at h; done) | skip
      rename_i n
      cases n with
      | zero => exact key (by simpa [sameG] using h) rfl (fun _ => rfl) (fun n z => by cases z)
      | succ n => simp [sameG] at h
    | cl => cases a <;> first | (simp [sameG] at h; done) | exact key (by simpa [sameG] using h) rfl (fun z => nomatch z) (fun n z => nomatch z)
    | cls => cases a <;> first | (simp [sameG] at h; done) | exact key (by simpa [sameG] using h) rfl (fun z => nomatch z) (fun n z => nomatch z)
    | er => cases a <;> first | (simp [sameG] at h; done) | exact key (by simpa [sameG] using h) rfl (fun z => nomatch z) (fun n z => nomatch z)
    | fn => cases a <;> first | (simp [sameG] at h; done) | exact key (by simpa [sameG] using h) rfl (fun z => nomatch z) (fun n z => nomatch z)
    | sc => cases a <;> first | (simp [sameG] at h; done) | exact key (by simpa [sameG] using h) rfl (fun z => nomatch z) (fun n z => nomatch z)
/-- a lambda's body, fit for X -/
structure LivC (X : Cx) (Γ : List SK) (params : Arguments) (body : Expr) (scope : Scope) (fb : Env → Res D) : Prop where
  ls : LamX.LamS X.env.scope scope
  bind : ∀ (q : Str) (cl : List (Str × Addr)) (pm cv ctv : Value), bindArgs (PySem.W.kla_fn "<lambda>" q params body scope cl pm cv ctv) ⟨[], []⟩ = pure []
  body : ∃ Γb, sameG Γ Γb = true ∧ ∀ (A : Around) (outer : List PySem.Env) (s1 : Shared) (H1 : Hp) (E : XK) (f c' : Addr), Cz (LamX.lamCx X A outer s1 H1 E scope f c') E (Wd.kc - 1) → DP (LamX.lamCx X A outer s1 H1 E scope f c') E Γb body (some 0) fb
/-- a closure in the making: its frame is X's -/
def LivV (X : Cx) (Γ : List SK) (ρ : Env) (H : Hp) (v : V) (g : Res D) : Prop := ∃ (f : Addr) (params : Arguments) (body : Expr) (scope : Scope) (fb : Env → Res D), v = .ref f ∧ g = fb ρ ∧ LivC X Γ params body scope fb ∧ LamAt X params body scope H f
theorem LivV.later {X : Cx} {Γ : List SK} {ρ : Env} {I I1 : Addr → Prop} {H H1 : Hp} {v : V} {g : Res D} (h : LivV X Γ ρ H v g) (l : Later I H I1 H1) : LivV X Γ ρ H1 v g :=
  let ⟨f, ps, b, sc, fb, e1, e2, c, la⟩ := h; ⟨f, ps, b, sc, fb, e1, e2, c, la.later l⟩
/-- an argument -/
def ArgR (X : Cx) (Γ : List SK) (ρ : Env) (I : Addr → Prop) (H : Hp) (k : SK) (v : V) (w : W) : Prop :=
  SlotR X.K I H k [] (some (some v)) (some w) ∨ (k = .cl ∧ ∃ g, w = .c g ∧ LivV X Γ ρ H v g) ∨ (k = .cls ∧ ∃ (a : Addr) (xs : List V) (gs : List (Res D)), v = .ref a ∧ w = .cs gs ∧ I a ∧ H a = some (.lst xs) ∧ xs.length ≤ sizeLine ∧ Paired (LivV X Γ ρ H) xs gs)
theorem ArgR.grow {X : Cx} {Γ : List SK} {ρ : Env} {I I1 : Addr → Prop} {H H1 : Hp} {k : SK} {v : V} {w : W} (h : ArgR X Γ ρ I H k v w) (g : Gr I H I1 H1) : ArgR X Γ ρ I1 H1 k v w := by
  have l := g.later
  rcases h with h | ⟨e, gg, ew, h⟩ | ⟨e, a, xs, gs, ev, ew, i, ha, hz, h⟩
  · exact .inl (h.mono l fun a m => nil_nm m)
  · exact .inr (.inl ⟨e, gg, ew, h.later l⟩)
  · refine .inr (.inr ⟨e, a, xs, gs, ev, ew, l.sub a i, l.shr a _ i ha (fun _ z => nomatch z), hz, ?_⟩)
    exact h.imp fun _ _ z => z.later l
variable {X : Cx} {pins : List (Addr × Obj)} {σ : L2.St} {H H' : Hp} {s : Shared} {I I' : Addr → Prop} {Γ : List SK} {ρ : Env} {S : Nat → List Addr}
theorem cells_at (J : Inv X pins σ H s) {a : Addr} {o : Obj} (e : cellsAt X s a = some o) : H a = none ∧ s.heap.get? a = some o ∧ ∃ v, o.data = .cell v := by
  obtain ⟨⟨x, q1⟩, q2⟩ := cellsAt_of e
  obtain ⟨v, o', q3, q4⟩ := J.cell x a q1
  rw [q2] at q3
  cases q3
  exact ⟨J.freeC x a q1, q2, v, q4⟩
theorem cells_no (J : Inv X pins σ H s) {a : Addr} (e : H a ≠ none) : cellsAt X s a = none := by
  cases q : cellsAt X s a with
  | none => rfl
  | some o => exact absurd (cells_at J q).1 e
theorem cells_som (J : Inv X pins σ H s) {a : Addr} {o : HO} (e : H a = some o) : cellsAt X s a = none := cells_no J (by rw [e]; exact fun z => nomatch z)
theorem trk_later (J : Inv X pins σ H s) : Later I H I (trk H (cellsAt X s)) := ⟨fun _ z => z, fun a o _ e _ => by rw [trk_out (cells_som J e)]; exact e, fun a o e _ => by rw [trk_out (cells_som J e)]; exact e⟩
theorem LivV.close {v : V} {g : Res D} (N : InW X) (J : Inv X pins σ H s) (R : ER X.K I Γ ρ σ H S) (hkc : 0 < Wd.kc) (h : LivV X Γ ρ H v g) : CloT I (trk H (cellsAt X s)) v g := by
  obtain ⟨f, ps, b, sc, fb, rfl, rfl, L, la⟩ := h
  obtain ⟨Γb, hs, hb⟩ := L.body
  obtain ⟨h1, h2, h3⟩ := sameG_less hs
  refine (clo_of N J R h1 h2 la L.ls L.bind hb hkc).mono ⟨fun a z => ?_, fun _ _ _ e _ => e, fun _ _ e _ => e⟩
  rcases z with z | ⟨i, e, m⟩
  · exact z
  · obtain ⟨v, d, _, _, o⟩ := R.slot i _ (h3 i e)
    generalize S i = T at o m
    cases o with
    | sh _ => cases m
theorem ArgR.close {k : SK} {v : V} {w : W} (N : InW X) (J : Inv X pins σ H s) (R : ER X.K I Γ ρ σ H S) (hkc : 0 < Wd.kc) (h : ArgR X Γ ρ I H k v w) : SlotR X.K I (trk H (cellsAt X s)) k [] (some (some v)) (some w) := by
  rcases h with h | ⟨rfl, g, rfl, h⟩ | ⟨rfl, a, xs, gs, rfl, rfl, i, ha, hz, h⟩
  · exact h.mono (trk_later J) fun a m => nil_nm m
  · exact ⟨v, g, rfl, rfl, h.close N J R hkc⟩
  · exact ⟨_, gs, rfl, rfl, a, xs, rfl, i, by rw [trk_out (cells_som J ha)]; exact ha, hz, h.imp fun _ _ z => z.close N J R hkc⟩
theorem tabs_hid2 {T : List (Addr × Str)} (J : Inv X pins σ H s) (t : LamX.Tabs T H') (g : ∀ a o, cellsAt X s a = some o → H' a = some (TrkO a o)) : LamX.Tabs T (hid H' (cellsAt X s)) := fun p hp => by
  obtain ⟨ps, a1, a2, a3⟩ := t p hp
  have hP : cellsAt X s p.1 = none := by
    cases e : cellsAt X s p.1 with
    | none => rfl
    | some o =>
      have := g _ _ e
      rw [a1] at this
      cases this
  refine ⟨ps, by rw [hid_out hP]; exact a1, a2, fun pos cv hc => ?_⟩
  obtain ⟨c, e1, e2⟩ := a3 pos cv hc
  have hc' : cellsAt X s c = none := by
    cases e : cellsAt X s c with
    | none => rfl
    | some o =>
      obtain ⟨_, q2, v, q3⟩ := cells_at J e
      have z := g _ _ e
      rw [e2] at z
      have z : (HO.ext fun h => ∃ (oc : Obj) (vs : Array Value) (t : Tok), h.get? c = some oc ∧ oc.data = .fields vs ∧ vs[1]? = some (.str p.2 t)) = HO.ext fun h => h.get? c = some o := Option.some.inj z
      have z := congrFun (HO.ext.inj z) s.heap
      obtain ⟨oc, vs, tk, o2, o3, _⟩ := z.mpr q2
      rw [q2] at o2
      cases o2
      rw [q3] at o3
      cases o3
  exact ⟨c, e1, by rw [hid_out hc']; exact e2⟩
/-- behind the call -/
theorem hid_evo {S0 S1 : Addr → Prop} (J : Inv X pins σ H s) (ev : Evo I (trk H (cellsAt X s)) S0 I' H' S1) (n0 : ∀ a, ¬ S0 a) (n1 : ∀ a, ¬ S1 a) : (∀ a o, cellsAt X s a = some o → H' a = some (TrkO a o)) ∧ Gr I H I' (hid H' (cellsAt X s)) := by
  have k : ∀ a o, cellsAt X s a = some o → H' a = some (TrkO a o) := fun a o e => ev.keep a _ (trk_in e) (n0 a) TrkO.fx.nt
  refine ⟨k, ev.sub, fun a z => ?_, fun b o e n => ?_, fun {a} z => ?_, fun t => tabs_hid2 J (ev.tab (tabs_trk t fun a o e => (cells_at J e).1)) k⟩
  · rcases ev.new a z with z | ⟨z, z'⟩
    · exact .inl z
    · have z := z.resolve_left (n0 a)
      have hg : cellsAt X s a = none := by
        cases q : cellsAt X s a with
        | none => rfl
        | some o => rw [trk_in q] at z; cases z
      rw [trk_out hg] at z
      exact .inr ⟨z, by rw [hid_out hg]; exact z'⟩
  · have hg := cells_som J e
    rw [hid_out hg]
    exact ev.keep b o (by rw [trk_out hg]; exact e) (n0 b) n
  · have hg := cells_no J z
    rw [hid_out hg]
    exact ev.there a (by rw [trk_out hg]; exact z)
theorem hid_slot {kk : SK} {T : List Addr} {v : V} {w : W} {K : PySem.W.Frag} (J : Inv X pins σ H s) (k : ∀ a o, cellsAt X s a = some o → H' a = some (TrkO a o)) (hI : ∀ a, I' a → cellsAt X s a = none) (hk : (∃ n, kk = .da n) ∨ kk = .er) (h : SlotR K I' H' kk T (some (some v)) (some w)) : SlotR K I' (hid H' (cellsAt X s)) kk T (some (some v)) (some w) := by
  have gN : ∀ {a : Addr} {o : HO}, H' a = some o → (∀ o', cellsAt X s a = some o' → o ≠ TrkO a o') → hid H' (cellsAt X s) a = some o := fun {a o} e n => by
    cases q : cellsAt X s a with
    | none => rw [hid_out q]; exact e
    | some o' =>
      have := k a o' q
      rw [e] at this
      exact absurd (Option.some.inj this) (n o' q)
  have gI : ∀ a o, I' a → H' a = some o → NT o → hid H' (cellsAt X s) a = some o := fun a o ia e _ => by rw [hid_out (hI a ia)]; exact e
  rcases hk with ⟨n, rfl⟩ | rfl
  · obtain ⟨v', d, e1, e2, o⟩ := h
    have nd := o.nod
    refine ⟨v', d, e1, e2, o.mono (fun _ z => z) gI fun a m o e _ => gN e fun o' _ z => ?_⟩
    rcases nd a m with ⟨_, q⟩ | ⟨_, q⟩ | ⟨_, q⟩ <;> (rw [e] at q; cases q; cases z)
  · obtain ⟨v', x, e1, e2, o⟩ := h
    refine ⟨v', x, e1, e2, ?_⟩
    rcases o with o | ⟨a, C, dx, c, d, y, q1, q2, q3, q4, q5, q6⟩
    · exact .inl o
    · refine .inr ⟨a, C, dx, c, d, y, q1, q2, q3, gN q4 fun o' e z => ?_, gN q5 (fun o' _ z => by cases z), q6.mono (fun _ z => z) gI⟩
      obtain ⟨_, r2, v2, r3⟩ := cells_at J e
      have z : (HO.ext fun h => ∃ (o : Obj) (vs : Array Value), h.get? a = some o ∧ o.cls = .ref C ∧ o.dict = some dx ∧ o.data = .fields vs) = HO.ext fun h => h.get? a = some o' := z
      have z := congrFun (HO.ext.inj z) s.heap
      obtain ⟨oc, vs, o2, _, _, o3⟩ := z.mpr r2
      rw [r2] at o2
      cases o2
      rw [r3] at o3
      cases o3
/-- the cells are the frame's own -/
theorem trk_env0 (J : Inv X pins σ H s) (hfn : ∀ x, X.fn x = true) : Env0 X.prog X.w X.K X.mg X.base X.A X.stack s (trk H (cellsAt X s)) ∧ ∀ a o, cellsAt X s a = some o → s.heap.get? a = some o ∧ H a = none ∧ a ∉ frs X.stack := by
  have e0 := J.env0
  have big : ∀ {a o}, cellsAt X s a = some o → X.s_0.heap.objs.size ≤ a ∧ a ≠ X.env.locals := fun {a o} e => by
    obtain ⟨⟨x, q1⟩, q2⟩ := cellsAt_of e
    exact ⟨J.ok.cab x a (hfn x) q1, J.cne x a q1⟩
  have nf : ∀ {a o}, cellsAt X s a = some o → a ∉ frs X.stack := fun {a o} e z => by
    rcases List.mem_cons.mp (J.stkSub a z) with z | z
    · exact (big e).2 z
    · obtain ⟨_, o', ho, _⟩ := J.ok.funs.mem z
      exact Nat.lt_irrefl _ (Nat.lt_of_lt_of_le (Heap.lt_size ho) (big e).1)
  refine ⟨⟨e0.frames, e0.mod, fun b o e => ?_, e0.bsz, e0.funs, fun b z => ?_, ok_trk e0.hok fun a o e => ⟨(cells_at J e).2.1, (cells_at J e).1⟩, e0.bare⟩, fun a o e => ⟨(cells_at J e).2.1, (cells_at J e).1, nf e⟩⟩
  · refine ⟨(e0.bs b o e).1, ?_⟩
    have : cellsAt X s b = none := by
      cases q : cellsAt X s b with
      | none => rfl
      | some o' => exact absurd (Nat.lt_of_lt_of_le (Nat.lt_of_lt_of_le (Heap.lt_size e) J.ok.bsz) (big q).1) (Nat.lt_irrefl _)
    rw [trk_out this]; exact (e0.bs b o e).2
  · have : cellsAt X s b = none := by
      cases q : cellsAt X s b with
      | none => rfl
      | some o' => exact absurd z (nf q)
    rw [trk_out this]; exact e0.frf b z
variable {E : XK} {kx kf : Nat} {fa : Addr} {fd : FuncData} {ps : List Str} {x : Str} {p pos : Pos} {e : Expr} {es : List Expr} {Γp : List SK} {kk : SK} {m : List W → Res W}
def Args (X : Cx) (Γ : List SK) (ρ : Env) (I : Addr → Prop) (H : Hp) (Γp : List SK) (vs : List V) (ws : List W) : Prop := vs.length = Γp.length ∧ ws.length = Γp.length ∧ ∀ (i : Nat) (k : SK) (v : V) (w : W), Γp[i]? = some k → vs[i]? = some v → ws[i]? = some w → ArgR X Γ ρ I H k v w
/-- what is wanted of a value of a kind -/
abbrev PK2 (X : Cx) (I : Addr → Prop) (H : Hp) (kk : SK) (Q : VK) : W → Prop := fun w => ∀ v I' H' T, Gr I H I' H' → SlotR X.K I' H' kk T (some (some v)) (some w) → New I H I' T → (∀ a ∈ T, ∃ n, kk = .da n) → Q v H'
theorem pe_callC {t : TA} (F : FnG X.prog X.w X.K X.mg X.base kf fa fd ps (spC X.K X.mg Γp kk m)) (c : Cz X E kx) (hk : kf ≤ kx) (N : InW X) (hfn : ∀ x, X.fn x = true) (hkc : 0 < Wd.kc) (hkk : (∃ n, kk = .da n) ∨ kk = .er) (hg : Gl X x) (hm : X.mg x = some (.ref fa)) (hkp : PySem.W.keepIn X.K (.ref fa) = true) (hb : Binds X.K fd ps []) (ha : PA X (e :: es) t)
    (hdb : (x == ("__debug__" : Str)) = false := by decide) (he : starEach (e :: es) X.env = (false, eval e X.env) :: starEach es X.env := by rfl) (hpl : (backTo pos (starEach es X.env)).any (·.1) = false := by rfl) :
    PE X (.Call (.Name x p) (e :: es) [] pos) (fun σ H Q => t σ H fun vs H1 => ∃ I S ρ ws, ER X.K I Γ ρ σ H1 S ∧ Args X Γ ρ I H1 Γp vs ws ∧ PX X.K X.mg E I H1 (SU S) (PK2 X I H1 kk Q) (m ws)) := by
  refine ⟨fun pins s σ H Q I0 h => wpAny_Call_Name_kw (ld_glob I0 hg hm ?_ hdb)⟩
  refine PySem.W.callWith_K (h₀ := X.base) I0.ok.mod.kin hkp (thn (ha.run pos pins s σ H _ I0 h) fun us s1 ⟨vs, H1, J, r, I, S, ρ, ws, R, ⟨l1, l2, ar⟩, h1⟩ => ⟨J.kIn, ?_⟩) he hpl
  obtain ⟨e1, g1⟩ := trk_env0 J hfn
  have hS : ∀ a, I a → cellsAt X s1 a = none := fun a ia => cells_no J (R.tr a ia)
  have nF : ∀ a, ¬ (fun _ => False : Addr → Prop) a := fun _ z => z
  have tr1 : ∀ a, I a → trk H1 (cellsAt X s1) a ≠ none := fun a ia => by rw [trk_out (hS a ia)]; exact R.tr a ia
  -- the promise, where the cells are tracked
  have hsp : spC X.K X.mg Γp kk m vs (trk H1 (cellsAt X s1)) (fun v H2 => (∀ a o, cellsAt X s1 a = some o → H2 a = some (TrkO a o)) ∧ Q v (hid H2 (cellsAt X s1))) (fun cl d H2 => (∀ a o, cellsAt X s1 a = some o → H2 a = some (TrkO a o)) ∧ E cl d (hid H2 (cellsAt X s1))) := by
    refine ⟨I, ws, tr1, tabs_trk R.tb fun a o e => (cells_at J e).1, l1, l2, fun i k ei => ?_, ?_⟩
    · have hi : i < Γp.length := (List.getElem?_eq_some_iff.mp ei).1
      have q1 := List.getElem?_eq_getElem (l := vs) (i := i) (by omega)
      have q2 := List.getElem?_eq_getElem (l := ws) (i := i) (by omega)
      rw [q1, q2]
      exact (ar i k _ _ ei q1 q2).close N J R hkc
    · cases e3 : m ws with
      | bad => rw [e3] at h1; exact h1.elim
      | exc cl d =>
        rw [e3] at h1
        intro C a v I' H' S' hm' ev rv xd
        have ev' : Evo I (trk H1 (cellsAt X s1)) (fun _ => False) I' H' (fun _ => False) := ⟨ev.sub, ev.new, ev.keep, fun _ z => z.elim, ev.there, ev.tab⟩
        obtain ⟨k2, g2⟩ := hid_evo J ev' nF nF
        have hI' : ∀ a, I' a → cellsAt X s1 a = none := fun a ia => by
          rcases g2.new a ia with z | ⟨_, z⟩
          · exact hS a z
          · cases q : cellsAt X s1 a with
            | none => rfl
            | some o => rw [hid_in q] at z; exact absurd rfl z
        have h1 : WX X.K X.mg E I H1 (SU S) cl d := h1
        refine ⟨k2, h1 C a v I' _ (SU S) hm' (g2.evo R.trk) (rv.mono (fun _ z => z) fun b o ib e _ => by rw [hid_out (hI' b ib)]; exact e) ?_⟩
        cases q : cellsAt X s1 a with
        | none => rw [hid_out q]; exact xd
        | some o =>
          rw [k2 a o q] at xd
          cases xd
      | ok w =>
        rw [e3] at h1
        intro v I' H' T g sl nw hT
        obtain ⟨k2, g2⟩ := hid_evo J (S0 := fun _ => False) (g.evo fun _ z => z.elim) nF nF
        have hI' : ∀ a, I' a → cellsAt X s1 a = none := fun a ia => by
          rcases g2.new a ia with z | ⟨_, z⟩
          · exact hS a z
          · cases q : cellsAt X s1 a with
            | none => rfl
            | some o => rw [hid_in q] at z; exact absurd rfl z
        refine ⟨k2, h1 v I' _ T g2 (hid_slot J k2 hI' hkk sl) ⟨fun a ma => ?_, nw.nI, nw.nod⟩ hT⟩
        have z := nw.free a ma
        cases q : cellsAt X s1 a with
        | none => rw [trk_out q] at z; exact z
        | some o => rw [trk_in q] at z; cases z
  have hl : (us ++ []).length = ps.length := by rw [List.append_nil, ← r.length]; exact F.len _ _ _ _ hsp
  have hb := hb s1 us J.kIn hl
  rw [List.append_nil] at hb
  refine wpAny_call (codeAny_mono (F.run X.A X.stack s1 _ ⟨us, []⟩ us vs _ _ (c.hr.mono hk) c.gd e1 hb r hsp) fun r s' hq => ?_)
  have hq := cr_trk g1 hq
  cases r with
  | error e => exact c.px pins σ H1 s1 e s' J hq
  | ok fl =>
    cases fl with
    | ret u => exact J.after hq
    | next => exact False.elim hq
    | brk => exact False.elim hq
    | cont => exact False.elim hq
end
end DL

namespace DL
open PySem PySem.Spec PyProof.Rows L2

section
variable [Wd] {X : Cx} {E : XK} {Γ : List SK} {pos : Pos} {C : Cf} {Γn : List SK}
/-- arguments of any kinds -/
structure DAC [Wd] (X : Cx) (E : XK) (Γ : List SK) (es : List Expr) (Γp : List SK) (f : Env → Res (List W)) : Prop where
  ex : ∃ t : TA, PA X es t ∧ ∀ I S ρ σ H Q, ER X.K I Γ ρ σ H S → PX X.K X.mg E I H (SU S) (fun ws => ∀ vs I' H', Gr I H I' H' → Args X Γ ρ I' H' Γp vs ws → Q vs H') (f ρ) → t σ H Q
def wNil : Env → Res (List W) := fun _ => .ok []
theorem Args.nil {ρ : Env} {I : Addr → Prop} {H : Hp} : Args X Γ ρ I H [] [] [] := ⟨rfl, rfl, fun i k v w e => by simp at e⟩
theorem Args.cons {ρ : Env} {I : Addr → Prop} {H : Hp} {k : SK} {Γp : List SK} {v : V} {vs : List V} {w : W} {ws : List W} (h : ArgR X Γ ρ I H k v w) (r : Args X Γ ρ I H Γp vs ws) : Args X Γ ρ I H (k :: Γp) (v :: vs) (w :: ws) := by
  refine ⟨congrArg Nat.succ r.1, congrArg Nat.succ r.2.1, fun i k' v' w' e1 e2 e3 => ?_⟩
  cases i with
  | zero => cases Option.some.inj e1; cases Option.some.inj e2; cases Option.some.inj e3; exact h
  | succ i => exact r.2.2 i k' v' w' (by simpa using e1) (by simpa using e2) (by simpa using e3)
theorem dac_nil : DAC X E Γ [] [] wNil := ⟨tNil, pa_nil, fun I S ρ σ H Q R h => h [] I H .refl .nil⟩
def wCons (f : Env → Res W) (g : Env → Res (List W)) : Env → Res (List W) := fun ρ => f ρ >>= fun w => g ρ >>= fun ws => .ok (w :: ws)
/-- an expression of any kind -/
structure DE [Wd] (X : Cx) (E : XK) (Γ : List SK) (e : Expr) (k : SK) (f : Env → Res W) : Prop where
  ex : ∃ t : TE, PE X e t ∧ ∀ I S ρ σ H Q, ER X.K I Γ ρ σ H S → PX X.K X.mg E I H (SU S) (fun w => ∀ v I' H', Gr I H I' H' → ArgR X Γ ρ I' H' k v w → Q v H') (f ρ) → t σ H Q
theorem dac_cons {e : Expr} {es : List Expr} {k : SK} {Γp : List SK} {f : Env → Res W} {gs : Env → Res (List W)} (ha : DE X E Γ e k f) (hb : DAC X E Γ es Γp gs) (hs : starEach (e :: es) X.env = (false, eval e X.env) :: starEach es X.env := by rfl) : DAC X E Γ (e :: es) (k :: Γp) (wCons f gs) := by
  obtain ⟨ta, pa, qa⟩ := ha.ex
  obtain ⟨tb, pb, qb⟩ := hb.ex
  refine ⟨_, pa_cons pa pb hs, fun I S ρ σ H Q R h => ?_⟩
  refine qa I S ρ σ H _ R (PX.imp (PX.bnd h) fun w _ ⟨e1, h1⟩ => ?_)
  intro v I1 H1 g1 r1
  refine qb I1 S ρ σ H1 _ (R.grow g1) (PX.later (PX.bnd h1) (g1.evo R.trk) fun ws _ ⟨e2, h2⟩ => ?_)
  intro vs I2 H2 g2 r2
  exact h2 (v :: vs) I2 H2 (g1.trans g2) (.cons (r1.grow g2) r2)
/-- data -/
def eD (f : Env → Res D) : Env → Res W := fun ρ => f ρ >>= fun d => .ok (.d d)
theorem de_d {e : Expr} {n : Nat} {f : Env → Res D} (h : DP X E Γ e (some n) f) : DE X E Γ e (.da 0) (eD f) := by
  obtain ⟨t, p, q⟩ := h.ex
  refine ⟨t, p, fun I S ρ σ H Q R h => q I S ρ σ H Q R (PX.imp (PX.bnd h) fun d _ ⟨_, h⟩ => ?_)⟩
  intro v I' H' T g vr nw
  have vr : Ow X.K I' H' n T v d := vr
  exact h v (fz I' T) H' (g.fz fun a m => ⟨nw.free a m, (Ow.nod vr a m).ne⟩) (.inl ⟨v, d, rfl, rfl, .sh (Ow.rp (fun _ z => .inl z) vr fun a m => .inr m)⟩)
/-- a slot that is no data -/
def eVar (i : Nat) : Env → Res W := fun ρ => match ρ[i]? with
  | some w => .ok w
  | none => .bad
theorem de_var {i : Nat} {k : SK} {x : Str} (hN : X.N[i]? = some x) (hv : Vis X.env.scope x) (hk : Γ[i]? = some k) (hd : (∀ n, k ≠ .da n) ∧ k ≠ .no) (hdb : (x == ("__debug__" : Str)) = false := by decide) (hcd : (x == ("__classdict__" : Str)) = false := by decide) : DE X E Γ (.Name x pos) k (eVar i) := by
  refine ⟨tVar i, pe_var hN hv hdb hcd, fun I S ρ σ H Q R h => ?_⟩
  have sl := R.slot i k hk
  have key : ∀ (v : V) (w : W), σ[i]? = some (some v) → ρ[i]? = some w → SlotR X.K I H k [] (some (some v)) (some w) → tVar i σ H Q := fun v w e1 e2 r => by
    unfold eVar at h
    rw [e2] at h
    exact ⟨v, e1, h v I H .refl (.inl r)⟩
  cases k with
  | no => exact absurd rfl hd.2
  | da n => exact absurd rfl (hd.1 n)
  | cl => obtain ⟨v, g, e1, e2, r⟩ := sl; exact key v _ e1 e2 ⟨v, g, rfl, rfl, r⟩
  | cls => obtain ⟨v, g, e1, e2, r⟩ := sl; exact key v _ e1 e2 ⟨v, g, rfl, rfl, r⟩
  | er => obtain ⟨v, g, e1, e2, r⟩ := sl; exact key v _ e1 e2 ⟨v, g, rfl, rfl, r⟩
  | fn => obtain ⟨v, g, e1, e2, r⟩ := sl; exact key v _ e1 e2 ⟨v, g, rfl, rfl, r⟩
  | sc => obtain ⟨v, g, e1, e2, r⟩ := sl; exact key v _ e1 e2 ⟨v, g, rfl, rfl, r⟩
/-- a lambda -/
def eLam (fb : Env → Res D) : Env → Res W := fun ρ => .ok (.c (fb ρ))
theorem de_lam {c P : Addr} {params : Arguments} {body : Expr} {scope : Scope} {fb : Env → Res D} (M : LamM X c P) (L : LivC X Γ params body scope fb) (hdef : defaultsOf params X.env = ([], []) := by rfl) : DE X E Γ (.Lambda params body scope pos) .cl (eLam fb) := by
  refine ⟨_, pe_lamK M L.ls hdef, fun I S ρ σ H Q R h => ⟨R.tb, fun f H1 g la => ?_⟩⟩
  have h : ∀ v I' H', Gr I H I' H' → ArgR X Γ ρ I' H' .cl v (.c (fb ρ)) → Q v H' := h
  exact h (.ref f) I H1 (g I) (.inr (.inl ⟨rfl, _, rfl, f, params, body, scope, fb, rfl, rfl, L, la⟩))
/-- a list of closures -/
def eLams (fs : Env → Res (List W)) : Env → Res W := fun ρ => fs ρ >>= fun ws => (asCs ws) >>= fun gs => if gs.length ≤ 16777216 then .ok (.cs gs) else .bad
where asCs : List W → Res (List (Res D))
  | [] => .ok []
  | .c g :: r => asCs r >>= fun gs => .ok (g :: gs)
  | _ :: _ => .bad
theorem asCs_nx : ∀ {ws : List W} {c : Str} {v : D}, eLams.asCs ws ≠ .exc c v
  | [], _, _ => fun z => nomatch z
  | .c g :: r, c, v => fun z => by
    have z : (eLams.asCs r >>= fun gs => .ok (g :: gs)) = Res.exc c v := z
    cases e : eLams.asCs r with
    | ok gs => rw [e] at z; cases z
    | exc c' v' => exact asCs_nx e
    | bad => rw [e] at z; cases z
  | .d _ :: _, _, _ => fun z => nomatch z
  | .cs _ :: _, _, _ => fun z => nomatch z
  | .x _ _ :: _, _, _ => fun z => nomatch z
  | .f _ :: _, _, _ => fun z => nomatch z
theorem livs_of {ρ : Env} {I : Addr → Prop} {H : Hp} : ∀ {n : Nat} {vs : List V} {ws : List W} {gs : List (Res D)}, Args X Γ ρ I H (List.replicate n .cl) vs ws → eLams.asCs ws = .ok gs → (∀ v g, SlotR X.K I H .cl [] (some (some v)) (some (.c g)) → False) ∨ True → Paired (fun v g => LivV X Γ ρ H v g ∨ CloT I H v g) vs gs ∧ vs.length = gs.length
  | 0, vs, ws, gs, ⟨l1, l2, r⟩, e, _ => by
    have l1 : vs.length = 0 := by simpa using l1
    have l2 : ws.length = 0 := by simpa using l2
    rw [List.eq_nil_of_length_eq_zero l2] at e
    rw [List.eq_nil_of_length_eq_zero l1]
    cases e
    exact ⟨.nil, rfl⟩
  | n + 1, vs, ws, gs, ⟨l1, l2, r⟩, e, hh => by
    cases vs with
    | nil => simp at l1
    | cons v vs =>
      cases ws with
      | nil => simp at l2
      | cons w ws =>
        have h0 := r 0 .cl v w rfl rfl rfl
        have rr : Args X Γ ρ I H (List.replicate n .cl) vs ws := ⟨by simpa using l1, by simpa using l2, fun i k v' w' q1 q2 q3 => r (i + 1) k v' w' (by simpa [List.replicate_succ] using q1) (by simpa using q2) (by simpa using q3)⟩
        cases w with
        | c g =>
          have e : (eLams.asCs ws >>= fun gs => .ok (g :: gs)) = Res.ok gs := e
          cases e2 : eLams.asCs ws with
          | ok gs' =>
            rw [e2] at e
            cases e
            obtain ⟨q1, q2⟩ := livs_of rr e2 hh
            refine ⟨.cons ?_ q1, congrArg Nat.succ q2⟩
            rcases h0 with h0 | ⟨_, g', e3, h0⟩ | ⟨e3, _⟩
            · obtain ⟨v', g', e4, e5, h0⟩ := h0
              cases e4
              cases e5
              exact .inr h0
            · cases e3
              exact .inl h0
            · cases e3
          | exc c v => rw [e2] at e; cases e
          | bad => rw [e2] at e; cases e
        | _ => cases e
variable {P : Program} {w : World} {K : PySem.W.Frag} {mg : Str → Option Value} {base : Heap} {k : Nat} {f : Addr} {fd : FuncData} {N ps : List Str} {x qual : Str} {st : Stmt}
def envC (nN : Nat) (ws : List W) : Env := ws ++ List.replicate (nN - ws.length) (W.d .none)
def runC (np nN : Nat) (fb : Env → Res Out) (ws : List W) : Res W := if ws.length = np then fb (envC nN ws) >>= outD >>= fun d => .ok (.d d) else .bad
def gamC (Γp : List SK) (nN : Nat) : List SK := Γp ++ List.replicate (nN - Γp.length) .no
theorem fnC {Γp : List SK} {fb : Env → Res Out} (F : Fun K x qual st f fd) (Sc : FnScope N ps (defScope st)) (hN : ps.length ≤ N.length) (hp : Γp.length = ps.length)
    (hbody : ∀ (cdv : Value) (A : Around) (outer : List PySem.Env) (s : Shared) (H : Hp) (E : XK), Cz (cxOf (L2.CX P w) P w K mg base N qual (defScope st) f cdv A outer s H E) E k →
      DS (cxOf (L2.CX P w) P w K mg base N qual (defScope st) f cdv A outer s H E) E C (gamC Γp N.length) (defBody st) Γn fb) : FnG P w K mg base (k + 1) f fd ps (spC K mg Γp (.da C.kr) (runC ps.length N.length fb)) := by
  have len : ∀ vs H Q E, spC K mg Γp (.da C.kr) (runC ps.length N.length fb) vs H Q E → vs.length = ps.length := fun vs H Q E ⟨I, ws, tr, tb, l1, l2, r, h⟩ => by rw [l1, hp]
  refine fnG_of F Sc len fun cdv A outer s H vs Q E hr gd hsp => ?_
  have hl := len _ _ _ _ hsp
  obtain ⟨I, ws, tr, tb, l1, l2, r, h⟩ := hsp
  obtain ⟨t, p, q⟩ := (hbody cdv A outer s H E (.of hr gd)).ex
  refine ⟨t, p, ?_⟩
  have e0 : ∀ a, SU (fun _ => ([] : List Addr)) a ↔ False := fun a => ⟨fun ⟨j, m⟩ => nil_nm m, fun z => z.elim⟩
  have R : ER K I (gamC Γp N.length) (envC N.length ws) (L2.start N vs) H (fun _ => []) := by
    refine ⟨fun i kk e => ?_, fun i a m => nil_nm m, fun i j a _ m _ => nil_nm m, fun i => .nil, fun i a m => nil_nm m, tr, by unfold envC gamC; simp; omega, by unfold L2.start gamC; simp; omega, tb⟩
    by_cases hi : i < Γp.length
    · have e' : Γp[i]? = some kk := by
        unfold gamC at e
        rw [List.getElem?_append_left hi] at e
        exact e
      have := r i kk e'
      have q1 : (L2.start N vs)[i]? = vs[i]?.map some := by
        unfold L2.start
        rw [List.getElem?_append_left (by simpa using (by omega : i < vs.length)), List.getElem?_map]
      have q2 : (envC N.length ws)[i]? = ws[i]? := by
        unfold envC
        rw [List.getElem?_append_left (by omega)]
      rw [q1, q2]
      exact this
    · have : kk = .no := by
        unfold gamC at e
        rw [List.getElem?_append_right (by omega), List.getElem?_replicate] at e
        split at e
        · exact (Option.some.inj e).symm
        · cases e
      subst this
      trivial
  refine q I _ (envC N.length ws) (L2.start N vs) H _ R ?_
  unfold runC at h
  rw [if_pos (by rw [l2, hp])] at h
  have gr : ∀ {I' : Addr → Prop} {H' : Hp} {S' : Addr → Prop}, Evo I H (SU fun _ => []) I' H' S' → Gr I H I' H' := fun e => ⟨e.sub, fun a z => (e.new a z).imp id fun z => ⟨z.1.elim (fun z => ((e0 a).mp z).elim) id, z.2⟩, fun b o q n => e.keep b o q (fun z => (e0 b).mp z) n, fun z => e.there _ z, e.tab⟩
  cases e1 : fb (envC N.length ws) with
  | bad => rw [e1] at h; exact h.elim
  | exc c d =>
    rw [e1] at h
    exact WX.less h fun a z => (e0 a).mp z
  | ok o =>
    rw [e1] at h
    cases o with
    | nx ρ => exact fun I' H' S' σ' ev R' mk => h .non I' H' [] (gr ev) ⟨.non, .none, rfl, rfl, (At.vr .non (some C.kr) : VR K I' H' (some C.kr) [] .non .none)⟩ .nil (fun a m => nil_nm m)
    | rt d ρ => exact fun I' H' S' σ' v T ev R' mk ow hT hn => h v I' H' T (gr ev) ⟨v, d, rfl, rfl, ow⟩ ⟨fun a m => ((ev.own a (.inr m)).1).elim (fun z => ((e0 a).mp z).elim) id, fun a m => (hT a m).1, hn⟩ fun a m => ⟨_, rfl⟩
    | bk ρ => exact h.elim
    | ct ρ => exact h.elim
end
end DL

namespace DL
open PySem PySem.Spec PyProof.Rows L2

/-- an object that stands there is tracked from now on -/
theorem inv_track [Wd] {X : Cx} {pins : List (Addr × Obj)} {σ : L2.St} {H : Hp} {s : Shared} {a : Addr} {o : HO} (J : Inv X pins σ H s) (n : H a = none) (n0 : X.s_0.heap.get? a = none) (nL : a ≠ X.env.locals) (nC : ∀ x c, X.env.cells.lookup x = some c → c ≠ a) (nP : ∀ p ∈ X.pn ++ pins, p.1 ≠ a)
    (new : ObjOk X.prog X.w (upd H a o) s.heap a o) : Inv X pins σ (upd H a o) s := by
  have keep : ∀ {b : Addr} {u : HO}, H b = some u → upd H a o b = some u := fun {b u} e => upd_keep n b u e
  have no : ∀ {b : Addr}, b ≠ a → H b = none → upd H a o b = none := fun {b} q e => by rw [upd_ne q]; exact e
  have sm : ∀ {b : Addr} {ob : Obj}, X.s_0.heap.get? b = some ob → b ≠ a := fun {b ob} e z => by
    rw [z, n0] at e
    cases e
  refine ⟨J.ok, J.os, J.bare, ?_, J.loc, J.cell, no nL.symm J.free, fun x c e => no (nC x c e) (J.freeC x c e), fun p hp => ?_, fun b u e => ?_, J.len⟩
  · have U := J.base
    exact { keep := U.keep, slot := U.slot, free := fun b ob e q hx => no (sm e) (U.free b ob e q hx), there := U.there, tups := fun b xs e => keep (U.tups b xs e), frzs := fun b ob v e => keep (U.frzs b ob v e), tbls := fun b ps e => let ⟨more, q⟩ := U.tbls b ps e; ⟨more, keep q⟩ }
  · obtain ⟨p1, p2, p3⟩ := J.pin p hp
    exact ⟨p1, no (nP p hp) p2, p3⟩
  · by_cases hb : b = a
    · subst hb
      rw [upd_same] at e
      cases e
      exact new
    · rw [upd_ne hb] at e
      exact (J.hok b u e).stay (fun _ _ _ q => q) (fun _ q => keep q) fun _ _ q => keep q
/-- the wish about an error that is caught: slot i is the name's; the object is tracked behind the suite -/
def wKeep (K : PySem.W.Frag) (c : Value) (i : Nat) (ts : Addr → TS) (D : Ends) : L2.WX := fun cls d σ H =>
  ∃ (Cc dx : Addr), cls = .ref Cc ∧ d = some dx ∧ PySem.W.exmOne K cls c = some true ∧ ∀ a, H a = none → ts a { nx := fun σ' H' => ∀ H2, H' a = none → H2 = upd H' a (exk a Cc dx) → D.nx (σ'.set i none) H2, rt := fun _ _ => False, bk := fun _ _ => False, ct := fun _ _ => False } (σ.set i (some (.ref a))) H
theorem ps_try_keep [Wd] {X : Cx} {x n : Str} {c : Value} {i : Nat} {body suite : List Stmt} {b0 : Stmt} {np pos pos' : Pos} {tb : L2.WX → TS} {ts : Addr → TS} (hs : X.stack = X.env :: X.outer) (hf : X.env.frame = some X.env.locals) (hN : X.N.Nodup) (hi : X.N[i]? = some n) (hln : X.env.kindOf n = some .local) (hc : Names X x c)
    (hex : X.ex = []) (hnc : ∀ x c, X.env.cells.lookup x = some c → False)
    (hb : ∀ (W : L2.WX) (pn : List (Addr × Obj)) (xe : Value → Shared → Prop), Takes (X.tr pn xe) W → PassesOwn (model X.prog X.w) X.A X.env xe → PSs (X.tr pn xe) body (tb W))
    (hsu : ∀ (a : Addr) (oe : Obj) (pn : List (Addr × Obj)), PSs (X.suite a ((a, oe) :: pn)) (b0 :: suite) (ts a)) :
    PS X (.Try body [.ExceptHandler (some (.Name x np)) (some n) (b0 :: suite) pos'] [] [] pos) (fun D σ H => tb (wKeep X.K c i ts D) D σ H) := by
  refine ⟨fun pins s σ H D J0 h => wpAny_Try_except ?_⟩
  have ok := J0.ok
  have hfr : X.A.frames = some (X.env :: X.outer) := ok.frames.trans (congrArg some hs)
  have bodyrun := (hb (wKeep X.K c i ts D) (X.pn ++ pins) (fun e s1 => wpAny (model X.prog X.w) X.A (noteFrame e X.env) (fun _ s2 => wpAny (model X.prog X.w) X.A (setFlight e none)
      (fun _ s3 => wpAny (model X.prog X.w) X.A (handleBy e X.env [.ExceptHandler (some (.Name x np)) (some n) (b0 :: suite) pos']) (SP X pins D) X.xe s3) X.xe s2) X.xe s1) (fun u s' xx => ?caught) PassesOwn.looking).run [] s σ H D (J0.toTry _) h
  case caught =>
    obtain ⟨a, B, sI, pins', σ', H', cls, d, rfl, J', nb, up, sky, na, os, ag, Cc, dx, rfl, rfl, hm, hyes⟩ := xx
    have J : Inv X pins σ' H' sI := J'.ofTry ok
    rw [hs] at sky
    refine Sky.land Zc.steady hfr hf (show Sky B (X.env :: X.outer) a (Zc (.ref Cc) (some dx)) X.env.locals s'.heap from sky) fun h3 fl3 up3 => ?_
    have J3 : Inv X pins σ' H' { s' with heap := h3 } := J.landed nb fl3.1 (up.trans up3) os ag
    obtain ⟨oe3, vs3, he3, hz3, hd3⟩ := fl3.there
    have noFrame : a ∉ frs (X.env :: X.outer) := fun hm => by
      obtain ⟨_, o', e', hnf⟩ := fl3.2.2.1.mem hm
      rw [he3] at e'
      cases e'
      exact hnf _ hd3
    have nL : a ≠ X.env.locals := fun z => noFrame (List.mem_filterMap.mpr ⟨X.env, List.mem_cons_self, hf.trans (congrArg some z.symm)⟩)
    have nF : a ∉ X.fs := fun hm => by
      obtain ⟨e, q1, q2⟩ := List.mem_filterMap.mp hm
      exact noFrame (List.mem_filterMap.mpr ⟨e, List.mem_cons_of_mem _ q1, q2⟩)
    -- the ground knows neither the error nor what is younger than the entry
    have inB : ∀ {b : Addr} {o : Obj}, sI.heap.get? b = some o → b ∉ frs X.stack → b ≠ a := fun {b o} e q z => by
      have := nb b o e q
      rw [z, fl3.2.1] at this
      cases this
    have nPin : ∀ p ∈ X.pn ++ pins, p.1 ≠ a := fun p hp => by
      obtain ⟨p1, _, p3, p4, _⟩ := J.pin p hp
      exact inB p1 fun z => (List.mem_cons.mp (J.stkSub _ z)).elim p3 p4
    have n0 : X.s_0.heap.get? a = none := by
      cases e : X.s_0.heap.get? a with
      | none => rfl
      | some o =>
        obtain ⟨o', ho'⟩ := J.base.there a o e (by rw [hex]; simp)
        exact absurd rfl (inB ho' (by rw [hs]; exact noFrame))
    have S3 := J3.suite he3 hd3 na nL nF
    refine wpAny_handleBy_cons (codeAny_handlers_test ?_) (by intro q; cases q)
    have LT : PySem.W.Looks (model X.prog X.w) h3 (typeOf (.ref a)) (.ref Cc) := fun A Q E s k q => wpAny_typeOf_ref (k _ _ he3) (by rw [hz3.1]; exact q)
    have LM := PySem.W.exm_one (M := model X.prog X.w) J3.kIn LT hm
    have test : ∀ {Q E : Value → Shared → Prop}, Q c { s' with heap := h3 } → wpAny (model X.prog X.w) (X.A.mark (some (.ref a))) (eval (.Name x np) X.env) Q E { s' with heap := h3 } := fun {Q E} q => by
      obtain ⟨hg, hdbg, hm | ⟨hm, hv, hnn⟩⟩ := hc
      · exact ld_glob (X := X.suite a ((a, oe3) :: (X.pn ++ pins))) S3 hg hm q hdbg
      · exact ld_blt (X := X.suite a ((a, oe3) :: (X.pn ++ pins))) S3 hg hm hv q hnn hdbg
    refine test (LM.here (codeAny_handlers_suite_as (HandSPX.lands_againZ fl3 fun h4 fl4 up4 => ?_)))
    have J4 : Inv X pins σ' H' { s' with heap := h4 } := J.landed nb fl4.1 ((up.trans up3).trans up4) os ag
    obtain ⟨oe4, vs4, he4, hz4, hd4⟩ := fl4.there
    refine store_ok (X := X.suite a ((a, oe4) :: (X.pn ++ pins))) (v := .ref a) (J4.suite he4 hd4 na nL nF) hN hi (.inl hln) rfl (fun s5 S5 => ?_) (.inr hln)
    refine wpAny_mono ((hsu a oe4 (X.pn ++ pins)).run [] s5 _ H' _ S5 (hyes a na)) (fun f s6 hsp => ?_) (fun _ _ z => False.elim z)
    cases f with
    | next =>
      obtain ⟨σ6, H6, S6, q6⟩ := hsp
      obtain ⟨p1, p2, _⟩ := S6.pin (a, oe4) (List.mem_append_left _ List.mem_cons_self)
      have J6 := inv_track (o := exk a Cc dx) (S6.unsuite ok) p2 n0 nL (fun x c e => (hnc x c e).elim) nPin ⟨⟨oe4, vs4, p1, hz4.1, hz4.2, hd4⟩, ⟨oe4, p1⟩, fun h1 h2 ⟨o, vs, r1, r2⟩ st => ⟨o, vs, st _ r1, r2⟩⟩
      exact gone_ok J6 hN hi hln fun s7 J7 => ⟨_, _, J7, q6 _ p2 rfl⟩
    | brk => obtain ⟨_, _, _, q6⟩ := hsp; exact q6.elim
    | cont => obtain ⟨_, _, _, q6⟩ := hsp; exact q6.elim
    | ret u => obtain ⟨_, _, _, _, _, q6⟩ := hsp; exact q6.elim
  refine wpAny_mono bodyrun (fun fl s1 hsp => ?_) fun e s1 he => he
  cases fl with
  | next => obtain ⟨σ1, H1, J1, q⟩ := hsp; exact wpAny_execs_nil ⟨σ1, H1, J1.ofTry ok, q⟩
  | brk => obtain ⟨σ1, H1, J1, q⟩ := hsp; exact ⟨σ1, H1, J1.ofTry ok, q⟩
  | cont => obtain ⟨σ1, H1, J1, q⟩ := hsp; exact ⟨σ1, H1, J1.ofTry ok, q⟩
  | ret u => obtain ⟨v, σ1, H1, J1, r, q⟩ := hsp; exact ⟨v, σ1, H1, J1.ofTry ok, r, q⟩
end DL

namespace DL
open PySem PySem.Spec PyProof.Rows L2

section
variable [Wd] {X : Cx}
/-- x(), x a closure -/
theorem pe_callV {W : L2.WX} {i : Nat} {a : Str} {p1 p2 : Pos} (N : InW X) (hr : Room Wd.kc X.A) (gd : X.A.guards = some []) (tk : Takes X W) (hN : X.N[i]? = some a) (hv : Vis X.env.scope a) (hd : (a == ("__debug__" : Str)) = false := by decide) (hcd : (a == ("__classdict__" : Str)) = false := by decide) :
    PE X (.Call (.Name a p1) [] [] p2) (fun σ H Q => ∃ v g I, σ[i]? = some (some v) ∧ CloT I H v g ∧ LamX.Tabs Wd.T H ∧ (∀ a, I a → H a ≠ none) ∧ PX Wd.K Wd.mg (fun cls d H' => W cls d σ H') I H (fun _ => False) (fun d => ∀ v I' H', Gr I H I' H' → Rp Wd.K I' H' v d → Q v H') g) := by
  refine ⟨fun pins s σ H Q J h => ?_⟩
  obtain ⟨v, g, I, e1, cl, tb, tr, h⟩ := h
  refine wpAny_Call_Name_kw (thn ((pe_var (pos := p1) (i := i) hN hv hd hcd).run pins s σ H (fun x H1 => x = v ∧ H1 = H) J ⟨v, e1, rfl, rfl⟩) fun u s1 ⟨x, H1, J1, r1, ex, eH⟩ => ?_)
  subst ex
  rw [eH] at J1
  obtain ⟨f, rfl, cl⟩ := cl
  obtain rfl : u = Value.ref f := r1
  obtain ⟨fa, run⟩ := cl I H .refl
  have hok := J1.hok
  have kin := J1.kIn
  rw [N.P, N.w] at hok
  rw [N.K] at kin
  refine PySem.W.callWith_F0 (fa _ hok kin) ?_
  have e0 := J1.env0
  rw [N.P, N.w, N.K, N.mg, N.base] at e0
  have rc := run X.A X.stack s1 Q (fun cls d H' => W cls d σ H') hr gd e0 tb tr h
  rw [← N.P, ← N.w] at rc
  refine wpAny_call (codeAny_mono rc fun r s' hq => ?_)
  cases r with
  | error e => exact tk _ _ (XE.of_call J1 (fun _ _ _ z => z) hq)
  | ok fl =>
    cases fl with
    | ret u => exact J1.after hq
    | next => exact False.elim hq
    | brk => exact False.elim hq
    | cont => exact False.elim hq
theorem cellsFrom_no : ∀ (names : List (Str × NameKind)) (n : Nat), (∀ y ∈ names, y.2 ≠ .cell) → PySem.cellsFrom n names [] = []
  | [], _, _ => rfl
  | (x, k) :: r, n, h => by
    unfold PySem.cellsFrom
    have h1 : (k == NameKind.cell) = false := by
      cases k <;> first | rfl | exact absurd rfl (h _ List.mem_cons_self)
    rw [if_neg (by rw [h1]; decide)]
    exact cellsFrom_no r n fun y m => h y (List.mem_cons_of_mem _ m)
def mErr (ok : Str → Bool) : List W → Res W
  | [.c (.ok _)] => .ok (.d .none)
  | [.c (.exc c d)] => if ok c = true then .ok (.x c d) else .bad
  | _ => .bad
variable {P : Program} {w : World} {K : PySem.W.Frag} {mg : Str → Option Value} {base : Heap} {k : Nat} {f : Addr} {fd : FuncData} {x qual : Str} {st : Stmt}
theorem err_ok {ok : Str → Bool} {Dc : Addr} {nc nf ne nx : Str} {p1 p2 p3 p4 p5 p6 p7 p8 p9 p10 p11 p12 p13 p14 : Pos} {j : Nat} (F : Fun K x qual st f fd) (Sc : FnScope [nc, nf, ne] [nc] (defScope st))
    (hb : defBody st = [.Assign [.Name nf p1] (.Constant .none j p2) p3, .Try [.Expr (.Call (.Name nc p4) [] [] p5) p6] [.ExceptHandler (some (.Name nx p7)) (some ne) [.Assign [.Name nf p8] (.Name ne p9) p10] p11] [] [] p12, .Return (some (.Name nf p13)) p14])
    (lc : (defScope st).names.lookup nc = some .local) (lf : (defScope st).names.lookup nf = some .local) (le : (defScope st).names.lookup ne = some .local) (lx : (defScope st).names.lookup nx = some .globalImplicit) (hnocell : ∀ y ∈ (defScope st).names, y.2 ≠ .cell) (hnofree : ∀ y ∈ (defScope st).names, y.2 ≠ .free)
    (hm : mg nx = some (.ref Dc)) (hok : ∀ c Cc, ok c = true → mg c = some (.ref Cc) → PySem.W.exmOne K (.ref Cc) (.ref Dc) = some true) (hok2 : ∀ c, ok c = true → ∃ Cc, mg c = some (.ref Cc)) (hP : P = Wd.P) (hw : w = Wd.w) (hK : K = Wd.K) (hmg : mg = Wd.mg) (hbase : base = Wd.base) (hkc : Wd.kc ≤ k)
    (hd : ∀ y : Str, y = nc ∨ y = nf ∨ y = ne ∨ y = nx → (y == ("__debug__" : Str)) = false ∧ (y == ("__classdict__" : Str)) = false) : FnG P w K mg base (k + 1) f fd [nc] (spC K mg [.cl] .er (mErr ok)) := by
  refine fnG_of F Sc (fun vs H Q E ⟨_, _, _, _, l, _⟩ => by rw [l]; rfl) fun cdv A outer s H vs Q E hr gd hsp => ?_
  obtain ⟨I, ws, tr, tb, l1, l2, r, h⟩ := hsp
  obtain ⟨v, g, ev, ew, cl⟩ := r 0 .cl rfl
  have ev : vs = [v] := by
    match vs, l1, ev with
    | [v'], _, ev => cases ev; rfl
  have ew : ws = [.c g] := by
    match ws, l2, ew with
    | [w'], _, ew => cases ew; rfl
  subst ev ew
  have N : InW (cxOf (L2.CX P w) P w K mg base [nc, nf, ne] qual (defScope st) f cdv A outer s H E) := ⟨hP, hw, hK, hmg, hbase⟩
  have nd := Sc.nd
  have dc := hd nc (.inl rfl)
  have df := hd nf (.inr (.inl rfl))
  have de := hd ne (.inr (.inr (.inl rfl)))
  have dx := hd nx (.inr (.inr (.inr rfl)))
  rw [hb]
  refine ⟨_, pss_cons (ps_set (i := 1) nd rfl (.inl lf) pe_non) (pss_cons (ps_try_keep (i := 2) (c := .ref Dc) rfl rfl nd rfl le ⟨lx, dx.1, .inl hm⟩ rfl
        (fun x c e => by
          have e : (PySem.cellsFrom (s.heap.objs.size + 1) (defScope st).names []).lookup x = some c := e
          rw [cellsFrom_no _ _ hnocell] at e
          cases e)
        (fun W pn xe tk _ => pss_one (ps_expr (pe_callV (X := (cxOf (L2.CX P w) P w K mg base [nc, nf, ne] qual (defScope st) f cdv A outer s H E).tr pn xe) (i := 0) ⟨hP, hw, hK, hmg, hbase⟩ (hr.mono hkc) gd tk rfl (.inl lc) dc.1 dc.2)))
        (fun a oe pn => pss_one (ps_set (X := (cxOf (L2.CX P w) P w K mg base [nc, nf, ne] qual (defScope st) f cdv A outer s H E).suite a ((a, oe) :: pn)) (i := 1) nd rfl (.inl lf) (pe_var (i := 2) rfl (.inl le) de.1 de.2))))
      (pss_one (ps_ret (pe_var (i := 1) rfl (.inl lf) df.1 df.2)))), ?_⟩
  -- found = None; the call
  show ∃ v' g' I', _
  refine ⟨v, g, I, rfl, ?_, tb, tr, ?_⟩
  · exact cl
  cases g with
  | bad => exact h.elim
  | ok d =>
    intro v1 I' H' gr rp
    have h : PK2 (cxOf (L2.CX P w) P w K mg base [nc, nf, ne] qual (defScope st) f cdv A outer s H E) I H .er Q (.d .none) := h
    exact ⟨.non, rfl, h .non I' H' [] gr ⟨.non, _, rfl, rfl, .inl ⟨rfl, rfl⟩⟩ .nil fun a m => nil_nm m⟩
  | exc c d =>
    have h : PX K mg E I H (fun _ => False) (PK2 (cxOf (L2.CX P w) P w K mg base [nc, nf, ne] qual (defScope st) f cdv A outer s H E) I H .er Q) (if ok c = true then .ok (.x c d) else .bad) := h
    by_cases ho : ok c = true
    · rw [if_pos ho] at h
      intro C a v1 I' H' S' hmC ev rp xd
      have hmC' : mg c = some (.ref C) := by rw [hmg]; exact hmC
      refine ⟨C, a, rfl, rfl, hok c C ho hmC', fun a0 na => ⟨.ref a0, rfl, fun H2 na2 e2 => ⟨.ref a0, rfl, ?_⟩⟩⟩
      subst e2
      have gr : Gr I H I' H' := ⟨ev.sub, fun b z => (ev.new b z).imp id fun z => ⟨z.1.resolve_left id, z.2⟩, fun b o q n => ev.keep b o q id n, fun {b} z => ev.there b z, ev.tab⟩
      refine h (.ref a0) I' _ [] (gr.trans (.lay na2)) ⟨.ref a0, .x c d, rfl, rfl, .inr ⟨a0, C, a, c, d, v1, rfl, rfl, hmC, upd_same, ?_, rp.mono (fun _ z => z) fun b o _ q _ => upd_keep na2 b o q⟩⟩ .nil fun a m => nil_nm m
      exact upd_keep na2 a _ xd
    · rw [if_neg ho] at h
      exact h.elim
end
end DL

namespace DL
open PySem PySem.Spec PyProof.Rows L2

/-- what an error's class must have to be read behind the clause -/
structure XkC (K : PySem.W.Frag) (C : Addr) : Prop where
  xf : XfC K C
  cl : (PySem.W.clsIn K C).isSome = true
  ha : PySem.W.findIn K (.ref C) "__class__" = some (some (.builtin "object.__class__"))
  hn : PySem.W.specialIn K (.builtin "object.__class__") "__get__" = some (some (.builtin "getset_descriptor.__get__"))
  htk : PySem.W.takesIn K (.builtin "object.__class__") = some true
  hm : PySem.W.mroIn K C (.type "object") = some true
  noV : PySem.W.findIn K (.ref C) "value" = some none
def rIsiX (K : PySem.W.Frag) : List V → Hp → VK → Prop := fun xs H Q => ∃ (x c : V) (u : Value) (b : Bool), xs = [x, c] ∧ ClsV c u ∧ ((x = .non ∧ PySem.W.kitOne K (.type "NoneType") u = some b) ∨ ∃ (a C dx : Addr) (fs : List (Str × V)), x = .ref a ∧ H a = some (exk a C dx) ∧ H dx = some (.xd fs) ∧ XkC K C ∧ PySem.W.kitOne K (.ref C) u = some b) ∧ Q (.bl b) H
/-- the error as an instance -/
theorem exk_inst {P : Program} {w : World} {H : Hp} {h : Heap} {a C dx : Addr} {fs : List (Str × V)} (hok : HOk P w H h) (ea : H a = some (exk a C dx)) (ed : H dx = some (.xd fs)) : ∃ (o : Obj) (od : Obj) (mA : Str → Option Value), PySem.W.InstAt h a o C (some od) ∧ (∀ name, PySem.W.lookIn name od = some (mA name)) ∧ ∀ f, RelO (fs.lookup f) (mA f) := by
  obtain ⟨⟨o, vs, h1, h2, h3, h4⟩, _⟩ := (show ObjOk P w H h a (.ext fun h => ∃ (o : Obj) (vs : Array Value), h.get? a = some o ∧ o.cls = .ref C ∧ o.dict = some dx ∧ o.data = .fields vs) from hok a _ ea)
  obtain ⟨mA, hns, hr⟩ := (show ObjOk P w H h dx (.xd fs) from hok dx _ ed)
  obtain ⟨od, ho, hl⟩ := lookIn_ns hns
  exact ⟨o, od, mA, ⟨h1, h2, by unfold PySem.W.notCls; rw [h4] <;> rfl, by rw [h3]; exact ho⟩, hl, hr⟩
section
variable {X : Cx}
theorem call_isiX : CallR X (.builtin "isinstance") (rIsiX X.K) := by
  intro pins s σ H xs us Q I r h
  obtain ⟨x, c, u, b, rfl, k, hx, q⟩ := h
  obtain ⟨u1, u2, rfl, r1, r2⟩ := vals2 r
  have e2 := k.eq r2
  subst e2
  rcases hx with ⟨rfl, e⟩ | ⟨a, C, dx, fs, rfl, ea, ed, T, e⟩
  · cases (show u1 = Value.none from r1)
    exact PySem.W.kia_one PySem.W.kitx_none I.kIn True.intro e (fun z => nomatch z) fun tk => ⟨.bl b, H, I.tok tk, rfl, q⟩
  · obtain rfl : u1 = Value.ref a := r1
    obtain ⟨o, od, mA, J, _, _⟩ := exk_inst I.hok ea ed
    exact PySem.W.kia_one (PySem.W.kitx_exc (od := some od) T.cl T.xf.ga T.xf.gg T.xf.exC T.ha T.hn T.htk T.hm) I.kIn J e (fun z => nomatch z) fun tk => ⟨.bl b, H, I.tok tk, rfl, q⟩
/-- err.f -/
def tXk (K : PySem.W.Frag) (f : Str) (te : TE) : TE := fun σ H Q => te σ H fun x H1 => ∃ (a C dx : Addr) (fs : List (Str × V)) (v : V), x = .ref a ∧ XfC K C ∧ PySem.W.findIn K (.ref C) f = some none ∧ H1 a = some (exk a C dx) ∧ H1 dx = some (.xd fs) ∧ fs.lookup f = some v ∧ Q v H1
theorem pe_xk {e : Expr} {te : TE} {pos : Pos} {n : Str} (he : PE X e te) (hb : attributeBase e n X.env (eval e X.env) = eval e X.env := by rfl) : PE X (.Attribute e n pos) (tXk X.K n te) := by
  refine ⟨fun pins s σ H Q I h => attr_of hb (thn (he.run pins s σ H _ I h) fun u s1 ⟨x, H1, I1, rx, a, C, dx, fs, v, ex, T, hno, ea, ed, l, q⟩ => ?_)⟩
  subst ex
  obtain rfl : u = Value.ref a := rx
  obtain ⟨o, od, mA, J, hl, hr⟩ := exk_inst I1.hok ea ed
  obtain ⟨u, hu, ru⟩ := RelO.some_of (v := v) (o := mA n) (by rw [← l]; exact hr n)
  exact HandSPX.exc_get I1.kIn J T.ga T.gg T.exC (PySem.W.findObj_own T.hdC hno rfl (by rw [hl, hu])) (handed_of ru) ⟨v, H1, I1.tok _, ru, q⟩
end
section
variable [Wd] {X : Cx} {E : XK} {Γ : List SK} {pos : Pos} {C : Cf} {Γn : List SK} {k : Option Nat}
variable {kx kf n : Nat} {fa : Addr} {fd : FuncData} {ps : List Str} {x : Str} {p : Pos} {e : Expr} {es : List Expr} {Γp : List SK} {m : List W → Res W} {gs : Env → Res (List W)}
def unD : W → Res D
  | .d d => .ok d
  | _ => .bad
def dNC (m : List W → Res W) (gs : Env → Res (List W)) : Env → Res D := fun ρ => gs ρ >>= fun ws => m ws >>= unD
theorem dp_callC (F : FnG X.prog X.w X.K X.mg X.base kf fa fd ps (spC X.K X.mg Γp (.da n) m)) (c : Cz X E kx) (hk : kf ≤ kx) (N : InW X) (hfn : ∀ x, X.fn x = true) (hkc : 0 < Wd.kc) (hg : Gl X x) (hm : X.mg x = some (.ref fa)) (hkp : PySem.W.keepIn X.K (.ref fa) = true) (hb : Binds X.K fd ps [])
    (ha : DAC X E Γ (e :: es) Γp gs) (hdb : (x == ("__debug__" : Str)) = false := by decide) (he : starEach (e :: es) X.env = (false, eval e X.env) :: starEach es X.env := by rfl) (hpl : (backTo pos (starEach es X.env)).any (·.1) = false := by rfl) :
    DP X E Γ (.Call (.Name x p) (e :: es) [] pos) (some n) (dNC m gs) := by
  obtain ⟨ta, pa, qa⟩ := ha.ex
  refine ⟨_, pe_callC (Γ := Γ) F c hk N hfn hkc (.inl ⟨n, rfl⟩) hg hm hkp hb pa hdb he hpl, fun I S ρ σ H Q R h => ?_⟩
  refine qa I S ρ σ H _ R (PX.imp (PX.bnd h) fun ws _ ⟨e1, h1⟩ => ?_)
  intro vs I1 H1 g1 ar
  refine ⟨I1, S, ρ, ws, R.grow g1, ar, ?_⟩
  have h1 := PX.later h1 (g1.evo R.trk) fun d _ (z : PV X I H (some n) Q d) => z
  refine PX.imp (PX.bnd h1) fun w _ ⟨e2, h2⟩ => ?_
  intro v I' H' T g sl nw hT
  obtain ⟨v', d, e3, e4, o⟩ := sl
  cases e3
  cases e4
  exact h2 v I' H' T (g1.trans g) o (nw.ahead g1)
theorem de_callC (F : FnG X.prog X.w X.K X.mg X.base kf fa fd ps (spC X.K X.mg Γp .er m)) (c : Cz X E kx) (hk : kf ≤ kx) (N : InW X) (hfn : ∀ x, X.fn x = true) (hkc : 0 < Wd.kc) (hg : Gl X x) (hm : X.mg x = some (.ref fa)) (hkp : PySem.W.keepIn X.K (.ref fa) = true) (hb : Binds X.K fd ps [])
    (ha : DAC X E Γ (e :: es) Γp gs) (hdb : (x == ("__debug__" : Str)) = false := by decide) (he : starEach (e :: es) X.env = (false, eval e X.env) :: starEach es X.env := by rfl) (hpl : (backTo pos (starEach es X.env)).any (·.1) = false := by rfl) :
    DE X E Γ (.Call (.Name x p) (e :: es) [] pos) .er (fun ρ => gs ρ >>= m) := by
  obtain ⟨ta, pa, qa⟩ := ha.ex
  refine ⟨_, pe_callC (Γ := Γ) F c hk N hfn hkc (.inr rfl) hg hm hkp hb pa hdb he hpl, fun I S ρ σ H Q R h => ?_⟩
  refine qa I S ρ σ H _ R (PX.imp (PX.bnd h) fun ws _ ⟨e1, h1⟩ => ?_)
  intro vs I1 H1 g1 ar
  refine ⟨I1, S, ρ, ws, R.grow g1, ar, ?_⟩
  have h1 := PX.later (P' := fun w => ∀ v I' H', Gr I H I' H' → ArgR X Γ ρ I' H' .er v w → Q v H') h1 (g1.evo R.trk) fun d _ z => z
  refine PX.imp h1 fun w _ h2 => ?_
  intro v I' H' T g sl nw hT
  have sl' : SlotR X.K I' H' .er [] (some (some v)) (some w) := sl
  exact h2 v I' H' (g1.trans g) (.inl sl')
/-- name = an error or None -/
def sSetE (i : Nat) (f : Env → Res W) : Env → Res Out := fun ρ => f ρ >>= fun w => .ok (.nx (ρ.set i w))
theorem ds_setE {i : Nat} {y : Str} {e : Expr} {p2 : Pos} {f : Env → Res W} (hN : X.N.Nodup) (hi : X.N[i]? = some y) (hx : Loc X.env.scope y) (he : DE X E Γ e .er f) (hl : i < Γ.length := by decide) (hM : i ∉ C.M := by decide)
    (hs : swapsWith e (some (.Name y p2)) pos.line X.env = pure false := by rfl) (hf : X.fn y = true ∨ X.env.scope.names.lookup y = some .local := by first | exact .inl rfl | exact .inr rfl | assumption) : DS1 X E C Γ (.Assign [.Name y p2] e pos) (Γ.set i .er) (sSetE i f) := by
  obtain ⟨t, p, q⟩ := he.ex
  refine ⟨_, ps_set hN hi hx p hs hf, fun I S ρ σ H Dd R h => ?_⟩
  refine q I S ρ σ H _ R (PX.imp (PX.bnd h) fun w _ ⟨e1, h1⟩ => ?_)
  intro v I1 H1 g1 ar
  have sl : SlotR X.K I1 H1 .er [] (some (some v)) (some w) := by
    rcases ar with z | ⟨z, _⟩ | ⟨z, _⟩
    · exact z
    · cases z
    · cases z
  have R1 := R.grow g1
  have R2 := R1.putN (by rw [R1.lr]; exact hl) sl
  have h1 : SPo X.K C (Γ.set i .er) σ I H S Dd (.nx (ρ.set i w)) := h1
  refine h1 I1 H1 _ _ ((g1.evo R.trk).trans (.shrink R1.trk fun j a m => ?_)) R2 fun j hj => List.getElem?_set_ne (fun z : i = j => hM (by rw [z]; exact hj))
  have m : a ∈ (if j = i then [] else S j) := m
  by_cases hj : j = i
  · rw [if_pos hj] at m; cases m
  · rw [if_neg hj] at m; exact m
def dIsiX (ok sub : Str → Bool) (i : Nat) : Env → Res D := fun ρ => match ρ[i]? with
  | some (.d .none) => .ok (.bool false)
  | some (.x c _) => if ok c = true then .ok (.bool (sub c)) else .bad
  | _ => .bad
theorem isiX_q {ok sub : Str → Bool} {i : Nat} {yv : V} {u : Value} {I : Addr → Prop} {S : Nat → List Addr} {ρ : Env} {σ : L2.St} {H : Hp} {Q : VK} (N : InW X) (hi : Γ[i]? = some .er) (cy : ClsV yv u) (h0 : PySem.W.kitOne X.K (.type "NoneType") u = some false)
    (hs : ∀ c Cc, ok c = true → X.mg c = some (.ref Cc) → XkC X.K Cc ∧ PySem.W.kitOne X.K (.ref Cc) u = some (sub c)) (R : ER X.K I Γ ρ σ H S) (h : PX X.K X.mg E I H (SU S) (PV X I H k Q) (dIsiX ok sub i ρ)) : ∃ v, σ[i]? = some (some v) ∧ rIsiX X.K [v, yv] H Q := by
  obtain ⟨v, w, e1, e2, er⟩ := R.slot i _ hi
  unfold dIsiX at h
  rw [e2] at h
  rcases er with ⟨rfl, rfl⟩ | ⟨a, Cc, dx, c, d, y, rfl, rfl, hm, ea, ed, r⟩
  · exact ⟨_, e1, _, _, u, false, rfl, cy, .inl ⟨rfl, h0⟩, h _ I H [] .refl ((At.bl false).vr k) .nil⟩
  · dsimp only at h
    by_cases ho : ok c = true
    · rw [if_pos ho] at h
      obtain ⟨T, ks⟩ := hs c Cc ho (by rw [N.mg]; exact hm)
      exact ⟨_, e1, _, _, u, sub c, rfl, cy, .inr ⟨a, Cc, dx, _, rfl, ea, ed, T, ks⟩, h _ I H [] .refl ((At.bl _).vr k) .nil⟩
    · rw [if_neg ho] at h
      exact h.elim
theorem dp_isiX {ok sub : Str → Bool} {i : Nat} {z y : Str} {p p2 p3 : Pos} {Cy : Addr} (N : InW X) (hi : Γ[i]? = some .er) (hz : X.N[i]? = some z) (hvz : Vis X.env.scope z) (hg : Gl X "isinstance") (hm : X.mg "isinstance" = none) (hg2 : Gl X y) (hm2 : X.mg y = some (.ref Cy))
    (h0 : PySem.W.kitOne X.K (.type "NoneType") (.ref Cy) = some false) (hs : ∀ c Cc, ok c = true → X.mg c = some (.ref Cc) → XkC X.K Cc ∧ PySem.W.kitOne X.K (.ref Cc) (.ref Cy) = some (sub c))
    (hdb2 : (y == ("__debug__" : Str)) = false := by decide) (hdz : (z == ("__debug__" : Str)) = false := by decide) (hcz : (z == ("__classdict__" : Str)) = false := by decide) (hv : bootBuiltins "isinstance" = some (.builtin "isinstance") := by exact PyProof.Rows.Boot.«isinstance»)
    (he : starEach [.Name z p3, .Name y p2] X.env = (false, eval (.Name z p3) X.env) :: starEach [.Name y p2] X.env := by rfl) (he2 : starEach [.Name y p2] X.env = (false, eval (.Name y p2) X.env) :: starEach [] X.env := by rfl) (hpl : (backTo pos (starEach [.Name y p2] X.env)).any (·.1) = false := by rfl) :
    DP X E Γ (.Call (.Name "isinstance" p) [.Name z p3, .Name y p2] [] pos) k (dIsiX ok sub i) :=
  ⟨_, pe_callB call_isiX hg hm hv (pa_cons (pe_var hz hvz hdz hcz) (pa_cons (pe_glob (v := .ref Cy) hg2 hm2 rfl hdb2) pa_nil he2) he) (by decide) (by decide) he hpl, fun I S ρ σ H Q R h => isiX_q N hi (.own Cy) h0 hs R h⟩
theorem dp_isiXT {ok sub : Str → Bool} {i : Nat} {z y : Str} {p p2 p3 : Pos} {T : String} (N : InW X) (hi : Γ[i]? = some .er) (hz : X.N[i]? = some z) (hvz : Vis X.env.scope z) (hg : Gl X "isinstance") (hm : X.mg "isinstance" = none) (hg2 : Gl X y) (hm2 : X.mg y = none) (hv2 : bootBuiltins y = some (.type T))
    (h0 : PySem.W.kitOne X.K (.type "NoneType") (.type T) = some false) (hs : ∀ c Cc, ok c = true → X.mg c = some (.ref Cc) → XkC X.K Cc ∧ PySem.W.kitOne X.K (.ref Cc) (.type T) = some (sub c))
    (hn2 : y ≠ "__name__" := by decide) (hdb2 : (y == ("__debug__" : Str)) = false := by decide) (hdz : (z == ("__debug__" : Str)) = false := by decide) (hcz : (z == ("__classdict__" : Str)) = false := by decide) (hv : bootBuiltins "isinstance" = some (.builtin "isinstance") := by exact PyProof.Rows.Boot.«isinstance»)
    (he : starEach [.Name z p3, .Name y p2] X.env = (false, eval (.Name z p3) X.env) :: starEach [.Name y p2] X.env := by rfl) (he2 : starEach [.Name y p2] X.env = (false, eval (.Name y p2) X.env) :: starEach [] X.env := by rfl) (hpl : (backTo pos (starEach [.Name y p2] X.env)).any (·.1) = false := by rfl) :
    DP X E Γ (.Call (.Name "isinstance" p) [.Name z p3, .Name y p2] [] pos) k (dIsiX ok sub i) :=
  ⟨_, pe_callB call_isiX hg hm hv (pa_cons (pe_var hz hvz hdz hcz) (pa_cons (pe_bltn (v := .ty T) hg2 hm2 hv2 rfl hn2 hdb2) pa_nil he2) he) (by decide) (by decide) he hpl, fun I S ρ σ H Q R h => isiX_q N hi (.ty T) h0 hs R h⟩
def dValX (ok : Str → Bool) (i : Nat) : Env → Res D := fun ρ => match ρ[i]? with
  | some (.x c d) => if ok c = true then .ok d else .bad
  | _ => .bad
theorem dp_valX {ok : Str → Bool} {i : Nat} {z : Str} {p3 : Pos} (N : InW X) (hi : Γ[i]? = some .er) (hz : X.N[i]? = some z) (hvz : Vis X.env.scope z) (hs : ∀ c Cc, ok c = true → X.mg c = some (.ref Cc) → XkC X.K Cc)
    (hdz : (z == ("__debug__" : Str)) = false := by decide) (hcz : (z == ("__classdict__" : Str)) = false := by decide) (hb : attributeBase (.Name z p3) "value" X.env (eval (.Name z p3) X.env) = eval (.Name z p3) X.env := by rfl) : DP X E Γ (.Attribute (.Name z p3) "value" pos) (some 0) (dValX ok i) := by
  refine ⟨_, pe_xk (pe_var hz hvz hdz hcz) hb, fun I S ρ σ H Q R h => ?_⟩
  obtain ⟨v, w, e1, e2, er⟩ := R.slot i _ hi
  unfold dValX at h
  rw [e2] at h
  rcases er with ⟨rfl, rfl⟩ | ⟨a, Cc, dx, c, d, y, rfl, rfl, hm, ea, ed, r⟩
  · exact h.elim
  · dsimp only at h
    by_cases ho : ok c = true
    · rw [if_pos ho] at h
      have T := hs c Cc ho (by rw [N.mg]; exact hm)
      rw [← N.K] at r
      exact ⟨_, e1, a, Cc, dx, _, y, rfl, T.xf, T.noV, ea, ed, rfl, h y I H [] .refl (.sh r) .nil⟩
    · rw [if_neg ho] at h
      exact h.elim
/-- err is None -/
def dIsNX (i : Nat) : Env → Res D := fun ρ => match ρ[i]? with
  | some (.d .none) => .ok (.bool true)
  | some (.x _ _) => .ok (.bool false)
  | _ => .bad
end
end DL

namespace DL
open PySem PySem.Spec PyProof.Rows L2

section
variable [Wd] {X : Cx} {E : XK} {Γ : List SK} {pos : Pos} {k kj : Option Nat}
theorem intsRp {K : PySem.W.Frag} {I : Addr → Prop} {H : Hp} : ∀ ns : List Int, RpA K I H (ns.map V.int) (ns.map PyData.int)
  | [] => .nil
  | n :: r => .cons (.int n) (intsRp r)
/-- len(script) -/
def dLenS (i : Nat) : Env → Res D := fun ρ => dVar i ρ >>= dLen
theorem slot_sc {K : PySem.W.Frag} {I : Addr → Prop} {S : Nat → List Addr} {ρ : Env} {σ : L2.St} {H : Hp} {i : Nat} (R : ER K I Γ ρ σ H S) (hi : Γ[i]? = some .sc) : ∃ (a : Addr) (ns : List Int), σ[i]? = some (some (.ref a)) ∧ dVar i ρ = .ok (.list (ns.map PyData.int)) ∧ SqL K H a (ns.map V.int) ∧ ns.length ≤ sizeLine := by
  obtain ⟨v, ns, e1, e2, sc⟩ := R.slot i _ hi
  obtain ⟨a, rfl, sq⟩ := sc.sq
  exact ⟨a, ns, e1, by unfold dVar; rw [e2], sq, sc.1⟩
theorem dp_lenS {i : Nat} {x : Str} {p p2 : Pos} (hN : X.N[i]? = some x) (hvx : Vis X.env.scope x) (hi : Γ[i]? = some .sc) (hg : Gl X "len") (hm : X.mg "len" = none) (hd : (x == ("__debug__" : Str)) = false := by decide) (hcd : (x == ("__classdict__" : Str)) = false := by decide)
    (hv : bootBuiltins "len" = some (.builtin "len") := by exact PyProof.Rows.Boot.«len») (he : starEach [.Name x p2] X.env = (false, eval (.Name x p2) X.env) :: starEach [] X.env := by rfl) : DP X E Γ (.Call (.Name "len" p) [.Name x p2] [] pos) k (dLenS i) := by
  refine ⟨_, pe_callB call_len hg hm hv (pa_cons (pe_var hN hvx hd hcd) pa_nil he) (by decide) (by decide) he (by rfl), fun I S ρ σ H Q R h => ?_⟩
  obtain ⟨a, ns, e1, e2, sq, z⟩ := slot_sc R hi
  unfold dLenS at h
  rw [e2] at h
  have h : PV X I H k Q (.int (ns.map PyData.int).length) := h
  rw [List.length_map] at h
  exact ⟨.ref a, e1, _, ns.length, rfl, .inl ⟨_, sq, by rw [List.length_map]⟩, h _ I H [] .refl ((At.int _).vr k) .nil⟩
/-- script[j] -/
def dIxS (i : Nat) (fj : Env → Res D) : Env → Res D := fun ρ => fj ρ >>= fun j => dVar i ρ >>= fun d => dIx d j
theorem atI_map {α β : Type} (f : α → β) (xs : List α) (i : Int) : atI (xs.map f) i = (atI xs i).map f := by
  unfold atI
  rw [List.length_map]
  cases ixN xs.length i with
  | none => rfl
  | some j => simp
theorem dp_ixS {i : Nat} {x : Str} {p2 : Pos} {j : Expr} {fj : Env → Res D} (hN : X.N[i]? = some x) (hvx : Vis X.env.scope x) (hi : Γ[i]? = some .sc) (hj : DP X E Γ j kj fj) (hm : PlainIx j := by intro _ _; rfl) (hd : (x == ("__debug__" : Str)) = false := by decide) (hcd : (x == ("__classdict__" : Str)) = false := by decide) :
    DP X E Γ (.Subscript (.Name x p2) j pos) k (dIxS i fj) := by
  obtain ⟨tb, pb, qb⟩ := hj.ex
  refine ⟨_, pe_ix ix_list (pe_var hN hvx hd hcd) pb hm, fun I S ρ σ H Q R h => ?_⟩
  obtain ⟨a, ns, e1, e2, sq, z⟩ := slot_sc R hi
  refine ⟨.ref a, e1, ?_⟩
  refine seq1 qb R h fun dj x I1 H1 T1 e3 h1 g1 w1 n1 R1 => ?_
  obtain ⟨a', ns', e1', e2', sq', z'⟩ := slot_sc R1 hi
  rw [e1] at e1'
  cases e1'
  rw [e2'] at h1
  cases dj with
  | int jj =>
    have h1 : PX X.K X.mg E I H (SU S) (PV X I H k Q) (resO (atI (ns'.map PyData.int) jj)) := h1
    rw [atI_map] at h1
    cases e4 : atI ns' jj with
    | none => rw [e4] at h1; exact h1.elim
    | some n =>
      rw [e4] at h1
      have h1 : PV X I H k Q (.int n) := h1
      exact ⟨a, _, jj, .int n, rfl, w1.rt.int, sq', by rw [atI_map, e4]; rfl, h1 _ I1 H1 [] g1 ((At.int _).vr k) .nil⟩
  | _ => exact h1.elim
/-- script[lo:hi] -/
def dSlS (i : Nat) (fl fu : Env → Res (Option Int)) : Env → Res D := fun ρ => fl ρ >>= fun l => fu ρ >>= fun u => dVar i ρ >>= fun d => dSl d l u
theorem dp_slS {i : Nat} {x : Str} {p2 p3 : Pos} {lo hi' : Option Expr} {fl fu : Env → Res (Option Int)} (hN : X.N[i]? = some x) (hvx : Vis X.env.scope x) (hi : Γ[i]? = some .sc) (hl : DO X E Γ lo fl) (hu : DO X E Γ hi' fu) (hd : (x == ("__debug__" : Str)) = false := by decide) (hcd : (x == ("__classdict__" : Str)) = false := by decide) :
    DP X E Γ (.Subscript (.Name x p2) (.Slice lo hi' none p3) pos) (some 1) (dSlS i fl fu) := by
  obtain ⟨tl, pl, ql⟩ := hl.ex
  obtain ⟨tu, pu, qu⟩ := hu.ex
  refine ⟨_, pe_slice sl_list (pe_var hN hvx hd hcd) pl pu, fun I S ρ σ H Q R h => ?_⟩
  obtain ⟨a, ns, e1, e2, sq, z⟩ := slot_sc R hi
  refine ⟨.ref a, e1, ?_⟩
  refine ql I S ρ σ H _ R (PX.imp (PX.bnd h) fun l _ ⟨e2, h2⟩ => ?_)
  intro I2 H2 g2
  have R2 := R.grow g2
  refine qu I2 S ρ σ H2 _ R2 (PX.later (PX.bnd h2) (g2.evo R.trk) fun u _ ⟨e3, h3⟩ => ?_)
  intro I3 H3 g3
  have R3 := R2.grow g3
  obtain ⟨a', ns', e1', e2', sq', z'⟩ := slot_sc R3 hi
  rw [e1] at e1'
  cases e1'
  rw [e2'] at h3
  have g := g2.trans g3
  refine ⟨a, _, rfl, sq', fun p hp => ?_⟩
  have h3 : PV X I H (some 1) Q (.list (cutL (ns'.map PyData.int) l u)) := h3
  exact pv_list (X := X) R3.tr hp (cut_rp (intsRp ns') l u) (Nat.le_trans (cutV_length _ _ _) (by rw [List.length_map]; exact z')) fun v I' H' T g' vr nw => h3 v I' H' T (g.trans g') vr (nw.ahead g)
end
end DL
namespace DL
open PySem PySem.Spec PyProof.Rows L2
/-- the law is called -/
theorem law_end {P : Program} {w : World} {K : PySem.W.Frag} {mg mb : Str → Option Value} {k : Nat} {fa a : Addr} {cs : List (Addr × Addr)} {fd : FuncData} {x : Str} {s1 : Shared} {vs : List Value} {ns : List Int}
    (KX : K.In s1.heap) (hns : s1.heap.Ns mainGlobals mg) (hb : s1.heap.Ns builtinsNs mb) (hbb : ∀ x : Str, x ≠ "__name__" → mb x = bootBuiltins x) (hlim : s1.heap.NoLimit) (hg : s1.gens = #[])
    (hT : ∀ p ∈ cs, s1.heap.get? p.2 = some { cls := .none, data := .fields #[] }) (nT : ∀ p ∈ cs, K.lookup p.2 = none) (C : ∀ p ∈ cs, PySem.W.CodeHd s1.heap p.1 p.2)
    (hbm : ∃ (bm : Addr) (ob : Obj), mg "__builtins__" = some (.ref bm) ∧ bm ≠ builtinsNs ∧ s1.heap.get? bm = some ob ∧ ob.cls = .type "module" ∧ ob.dict = some builtinsNs ∧ ob.data = .plain)
    (ha : s1.heap.get? a = some { cls := .type "list", data := .seq vs.toArray }) (hi : IntsAre vs ns) (hl : ns.length ≤ sizeLine) (hr : Room k callerA) (gd : callerA.guards = some [])
    (F : ∀ base : Heap, K.In base → base.Ns mainGlobals mg → (∀ p ∈ cs, LamX.TabB base mg p.1 p.2) → ∃ sp : Sp, FnG P w K mg base k fa fd [x] sp ∧ ∀ H : Hp, (∀ p ∈ cs, H p.2 = some (.tbl #[])) → ScT K H (.ref a) ns → sp [.ref a] H (fun v _ => v = .bl true) fun _ _ _ => False)
    (hbind : ∀ (s : Shared) (u : Value), BindsTo s fd ⟨[u], []⟩ [(x, u)]) :
    codeAny (model P w) callerA (.call (.ref fa) ⟨[.ref a], []⟩) (fun r s' => r = .ok (.ret (.bool true)) ∧ OldK s1.heap s'.heap ∧ s'.os = s1.os ∧ AllBare s'.gens) s1 := by
  have rv := vals_ints hi
  have tabAt : ∀ b : Addr, b ∈ cs.map (·.2) → s1.heap.get? b = some { cls := .none, data := .fields #[] } := fun b m => by
    obtain ⟨p, hp, rfl⟩ := List.mem_map.mp m
    exact hT p hp
  have tabIn : ∀ p ∈ cs, p.2 ∈ cs.map (·.2) := fun p hp => List.mem_map.mpr ⟨p, hp, rfl⟩
  have aN : a ∉ cs.map (·.2) := fun m => by
    have := tabAt a m
    rw [ha] at this
    have := congrArg Obj.data (Option.some.inj this)
    cases this
  -- all from one abstract heap: the tables, and the script if it is no part of the written one
  suffices core : ∀ H : Hp, (∀ p ∈ cs, H p.2 = some (.tbl #[])) → (∀ b u, H b = some u → (b ∈ cs.map (·.2) ∧ u = .tbl #[]) ∨ (b = a ∧ K.lookup a = none ∧ ∃ o, u = .frz o (.lst (ns.map V.int)))) → ScT K H (.ref a) ns → HOk P w H s1.heap →
      codeAny (model P w) callerA (.call (.ref fa) ⟨[.ref a], []⟩) (fun r s' => r = .ok (.ret (.bool true)) ∧ OldK s1.heap s'.heap ∧ s'.os = s1.os ∧ AllBare s'.gens) s1 by
    cases hk : K.lookup a with
    | some o =>
      have e := KX a o hk
      rw [ha] at e
      cases e
      refine core (fun b => if b ∈ cs.map (·.2) then some (.tbl #[]) else none) (fun p hp => if_pos (tabIn p hp)) (fun b u e => ?_) ⟨hl, a, rfl, .inr ⟨_, vs.toArray, _, hk, rfl, rfl, rfl, by rw [List.size_toArray, hi.length]; exact hl, by simpa using rv⟩⟩ fun b u e => ?_
      · try dsimp only at e
        by_cases m : b ∈ cs.map (·.2)
        · rw [if_pos m] at e; cases e; exact .inl ⟨m, rfl⟩
        · rw [if_neg m] at e; cases e
      · try dsimp only at e
        by_cases m : b ∈ cs.map (·.2)
        · rw [if_pos m] at e; cases e; exact tabAt b m
        · rw [if_neg m] at e; cases e
    | none =>
      refine core (fun b => if b ∈ cs.map (·.2) then some (.tbl #[]) else if b = a then some (.frz { cls := .type "list", data := .seq vs.toArray } (.lst (ns.map V.int))) else none) (fun p hp => if_pos (tabIn p hp)) (fun b u e => ?_) ⟨hl, a, rfl, .inl ⟨{ cls := .type "list", data := .seq vs.toArray }, by show (if a ∈ cs.map (·.2) then some (HO.tbl #[]) else _) = _; rw [if_neg aN, if_pos rfl]⟩⟩ fun b u e => ?_
      · try dsimp only at e
        by_cases m : b ∈ cs.map (·.2)
        · rw [if_pos m] at e; cases e; exact .inl ⟨m, rfl⟩
        · rw [if_neg m] at e
          by_cases hb : b = a
          · rw [if_pos hb] at e; cases e; exact .inr ⟨hb, hk, _, rfl⟩
          · rw [if_neg hb] at e; cases e
      · try dsimp only at e
        by_cases m : b ∈ cs.map (·.2)
        · rw [if_pos m] at e; cases e; exact tabAt b m
        · rw [if_neg m] at e
          by_cases hb : b = a
          · rw [if_pos hb] at e
            cases e
            rw [hb]
            exact ⟨ha, by rw [List.length_map]; exact hl, vs, _, rv, ha⟩
          · rw [if_neg hb] at e; cases e
  intro H hH hO hS hok
  -- what is neither a table nor a list is not tracked
  have free : ∀ {b : Addr} {o : Obj}, s1.heap.get? b = some o → o.data ≠ .fields #[] → (∀ l n, o.data ≠ .seq l n) → H b = none := fun {b o} e h1 h2 => by
    cases q : H b with
    | none => rfl
    | some u =>
      rcases hO b u q with ⟨m, _⟩ | ⟨rfl, _⟩
      · have := tabAt b m
        rw [e] at this
        cases this
        exact absurd rfl h1
      · rw [ha] at e
        cases e
        exact absurd rfl (h2 _ _)
  have base_of : ∀ {b : Addr} {o : Obj}, s1.heap.get? b = some o → H b = none → (hidT s1.heap H).get? b = some o := fun e n => hidT_get e n
  have nsB : ∀ {b : Addr} {m : Str → Option Value}, s1.heap.Ns b m → (hidT s1.heap H).Ns b m := fun {b m} ⟨o, es, ep, e, d, r⟩ => ⟨o, es, ep, base_of e (free e (by rw [d]; exact fun z => nomatch z) fun l n => by rw [d]; exact fun z => nomatch z), d, r⟩
  have KB : K.In (hidT s1.heap H) := fun b o e => base_of (KX b o e) (by
    cases q : H b with
    | none => rfl
    | some u =>
      rcases hO b u q with ⟨m, _⟩ | ⟨rfl, hk, _⟩
      · obtain ⟨p, hp, rfl⟩ := List.mem_map.mp m
        rw [nT p hp] at e
        cases e
      · rw [hk] at e
        cases e)
  have tb : ∀ p ∈ cs, LamX.TabB (hidT s1.heap H) mg p.1 p.2 := fun p hp => by
    refine ⟨?_, ?_, fun z => ?_⟩
    · obtain ⟨o, us, file, tf, flags, tg, inF, text, tt, e1, r1, r2, r3, rest⟩ := C p hp
      exact ⟨o, us, file, tf, flags, tg, inF, text, tt, base_of e1 (free e1 (by
        rw [r2]
        intro z
        cases z
        simp at r3) fun l n => by rw [r2]; exact fun z => nomatch z), r1, r2, r3, rest⟩
    · obtain ⟨bm, ob, b1, b2, b3, b4, b5, b6⟩ := hbm
      refine ⟨bm, ob, b1, b2, fun q => ?_, fun q => ?_, base_of b3 (free b3 (by rw [b6]; exact fun z => nomatch z) fun l n => by rw [b6]; exact fun z => nomatch z), b4, b5, b6⟩
      · obtain ⟨o, es, ep, e, d, _⟩ := hns
        rw [q, e] at b3
        cases b3
        rw [d] at b6
        cases b6
      · rw [q, hT p hp] at b3
        cases b3
        cases b6
    · obtain ⟨o, es, ep, e, d, _⟩ := hns
      rw [z, hT p hp] at e
      cases e
      cases d
  have hM : L2.Mod K mg (hidT s1.heap H) := ⟨KB, nsB hns, ⟨mb, nsB hb, hbb⟩, let ⟨mc, q1, q2⟩ := hlim; ⟨mc, nsB q1, q2⟩⟩
  have e0 : Env0 P w K mg (hidT s1.heap H) callerA [] s1 H := ⟨rfl, hM, fun b o e => of_hidT e, Nat.le_of_eq (hidT_size _ _), trivial, fun b m => nil_nm m, hok, .of_eq hg⟩
  obtain ⟨sp, FF, hsp⟩ := F _ KB (nsB hns) tb
  refine codeAny_mono (FF.run callerA [] s1 H ⟨[.ref a], []⟩ [.ref a] [.ref a] _ _ hr gd e0 (hbind s1 (.ref a)) (.cons rfl .nil) (hsp H hH hS)) fun r s' h => ?_
  cases r with
  | error e =>
    obtain ⟨_, _, _, _, _, _, _, _, _, _, _, _, z⟩ := h
    exact z.elim
  | ok fl =>
    cases fl with
    | next => exact False.elim h
    | brk => exact False.elim h
    | cont => exact False.elim h
    | ret u =>
      obtain ⟨v, H', os, bare, un, hok', r', q⟩ := h
      subst q
      obtain rfl : u = Value.bool true := r'
      have same : ∀ b o, b ∉ cs.map (·.2) → s1.heap.get? b = some o → s'.heap.get? b = some o := fun b o m e => by
        cases q : H b with
        | none => exact un.keep b o e q (fun z => nil_nm z) (fun z => nil_nm z)
        | some u =>
          rcases hO b u q with ⟨z, _⟩ | ⟨rfl, _, ob, rfl⟩
          · exact absurd z m
          · have e1 := (hok b _ q).1
            rw [e] at e1
            cases e1
            exact (hok' b _ (un.frzs b o _ q)).1
      have more : ∀ p ∈ cs, ∃ ps : Array Value, s'.heap.get? p.2 = some { cls := .none, data := .fields ps } := fun p hp => let ⟨_, z⟩ := un.tbls p.2 #[] (hH p hp); ⟨_, hok' p.2 _ z⟩
      refine ⟨rfl, ⟨fun b o e => ?_, fun b o e => ?_⟩, os, bare⟩
      · by_cases m : b ∈ cs.map (·.2)
        · obtain ⟨p, hp, rfl⟩ := List.mem_map.mp m
          obtain ⟨ps, hm⟩ := more p hp
          rw [hT p hp] at e
          cases e
          exact .inr (.inl ⟨((C p hp).tab (hT p hp)).isCodeTable, rfl, #[], ps, rfl, by rw [Array.empty_append]; exact hm⟩)
        · exact .inl (same b o m e)
      · by_cases m : b ∈ cs.map (·.2)
        · obtain ⟨p, hp, rfl⟩ := List.mem_map.mp m
          obtain ⟨ps, hm⟩ := more p hp
          exact ⟨_, hm⟩
        · exact ⟨o, same b o m e⟩
end DL

namespace DL
open PySem PySem.Spec PyProof.Rows L2

theorem args_sum2' (a b : Value) : argsOk "sum" ⟨[a, b], []⟩ := by unfold argsOk; kernel_rfl
theorem sub_list_str' : isSubtype (.type "list") (.type "str") = pure false := by rw [isSubtype_type]; kernel_rfl
theorem sub_list_bytes' : isSubtype (.type "list") (.type "bytes") = pure false := by rw [isSubtype_type]; kernel_rfl
theorem sub_list_ba' : isSubtype (.type "list") (.type "bytearray") = pure false := by rw [isSubtype_type]; kernel_rfl
section
variable {prog : Program} {w : World} {A : Around} {R : Result → Shared → Prop} {I l : Addr} {items : Array Value}
/-- the lists that are summed stand in h0 -/
def Sub0 (h0 : Heap) (items : Array Value) (val : Nat → List Value) (I S : Addr) : Prop := ∀ (i : Nat) (v : Value), items[i]? = some v → ∃ (b : Addr) (c : Nat), v = .ref b ∧ IsL h0 b (val i).toArray c ∧ b ≠ I ∧ b ≠ S
def catV (val : Nat → List Value) : Nat → Nat → List Value
  | 0, _ => []
  | k + 1, i => val i ++ catV val k (i + 1)
theorem sum_loopL (hh : A.in1.handled = none) (hne : l ≠ I) {h0 : Heap} {val : Nat → List Value} {S : Addr} (hSI : S ≠ I) (hSl : S ≠ l) (hv : Sub0 h0 items val I S) :
    ∀ (k i : Nat) (s : Shared) (t : Addr) (tits : List Value) (tc c : Nat), items.size - i = k → i ≤ items.size → s.heap.IsListIter I l i → s.heap.IsList l items → (∀ b o, b ≠ I → b ≠ S → h0.get? b = some o → s.heap.get? b = some o) →
    IsL s.heap S #[.ref t] c → IsL s.heap t tits.toArray tc → t ≠ I → t ≠ S → (tits ++ catV val k i).length ≤ sizeLine →
    (∀ h' tk r rc, (∀ b o, b ≠ I → b ≠ S → s.heap.get? b = some o → h'.get? b = some o) → IsL h' r (tits ++ catV val k i).toArray rc → ((k = 0 ∧ r = t) ∨ (k ≠ 0 ∧ s.heap.get? r = none)) → R (.ok (.ret (.ref r))) { s with heap := h', toks := tk }) →
    codeAny (model prog w) A (.builtin "sum.loop" ⟨[.ref I, .ref S, rawInt 2, rawInt 0], []⟩) R s := by
  have W : Walks prog w A.in1 I [I, l] [I] items.size (fun i v => items[i]? = some v) (fun i h => h.IsListIter I l i ∧ h.IsList l items) := Walks.list hh I l hne items
  intro k
  induction k with
  | zero =>
    intro i s t tits tc c hk hi hit hl hkeep hS ht htI htS hz hR
    have hin : i = items.size := by omega
    subst hin
    refine codeAny_builtin F.entry_sum_loop (by
      rw [Around.under_plainId F.plain_sum_loop _]
      show wpAny _ A.in1 (seqItems? (.ref S) >>= _) _ _ s
      refine wpAny_bind (wpAny_seqItems hS rfl ?_)
      show wpAny _ A.in1 (tryCatch (pyNext (.ref I)) _ >>= _) _ _ s
      refine wpAny_bind (wpAny_tryCatch (W.done s _ _ ⟨hit, hl⟩ fun h' tk hk' => wpAny_pure (hR h' tk t tc (fun b o h1 h2 e => hk' b o (by simpa using h1) e) ?_ (.inl ⟨rfl, rfl⟩))))
      have e : tits ++ catV val 0 items.size = tits := by simp [catV]
      rw [e]
      exact hk' t _ (by simpa using htI) ht)
  | succ k ih =>
    intro i s t tits tc c hk hi hit hl hkeep hS ht htI htS hz hR
    have hlt : i < items.size := by omega
    refine codeAny_builtin F.entry_sum_loop (by
      rw [Around.under_plainId F.plain_sum_loop _]
      show wpAny _ A.in1 (seqItems? (.ref S) >>= _) _ _ s
      refine wpAny_bind (wpAny_seqItems hS rfl ?_)
      show wpAny _ A.in1 (tryCatch (pyNext (.ref I)) _ >>= _) _ _ s
      refine wpAny_bind (wpAny_tryCatch (W.item i s _ _ hlt ⟨hit, hl⟩ fun v h1 tk hP hst hk1 => ?_))
      obtain ⟨b, bc, rfl, eb, hbI, hbS⟩ := hv i v hP
      have k1 : ∀ a o, a ≠ I → s.heap.get? a = some o → h1.get? a = some o := fun a o n e => hk1 a o (by simpa using n) e
      have ht1 : IsL h1 t tits.toArray tc := k1 t _ htI ht
      have hb1 : IsL h1 b (val i).toArray bc := k1 b _ hbI (hkeep b _ hbI hbS eb)
      have hS1 : IsL h1 S #[.ref t] c := k1 S _ hSI hS
      have eL : catV val (k + 1) i = val i ++ catV val k (i + 1) := rfl
      rw [eL] at hz
      have hlen : tits.length + (val i).length ≤ sizeLine := by
        rw [List.length_append, List.length_append] at hz
        omega
      show wpAny _ A.in1 ((holding [Value.ref b] (binaryOp .Add (.ref t) (.ref b))).attempt >>= _) _ _ _
      refine wpAny_bind (wpAny_attempt (wpAny_holding (PySem.P.add_list ht1 hb1 ?_ (by rw [List.size_toArray, List.size_toArray]; exact hlen))))
      have ea : tits.toArray ++ (val i).toArray = (tits ++ val i).toArray := by simp
      rw [ea]
      generalize hn : h1.objs.size = n
      have p2 : ∀ a o, h1.get? a = some o → (h1.push { cls := .type "list", data := .seq (tits ++ val i).toArray }).get? a = some o := fun a o e => Heap.get?_push_of_some _ e
      have hnew : IsL (h1.push { cls := .type "list", data := .seq (tits ++ val i).toArray }) n (tits ++ val i).toArray 0 := by rw [← hn]; exact Heap.get?_push_size _ rfl
      have nS : n ≠ S := fun z => Nat.lt_irrefl _ (by have := Heap.lt_size hS1; rw [← z, ← hn] at this; exact this)
      have nI : n ≠ I := fun z => by
        obtain ⟨o, ho, _⟩ := hst.1
        have := Heap.lt_size ho
        rw [← z, ← hn] at this
        exact Nat.lt_irrefl _ this
      show wpAny _ A.in1 (updateSeq S (fun _ => #[.ref n]) >>= _) _ _ _
      refine wpAny_bind (wpAny_updateSeq (p2 _ _ hS1) rfl ?_)
      have hS2 := (show IsL _ S _ _ from p2 _ _ hS1).update (fun _ => #[Value.ref n])
      refine wpAny_bind (wpAny_letGo (wpAny_bind (wpAny_updateSeq hS2 rfl ?_)))
      have hS3 := hS2.update (fun _ => #[Value.ref n])
      have up : ∀ {g : Heap} {f : Array Value → Array Value} {a : Addr} {o : Obj}, a ≠ S → g.get? a = some o → (g.update S (Obj.mapSeq f)).get? a = some o := fun {g f a o} q e => (Heap.get?_update_other _ _ (Ne.symm q)).trans e
      have all : ∀ a o, a ≠ I → a ≠ S → s.heap.get? a = some o → (((h1.push { cls := .type "list", data := .seq (tits ++ val i).toArray }).update S (Obj.mapSeq fun _ => #[Value.ref n])).update S (Obj.mapSeq fun _ => #[Value.ref n])).get? a = some o := fun a o q1 q2 e => up q2 (up q2 (p2 _ _ (k1 a o q1 e)))
      refine wpAny_pure ⟨plainId_quiet F.plain_sum_loop _, ih (i + 1) _ n (tits ++ val i) 0 _ (by omega) hlt ?_ ?_ (fun a o q1 q2 e => all a o q1 q2 (hkeep a o q1 q2 e)) hS3 (up nS (up nS hnew)) nI nS (by rw [List.append_assoc]; exact hz) fun h' tk' r rc q1 q2 q3 => ?_⟩
      · exact hst.1.at fun o e => up hSI.symm (up hSI.symm (p2 _ _ e))
      · exact hst.2.at fun o e => up hSl.symm (up hSl.symm (p2 _ _ e))
      · rw [List.append_assoc] at q2
        refine hR h' tk' r rc (fun a o r1 r2 e => q1 a o r1 r2 (all a o r1 r2 e)) q2 (.inr ?_)
        refine ⟨Nat.succ_ne_zero k, ?_⟩
        cases er : s.heap.get? r with
        | none => rfl
        | some o =>
          exfalso
          rcases q3 with ⟨_, rfl⟩ | ⟨_, q3⟩
          · have := k1 r o nI er
            rw [Heap.get?_none_of_le (Nat.le_of_eq hn)] at this
            cases this
          · by_cases r1 : r = I
            · subst r1
              obtain ⟨o', ho', _⟩ := hst.1
              rw [up hSI.symm (up hSI.symm (p2 _ _ ho'))] at q3
              cases q3
            · by_cases r2 : r = S
              · subst r2
                rw [hS3] at q3
                cases q3
              · rw [all r o r1 r2 er] at q3
                cases q3)
end
theorem call_sumL {prog : Program} {w : World} {A : Around} {E Q : Value → Shared → Prop} {s : Shared} {l b : Addr} {items : Array Value} {bits : List Value} {bc : Nat} {val : Nat → List Value} (hh : A.handled = none) (hl : s.heap.IsList l items) (hb : IsL s.heap b bits.toArray bc)
    (hv : ∀ (i : Nat) (v : Value), items[i]? = some v → ∃ (b : Addr) (c : Nat), v = .ref b ∧ IsL s.heap b (val i).toArray c) (hz : (bits ++ catV val items.size 0).length ≤ sizeLine)
    (h : ∀ h' tk r rc, (∀ a o, s.heap.get? a = some o → h'.get? a = some o) → IsL h' r (bits ++ catV val items.size 0).toArray rc → ((items.size = 0 ∧ r = b) ∨ (items.size ≠ 0 ∧ s.heap.get? r = none)) → Q (.ref r) { s with heap := h', toks := tk }) : wpAny (model prog w) A (call (.builtin "sum") [.ref l, .ref b]) Q E s := by
  refine call_function_tree F.kind_sum F.plain_sum F.entry_sum (args_sum2' _ _) ?_
  unfold Builtin.«sum»
  simp only [List.length_cons, List.length_nil]
  rw [if_neg (by decide)]
  refine wpAny_bind (wpAny_of_eq (show Builtin.Builtins.bindParams "sum" ["start"] 0 ⟨[.ref b], []⟩ = pure [some (.ref b)] from rfl) ?_)
  refine wpAny_bind (wpAny_pyIter_list hl ?_)
  refine wpAny_bind (wpAny_pure ?_)
  generalize hI : s.heap.objs.size = I
  have p1 : ∀ a o, s.heap.get? a = some o → (s.heap.push { cls := .type "list_iterator", data := .fields #[.ref l, .int 0 0] }).get? a = some o := fun a o e => Heap.get?_push_of_some _ e
  have hbL : ∀ (h : Heap), (∀ a o, s.heap.get? a = some o → h.get? a = some o) → ∀ sh : Shared, sh.heap = h → sh.TypeIs (.ref b) "list" := fun h k sh e => ⟨_, by rw [e]; exact k _ _ hb, rfl⟩
  simp only [List.forIn_cons, List.forIn_nil]
  refine wpAny_bind (wpAny_bind (wpAny_bind (wpAny_isInstance (T := "list") (b := false) (hbL _ p1 _ rfl) sub_list_str' ?_)))
  simp only [Bool.false_eq_true, if_false]
  refine wpAny_pure (wpAny_bind (wpAny_bind (wpAny_isInstance (T := "list") (b := false) (hbL _ p1 _ rfl) sub_list_bytes' ?_)))
  simp only [Bool.false_eq_true, if_false]
  refine wpAny_pure (wpAny_bind (wpAny_bind (wpAny_isInstance (T := "list") (b := false) (hbL _ p1 _ rfl) sub_list_ba' ?_)))
  simp only [Bool.false_eq_true, if_false]
  refine wpAny_pure (wpAny_pure (wpAny_bind (wpAny_newObj_type ?_)))
  have old : ∀ {a : Addr} {o : Obj}, s.heap.get? a = some o → a < I := fun {a o} e => by rw [← hI]; exact Heap.lt_size e
  have iI : (s.heap.push { cls := .type "list_iterator", data := .fields #[.ref l, .int 0 0] }).get? I = some { cls := .type "list_iterator", data := .fields #[.ref l, .int 0 0] } := by rw [← hI]; exact Heap.get?_push_size _ rfl
  have hS : I < (s.heap.push { cls := .type "list_iterator", data := .fields #[.ref l, .int 0 0] }).objs.size := Heap.lt_size iI
  generalize hSz : (s.heap.push { cls := .type "list_iterator", data := .fields #[.ref l, .int 0 0] }).objs.size = S at hS
  have hlI : l < I := by obtain ⟨o, e, _⟩ := hl; exact old e
  have p2 : ∀ a o, (s.heap.push { cls := .type "list_iterator", data := .fields #[.ref l, .int 0 0] }).get? a = some o → ((s.heap.push { cls := .type "list_iterator", data := .fields #[.ref l, .int 0 0] }).push { cls := .type "list", data := .seq #[.ref b] }).get? a = some o := fun a o e => Heap.get?_push_of_some _ e
  have sS : ((s.heap.push { cls := .type "list_iterator", data := .fields #[.ref l, .int 0 0] }).push { cls := .type "list", data := .seq #[.ref b] }).get? S = some { cls := .type "list", data := .seq #[.ref b] } := by rw [← hSz]; exact Heap.get?_push_size _ rfl
  refine wpAny_pure ⟨plainId_quiet F.plain_sum_loop _, sum_loopL (I := I) (l := l) (S := S) (h0 := s.heap) (val := val) hh (Nat.ne_of_lt hlI) (Nat.ne_of_gt hS) (Nat.ne_of_gt (Nat.lt_trans hlI hS)) (fun i v e => ?_) items.size 0 _ b bits bc 0 rfl (Nat.zero_le _) ⟨_, p2 _ _ iI, rfl, rfl⟩ (hl.at fun o e => p2 _ _ (p1 _ _ e)) (fun a o _ _ e => p2 _ _ (p1 _ _ e)) sS (p2 _ _ (p1 _ _ hb)) (Nat.ne_of_lt (old hb)) (Nat.ne_of_lt (Nat.lt_trans (old hb) hS)) hz fun h' tk r rc q1 q2 q3 => ?_⟩
  · obtain ⟨c, n, e1, e2⟩ := hv i v e
    exact ⟨c, n, e1, e2, Nat.ne_of_lt (old e2), Nat.ne_of_lt (Nat.lt_trans (old e2) hS)⟩
  · refine h h' tk r rc (fun a o e => q1 a o (Nat.ne_of_lt (old e)) (Nat.ne_of_lt (Nat.lt_trans (old e) hS)) (p2 _ _ (p1 _ _ e))) q2 (q3.imp id fun z => ⟨z.1, ?_⟩)
    cases er : s.heap.get? r with
    | none => rfl
    | some o =>
      have := p2 _ _ (p1 _ _ er)
      rw [show ((s.heap.push { cls := .type "list_iterator", data := .fields #[.ref l, .int 0 0] }).push { cls := .type "list", data := .seq #[.ref b] }).get? r = none from z.2] at this
      cases this
end DL

namespace DL
open PySem PySem.Spec PyProof.Rows L2

theorem objOk_there {P : Program} {w : World} {H : Hp} {h : Heap} {a : Addr} {u : HO} (x : ObjOk P w H h a u) : ∃ o, h.get? a = some o := by
  cases u with
  | lst xs => obtain ⟨_, _, _, _, e⟩ := x; exact ⟨_, e⟩
  | tup xs => obtain ⟨_, _, _, o, e, _⟩ := x; exact ⟨_, e⟩
  | dK kvs => obtain ⟨_, _, _, _, o, _, _, e, _⟩ := x; exact ⟨_, e⟩
  | dT kvs => obtain ⟨_, _, _, _, o, _, _, e, _⟩ := x; exact ⟨_, e⟩
  | set S n => obtain ⟨o, _, _, _, e, _⟩ := x; exact ⟨_, e⟩
  | ins C dx fs => obtain ⟨_, _, _, e, _⟩ := x; exact ⟨_, e⟩
  | own y => exact x
  | xd fs => obtain ⟨_, ⟨o, _, _, e, _⟩, _⟩ := x; exact ⟨_, e⟩
  | met f y => exact ⟨_, x⟩
  | rng lo hi => obtain ⟨_, _, _, e⟩ := x; exact ⟨_, e⟩
  | frz o v => exact ⟨_, x.1⟩
  | tbl ps => exact ⟨_, x⟩
  | ext φ => exact x.2.1
/-- a new list, wherever it is laid -/
theorem inv_new [Wd] {X : Cx} {pins : List (Addr × Obj)} {σ : L2.St} {H : Hp} {s : Shared} {h' : Heap} {t' : Nat} {r rc : Nat} {ys : List V} {its : List Value} (J : Inv X pins σ H s) (k : ∀ a o, s.heap.get? a = some o → h'.get? a = some o) (hr : s.heap.get? r = none) (ho : IsL h' r its.toArray rc) (hv : Vals ys its) (hz : ys.length ≤ sizeLine) :
    H r = none ∧ Inv X pins σ (upd H r (.lst ys)) { s with heap := h', toks := t' } := by
  have hn : H r = none := by
    cases e : H r with
    | none => rfl
    | some u =>
      obtain ⟨o, q⟩ := objOk_there (J.hok r u e)
      rw [hr] at q
      cases q
  have keep : ∀ {b : Addr} {u : HO}, H b = some u → upd H r (.lst ys) b = some u := fun {b u} e => upd_keep hn b u e
  have ne : ∀ {b : Addr} {o : Obj}, s.heap.get? b = some o → b ≠ r := fun {b o} e z => by
    rw [z, hr] at e
    cases e
  refine ⟨hn, J.un ⟨fun b o e _ _ _ => k b o e, fun b o e _ _ _ => ⟨o.slots, k b o e⟩, fun b o e n _ => by rw [upd_ne (ne e)]; exact n, fun b o e _ => ⟨o, k b o e⟩, fun b xs e => keep e, fun b o u e => keep e, fun b ps e => ⟨#[], by rw [keep e]; simp⟩⟩ fun b u e => ?_⟩
  by_cases hb : b = r
  · rw [hb, upd_same] at e
    cases e
    rw [hb]
    exact ⟨hz, its, rc, hv, ho⟩
  · rw [upd_ne hb] at e
    exact (J.hok b u e).stay (fun c v _ q => k c v q) (fun _ q => keep q) fun _ _ q => keep q
section
variable {X : Cx}
def rSumL : List V → Hp → VK → Prop := fun vs H Q => ∃ (l b : Addr) (xs zs : List V) (ys : List (List V)), vs = [.ref l, .ref b] ∧ H l = some (.lst xs) ∧ H b = some (.lst zs) ∧ Paired (fun x y => ∃ c, x = V.ref c ∧ H c = some (.lst y)) xs ys ∧ (zs ++ ys.flatten).length ≤ sizeLine ∧ (xs = [] → Q (.ref b) H) ∧
  (xs ≠ [] → ∀ p, H p = none → Q (.ref p) (upd H p (.lst (zs ++ ys.flatten))))
theorem cat_flat : ∀ {ws : List (List Value)} {k i : Nat} {val : Nat → List Value}, (∀ j : Nat, j < ws.length → val (i + j) = ws.getD j []) → k = ws.length → catV val k i = ws.flatten
  | [], k, i, val, _, e => by subst e; rfl
  | w :: ws, k, i, val, h, e => by
    subst e
    show val i ++ catV val ws.length (i + 1) = _
    rw [cat_flat (ws := ws) (k := ws.length) (i := i + 1) (fun j hj => by
      have := h (j + 1) (by simp; omega)
      rw [show i + 1 + j = i + (j + 1) from by omega]
      simpa using this) rfl]
    have h0 := h 0 (by simp)
    rw [Nat.add_zero] at h0
    rw [h0]
    simp
theorem pairs_get {P : Program} {w : World} {H : Hp} {h : Heap} (hok : HOk P w H h) : ∀ {xs : List V} {ys : List (List V)} {us : List Value}, Paired (fun x y => ∃ c, x = V.ref c ∧ H c = some (.lst y)) xs ys → Vals xs us → ∃ ws : List (List Value), Paired Vals ys ws ∧ ws.length = us.length ∧
    ∀ (i : Nat) (v : Value), us[i]? = some v → ∃ (b : Addr) (c : Nat), v = .ref b ∧ IsL h b (ws.getD i []).toArray c
  | _, _, _, .nil, .nil => ⟨[], .nil, rfl, fun i v e => by simp at e⟩
  | _, _, _, .cons ⟨c, ex, hc⟩ r, .cons rv rvs => by
    subst ex
    obtain ⟨ws, q1, q2, q3⟩ := pairs_get hok r rvs
    obtain ⟨_, its, n, rw', ho⟩ := hok c _ hc
    refine ⟨its :: ws, .cons rw' q1, congrArg Nat.succ q2, fun i v e => ?_⟩
    cases i with
    | zero =>
      cases Option.some.inj e
      exact ⟨c, n, rv, ho⟩
    | succ i =>
      have := q3 i v (by simpa using e)
      simpa using this
theorem vals_flat : ∀ {ys : List (List V)} {ws : List (List Value)}, Paired Vals ys ws → Vals ys.flatten ws.flatten
  | _, _, .nil => .nil
  | _, _, .cons a r => by rw [List.flatten_cons, List.flatten_cons]; exact a.append (vals_flat r)
theorem cr_sumL [Wd] (hc : X.calm = true) (hh : X.A.in1.handled = X.A.handled := by rfl) : CallR X (.builtin "sum") rSumL := by
  intro pins s σ H vs us Q J r h
  obtain ⟨l, b, xs, zs, ys, rfl, hl, hb, hp, hz, q0, q1⟩ := h
  obtain ⟨u1, u2, rfl, r1, r2⟩ := vals2 r
  obtain rfl : u1 = Value.ref l := r1
  obtain rfl : u2 = Value.ref b := r2
  obtain ⟨_, its, n, rv, ol⟩ := J.hok l _ hl
  obtain ⟨_, bits, bc, rb, ob⟩ := J.hok b _ hb
  obtain ⟨ws, p1, p2, p3⟩ := pairs_get J.hok hp rv
  have ec : catV (fun i => ws.getD i []) its.toArray.size 0 = ws.flatten := cat_flat (fun j _ => by simp) (by simp [p2])
  have rf := rb.append (vals_flat p1)
  have hlen := rf.length
  refine call_sumL (val := fun i => ws.getD i []) (J.ok.hd hc) ⟨_, ol, rfl, n, rfl⟩ ob (fun i v e => p3 i v (by simpa using e)) (by rw [ec, ← hlen]; exact hz) fun h' tk r0 rc k e1 e2 => ?_
  rw [ec] at e1
  rcases e2 with ⟨e2, e3⟩ | ⟨e2, e3⟩
  · have : xs = [] := by
      have h1 := rv.length
      have h2 : its.length = 0 := by simpa using e2
      exact List.eq_nil_of_length_eq_zero (by rw [h1, h2])
    exact ⟨.ref b, H, J.kept k, by rw [e3]; rfl, q0 this⟩
  · obtain ⟨hn, J2⟩ := inv_new (t' := tk) (ys := zs ++ ys.flatten) J k e3 e1 rf hz
    refine ⟨.ref r0, _, J2, rfl, q1 (fun z => ?_) r0 hn⟩
    subst z
    cases rv
    simp at e2
end
section
variable [Wd] {X : Cx} {E : XK} {Γ : List SK} {pos : Pos} {fr : Bool} {k ka : Option Nat}
/-- sum(lists, list): shared -/
def flatD : List D → Option (List D)
  | [] => some []
  | .list xs :: r => (flatD r).map (xs ++ ·)
  | _ :: _ => none
def sumLD : D → D → Res D
  | .list xs, .list zs => match flatD xs with
    | some ys => if zs.length + ys.length ≤ 16777216 then .ok (.list (zs ++ ys)) else .bad
    | none => .bad
  | _, _ => .bad
theorem flat_rp {K : PySem.W.Frag} {J : Addr → Prop} {H : Hp} : ∀ {vs : List V} {ds ys : List D}, RpA K J H vs ds → flatD ds = some ys → ∃ yss : List (List V), Paired (fun x y => ∃ c, x = V.ref c ∧ H c = some (.lst y)) vs yss ∧ RpA K J H yss.flatten ys
  | _, _, ys, .nil, e => by cases e; exact ⟨[], .nil, .nil⟩
  | _, _, ys, .cons (d := d) a r, e => by
    cases d with
    | list xs =>
      have e : (flatD _).map (xs ++ ·) = some ys := e
      cases e2 : flatD _ with
      | none => rw [e2] at e; cases e
      | some zs =>
        rw [e2] at e
        cases e
        obtain ⟨yss, q1, q2⟩ := flat_rp r e2
        cases a with
        | lst i h z rr => exact ⟨_ :: yss, .cons ⟨_, rfl, h⟩ q1, by rw [List.flatten_cons]; exact rr.append q2⟩
    | _ => cases e
theorem vn_sumL : VN X rSumL true (d12 sumLD) (some 0) := by
  refine vn2 (fun d e c v => ?_) fun I H x y d e z Q hI rx ry hs q => ?_
  · unfold sumLD
    split
    · split
      · split <;> exact fun z => nomatch z
      · exact fun z => nomatch z
    · exact fun z => nomatch z
  · unfold sumLD at hs
    split at hs
    · rename_i xs zs
      split at hs
      · rename_i ys ef
        split at hs
        · rename_i hz
          cases hs
          have rx := RB.rp rx
          have ry := RB.rp ry
          cases rx with
          | lst ix hx zx rrx =>
            cases ry with
            | @lst _ vz _ iy hy zy rry =>
              obtain ⟨yss, q1, q2⟩ := flat_rp rrx ef
              have rr := rry.append q2
              have hlen : (vz ++ yss.flatten).length ≤ sizeLine := by rw [rr.len, List.length_append, sizeLine_eq]; exact hz
              refine ⟨_, _, _, _, yss, rfl, hx, hy, q1, hlen, fun e0 => ?_, fun _ p hp => ?_⟩
              · subst e0
                cases rrx
                cases ef
                rw [List.append_nil] at q
                exact q _ I H [] .refl (.sh (.lst iy hy zy rry)) .nil
              · exact q (.ref p) (fz I [p]) _ [] (.layI hp) (.sh (.lst (.inr (List.mem_singleton.mpr rfl)) upd_same hlen (rr.mono (fun _ z => .inl z) fun b o _ e _ => upd_keep hp b o e))) .nil
        · cases hs
      · cases hs
    · cases hs
def CPowW (i j : Int) : Prop := 0 ≤ j ∧ (Builtin.Int.intBits i : Int) * j ≤ 2 ^ 27
theorem op_powW : OpR X (binaryOp .Pow) (rI CPowW fun i j => .int (i ^ j.toNat)) := opI fun _ _ _ _ _ _ _ hc q => pow_int hc.1 hc.2 q
def dPowW : D → D → Res D := iOp fun i j => if 0 ≤ j ∧ (Builtin.Int.intBits i : Int) * j ≤ 2 ^ 27 then .ok (.int (i ^ j.toNat)) else .bad
theorem v2_powW : V2 X (rI CPowW fun i j => .int (i ^ j.toNat)) fr dPowW k := v2_int (fun i j c v => by split <;> exact fun z => nomatch z) fun i j z h => by
  split at h
  · rename_i hc
    cases h
    exact ⟨hc, .int _⟩
  · cases h
def dBits (f : Env → Res D) : Env → Res D := fun ρ => f ρ >>= fun d => match d with
  | .int i => .ok (.int (Builtin.Int.intBits i : Nat))
  | _ => .bad
theorem dp_bits {o : Expr} {apos : Pos} {f : Env → Res D} (ho : DP X E Γ o ka f) (hbase : attributeBase o "bit_length" X.env (eval o X.env) = eval o X.env := by rfl) (hline : (apos.endLine == pos.line) = true := by rfl) : DP X E Γ (.Call (.Attribute o "bit_length" apos) [] [] pos) k (dBits f) := by
  obtain ⟨ta, pa, qa⟩ := ho.ex
  refine ⟨_, pe_bits pa hbase hline, fun I S ρ σ H Q R h => ?_⟩
  refine seq1 qa R h fun d v I1 H1 T1 e1 h1 g1 w1 n1 R1 => ?_
  cases d with
  | int i => exact ⟨i, w1.rt.int, h1 _ I1 H1 [] g1 ((At.int _).vr k) .nil⟩
  | _ => exact h1.elim
def dRev (f : Env → Res D) : Env → Res D := fun ρ => f ρ >>= fun d => match d with
  | .list xs => .ok (.list xs.reverse)
  | _ => .bad
theorem RpA.rev {K : PySem.W.Frag} {J : Addr → Prop} {H : Hp} {vs : List V} {ds : List D} (r : RpA K J H vs ds) : RpA K J H vs.reverse ds.reverse := by
  match vs, ds, r with
  | [], [], .nil => exact .nil
  | _ :: _, _ :: _, .cons a r => rw [List.reverse_cons, List.reverse_cons]; exact (RpA.rev r).append (.cons a .nil)
theorem dp_rev {n : Nat} {e : Expr} {kk : Nat} {p1 p2 p3 : Pos} {f : Env → Res D} (he : DP X E Γ e (some n) f) : DP X E Γ (.Subscript e (.Slice none none (some (.UnaryOp .USub (.Constant (.int 1) kk p1) p2)) p3) pos) (some 1) (dRev f) := by
  obtain ⟨ta, pa, qa⟩ := he.ex
  refine ⟨_, pe_revL pa, fun I S ρ σ H Q R h => ?_⟩
  refine seq1 qa R h fun d v I1 H1 T1 e1 h1 g1 w1 n1 R1 => ?_
  have g := g1.fz fun a m => ⟨n1.free a m, (w1.nodes a m).ne⟩
  have r := RB.rp (w1.rb (fr := true) fun _ => by simp)
  have tr : ∀ a, fz I1 T1 a → H1 a ≠ none := fun a q => q.elim (R1.tr a) fun m => (w1.nodes a m).ne
  cases d with
  | list xs =>
    cases r with
    | lst i0 hx z rr =>
      exact ⟨_, _, rfl, .inl (.inl hx), fun p hp => pv_list (X := X) tr hp rr.rev (by rw [List.length_reverse]; exact z) fun v I' H' T g' vr nw => h1 v I' H' T (g.trans g') vr (nw.ahead g)⟩
  | _ => exact h1.elim
end
end DL

namespace DL
open PySem PySem.Spec PyProof.Rows L2

/-- the def of the name x -/
structure Dfn (P : Program) (w : World) (K : PySem.W.Frag) (mg : Str → Option Value) (base : Heap) (k : Nat) (x : Str) (ps : List Str) (kws : List (List Str × List Nat)) (sp : Sp) : Prop where
  ex : ∃ fd, FnG P w K mg base k (He.ga K x) fd ps sp ∧ Binds K fd ps [] ∧ ∀ p ∈ kws, KwB K fd ps p.1 p.2
  kp : PySem.W.keepIn K (.ref (He.ga K x)) = true
  mg : mg x = some (.ref (He.ga K x))
/-- an error of the name x can be raised -/
structure Rai (P : Program) (w : World) (K : PySem.W.Frag) (mg : Str → Option Value) (base : Heap) (k : Nat) (x : Str) : Prop where
  ex : ∃ (Dd fI : Addr) (fd : FuncData), PCls K Dd fI (He.ga K x) ∧ PySem.W.typeIn K (.ref fI) = some (.type "function") ∧ FnOk P w K mg base CX0 k fI fd ["self", "value"] (spInit K Dd fI) ∧ Binds K fd ["self", "value"] []
  mg : mg x = some (.ref (He.ga K x))
section
variable [Wd] {X : Cx} {E : XK} {Γ : List SK} {pos : Pos} {C : Cf} {Γn : List SK} {kx kf kr n : Nat} {x : Str} {p : Pos} {e : Expr} {es : List Expr} {ps : List Str} {kws : List (List Str × List Nat)}
theorem dp_fn {m : List D → Res D} {gs : Env → Res (List D)} (F : Dfn X.prog X.w X.K X.mg X.base kf x ps kws (spP X.K X.mg kr m)) (c : Cz X E kx) (hg : Gl X x) (ha : DA X E Γ (e :: es) true gs) (hk : kf ≤ kx := by decide) (hdb : (x == ("__debug__" : Str)) = false := by decide)
    (he : starEach (e :: es) X.env = (false, eval e X.env) :: starEach es X.env := by rfl) (hpl : (backTo pos (starEach es X.env)).any (·.1) = false := by rfl) : DP X E Γ (.Call (.Name x p) (e :: es) [] pos) (some kr) (dN m gs) := by
  obtain ⟨fd, G, b, _⟩ := F.ex
  exact dp_call G c hk hg F.mg F.kp b ha hdb he hpl
theorem dp_fn0 {m : List D → Res D} (F : Dfn X.prog X.w X.K X.mg X.base kf x ps kws (spP X.K X.mg kr m)) (c : Cz X E kx) (hg : Gl X x) (hk : kf ≤ kx := by decide) (hdb : (x == ("__debug__" : Str)) = false := by decide) : DP X E Γ (.Call (.Name x p) [] [] pos) (some kr) (fun _ => m []) := by
  obtain ⟨fd, G, b, _⟩ := F.ex
  exact dp_call0 G c hk hg F.mg F.kp b hdb
theorem dx_fn {m : List D → Res D} {gs : Env → Res (List D × Env)} (F : Dfn X.prog X.w X.K X.mg X.base kf x ps kws (spP X.K X.mg kr m)) (c : Cz X E kx) (hg : Gl X x) (ha : DAX X E Γ (e :: es) gs) (hk : kf ≤ kx := by decide) (hdb : (x == ("__debug__" : Str)) = false := by decide)
    (he : starEach (e :: es) X.env = (false, eval e X.env) :: starEach es X.env := by rfl) (hpl : (backTo pos (starEach es X.env)).any (·.1) = false := by rfl) : DX X E Γ (.Call (.Name x p) (e :: es) [] pos) (some kr) (dNX m gs) := by
  obtain ⟨fd, G, b, _⟩ := F.ex
  exact dx_callF G c hk hg F.mg F.kp b ha hdb he hpl
/-- only keywords -/
def dNK (n : Nat) (ix : List Nat) (m : List D → Res D) (gs : Env → Res (List D)) : Env → Res D := fun ρ => gs ρ >>= fun ds => if ds.length = n then m (perm ix ds) else .bad
theorem dp_fnK {m : List D → Res D} {ks : List Str} {ix : List Nat} {kwds : List Keyword} {gs : Env → Res (List D)} (F : Dfn X.prog X.w X.K X.mg X.base kf x ps kws (spP X.K X.mg kr m)) (c : Cz X E kx) (hg : Gl X x) (hkw : DK X E Γ kwds gs) (hin : (ks, ix) ∈ kws := by decide) (hpl : ps.length = ks.length := by rfl) (hk : kf ≤ kx := by decide)
    (hall : (backToKw pos (keywordEach kwds X.env)).all (·.1.isSome) = true := by rfl) (hks : (backToKw pos (keywordEach kwds X.env)).filterMap (·.1) = ks := by rfl) (hlen : kwds.length = ks.length := by rfl)
    (hdb : (x == ("__debug__" : Str)) = false := by decide) (hpl2 : ((backTo pos (starEach [] X.env)).any (·.1) || (backToKw pos (keywordEach kwds X.env)).any (·.1.isNone)) = false := by rfl) : DP X E Γ (.Call (.Name x p) [] kwds pos) (some kr) (dNK ks.length ix m gs) := by
  obtain ⟨fd, G, _, b⟩ := F.ex
  exact dp_callK G c hk hg F.mg F.kp (b _ hin) hpl hkw hall hks hlen hdb hpl2
/-- f(generator, ..) -/
theorem dx_gen {m : List D → Res (D × D)} {i : Nat} {gs : Env → Res (List D)} (F : Dfn X.prog X.w X.K X.mg X.base kf x ps kws (spM X.K X.mg 0 n kr m)) (c : Cz X E kx) (hg : Gl X x) (hi : Γ[i]? = some (.da n)) (ha : DM X E Γ (e :: es) i n gs) (hk : kf ≤ kx := by decide) (hdb : (x == ("__debug__" : Str)) = false := by decide)
    (he : starEach (e :: es) X.env = (false, eval e X.env) :: starEach es X.env := by rfl) (hpl : (backTo pos (starEach es X.env)).any (·.1) = false := by rfl) : DX X E Γ (.Call (.Name x p) (e :: es) [] pos) (some kr) (dM i m gs) := by
  obtain ⟨fd, G, b, _⟩ := F.ex
  exact dx_call G c hk hg F.mg F.kp b hi ha hdb he hpl
theorem dp_fnC {Γp : List SK} {m : List W → Res W} {gs : Env → Res (List W)} (F : Dfn X.prog X.w X.K X.mg X.base kf x ps kws (spC X.K X.mg Γp (.da n) m)) (c : Cz X E kx) (N : InW X) (hfn : ∀ x, X.fn x = true) (hkc : 0 < Wd.kc) (hg : Gl X x) (ha : DAC X E Γ (e :: es) Γp gs) (hk : kf ≤ kx := by decide) (hdb : (x == ("__debug__" : Str)) = false := by decide)
    (he : starEach (e :: es) X.env = (false, eval e X.env) :: starEach es X.env := by rfl) (hpl : (backTo pos (starEach es X.env)).any (·.1) = false := by rfl) : DP X E Γ (.Call (.Name x p) (e :: es) [] pos) (some n) (dNC m gs) := by
  obtain ⟨fd, G, b, _⟩ := F.ex
  exact dp_callC G c hk N hfn hkc hg F.mg F.kp b ha hdb he hpl
def eNC (m : List W → Res W) (gs : Env → Res (List W)) : Env → Res W := fun ρ => gs ρ >>= m
theorem de_fnC {Γp : List SK} {m : List W → Res W} {gs : Env → Res (List W)} (F : Dfn X.prog X.w X.K X.mg X.base kf x ps kws (spC X.K X.mg Γp .er m)) (c : Cz X E kx) (N : InW X) (hfn : ∀ x, X.fn x = true) (hkc : 0 < Wd.kc) (hg : Gl X x) (ha : DAC X E Γ (e :: es) Γp gs) (hk : kf ≤ kx := by decide) (hdb : (x == ("__debug__" : Str)) = false := by decide)
    (he : starEach (e :: es) X.env = (false, eval e X.env) :: starEach es X.env := by rfl) (hpl : (backTo pos (starEach es X.env)).any (·.1) = false := by rfl) : DE X E Γ (.Call (.Name x p) (e :: es) [] pos) .er (eNC m gs) := by
  obtain ⟨fd, G, b, _⟩ := F.ex
  exact de_callC G c hk N hfn hkc hg F.mg F.kp b ha hdb he hpl
theorem ds_rai {p1 p2 : Pos} {gs : Env → Res (List D)} (F : Rai X.prog X.w X.K X.mg X.base kf x) (c : Cz X E kx) (hcalm : X.calm = true) (hg : Gl X x) (ha : DA X E Γ [e] true gs) (hk : kf + 1 ≤ kx := by decide) (hdb : (x == ("__debug__" : Str)) = false := by decide) (he : starEach [e] X.env = (false, eval e X.env) :: starEach [] X.env := by rfl) :
    DS1 X E C Γ (.Raise (some (.Call (.Name x p1) [e] [] p2)) none pos) Γn (sRaise x gs) := by
  obtain ⟨Dd, fI, fd, T, tI, G, b⟩ := F.ex
  exact ds_raise T tI G c hk hcalm hg F.mg b ha hdb he
end
end DL

namespace DL
open PySem PySem.Spec PyProof.Rows L2
/-- built-in names that no module redefines -/
def BL : List Str := ["isinstance", "int", "bool", "len", "range", "all", "any", "sum", "max", "min", "list", "tuple", "str", "repr", "enumerate", "zip", "sorted", "abs", "dict", "ValueError", "super", "reversed", "set"]
abbrev NoG (mg : Str → Option Value) : Prop := ∀ x ∈ BL, mg x = none
abbrev cfP (nN kr : Nat) : Cf := ⟨[], [], [], List.replicate nN .no, kr⟩
abbrev cfM (n nN kr : Nat) : Cf := ⟨[0], [], [], gamR n nN, kr⟩
section
variable [Wd] {X : Cx} {E : XK} {Γ : List SK} {pos : Pos} {k ka kb kc : Option Nat} {a b c : Expr} {f g h : Env → Res D} {kx na : Nat} {fr : Bool} {fx gx : Env → Res (D × Env)}

theorem q_add (ha : DP X E Γ a ka f) (hb : DP X E Γ b kb g) (h1 : ka ≠ none := by simp) (h2 : kb ≠ none := by simp) : DP X E Γ (.BinOp a .Add b pos) (some 1) (d2 dAdd f g) := dp_op op_addA v2_add ha hb (fun _ => h1) (fun _ => h2)
theorem x_add (ha : DX X E Γ a (some na) fx) (hb : DX X E Γ b kb gx) (h2 : kb ≠ none := by simp) : DX X E Γ (.BinOp a .Add b pos) (some 1) (d2X dAdd fx gx) := dx_op (fr := true) op_addA v2_add ha hb (fun _ => h2)
theorem q_mul (ha : DP X E Γ a ka f) (hb : DP X E Γ b kb g) (h1 : ka ≠ none := by simp) (h2 : kb ≠ none := by simp) : DP X E Γ (.BinOp a .Mult b pos) (some 1) (d2 dMul f g) := dp_op op_mulA v2_mul ha hb (fun _ => h1) (fun _ => h2)
theorem x_mul (ha : DX X E Γ a (some na) fx) (hb : DX X E Γ b kb gx) (h2 : kb ≠ none := by simp) : DX X E Γ (.BinOp a .Mult b pos) (some 1) (d2X dMul fx gx) := dx_op (fr := true) op_mulA v2_mul ha hb (fun _ => h2)
theorem q_sub (ha : DP X E Γ a ka f) (hb : DP X E Γ b kb g) : DP X E Γ (.BinOp a .Sub b pos) k (d2 dSub f g) := dp_op (fr := false) op_sub v2_sub ha hb (fun z => nomatch z) (fun z => nomatch z)
theorem x_sub (ha : DX X E Γ a (some na) fx) (hb : DX X E Γ b kb gx) : DX X E Γ (.BinOp a .Sub b pos) k (d2X dSub fx gx) := dx_op (fr := false) op_sub v2_sub ha hb (fun z => nomatch z)
theorem q_div (ha : DP X E Γ a ka f) (hb : DP X E Γ b kb g) : DP X E Γ (.BinOp a .FloorDiv b pos) k (d2 dDiv f g) := dp_op (fr := false) op_fdivN v2_div ha hb (fun z => nomatch z) (fun z => nomatch z)
theorem x_div (ha : DX X E Γ a (some na) fx) (hb : DX X E Γ b kb gx) : DX X E Γ (.BinOp a .FloorDiv b pos) k (d2X dDiv fx gx) := dx_op (fr := false) op_fdivN v2_div ha hb (fun z => nomatch z)
theorem q_mod (ha : DP X E Γ a ka f) (hb : DP X E Γ b kb g) : DP X E Γ (.BinOp a .Mod b pos) k (d2 dMod f g) := dp_op (fr := false) op_modN v2_mod ha hb (fun z => nomatch z) (fun z => nomatch z)
theorem x_mod (ha : DX X E Γ a (some na) fx) (hb : DX X E Γ b kb gx) : DX X E Γ (.BinOp a .Mod b pos) k (d2X dMod fx gx) := dx_op (fr := false) op_modN v2_mod ha hb (fun z => nomatch z)
theorem q_pow (ha : DP X E Γ a ka f) (hb : DP X E Γ b kb g) : DP X E Γ (.BinOp a .Pow b pos) k (d2 dPowW f g) := dp_op (fr := false) op_powW v2_powW ha hb (fun z => nomatch z) (fun z => nomatch z)
theorem x_pow (ha : DX X E Γ a (some na) fx) (hb : DX X E Γ b kb gx) : DX X E Γ (.BinOp a .Pow b pos) k (d2X dPowW fx gx) := dx_op (fr := false) op_powW v2_powW ha hb (fun z => nomatch z)
theorem q_lt (ha : DP X E Γ a ka f) (hb : DP X E Γ b kb g) (hm : behindInMarks .Lt b = false := by rfl) : DP X E Γ (.Compare a [.Lt] [b] pos) k (d2 dLt f g) := dp_cmp (fr := false) op_lt v2_lt ha hb hm (fun z => nomatch z) (fun z => nomatch z)
theorem t_lt (ha : DP X E Γ a ka f) (hb : DP X E Γ b kb g) (hm : behindInMarks .Lt b = false := by rfl) : DT X E Γ (.Compare a [.Lt] [b] pos) (tVal (d2 dLt f g)) := dt_cmp (fr := false) op_lt v2_lt ha hb hm (fun z => nomatch z) (fun z => nomatch z)
theorem x_lt (ha : DX X E Γ a (some na) fx) (hb : DX X E Γ b kb gx) (hm : behindInMarks .Lt b = false := by rfl) : DX X E Γ (.Compare a [.Lt] [b] pos) k (d2X dLt fx gx) := dx_cmp (fr := false) op_lt v2_lt ha hb hm (fun z => nomatch z)
theorem q_le (ha : DP X E Γ a ka f) (hb : DP X E Γ b kb g) (hm : behindInMarks .LtE b = false := by rfl) : DP X E Γ (.Compare a [.LtE] [b] pos) k (d2 dLe f g) := dp_cmp (fr := false) op_le v2_le ha hb hm (fun z => nomatch z) (fun z => nomatch z)
theorem t_le (ha : DP X E Γ a ka f) (hb : DP X E Γ b kb g) (hm : behindInMarks .LtE b = false := by rfl) : DT X E Γ (.Compare a [.LtE] [b] pos) (tVal (d2 dLe f g)) := dt_cmp (fr := false) op_le v2_le ha hb hm (fun z => nomatch z) (fun z => nomatch z)
theorem x_le (ha : DX X E Γ a (some na) fx) (hb : DX X E Γ b kb gx) (hm : behindInMarks .LtE b = false := by rfl) : DX X E Γ (.Compare a [.LtE] [b] pos) k (d2X dLe fx gx) := dx_cmp (fr := false) op_le v2_le ha hb hm (fun z => nomatch z)
theorem q_gt (ha : DP X E Γ a ka f) (hb : DP X E Γ b kb g) (hm : behindInMarks .Gt b = false := by rfl) : DP X E Γ (.Compare a [.Gt] [b] pos) k (d2 dGt f g) := dp_cmp (fr := false) op_gt v2_gt ha hb hm (fun z => nomatch z) (fun z => nomatch z)
theorem t_gt (ha : DP X E Γ a ka f) (hb : DP X E Γ b kb g) (hm : behindInMarks .Gt b = false := by rfl) : DT X E Γ (.Compare a [.Gt] [b] pos) (tVal (d2 dGt f g)) := dt_cmp (fr := false) op_gt v2_gt ha hb hm (fun z => nomatch z) (fun z => nomatch z)
theorem x_gt (ha : DX X E Γ a (some na) fx) (hb : DX X E Γ b kb gx) (hm : behindInMarks .Gt b = false := by rfl) : DX X E Γ (.Compare a [.Gt] [b] pos) k (d2X dGt fx gx) := dx_cmp (fr := false) op_gt v2_gt ha hb hm (fun z => nomatch z)
theorem q_ge (ha : DP X E Γ a ka f) (hb : DP X E Γ b kb g) (hm : behindInMarks .GtE b = false := by rfl) : DP X E Γ (.Compare a [.GtE] [b] pos) k (d2 dGe f g) := dp_cmp (fr := false) op_ge v2_ge ha hb hm (fun z => nomatch z) (fun z => nomatch z)
theorem t_ge (ha : DP X E Γ a ka f) (hb : DP X E Γ b kb g) (hm : behindInMarks .GtE b = false := by rfl) : DT X E Γ (.Compare a [.GtE] [b] pos) (tVal (d2 dGe f g)) := dt_cmp (fr := false) op_ge v2_ge ha hb hm (fun z => nomatch z) (fun z => nomatch z)
theorem x_ge (ha : DX X E Γ a (some na) fx) (hb : DX X E Γ b kb gx) (hm : behindInMarks .GtE b = false := by rfl) : DX X E Γ (.Compare a [.GtE] [b] pos) k (d2X dGe fx gx) := dx_cmp (fr := false) op_ge v2_ge ha hb hm (fun z => nomatch z)
theorem q_eq (c0 : Cz X E kx) (ha : DP X E Γ a ka f) (hb : DP X E Γ b kb g) (hm : behindInMarks .Eq b = false := by rfl) : DP X E Γ (.Compare a [.Eq] [b] pos) k (d2 dEq f g) := dp_cmp (fr := false) (op_eqD c0.hr.units) v2_eq ha hb hm (fun z => nomatch z) (fun z => nomatch z)
theorem t_eq (c0 : Cz X E kx) (ha : DP X E Γ a ka f) (hb : DP X E Γ b kb g) (hm : behindInMarks .Eq b = false := by rfl) : DT X E Γ (.Compare a [.Eq] [b] pos) (tVal (d2 dEq f g)) := dt_cmp (fr := false) (op_eqD c0.hr.units) v2_eq ha hb hm (fun z => nomatch z) (fun z => nomatch z)
theorem x_eq (c0 : Cz X E kx) (ha : DX X E Γ a (some na) fx) (hb : DX X E Γ b kb gx) (hm : behindInMarks .Eq b = false := by rfl) : DX X E Γ (.Compare a [.Eq] [b] pos) k (d2X dEq fx gx) := dx_cmp (fr := false) (op_eqD c0.hr.units) v2_eq ha hb hm (fun z => nomatch z)
theorem q_ne (c0 : Cz X E kx) (ha : DP X E Γ a ka f) (hb : DP X E Γ b kb g) (hm : behindInMarks .NotEq b = false := by rfl) : DP X E Γ (.Compare a [.NotEq] [b] pos) k (d2 dNe f g) := dp_cmp (fr := false) (op_neD c0.hr.units) v2_ne ha hb hm (fun z => nomatch z) (fun z => nomatch z)
theorem t_ne (c0 : Cz X E kx) (ha : DP X E Γ a ka f) (hb : DP X E Γ b kb g) (hm : behindInMarks .NotEq b = false := by rfl) : DT X E Γ (.Compare a [.NotEq] [b] pos) (tVal (d2 dNe f g)) := dt_cmp (fr := false) (op_neD c0.hr.units) v2_ne ha hb hm (fun z => nomatch z) (fun z => nomatch z)
theorem x_ne (c0 : Cz X E kx) (ha : DX X E Γ a (some na) fx) (hb : DX X E Γ b kb gx) (hm : behindInMarks .NotEq b = false := by rfl) : DX X E Γ (.Compare a [.NotEq] [b] pos) k (d2X dNe fx gx) := dx_cmp (fr := false) (op_neD c0.hr.units) v2_ne ha hb hm (fun z => nomatch z)
theorem q_in (c0 : Cz X E kx) (ha : DP X E Γ a ka f) (hb : DP X E Γ b kb g) (hm : behindInMarks .In b = false := by rfl) : DP X E Γ (.Compare a [.In] [b] pos) k (d2 dIn f g) := dp_cmp (fr := false) (op_inD (by have := c0.hr.un; omega)) v2_in ha hb hm (fun z => nomatch z) (fun z => nomatch z)
theorem t_in (c0 : Cz X E kx) (ha : DP X E Γ a ka f) (hb : DP X E Γ b kb g) (hm : behindInMarks .In b = false := by rfl) : DT X E Γ (.Compare a [.In] [b] pos) (tVal (d2 dIn f g)) := dt_cmp (fr := false) (op_inD (by have := c0.hr.un; omega)) v2_in ha hb hm (fun z => nomatch z) (fun z => nomatch z)
theorem x_in (c0 : Cz X E kx) (ha : DX X E Γ a (some na) fx) (hb : DX X E Γ b kb gx) (hm : behindInMarks .In b = false := by rfl) : DX X E Γ (.Compare a [.In] [b] pos) k (d2X dIn fx gx) := dx_cmp (fr := false) (op_inD (by have := c0.hr.un; omega)) v2_in ha hb hm (fun z => nomatch z)
theorem q_nin (c0 : Cz X E kx) (ha : DP X E Γ a ka f) (hb : DP X E Γ b kb g) (hm : behindInMarks .NotIn b = false := by rfl) : DP X E Γ (.Compare a [.NotIn] [b] pos) k (d2 dNotIn f g) := dp_cmp (fr := false) (op_notInD (by have := c0.hr.un; omega)) v2_notIn ha hb hm (fun z => nomatch z) (fun z => nomatch z)
theorem t_nin (c0 : Cz X E kx) (ha : DP X E Γ a ka f) (hb : DP X E Γ b kb g) (hm : behindInMarks .NotIn b = false := by rfl) : DT X E Γ (.Compare a [.NotIn] [b] pos) (tVal (d2 dNotIn f g)) := dt_cmp (fr := false) (op_notInD (by have := c0.hr.un; omega)) v2_notIn ha hb hm (fun z => nomatch z) (fun z => nomatch z)
theorem x_nin (c0 : Cz X E kx) (ha : DX X E Γ a (some na) fx) (hb : DX X E Γ b kb gx) (hm : behindInMarks .NotIn b = false := by rfl) : DX X E Γ (.Compare a [.NotIn] [b] pos) k (d2X dNotIn fx gx) := dx_cmp (fr := false) (op_notInD (by have := c0.hr.un; omega)) v2_notIn ha hb hm (fun z => nomatch z)
theorem q_isN (ha : DP X E Γ a ka f) (hb : DP X E Γ b kb g) (hm : behindInMarks .Is b = false := by rfl) : DP X E Γ (.Compare a [.Is] [b] pos) k (d2 dIsN f g) := dp_cmp (fr := false) op_isN v2_isN ha hb hm (fun z => nomatch z) (fun z => nomatch z)
theorem t_isN (ha : DP X E Γ a ka f) (hb : DP X E Γ b kb g) (hm : behindInMarks .Is b = false := by rfl) : DT X E Γ (.Compare a [.Is] [b] pos) (tVal (d2 dIsN f g)) := dt_cmp (fr := false) op_isN v2_isN ha hb hm (fun z => nomatch z) (fun z => nomatch z)
theorem x_isN (ha : DX X E Γ a (some na) fx) (hb : DX X E Γ b kb gx) (hm : behindInMarks .Is b = false := by rfl) : DX X E Γ (.Compare a [.Is] [b] pos) k (d2X dIsN fx gx) := dx_cmp (fr := false) op_isN v2_isN ha hb hm (fun z => nomatch z)
theorem q_nN (ha : DP X E Γ a ka f) (hb : DP X E Γ b kb g) (hm : behindInMarks .IsNot b = false := by rfl) : DP X E Γ (.Compare a [.IsNot] [b] pos) k (d2 dNotN f g) := dp_cmp (fr := false) op_notN v2_notN ha hb hm (fun z => nomatch z) (fun z => nomatch z)
theorem t_nN (ha : DP X E Γ a ka f) (hb : DP X E Γ b kb g) (hm : behindInMarks .IsNot b = false := by rfl) : DT X E Γ (.Compare a [.IsNot] [b] pos) (tVal (d2 dNotN f g)) := dt_cmp (fr := false) op_notN v2_notN ha hb hm (fun z => nomatch z) (fun z => nomatch z)
theorem x_nN (ha : DX X E Γ a (some na) fx) (hb : DX X E Γ b kb gx) (hm : behindInMarks .IsNot b = false := by rfl) : DX X E Γ (.Compare a [.IsNot] [b] pos) k (d2X dNotN fx gx) := dx_cmp (fr := false) op_notN v2_notN ha hb hm (fun z => nomatch z)
theorem q_lele (ha : DP X E Γ a ka f) (hb : DP X E Γ b kb g) (hc : DP X E Γ c kc h) (hm : lastMarks [.LtE, .LtE] [b, c] = false := by with_unfolding_all rfl) : DP X E Γ (.Compare a [.LtE, .LtE] [b, c] pos) k (dChain dLe dLe f g h) := dp_chain op_le v2_le op_le v2_le ha hb hc hm
theorem t_lele (ha : DP X E Γ a ka f) (hb : DP X E Γ b kb g) (hc : DP X E Γ c kc h) (hm : lastMarks [.LtE, .LtE] [b, c] = false := by with_unfolding_all rfl) : DT X E Γ (.Compare a [.LtE, .LtE] [b, c] pos) (tVal (dChain dLe dLe f g h)) := dt_chain op_le v2_le op_le v2_le ha hb hc hm
theorem q_lelt (ha : DP X E Γ a ka f) (hb : DP X E Γ b kb g) (hc : DP X E Γ c kc h) (hm : lastMarks [.LtE, .Lt] [b, c] = false := by with_unfolding_all rfl) : DP X E Γ (.Compare a [.LtE, .Lt] [b, c] pos) k (dChain dLe dLt f g h) := dp_chain op_le v2_le op_lt v2_lt ha hb hc hm
theorem t_lelt (ha : DP X E Γ a ka f) (hb : DP X E Γ b kb g) (hc : DP X E Γ c kc h) (hm : lastMarks [.LtE, .Lt] [b, c] = false := by with_unfolding_all rfl) : DT X E Γ (.Compare a [.LtE, .Lt] [b, c] pos) (tVal (dChain dLe dLt f g h)) := dt_chain op_le v2_le op_lt v2_lt ha hb hc hm
theorem q_ltle (ha : DP X E Γ a ka f) (hb : DP X E Γ b kb g) (hc : DP X E Γ c kc h) (hm : lastMarks [.Lt, .LtE] [b, c] = false := by with_unfolding_all rfl) : DP X E Γ (.Compare a [.Lt, .LtE] [b, c] pos) k (dChain dLt dLe f g h) := dp_chain op_lt v2_lt op_le v2_le ha hb hc hm
theorem t_ltle (ha : DP X E Γ a ka f) (hb : DP X E Γ b kb g) (hc : DP X E Γ c kc h) (hm : lastMarks [.Lt, .LtE] [b, c] = false := by with_unfolding_all rfl) : DT X E Γ (.Compare a [.Lt, .LtE] [b, c] pos) (tVal (dChain dLt dLe f g h)) := dt_chain op_lt v2_lt op_le v2_le ha hb hc hm
theorem q_ltlt (ha : DP X E Γ a ka f) (hb : DP X E Γ b kb g) (hc : DP X E Γ c kc h) (hm : lastMarks [.Lt, .Lt] [b, c] = false := by with_unfolding_all rfl) : DP X E Γ (.Compare a [.Lt, .Lt] [b, c] pos) k (dChain dLt dLt f g h) := dp_chain op_lt v2_lt op_lt v2_lt ha hb hc hm
theorem t_ltlt (ha : DP X E Γ a ka f) (hb : DP X E Γ b kb g) (hc : DP X E Γ c kc h) (hm : lastMarks [.Lt, .Lt] [b, c] = false := by with_unfolding_all rfl) : DT X E Γ (.Compare a [.Lt, .Lt] [b, c] pos) (tVal (dChain dLt dLt f g h)) := dt_chain op_lt v2_lt op_lt v2_lt ha hb hc hm
theorem q_ix (ha : DP X E Γ a ka f) (hb : DP X E Γ b kb g) (hm : PlainIx b := by intro _ _; rfl) (h1 : ka ≠ none := by simp) (h2 : kb ≠ none := by simp) : DP X E Γ (.Subscript a b pos) (some 0) (d2 dIx f g) := dp_ix ix_any (v2_ix (fr := true)) ha hb hm (fun _ => h1) (fun _ => h2)
theorem q_ixT (ha : DP X E Γ a ka f) (hb : DP X E Γ b kb g) (hm : PlainIx b := by intro _ _; rfl) : DP X E Γ (.Subscript a b pos) none (d2 dIx f g) := dp_ix ix_any (v2_ix (fr := false)) ha hb hm (fun z => nomatch z) (fun z => nomatch z)
theorem x_ix (ha : DX X E Γ a (some na) fx) (hb : DX X E Γ b kb gx) (hm : PlainIx b := by intro _ _; rfl) (h2 : kb ≠ none := by simp) : DX X E Γ (.Subscript a b pos) (some 0) (d2X dIx fx gx) := dx_ix ix_any (v2_ix (fr := true)) ha hb hm (fun _ => h2)
variable {p : Pos} {e : Expr} {es : List Expr} {gs : Env → Res (List D)} {gsx : Env → Res (List D × Env)}
theorem q_len (bf : NoG X.mg) (hg : Gl X "len") (ha : DA X E Γ (e :: es) fr gs) (he : starEach (e :: es) X.env = (false, eval e X.env) :: starEach es X.env := by rfl) (hpl : (backTo pos (starEach es X.env)).any (·.1) = false := by rfl) : DP X E Γ (.Call (.Name "len" p) (e :: es) [] pos) k (dN (d1 dLen) gs) := dp_callB call_len vn_len hg (bf _ (by decide)) PyProof.Rows.Boot.«len» ha (by decide) (by decide) he hpl
theorem x_len (bf : NoG X.mg) (hg : Gl X "len") (ha : DAX X E Γ (e :: es) gsx) (he : starEach (e :: es) X.env = (false, eval e X.env) :: starEach es X.env := by rfl) (hpl : (backTo pos (starEach es X.env)).any (·.1) = false := by rfl) : DX X E Γ (.Call (.Name "len" p) (e :: es) [] pos) k (dNX (d1 dLen) gsx) := dx_callB call_len (vn_len (fr := true)) hg (bf _ (by decide)) PyProof.Rows.Boot.«len» ha (by decide) (by decide) he hpl
theorem q_int (bf : NoG X.mg) (hg : Gl X "int") (ha : DA X E Γ (e :: es) fr gs) (he : starEach (e :: es) X.env = (false, eval e X.env) :: starEach es X.env := by rfl) (hpl : (backTo pos (starEach es X.env)).any (·.1) = false := by rfl) : DP X E Γ (.Call (.Name "int" p) (e :: es) [] pos) k (dN (d1 dInt) gs) := dp_callTy call_int1 vn_int hg (bf _ (by decide)) PyProof.Rows.Boot.«int» ha (by decide) (by decide) he hpl
theorem x_int (bf : NoG X.mg) (hg : Gl X "int") (ha : DAX X E Γ (e :: es) gsx) (he : starEach (e :: es) X.env = (false, eval e X.env) :: starEach es X.env := by rfl) (hpl : (backTo pos (starEach es X.env)).any (·.1) = false := by rfl) : DX X E Γ (.Call (.Name "int" p) (e :: es) [] pos) k (dNX (d1 dInt) gsx) := dx_callTy call_int1 (vn_int (fr := true)) hg (bf _ (by decide)) PyProof.Rows.Boot.«int» ha (by decide) (by decide) he hpl
theorem q_abs (bf : NoG X.mg) (hg : Gl X "abs") (ha : DA X E Γ (e :: es) fr gs) (he : starEach (e :: es) X.env = (false, eval e X.env) :: starEach es X.env := by rfl) (hpl : (backTo pos (starEach es X.env)).any (·.1) = false := by rfl) : DP X E Γ (.Call (.Name "abs" p) (e :: es) [] pos) k (dN (d1 dAbs) gs) := dp_callB call_abs vn_abs hg (bf _ (by decide)) PyProof.Rows.Boot.«abs» ha (by decide) (by decide) he hpl
theorem x_abs (bf : NoG X.mg) (hg : Gl X "abs") (ha : DAX X E Γ (e :: es) gsx) (he : starEach (e :: es) X.env = (false, eval e X.env) :: starEach es X.env := by rfl) (hpl : (backTo pos (starEach es X.env)).any (·.1) = false := by rfl) : DX X E Γ (.Call (.Name "abs" p) (e :: es) [] pos) k (dNX (d1 dAbs) gsx) := dx_callB call_abs (vn_abs (fr := true)) hg (bf _ (by decide)) PyProof.Rows.Boot.«abs» ha (by decide) (by decide) he hpl
theorem q_max2 (hc : X.calm = true) (bf : NoG X.mg) (hg : Gl X "max") (ha : DA X E Γ (e :: es) fr gs) (he : starEach (e :: es) X.env = (false, eval e X.env) :: starEach es X.env := by rfl) (hpl : (backTo pos (starEach es X.env)).any (·.1) = false := by rfl) : DP X E Γ (.Call (.Name "max" p) (e :: es) [] pos) k (dN (d12 dMax2) gs) := dp_callB (call_max2 hc) vn_max2 hg (bf _ (by decide)) PyProof.Rows.Boot.«max» ha (by decide) (by decide) he hpl
theorem x_max2 (hc : X.calm = true) (bf : NoG X.mg) (hg : Gl X "max") (ha : DAX X E Γ (e :: es) gsx) (he : starEach (e :: es) X.env = (false, eval e X.env) :: starEach es X.env := by rfl) (hpl : (backTo pos (starEach es X.env)).any (·.1) = false := by rfl) : DX X E Γ (.Call (.Name "max" p) (e :: es) [] pos) k (dNX (d12 dMax2) gsx) := dx_callB (call_max2 hc) (vn_max2 (fr := true)) hg (bf _ (by decide)) PyProof.Rows.Boot.«max» ha (by decide) (by decide) he hpl
theorem q_min2 (hc : X.calm = true) (bf : NoG X.mg) (hg : Gl X "min") (ha : DA X E Γ (e :: es) fr gs) (he : starEach (e :: es) X.env = (false, eval e X.env) :: starEach es X.env := by rfl) (hpl : (backTo pos (starEach es X.env)).any (·.1) = false := by rfl) : DP X E Γ (.Call (.Name "min" p) (e :: es) [] pos) k (dN (d12 dMin2) gs) := dp_callB (call_min2 hc) vn_min2 hg (bf _ (by decide)) PyProof.Rows.Boot.«min» ha (by decide) (by decide) he hpl
theorem x_min2 (hc : X.calm = true) (bf : NoG X.mg) (hg : Gl X "min") (ha : DAX X E Γ (e :: es) gsx) (he : starEach (e :: es) X.env = (false, eval e X.env) :: starEach es X.env := by rfl) (hpl : (backTo pos (starEach es X.env)).any (·.1) = false := by rfl) : DX X E Γ (.Call (.Name "min" p) (e :: es) [] pos) k (dNX (d12 dMin2) gsx) := dx_callB (call_min2 hc) (vn_min2 (fr := true)) hg (bf _ (by decide)) PyProof.Rows.Boot.«min» ha (by decide) (by decide) he hpl
theorem q_sum (hc : X.calm = true) (bf : NoG X.mg) (hg : Gl X "sum") (ha : DA X E Γ (e :: es) fr gs) (he : starEach (e :: es) X.env = (false, eval e X.env) :: starEach es X.env := by rfl) (hpl : (backTo pos (starEach es X.env)).any (·.1) = false := by rfl) : DP X E Γ (.Call (.Name "sum" p) (e :: es) [] pos) k (dN (d1 dSum) gs) := dp_callB (cr_sum hc) vn_sum hg (bf _ (by decide)) PyProof.Rows.Boot.«sum» ha (by decide) (by decide) he hpl
theorem x_sum (hc : X.calm = true) (bf : NoG X.mg) (hg : Gl X "sum") (ha : DAX X E Γ (e :: es) gsx) (he : starEach (e :: es) X.env = (false, eval e X.env) :: starEach es X.env := by rfl) (hpl : (backTo pos (starEach es X.env)).any (·.1) = false := by rfl) : DX X E Γ (.Call (.Name "sum" p) (e :: es) [] pos) k (dNX (d1 dSum) gsx) := dx_callB (cr_sum hc) (vn_sum (fr := true)) hg (bf _ (by decide)) PyProof.Rows.Boot.«sum» ha (by decide) (by decide) he hpl
theorem q_sum2 (hc : X.calm = true) (bf : NoG X.mg) (hg : Gl X "sum") (ha : DA X E Γ (e :: es) true gs) (he : starEach (e :: es) X.env = (false, eval e X.env) :: starEach es X.env := by rfl) (hpl : (backTo pos (starEach es X.env)).any (·.1) = false := by rfl) : DP X E Γ (.Call (.Name "sum" p) (e :: es) [] pos) (some 0) (dN (d12 sumLD) gs) := dp_callB (cr_sumL hc) vn_sumL hg (bf _ (by decide)) PyProof.Rows.Boot.«sum» ha (by decide) (by decide) he hpl
theorem x_sum2 (hc : X.calm = true) (bf : NoG X.mg) (hg : Gl X "sum") (ha : DAX X E Γ (e :: es) gsx) (he : starEach (e :: es) X.env = (false, eval e X.env) :: starEach es X.env := by rfl) (hpl : (backTo pos (starEach es X.env)).any (·.1) = false := by rfl) : DX X E Γ (.Call (.Name "sum" p) (e :: es) [] pos) (some 0) (dNX (d12 sumLD) gsx) := dx_callB (cr_sumL hc) vn_sumL hg (bf _ (by decide)) PyProof.Rows.Boot.«sum» ha (by decide) (by decide) he hpl
theorem q_all (hc : X.calm = true) (bf : NoG X.mg) (hg : Gl X "all") (ha : DA X E Γ (e :: es) fr gs) (he : starEach (e :: es) X.env = (false, eval e X.env) :: starEach es X.env := by rfl) (hpl : (backTo pos (starEach es X.env)).any (·.1) = false := by rfl) : DP X E Γ (.Call (.Name "all" p) (e :: es) [] pos) k (dN (d1 dAll) gs) := dp_callB (cr_all hc) vn_all hg (bf _ (by decide)) PyProof.Rows.Boot.«all» ha (by decide) (by decide) he hpl
theorem x_all (hc : X.calm = true) (bf : NoG X.mg) (hg : Gl X "all") (ha : DAX X E Γ (e :: es) gsx) (he : starEach (e :: es) X.env = (false, eval e X.env) :: starEach es X.env := by rfl) (hpl : (backTo pos (starEach es X.env)).any (·.1) = false := by rfl) : DX X E Γ (.Call (.Name "all" p) (e :: es) [] pos) k (dNX (d1 dAll) gsx) := dx_callB (cr_all hc) (vn_all (fr := true)) hg (bf _ (by decide)) PyProof.Rows.Boot.«all» ha (by decide) (by decide) he hpl
theorem q_any (hc : X.calm = true) (bf : NoG X.mg) (hg : Gl X "any") (ha : DA X E Γ (e :: es) fr gs) (he : starEach (e :: es) X.env = (false, eval e X.env) :: starEach es X.env := by rfl) (hpl : (backTo pos (starEach es X.env)).any (·.1) = false := by rfl) : DP X E Γ (.Call (.Name "any" p) (e :: es) [] pos) k (dN (d1 dAny) gs) := dp_callB (cr_any hc) vn_any hg (bf _ (by decide)) PyProof.Rows.Boot.«any» ha (by decide) (by decide) he hpl
theorem x_any (hc : X.calm = true) (bf : NoG X.mg) (hg : Gl X "any") (ha : DAX X E Γ (e :: es) gsx) (he : starEach (e :: es) X.env = (false, eval e X.env) :: starEach es X.env := by rfl) (hpl : (backTo pos (starEach es X.env)).any (·.1) = false := by rfl) : DX X E Γ (.Call (.Name "any" p) (e :: es) [] pos) k (dNX (d1 dAny) gsx) := dx_callB (cr_any hc) (vn_any (fr := true)) hg (bf _ (by decide)) PyProof.Rows.Boot.«any» ha (by decide) (by decide) he hpl
theorem q_max (hc : X.calm = true) (bf : NoG X.mg) (hg : Gl X "max") (ha : DA X E Γ (e :: es) fr gs) (he : starEach (e :: es) X.env = (false, eval e X.env) :: starEach es X.env := by rfl) (hpl : (backTo pos (starEach es X.env)).any (·.1) = false := by rfl) : DP X E Γ (.Call (.Name "max" p) (e :: es) [] pos) k (dN (d1 dMax) gs) := dp_callB (cr_max hc) vn_max hg (bf _ (by decide)) PyProof.Rows.Boot.«max» ha (by decide) (by decide) he hpl
theorem x_max (hc : X.calm = true) (bf : NoG X.mg) (hg : Gl X "max") (ha : DAX X E Γ (e :: es) gsx) (he : starEach (e :: es) X.env = (false, eval e X.env) :: starEach es X.env := by rfl) (hpl : (backTo pos (starEach es X.env)).any (·.1) = false := by rfl) : DX X E Γ (.Call (.Name "max" p) (e :: es) [] pos) k (dNX (d1 dMax) gsx) := dx_callB (cr_max hc) (vn_max (fr := true)) hg (bf _ (by decide)) PyProof.Rows.Boot.«max» ha (by decide) (by decide) he hpl
theorem q_min (hc : X.calm = true) (bf : NoG X.mg) (hg : Gl X "min") (ha : DA X E Γ (e :: es) fr gs) (he : starEach (e :: es) X.env = (false, eval e X.env) :: starEach es X.env := by rfl) (hpl : (backTo pos (starEach es X.env)).any (·.1) = false := by rfl) : DP X E Γ (.Call (.Name "min" p) (e :: es) [] pos) k (dN (d1 dMin) gs) := dp_callB (cr_min hc) vn_min hg (bf _ (by decide)) PyProof.Rows.Boot.«min» ha (by decide) (by decide) he hpl
theorem x_min (hc : X.calm = true) (bf : NoG X.mg) (hg : Gl X "min") (ha : DAX X E Γ (e :: es) gsx) (he : starEach (e :: es) X.env = (false, eval e X.env) :: starEach es X.env := by rfl) (hpl : (backTo pos (starEach es X.env)).any (·.1) = false := by rfl) : DX X E Γ (.Call (.Name "min" p) (e :: es) [] pos) k (dNX (d1 dMin) gsx) := dx_callB (cr_min hc) (vn_min (fr := true)) hg (bf _ (by decide)) PyProof.Rows.Boot.«min» ha (by decide) (by decide) he hpl
theorem q_list (bf : NoG X.mg) (hg : Gl X "list") (ha : DA X E Γ (e :: es) true gs) (he : starEach (e :: es) X.env = (false, eval e X.env) :: starEach es X.env := by rfl) (hpl : (backTo pos (starEach es X.env)).any (·.1) = false := by rfl) : DP X E Γ (.Call (.Name "list" p) (e :: es) [] pos) (some 1) (dN (d1 dList) gs) := dp_callTy call_list_of vn_list hg (bf _ (by decide)) PyProof.Rows.Boot.«list» ha (by decide) (by decide) he hpl
theorem x_list (bf : NoG X.mg) (hg : Gl X "list") (ha : DAX X E Γ (e :: es) gsx) (he : starEach (e :: es) X.env = (false, eval e X.env) :: starEach es X.env := by rfl) (hpl : (backTo pos (starEach es X.env)).any (·.1) = false := by rfl) : DX X E Γ (.Call (.Name "list" p) (e :: es) [] pos) (some 1) (dNX (d1 dList) gsx) := dx_callTy call_list_of vn_list hg (bf _ (by decide)) PyProof.Rows.Boot.«list» ha (by decide) (by decide) he hpl
theorem q_tuple (bf : NoG X.mg) (hg : Gl X "tuple") (ha : DA X E Γ (e :: es) true gs) (he : starEach (e :: es) X.env = (false, eval e X.env) :: starEach es X.env := by rfl) (hpl : (backTo pos (starEach es X.env)).any (·.1) = false := by rfl) : DP X E Γ (.Call (.Name "tuple" p) (e :: es) [] pos) (some 0) (dN (d1 dTuple) gs) := dp_callTy call_tuple_of vn_tuple hg (bf _ (by decide)) PyProof.Rows.Boot.«tuple» ha (by decide) (by decide) he hpl
theorem x_tuple (bf : NoG X.mg) (hg : Gl X "tuple") (ha : DAX X E Γ (e :: es) gsx) (he : starEach (e :: es) X.env = (false, eval e X.env) :: starEach es X.env := by rfl) (hpl : (backTo pos (starEach es X.env)).any (·.1) = false := by rfl) : DX X E Γ (.Call (.Name "tuple" p) (e :: es) [] pos) (some 0) (dNX (d1 dTuple) gsx) := dx_callTy call_tuple_of vn_tuple hg (bf _ (by decide)) PyProof.Rows.Boot.«tuple» ha (by decide) (by decide) he hpl
theorem q_repr (c0 : Cz X E kx) (bf : NoG X.mg) (hg : Gl X "repr") (ha : DA X E Γ (e :: es) fr gs) (he : starEach (e :: es) X.env = (false, eval e X.env) :: starEach es X.env := by rfl) (hpl : (backTo pos (starEach es X.env)).any (·.1) = false := by rfl) : DP X E Γ (.Call (.Name "repr" p) (e :: es) [] pos) k (dN (nRepr) gs) := dp_callB (cr_reprD c0.hr c0.gd) vn_repr hg (bf _ (by decide)) PyProof.Rows.Boot.«repr» ha (by decide) (by decide) he hpl
theorem x_repr (c0 : Cz X E kx) (bf : NoG X.mg) (hg : Gl X "repr") (ha : DAX X E Γ (e :: es) gsx) (he : starEach (e :: es) X.env = (false, eval e X.env) :: starEach es X.env := by rfl) (hpl : (backTo pos (starEach es X.env)).any (·.1) = false := by rfl) : DX X E Γ (.Call (.Name "repr" p) (e :: es) [] pos) k (dNX (nRepr) gsx) := dx_callB (cr_reprD c0.hr c0.gd) (vn_repr (fr := true)) hg (bf _ (by decide)) PyProof.Rows.Boot.«repr» ha (by decide) (by decide) he hpl
theorem q_isi_int {p2 : Pos} (bf : NoG X.mg) (hg : Gl X "isinstance") (hg2 : Gl X "int") (ha : DP X E Γ e ka f) (he : starEach [e, .Name "int" p2] X.env = (false, eval e X.env) :: starEach [.Name "int" p2] X.env := by rfl) (he2 : starEach [.Name "int" p2] X.env = (false, eval (.Name "int" p2) X.env) :: starEach [] X.env := by rfl) (hpl : (backTo pos (starEach [.Name "int" p2] X.env)).any (·.1) = false := by rfl) : DP X E Γ (.Call (.Name "isinstance" p) [e, .Name "int" p2] [] pos) k (dIsiE "int" f) := dp_isi ha hg (bf _ (by decide)) PyProof.Rows.Boot.«isinstance» hg2 (bf _ (by decide)) PyProof.Rows.Boot.«int» (by decide) (by decide) (by decide) (by decide) he he2 hpl
theorem q_isi_bool {p2 : Pos} (bf : NoG X.mg) (hg : Gl X "isinstance") (hg2 : Gl X "bool") (ha : DP X E Γ e ka f) (he : starEach [e, .Name "bool" p2] X.env = (false, eval e X.env) :: starEach [.Name "bool" p2] X.env := by rfl) (he2 : starEach [.Name "bool" p2] X.env = (false, eval (.Name "bool" p2) X.env) :: starEach [] X.env := by rfl) (hpl : (backTo pos (starEach [.Name "bool" p2] X.env)).any (·.1) = false := by rfl) : DP X E Γ (.Call (.Name "isinstance" p) [e, .Name "bool" p2] [] pos) k (dIsiE "bool" f) := dp_isi ha hg (bf _ (by decide)) PyProof.Rows.Boot.«isinstance» hg2 (bf _ (by decide)) PyProof.Rows.Boot.«bool» (by decide) (by decide) (by decide) (by decide) he he2 hpl
theorem q_isi_list {p2 : Pos} (bf : NoG X.mg) (hg : Gl X "isinstance") (hg2 : Gl X "list") (ha : DP X E Γ e ka f) (he : starEach [e, .Name "list" p2] X.env = (false, eval e X.env) :: starEach [.Name "list" p2] X.env := by rfl) (he2 : starEach [.Name "list" p2] X.env = (false, eval (.Name "list" p2) X.env) :: starEach [] X.env := by rfl) (hpl : (backTo pos (starEach [.Name "list" p2] X.env)).any (·.1) = false := by rfl) : DP X E Γ (.Call (.Name "isinstance" p) [e, .Name "list" p2] [] pos) k (dIsiE "list" f) := dp_isi ha hg (bf _ (by decide)) PyProof.Rows.Boot.«isinstance» hg2 (bf _ (by decide)) PyProof.Rows.Boot.«list» (by decide) (by decide) (by decide) (by decide) he he2 hpl
theorem q_isi_tuple {p2 : Pos} (bf : NoG X.mg) (hg : Gl X "isinstance") (hg2 : Gl X "tuple") (ha : DP X E Γ e ka f) (he : starEach [e, .Name "tuple" p2] X.env = (false, eval e X.env) :: starEach [.Name "tuple" p2] X.env := by rfl) (he2 : starEach [.Name "tuple" p2] X.env = (false, eval (.Name "tuple" p2) X.env) :: starEach [] X.env := by rfl) (hpl : (backTo pos (starEach [.Name "tuple" p2] X.env)).any (·.1) = false := by rfl) : DP X E Γ (.Call (.Name "isinstance" p) [e, .Name "tuple" p2] [] pos) k (dIsiE "tuple" f) := dp_isi ha hg (bf _ (by decide)) PyProof.Rows.Boot.«isinstance» hg2 (bf _ (by decide)) PyProof.Rows.Boot.«tuple» (by decide) (by decide) (by decide) (by decide) he he2 hpl
theorem q_isi_str {p2 : Pos} (bf : NoG X.mg) (hg : Gl X "isinstance") (hg2 : Gl X "str") (ha : DP X E Γ e ka f) (he : starEach [e, .Name "str" p2] X.env = (false, eval e X.env) :: starEach [.Name "str" p2] X.env := by rfl) (he2 : starEach [.Name "str" p2] X.env = (false, eval (.Name "str" p2) X.env) :: starEach [] X.env := by rfl) (hpl : (backTo pos (starEach [.Name "str" p2] X.env)).any (·.1) = false := by rfl) : DP X E Γ (.Call (.Name "isinstance" p) [e, .Name "str" p2] [] pos) k (dIsiE "str" f) := dp_isi ha hg (bf _ (by decide)) PyProof.Rows.Boot.«isinstance» hg2 (bf _ (by decide)) PyProof.Rows.Boot.«str» (by decide) (by decide) (by decide) (by decide) he he2 hpl
theorem q_isi_dict {p2 : Pos} (bf : NoG X.mg) (hg : Gl X "isinstance") (hg2 : Gl X "dict") (ha : DP X E Γ e ka f) (he : starEach [e, .Name "dict" p2] X.env = (false, eval e X.env) :: starEach [.Name "dict" p2] X.env := by rfl) (he2 : starEach [.Name "dict" p2] X.env = (false, eval (.Name "dict" p2) X.env) :: starEach [] X.env := by rfl) (hpl : (backTo pos (starEach [.Name "dict" p2] X.env)).any (·.1) = false := by rfl) : DP X E Γ (.Call (.Name "isinstance" p) [e, .Name "dict" p2] [] pos) k (dIsiE "dict" f) := dp_isi ha hg (bf _ (by decide)) PyProof.Rows.Boot.«isinstance» hg2 (bf _ (by decide)) PyProof.Rows.Boot.«dict» (by decide) (by decide) (by decide) (by decide) he he2 hpl
/-- a module's constant -/
theorem q_cst {x : Str} {v : V} {d : D} {n : Nat} (hm : ∃ u, X.mg x = some u ∧ RelV v u) (hg : Gl X x) (a : At v d) (hd : (x == ("__debug__" : Str)) = false := by decide) : DP X E Γ (.Name x pos) (some n) (dC d) := by
  obtain ⟨u, h1, h2⟩ := hm
  exact dp_glob hg h1 h2 a hd
end
end DL

namespace DL
open PySem PySem.Spec PyProof.Rows L2
section
variable [Wd] {X : Cx} {E : XK} {Γ : List SK} {pos : Pos} {C : Cf} {Γn : List SK} {kx kf kr n : Nat} {fa : Addr} {fd : FuncData} {ps : List Str} {x : Str} {p : Pos} {e1 : Expr} {es : List Expr} {kws : List (List Str × List Nat)}
def dMT (m : List D → Res (D × D)) (f : Env → Res D) (gs : Env → Res (List D)) : Env → Res D := fun ρ => f ρ >>= fun d0 => gs ρ >>= fun ds => m (d0 :: ds) >>= fun p => .ok p.1
theorem dp_callT {m : List D → Res (D × D)} {f : Env → Res D} {gs : Env → Res (List D)} (F : FnG X.prog X.w X.K X.mg X.base kf fa fd ps (spM X.K X.mg 0 n kr m)) (c : Cz X E kx) (hk : kf ≤ kx) (hg : Gl X x) (hm : X.mg x = some (.ref fa)) (hkp : PySem.W.keepIn X.K (.ref fa) = true) (hb : Binds X.K fd ps [])
    (h1 : DP X E Γ e1 (some n) f) (h2 : DA X E Γ es true gs) (hdb : (x == ("__debug__" : Str)) = false := by decide) (he : starEach (e1 :: es) X.env = (false, eval e1 X.env) :: starEach es X.env := by rfl) (hpl : (backTo pos (starEach es X.env)).any (·.1) = false := by rfl) :
    DP X E Γ (.Call (.Name x p) (e1 :: es) [] pos) (some kr) (dMT m f gs) := by
  obtain ⟨ta, pa, qa⟩ := h1.ex
  obtain ⟨tb, pb, qb⟩ := h2.ex
  refine ⟨_, pe_callG F (c.hr.mono hk) c.gd hg hm hkp hb c.px (pa_cons pa pb he) hdb he hpl, fun I S ρ σ H Q R h => ?_⟩
  refine seq1 qa R h fun d y I1 H1 T1 e1 h1 g1 w1 n1 R1 => ?_
  refine qb I1 S ρ σ H1 _ R1 (PX.later (PX.bnd h1) (g1.evo R.trk) fun ds _ ⟨e2, h2⟩ => ?_)
  intro vs I2 H2 g2 r2
  have R2 := R1.grow g2
  have w2 : Ow X.K I2 H2 n T1 y d := VR.later (k := some n) w1 g2
  have nI2 : ∀ a ∈ T1, ¬ I2 a := fun a m i => by
    rcases g2.new a i with j | ⟨j, _⟩
    · exact n1.nI a m j
    · exact (w1.nodes a m).ne j
  have g12 := g1.trans g2
  have key : ∀ {I' : Addr → Prop} {H' : Hp} {S' : Addr → Prop}, Evo I2 H2 (· ∈ T1) I' H' S' → Gr I H I' H' := fun ev => by
    refine ⟨fun a i => ev.sub a (g12.sub a i), fun a i => ?_, fun b o hb nt => ?_, fun hn => ev.there _ (g12.there hn), fun t => ev.tab (g12.tab t)⟩
    · rcases ev.new a i with j | ⟨j | j, z⟩
      · rcases g12.new a j with k | ⟨k, _⟩
        · exact .inl k
        · rcases Classical.em (I a) with q | q
          · exact .inl q
          · exact .inr ⟨k, ev.there _ (R2.tr a j)⟩
      · exact .inr ⟨n1.free a j, z⟩
      · refine .inr ⟨?_, z⟩
        rcases hh : H a with _ | o
        · rfl
        · exact absurd j (g12.there (by rw [hh]; exact fun z => nomatch z))
    · refine ev.keep b o (g12.kp b o hb nt) (fun m => ?_) nt
      rw [n1.free b m] at hb
      cases hb
  refine ⟨I2, d :: ds, T1, y, d, R2.tr, R2.tb, ?_, fun j v' d' hj q1 q2 => ?_, rfl, rfl, w2, n1.nod, nI2, ?_⟩
  · have := (RBA.rp r2).len
    show vs.length + 1 = ds.length + 1
    rw [this]
  · cases j with
    | zero => exact absurd rfl hj
    | succ j =>
      obtain ⟨w, q3, q4⟩ := (RBA.rp r2).get (i := j) (d := d') (by simpa using q2)
      have : vs[j]? = some v' := by simpa using q1
      rw [this] at q3
      cases q3
      exact q4
  · cases e3 : m (d :: ds) with
    | bad => rw [e3] at h2; exact h2.elim
    | exc cc dd =>
      rw [e3] at h2
      have h2 : WX X.K X.mg E I H (SU S) cc dd := h2
      exact fun C a v I' H' S' hc ev => h2 C a v I' H' _ hc ((key ev).evo R.trk)
    | ok p =>
      rw [e3] at h2
      have h2 : PV X I H (some kr) Q p.1 := h2
      intro v I' H' T T' ev ow _ hT ndT _ _ _
      refine h2 v I' H' T (key ev) ow ⟨fun a m => ?_, fun a m => (hT a m).1, ndT⟩
      rcases (ev.own a (.inl m)).1 with j | j
      · exact n1.free a j
      · rcases hh : H a with _ | o
        · rfl
        · exact absurd j (g12.there (by rw [hh]; exact fun z => nomatch z))
theorem dp_genT {m : List D → Res (D × D)} {f : Env → Res D} {gs : Env → Res (List D)} (F : Dfn X.prog X.w X.K X.mg X.base kf x ps kws (spM X.K X.mg 0 n kr m)) (c : Cz X E kx) (hg : Gl X x) (h1 : DP X E Γ e1 (some n) f) (h2 : DA X E Γ es true gs) (hk : kf ≤ kx := by decide) (hdb : (x == ("__debug__" : Str)) = false := by decide)
    (he : starEach (e1 :: es) X.env = (false, eval e1 X.env) :: starEach es X.env := by rfl) (hpl : (backTo pos (starEach es X.env)).any (·.1) = false := by rfl) : DP X E Γ (.Call (.Name x p) (e1 :: es) [] pos) (some kr) (dMT m f gs) := by
  obtain ⟨fd, G, b, _⟩ := F.ex
  exact dp_callT G c hk hg F.mg F.kp b h1 h2 hdb he hpl
end
end DL

namespace DL
open PySem PySem.Spec PyProof.Rows L2
section
variable [Wd] {P : Program} {w : World} {K : PySem.W.Frag} {mg : Str → Option Value} {base : Heap} {k : Nat} {f : Addr} {fd : FuncData} {N ps : List Str} {sp : Sp} {x qual : Str} {st : Stmt} {C : Cf} {Γn : List SK}
theorem fnG_ofL (F : Fun K x qual st f fd) (Sc : FnScope N ps (defScope st)) (len : ∀ vs H Q E, sp vs H Q E → vs.length = ps.length)
    (hbody : ∀ (cdv : Value), fd.code = cdv → ∀ (A : Around) (outer : List PySem.Env) (s : Shared) (H : Hp) (vs : List V) (Q : VK) (E : XK), Room k (A.deeper (envOfC qual (defScope st) s.heap.objs.size f cdv)) → A.guards = some [] → sp vs H Q E →
      ∃ t, PSs (cxOf (L2.CX P w) P w K mg base N qual (defScope st) f cdv A outer s H E) (defBody st) t ∧ t { nx := fun _ H' => Q .non H', rt := Q } (start N vs) H) : FnG P w K mg base (k + 1) f fd ps sp := by
  obtain ⟨oc, od, kV, doc, pm, an, cdv, ct, osl, rfl, lk, hcd⟩ := F.ex
  refine ⟨len, fun A outer s H args us vs Q E hr gd e0 hb r hsp => ?_⟩
  have hl : vs.length = ps.length := len _ _ _ _ hsp
  have there : ∀ b o, base.get? b = some o → s.heap.get? b = some o := fun b o e => (e0.bs b o e).1
  have KX : K.In s.heap := e0.mod.kin.keeps there
  have lim : s.heap.NoLimit := e0.mod.nolimit.keeps there
  refine codeAny_call_function hr.depth (KX _ _ lk) rfl Sc.co Sc.gen rfl (PySem.W.codeRec_of KX hcd) (hb _ _ _ _ ?_)
  refine wpAny_newFunctionEnv_cells Sc.kind (fun ⟨n, v⟩ hy => ?_) fun env he s1 x1 => ?_
  · exact (Sc.par n (List.of_mem_zip hy).1).imp id fun q => ⟨q, PySem.W.cellsFrom_some _ _ _ (.inl q)⟩
  · subst he
    refine ⟨lim.keeps x1.toInCall.keep, codeAny_func ?_⟩
    obtain ⟨t, ht, hq⟩ := hbody cdv rfl A outer s H vs Q E (hr.deeper _) gd hsp
    have J : Inv (cxOf (L2.CX P w) P w K mg base N qual (defScope st) f cdv A outer s H E) [] (start N vs) H s1 := inv_start Sc hr.hd e0 hl r x1
    exact wpAny_mono (ht.run [] s1 (start N vs) H _ J hq) (fun fl s' hs => by
      have := body_end (CX := L2.CX P w) (E := E) rfl rfl rfl rfl rfl rfl hs
      cases fl <;> exact this) fun e s' hs => hs
theorem fnPL {C : Cf} {Γn : List SK} {fb : Env → Res Out} (F : Fun K x qual st f fd) (Sc : FnScope N ps (defScope st)) (hN : ps.length ≤ N.length)
    (hbody : ∀ (cdv : Value), fd.code = cdv → ∀ (A : Around) (outer : List PySem.Env) (s : Shared) (H : Hp) (E : XK), Cz (cxOf (L2.CX P w) P w K mg base N qual (defScope st) f cdv A outer s H E) E k →
      DS (cxOf (L2.CX P w) P w K mg base N qual (defScope st) f cdv A outer s H E) E C (gam0 ps.length N.length) (defBody st) Γn fb) : FnG P w K mg base (k + 1) f fd ps (spP K mg C.kr (runP ps.length N.length fb)) := by
  have len : ∀ vs H Q E, spP K mg C.kr (runP ps.length N.length fb) vs H Q E → vs.length = ps.length := fun vs H Q E ⟨I, ds, tr, tb, r, h⟩ => by
    unfold runP at h
    split at h
    · rename_i e
      rw [r.len]; exact e
    · exact h.elim
  refine fnG_ofL F Sc len fun cdv hcv A outer s H vs Q E hr gd hsp => ?_
  have hl := len _ _ _ _ hsp
  obtain ⟨I, ds, tr, tb, r, h⟩ := hsp
  obtain ⟨t, p, q⟩ := (hbody cdv hcv A outer s H E (.of hr gd)).ex
  refine ⟨t, p, ?_⟩
  have hd : ds.length = ps.length := by rw [← r.len]; exact hl
  have R := er0 (N := N) tr tb r (by rw [hl]; exact hN)
  rw [hl] at R
  refine q I _ (env0 N.length ds) (start N vs) H _ R ?_
  unfold runP at h
  rw [if_pos hd] at h
  have e0 : ∀ a, SU (fun _ => ([] : List Addr)) a ↔ False := fun a => ⟨fun ⟨j, m⟩ => nil_nm m, fun z => z.elim⟩
  have gr : ∀ {I' : Addr → Prop} {H' : Hp} {S' : Addr → Prop}, Evo I H (SU fun _ => []) I' H' S' → Gr I H I' H' := fun e => ⟨e.sub, fun a z => (e.new a z).imp id fun z => ⟨z.1.elim (fun z => ((e0 a).mp z).elim) id, z.2⟩, fun b o q n => e.keep b o q (fun z => (e0 b).mp z) n, fun z => e.there _ z, e.tab⟩
  refine PX.imp ?_ (fun o _ z => z)
  cases e1 : fb (env0 N.length ds) with
  | bad => rw [e1] at h; exact h.elim
  | exc c d =>
    rw [e1] at h
    exact WX.less h fun a z => (e0 a).mp z
  | ok o =>
    rw [e1] at h
    cases o with
    | nx ρ => exact fun I' H' S' σ' ev R' mk => h .non I' H' [] (gr ev) (At.vr .non (some C.kr) : VR K I' H' (some C.kr) [] .non .none) .nil
    | rt d ρ => exact fun I' H' S' σ' v T ev R' mk ow hT hn => h v I' H' T (gr ev) ow ⟨fun a m => ((ev.own a (.inr m)).1).elim (fun z => ((e0 a).mp z).elim) id, fun a m => (hT a m).1, hn⟩
    | bk ρ => exact h.elim
    | ct ρ => exact h.elim
theorem fnML {C : Cf} {Γn : List SK} {fb : Env → Res Out} {n : Nat} (F : Fun K x qual st f fd) (Sc : FnScope N ps (defScope st)) (hp : 0 < ps.length) (hN : ps.length ≤ N.length) (hM : C.M = [0]) (hR : C.Gr = gamR n N.length) (hl : lessG Γn C.Gr = true)
    (hbody : ∀ (cdv : Value), fd.code = cdv → ∀ (A : Around) (outer : List PySem.Env) (s : Shared) (H : Hp) (E : XK), Cz (cxOf (L2.CX P w) P w K mg base N qual (defScope st) f cdv A outer s H E) E k →
      DS (cxOf (L2.CX P w) P w K mg base N qual (defScope st) f cdv A outer s H E) E C (gamM n ps.length N.length) (defBody st) Γn fb) : FnG P w K mg base (k + 1) f fd ps (spM K mg 0 n C.kr (runM ps.length N.length fb)) := by
  have len : ∀ vs H Q E, spM K mg 0 n C.kr (runM ps.length N.length fb) vs H Q E → vs.length = ps.length := fun vs H Q E ⟨I, ds, T0, v0, d0, tr, tb, hl, _, _, _, _, _, _, h⟩ => by
    unfold runM at h
    split at h
    · rename_i e
      rw [hl]; exact e
    · exact h.elim
  refine fnG_ofL F Sc len fun cdv hcv A outer s H vs Q E hr gd hsp => ?_
  have hv := len _ _ _ _ hsp
  obtain ⟨I, ds, T0, v0, d0, tr, tb, hlen, hoth, ev0, ed0, ow0, nd0, nI0, h⟩ := hsp
  obtain ⟨t, p, q⟩ := (ds_post (hbody cdv hcv A outer s H E (.of hr gd)) hl).ex
  refine ⟨t, p, ?_⟩
  have hd : ds.length = ps.length := by omega
  have R : ER K I (gamM n ps.length N.length) (env0 N.length ds) (L2.start N vs) H (fun j => if j = 0 then T0 else []) := by
    refine ⟨fun i k e => ?_, fun i a m => ?_, fun i j a hij m1 m2 => ?_, fun i => ?_, fun i a m => ?_, tr, ?_, ?_, tb⟩
    · cases i with
      | zero =>
        cases e
        exact ⟨v0, d0, getV ev0, getD ed0, ow0⟩
      | succ i =>
        show SlotR K I H k (if i + 1 = 0 then T0 else []) _ _
        rw [if_neg (Nat.succ_ne_zero i)]
        by_cases hi : i + 1 < vs.length
        · have e' : (gamM n ps.length N.length)[i + 1]? = some (.da 0) := by
            unfold gamM
            rw [List.getElem?_cons_succ, List.getElem?_append_left (by simp; omega), List.getElem?_replicate, if_pos (by omega)]
          rw [e'] at e
          cases e
          have q1 := List.getElem?_eq_getElem (l := vs) (i := i + 1) hi
          have q2 := List.getElem?_eq_getElem (l := ds) (i := i + 1) (by omega)
          exact ⟨_, _, getV q1, getD q2, .sh (hoth _ _ _ (Nat.succ_ne_zero i) q1 q2)⟩
        · have : k = .no := by
            unfold gamM at e
            rw [List.getElem?_cons_succ, List.getElem?_append_right (by simp; omega), List.getElem?_replicate] at e
            split at e
            · exact (Option.some.inj e).symm
            · cases e
          subst this
          trivial
    · have m : a ∈ (if i = 0 then T0 else []) := m
      by_cases hi : i = 0
      · subst hi; exact ⟨n, rfl⟩
      · rw [if_neg hi] at m; exact nil_nm m
    · have m1 : a ∈ (if i = 0 then T0 else []) := m1
      have m2 : a ∈ (if j = 0 then T0 else []) := m2
      by_cases hi : i = 0
      · rw [if_neg (fun z => hij (hi.trans z.symm))] at m2; exact nil_nm m2
      · rw [if_neg hi] at m1; exact nil_nm m1
    · show (if i = 0 then T0 else []).Nodup
      split
      · exact nd0
      · exact .nil
    · have m : a ∈ (if i = 0 then T0 else []) := m
      by_cases hi : i = 0
      · rw [if_pos hi] at m; exact nI0 a m
      · rw [if_neg hi] at m; exact nil_nm m
    · unfold env0 gamM; simp; omega
    · unfold L2.start gamM; simp; omega
  refine q I _ (env0 N.length ds) (L2.start N vs) H _ R ?_
  unfold runM at h
  rw [if_pos hd] at h
  have sS : ∀ a, SU (fun j => if j = 0 then T0 else []) a ↔ a ∈ T0 := fun a => ⟨fun ⟨j, m⟩ => by
    have m : a ∈ (if j = 0 then T0 else []) := m
    by_cases hj : j = 0
    · rw [if_pos hj] at m; exact m
    · rw [if_neg hj] at m; exact nil_nm m, fun m => ⟨0, m⟩⟩
  -- what a return leaves
  have fin : ∀ {d : D} {ρ' : Env} {d' : D} {I' : Addr → Prop} {H' : Hp} {S' : Nat → List Addr} {σ' : L2.St} {v : V} {T : List Addr}, dVar 0 ρ' = .ok d' →
      (∀ v I' H' T T', Evo I H (· ∈ T0) I' H' (fun a => a ∈ T ∨ a ∈ T') → Ow K I' H' C.kr T v d → Ow K I' H' n T' v0 d' → (∀ a ∈ T, ¬ I' a ∧ a ∉ T') → T.Nodup → (∀ a ∈ T', ¬ I' a) → T'.Nodup → (∀ a, I' a → H' a ≠ none) → Q v H') →
      Evo I H (SU fun j => if j = 0 then T0 else []) I' H' (fun a => SU S' a ∨ a ∈ T) → ER K I' C.Gr ρ' σ' H' S' → Mk C.M (L2.start N vs) σ' → Ow K I' H' C.kr T v d → (∀ a ∈ T, ¬ I' a ∧ ¬ SU S' a) → T.Nodup → Q v H' := by
    intro d ρ' d' I' H' S' σ' v T ed hq ev R' mk ow hT hn
    obtain ⟨v', d2, q1, q2, o⟩ := R'.slot 0 (.da n) (by rw [hR]; rfl)
    have mk0 := mk 0 (by rw [hM]; exact List.mem_singleton.mpr rfl)
    rw [getV ev0, q1] at mk0
    cases mk0
    have : d2 = d' := by
      unfold dVar at ed
      rw [q2] at ed
      exact Res.ok.inj ed
    subst this
    refine hq v I' H' T (S' 0) ⟨ev.sub, fun a z => (ev.new a z).imp id fun z => ⟨z.1.imp (sS a).mp id, z.2⟩, fun b o e z n => ev.keep b o e (fun z' => z ((sS b).mp z')) n, fun a z => ?_, ev.there, ev.tab⟩ ow o (fun a m => ⟨(hT a m).1, fun z => (hT a m).2 ⟨0, z⟩⟩) hn (R'.nI 0) (R'.nod 0) R'.tr
    have := ev.own a (z.elim .inr fun z => .inl ⟨0, z⟩)
    exact ⟨this.1.imp (sS a).mp id, this.2⟩
  cases e1 : fb (env0 N.length ds) with
  | bad => rw [e1] at h; exact h.elim
  | exc c d =>
    rw [e1] at h
    exact WX.less h fun a z => (sS a).mp z
  | ok o =>
    rw [e1] at h
    cases o with
    | nx ρ =>
      have h : PX K mg E I H (· ∈ T0) _ (dVar 0 ρ >>= fun d' => .ok (PyData.none, d')) := h
      cases e2 : dVar 0 ρ with
      | bad => rw [e2] at h; exact h.elim
      | exc c d => unfold dVar at e2; split at e2 <;> cases e2
      | ok d' =>
        rw [e2] at h
        intro I' H' S' σ' ev R' mk
        exact fin (v := .non) (T := []) e2 h ⟨ev.sub, ev.new, ev.keep, fun a z => z.elim (ev.own a) fun z => nil_nm z, ev.there, ev.tab⟩ R' mk (At.vr .non (some C.kr) : VR K I' H' (some C.kr) [] .non .none) (fun a m => nil_nm m) .nil
    | rt d ρ =>
      have h : PX K mg E I H (· ∈ T0) _ (dVar 0 ρ >>= fun d' => .ok (d, d')) := h
      cases e2 : dVar 0 ρ with
      | bad => rw [e2] at h; exact h.elim
      | exc c d => unfold dVar at e2; split at e2 <;> cases e2
      | ok d' =>
        rw [e2] at h
        exact fun I' H' S' σ' v T ev R' mk ow hT hn => fin e2 h ev R' mk ow hT hn
    | bk ρ => exact h.elim
    | ct ρ => exact h.elim
theorem fnCL {Γp : List SK} {fb : Env → Res Out} (F : Fun K x qual st f fd) (Sc : FnScope N ps (defScope st)) (hN : ps.length ≤ N.length) (hp : Γp.length = ps.length)
    (hbody : ∀ (cdv : Value), fd.code = cdv → ∀ (A : Around) (outer : List PySem.Env) (s : Shared) (H : Hp) (E : XK), Cz (cxOf (L2.CX P w) P w K mg base N qual (defScope st) f cdv A outer s H E) E k →
      DS (cxOf (L2.CX P w) P w K mg base N qual (defScope st) f cdv A outer s H E) E C (gamC Γp N.length) (defBody st) Γn fb) : FnG P w K mg base (k + 1) f fd ps (spC K mg Γp (.da C.kr) (runC ps.length N.length fb)) := by
  have len : ∀ vs H Q E, spC K mg Γp (.da C.kr) (runC ps.length N.length fb) vs H Q E → vs.length = ps.length := fun vs H Q E ⟨I, ws, tr, tb, l1, l2, r, h⟩ => by rw [l1, hp]
  refine fnG_ofL F Sc len fun cdv hcv A outer s H vs Q E hr gd hsp => ?_
  have hl := len _ _ _ _ hsp
  obtain ⟨I, ws, tr, tb, l1, l2, r, h⟩ := hsp
  obtain ⟨t, p, q⟩ := (hbody cdv hcv A outer s H E (.of hr gd)).ex
  refine ⟨t, p, ?_⟩
  have e0 : ∀ a, SU (fun _ => ([] : List Addr)) a ↔ False := fun a => ⟨fun ⟨j, m⟩ => nil_nm m, fun z => z.elim⟩
  have R : ER K I (gamC Γp N.length) (envC N.length ws) (L2.start N vs) H (fun _ => []) := by
    refine ⟨fun i kk e => ?_, fun i a m => nil_nm m, fun i j a _ m _ => nil_nm m, fun i => .nil, fun i a m => nil_nm m, tr, by unfold envC gamC; simp; omega, by unfold L2.start gamC; simp; omega, tb⟩
    by_cases hi : i < Γp.length
    · have e' : Γp[i]? = some kk := by
        unfold gamC at e
        rw [List.getElem?_append_left hi] at e
        exact e
      have := r i kk e'
      have q1 : (L2.start N vs)[i]? = vs[i]?.map some := by
        unfold L2.start
        rw [List.getElem?_append_left (by simpa using (by omega : i < vs.length)), List.getElem?_map]
      have q2 : (envC N.length ws)[i]? = ws[i]? := by
        unfold envC
        rw [List.getElem?_append_left (by omega)]
      rw [q1, q2]
      exact this
    · have : kk = .no := by
        unfold gamC at e
        rw [List.getElem?_append_right (by omega), List.getElem?_replicate] at e
        split at e
        · exact (Option.some.inj e).symm
        · cases e
      subst this
      trivial
  refine q I _ (envC N.length ws) (L2.start N vs) H _ R ?_
  unfold runC at h
  rw [if_pos (by rw [l2, hp])] at h
  have gr : ∀ {I' : Addr → Prop} {H' : Hp} {S' : Addr → Prop}, Evo I H (SU fun _ => []) I' H' S' → Gr I H I' H' := fun e => ⟨e.sub, fun a z => (e.new a z).imp id fun z => ⟨z.1.elim (fun z => ((e0 a).mp z).elim) id, z.2⟩, fun b o q n => e.keep b o q (fun z => (e0 b).mp z) n, fun z => e.there _ z, e.tab⟩
  cases e1 : fb (envC N.length ws) with
  | bad => rw [e1] at h; exact h.elim
  | exc c d =>
    rw [e1] at h
    exact WX.less h fun a z => (e0 a).mp z
  | ok o =>
    rw [e1] at h
    cases o with
    | nx ρ => exact fun I' H' S' σ' ev R' mk => h .non I' H' [] (gr ev) ⟨.non, .none, rfl, rfl, (At.vr .non (some C.kr) : VR K I' H' (some C.kr) [] .non .none)⟩ .nil (fun a m => nil_nm m)
    | rt d ρ => exact fun I' H' S' σ' v T ev R' mk ow hT hn => h v I' H' T (gr ev) ⟨v, d, rfl, rfl, ow⟩ ⟨fun a m => ((ev.own a (.inr m)).1).elim (fun z => ((e0 a).mp z).elim) id, fun a m => (hT a m).1, hn⟩ fun a m => ⟨_, rfl⟩
    | bk ρ => exact h.elim
    | ct ρ => exact h.elim
/-- the def's code object and the cell of its lambdas' names -/
structure LamH (mg : Str → Option Value) (base : Heap) (fd : FuncData) (qual : Str) : Prop where
  ex : ∃ c Pt : Addr, fd.code = .ref c ∧ LamX.TabB base mg c Pt ∧ (Pt, qual ++ "<lambda>") ∈ Wd.T ∧ ∀ p ∈ Wd.T, p.1 = Pt → p.2 = qual ++ "<lambda>"
theorem LamH.lam {X : Cx} (h : LamH X.mg X.base fd X.env.qual) (hc : fd.code = X.env.code) : ∃ c Pt : Addr, LamM X c Pt := by
  obtain ⟨c, Pt, e, t, m, u⟩ := h.ex
  exact ⟨c, Pt, t, hc.symm.trans e, m, u⟩
theorem Cz.kc {X : Cx} {E : XK} {n : Nat} (h : Wd.kc = n + 1) (c : Cz X E (Wd.kc - 1)) : Cz X E n := by rw [h] at c; exact c
end
end DL

namespace DL
open PySem PySem.Spec PyProof.Rows L2
section
/-- what isinstance(found, y) tells -/
structure EIs (K : PySem.W.Frag) (mg : Str → Option Value) (ok sub : Str → Bool) (y : Str) : Prop where
  ex : ∃ Cy, mg y = some (.ref Cy) ∧ PySem.W.kitOne K (.type "NoneType") (.ref Cy) = some false ∧ ∀ c Cc, ok c = true → mg c = some (.ref Cc) → XkC K Cc ∧ PySem.W.kitOne K (.ref Cc) (.ref Cy) = some (sub c)
structure EIsT (K : PySem.W.Frag) (mg : Str → Option Value) (ok sub : Str → Bool) (T : String) : Prop where
  h0 : PySem.W.kitOne K (.type "NoneType") (.type T) = some false
  hs : ∀ c Cc, ok c = true → mg c = some (.ref Cc) → XkC K Cc ∧ PySem.W.kitOne K (.ref Cc) (.type T) = some (sub c)
variable [Wd] {X : Cx} {E : XK} {Γ : List SK} {pos : Pos} {C : Cf} {Γn : List SK} {k : Option Nat} {ok sub : Str → Bool} {i : Nat} {z y : Str} {p p2 p3 : Pos}
theorem q_isiX (W : EIs X.K X.mg ok sub y) (N : InW X) (bf : NoG X.mg) (hi : Γ[i]? = some .er) (hz : X.N[i]? = some z) (hvz : Vis X.env.scope z) (hg : Gl X "isinstance") (hg2 : Gl X y)
    (hdb2 : (y == ("__debug__" : Str)) = false := by decide) (hdz : (z == ("__debug__" : Str)) = false := by decide) (hcz : (z == ("__classdict__" : Str)) = false := by decide)
    (he : starEach [.Name z p3, .Name y p2] X.env = (false, eval (.Name z p3) X.env) :: starEach [.Name y p2] X.env := by rfl) (he2 : starEach [.Name y p2] X.env = (false, eval (.Name y p2) X.env) :: starEach [] X.env := by rfl) (hpl : (backTo pos (starEach [.Name y p2] X.env)).any (·.1) = false := by rfl) :
    DP X E Γ (.Call (.Name "isinstance" p) [.Name z p3, .Name y p2] [] pos) k (dIsiX ok sub i) := by
  obtain ⟨Cy, h1, h2, h3⟩ := W.ex
  exact dp_isiX N hi hz hvz hg (bf _ (by decide)) hg2 h1 h2 h3 hdb2 hdz hcz PyProof.Rows.Boot.«isinstance» he he2 hpl
theorem q_isiVE (W : EIsT X.K X.mg ok sub "ValueError") (N : InW X) (bf : NoG X.mg) (hi : Γ[i]? = some .er) (hz : X.N[i]? = some z) (hvz : Vis X.env.scope z) (hg : Gl X "isinstance") (hg2 : Gl X "ValueError")
    (hdz : (z == ("__debug__" : Str)) = false := by decide) (hcz : (z == ("__classdict__" : Str)) = false := by decide)
    (he : starEach [.Name z p3, .Name "ValueError" p2] X.env = (false, eval (.Name z p3) X.env) :: starEach [.Name "ValueError" p2] X.env := by rfl) (he2 : starEach [.Name "ValueError" p2] X.env = (false, eval (.Name "ValueError" p2) X.env) :: starEach [] X.env := by rfl) (hpl : (backTo pos (starEach [.Name "ValueError" p2] X.env)).any (·.1) = false := by rfl) :
    DP X E Γ (.Call (.Name "isinstance" p) [.Name z p3, .Name "ValueError" p2] [] pos) k (dIsiX ok sub i) :=
  dp_isiXT N hi hz hvz hg (bf _ (by decide)) hg2 (bf _ (by decide)) PyProof.Rows.Boot.«ValueError» W.h0 W.hs (by decide) (by decide) hdz hcz PyProof.Rows.Boot.«isinstance» he he2 hpl
theorem q_valX (W : EIsT X.K X.mg ok sub "ValueError") (N : InW X) (hi : Γ[i]? = some .er) (hz : X.N[i]? = some z) (hvz : Vis X.env.scope z)
    (hdz : (z == ("__debug__" : Str)) = false := by decide) (hcz : (z == ("__classdict__" : Str)) = false := by decide) (hb : attributeBase (.Name z p3) "value" X.env (eval (.Name z p3) X.env) = eval (.Name z p3) X.env := by rfl) : DP X E Γ (.Attribute (.Name z p3) "value" pos) (some 0) (dValX ok i) :=
  dp_valX N hi hz hvz (fun c Cc h1 h2 => (W.hs c Cc h1 h2).1) hdz hcz hb
end
end DL

namespace DL
open PySem PySem.Spec PyProof.Rows L2
section
variable [Wd] {X : Cx} {E : XK} {Γ : List SK} {pos : Pos} {fd : FuncData} {mg : Str → Option Value} {base : Heap} {q : Str}
theorem LamH.lam2 (h : LamH mg base fd q) (hm : X.mg = mg) (hb : X.base = base) (hq : X.env.qual = q) (hc : fd.code = X.env.code) : ∃ c Pt : Addr, LamM X c Pt := by
  subst hm hb hq
  exact h.lam hc
theorem dp_lstT {es : List Expr} {gs : Env → Res (List D)} (ha : DA X E Γ es false gs) : DP X E Γ (.List es pos) none (dLst gs) := by
  obtain ⟨ta, pa, qa⟩ := ha.ex
  refine ⟨_, pe_lst pa, fun I S ρ σ H Q R h => ?_⟩
  refine qa I S ρ σ H _ R (PX.imp (PX.bnd h) fun ds _ ⟨e, h1⟩ => ?_)
  intro vs I1 H1 g1 r1
  obtain ⟨hz, h1⟩ := lim_px h1
  have hz : vs.length ≤ sizeLine := by rw [r1.len]; exact hz
  refine ⟨hz, fun p hp => ?_⟩
  have r2 : RBA false X.K I1 (upd H1 p (.lst vs)) vs ds := RBA.later r1 (fun a i => i) fun a o q _ => upd_keep hp a o q
  refine h1 (.ref p) I1 _ [] (g1.trans (Gr.lay hp)) ⟨rfl, ?_⟩ New.nil
  exact .lst (.inr ⟨rfl, .inl ⟨_, upd_same⟩⟩) upd_same hz r2
end
end DL

namespace DL
open PySem PySem.Spec PyProof.Rows L2
section
variable {K : PySem.W.Frag} {C D fI : Addr}
theorem and2 {a b : Bool} (h : (a && b) = true) : a = true ∧ b = true := Bool.and_eq_true_iff.mp h
def xkB (K : PySem.W.Frag) (C : Addr) : Bool := xfB K C && ((PySem.W.clsIn K C).isSome && (decide (PySem.W.findIn K (.ref C) "__class__" = some (some (.builtin "object.__class__"))) && (decide (PySem.W.specialIn K (.builtin "object.__class__") "__get__" = some (some (.builtin "getset_descriptor.__get__"))) &&
  (decide (PySem.W.takesIn K (.builtin "object.__class__") = some true) && (decide (PySem.W.mroIn K C (.type "object") = some true) && decide (PySem.W.findIn K (.ref C) "value" = some none))))))
theorem xkB_ok (h : xkB K C = true) : XkC K C := by
  obtain ⟨h1, h⟩ := and2 h
  obtain ⟨h2, h⟩ := and2 h
  obtain ⟨h3, h⟩ := and2 h
  obtain ⟨h4, h⟩ := and2 h
  obtain ⟨h5, h⟩ := and2 h
  obtain ⟨h6, h7⟩ := and2 h
  exact ⟨xfB_ok h1, h2, of_decide_eq_true h3, of_decide_eq_true h4, of_decide_eq_true h5, of_decide_eq_true h6, of_decide_eq_true h7⟩
/-- all of PCls but the class object itself -/
def pclB (K : PySem.W.Frag) (D fI C : Addr) : Bool := decide (PySem.W.findIn K (.ref C) "__init__" = some (some (.ref fI))) && (decide (PySem.W.typeIn K (.ref fI) = some (.type "function")) && (decide (PySem.W.findIn K (.ref C) "value" = some none) && (decide (PySem.W.mroIn K C (.ref D) = some true) &&
  (decide (PySem.W.ks_superIn K C D "__init__" = some (some (.builtin "ValueError.__init__"))) && decide (PySem.W.subIn K (.ref C) (.type "ValueError") = some true)))))
theorem pclB_ok (o : OexC K C) (h : pclB K D fI C = true) : PCls K D fI C := by
  obtain ⟨h1, h⟩ := and2 h
  obtain ⟨h2, h⟩ := and2 h
  obtain ⟨h3, h⟩ := and2 h
  obtain ⟨h4, h⟩ := and2 h
  obtain ⟨h5, h6⟩ := and2 h
  exact ⟨o, of_decide_eq_true h1, of_decide_eq_true h2, of_decide_eq_true h3, of_decide_eq_true h4, of_decide_eq_true h5, of_decide_eq_true h6⟩
end
end DL

namespace DL
open PySem PySem.Spec PyProof.Rows L2
section
variable {K : PySem.W.Frag} {C D fI : Addr}
def oclB (K : PySem.W.Frag) (C : Addr) : Bool := match K.lookup C with
  | some ⟨.type "type", _, .cls cd, sl⟩ => (match cd.mro, sl.toList with
    | .ref C' :: bm, [_, _, _, _, some (.builtin n), _] => C' == C && n == "ValueError.__new__" && !cd.hasDel && cd.hasDict && PySem.HandSPX.refsVE bm
    | _, _ => false)
  | _ => false
theorem oclB_ok (q : oclB K C = true) : ∃ nm q N bs bm sn sub ab col dd k0 k1 k2 k3 k5, K.lookup C = some (excClassObj nm q C N bs bm true sn sub ab col dd k0 k1 k2 k3 k5 "ValueError.__new__") ∧ PySem.HandSPX.refsVE bm = true := by
  unfold oclB at q
  split at q
  · rename_i dd cd sl ho
    split at q
    · rename_i C' bm k0 k1 k2 k3 n k5 hm hs
      simp only [Bool.and_eq_true, beq_iff_eq, Bool.not_eq_true'] at q
      obtain ⟨⟨⟨⟨rfl, rfl⟩, hdel⟩, hd⟩, ht⟩ := q
      obtain ⟨nm, bs, mro, ns, qn, hdct, sn, sub, ab, col, del⟩ := cd
      dsimp only at hm hdel hd
      subst hm hdel hd
      have hsl : sl = #[k0, k1, k2, k3, some (.builtin "ValueError.__new__"), k5] := by
        obtain ⟨l⟩ := sl
        simp only at hs
        rw [hs]
      subst hsl
      exact ⟨nm, qn, ns, bs, bm, sn, sub, ab, col, dd, k0, k1, k2, k3, k5, ho, ht⟩
    · cases q
  · cases q
def oexB (K : PySem.W.Frag) (C : Addr) : Bool := oclB K C && (decide (PySem.W.findIn K (.ref C) "__setattr__" = some (some (.builtin "object.__setattr__"))) && (decide (PySem.W.subIn K (.ref C) (.type "BaseException") = some true) && (decide (PySem.W.typeIn K (.ref C) = some (.type "type")) && PySem.W.keepIn K (.ref C))))
theorem oexB_ok (h : oexB K C = true) : OexC K C := by
  obtain ⟨h1, h⟩ := and2 h
  obtain ⟨h2, h⟩ := and2 h
  obtain ⟨h3, h⟩ := and2 h
  obtain ⟨h4, h5⟩ := and2 h
  exact ⟨oclB_ok h1, of_decide_eq_true h2, of_decide_eq_true h3, of_decide_eq_true h4, h5⟩
end
end DL

namespace DL
open PySem PySem.Spec PyProof.Rows L2
section
def perShape : FuncBody → Bool
  | .stmts [.Expr (.Call (.Attribute (.Call (.Name s _) [] [] _) i p3) [.Name v _] [] p5) _, .Assign [.Attribute (.Name se _) va _] (.Name v2 _) _] => (p3.endLine == p5.line) && (decide (s = "super") && (decide (i = "__init__") && (decide (v = "value") && (decide (se = "self") && (decide (va = "value") && decide (v2 = "value"))))))
  | _ => false
theorem perShape_ok {b : FuncBody} (h : perShape b = true) : ∃ p1 p2 p3 p4 p5 p6 p7 p8 p9 p10 : Pos, b = .stmts [.Expr (.Call (.Attribute (.Call (.Name "super" p1) [] [] p2) "__init__" p3) [.Name "value" p4] [] p5) p6, .Assign [.Attribute (.Name "self" p7) "value" p8] (.Name "value" p9) p10] ∧ (p3.endLine == p5.line) = true := by
  unfold perShape at h
  split at h
  · obtain ⟨h0, h⟩ := and2 h
    obtain ⟨h1, h⟩ := and2 h
    obtain ⟨h2, h⟩ := and2 h
    obtain ⟨h3, h⟩ := and2 h
    obtain ⟨h4, h⟩ := and2 h
    obtain ⟨h5, h6⟩ := and2 h
    rw [of_decide_eq_true h1, of_decide_eq_true h2, of_decide_eq_true h3, of_decide_eq_true h4, of_decide_eq_true h5, of_decide_eq_true h6]
    exact ⟨_, _, _, _, _, _, _, _, _, _, rfl, h0⟩
  · cases h
end
end DL

namespace DL
open PySem PySem.Spec PyProof.Rows L2
section
variable {P : Program} {K : PySem.W.Frag} {mg : Str → Option Value} {D fI : Addr}
def closB (K : PySem.W.Frag) (file : Str) (D : Addr) (cl : List (Str × Addr)) (cd : Value) : Bool := match cl, cd with
  | [(c, cc)], .ref cda => decide (c = "__class__") && (PySem.W.codeIn K (.ref cda) "PictureError.__init__" && ((match K.lookup cda with
    | some ⟨_, _, .fields vs, _⟩ => (match vs[2]? with
      | some (Value.str f _) => file == f
      | _ => false)
    | _ => false) && ((match K.lookup cc with
    | some ⟨_, _, .cell (some (.ref d)), _⟩ => decide (d = D)
    | _ => false) && (PySem.W.clsIn K D).isSome)))
  | _, _ => false
theorem closB_ok {file : Str} {cl : List (Str × Addr)} {cd : Value} (h : closB K file D cl cd = true) : ∃ (ccl cl2 : Value) (cdd cld : Option Addr) (ccs csl : Array (Option Value)) (cc cda : Addr) (vs : Array Value) (f : Str) (tf : Tok) (cdD : ClassData), cl = [(("__class__" : Str), cc)] ∧ cd = .ref cda ∧
    PySem.W.codeIn K (.ref cda) "PictureError.__init__" = true ∧ K.lookup cda = some ⟨ccl, cdd, .fields vs, ccs⟩ ∧ vs[2]? = some (Value.str f tf) ∧ (file == f) = true ∧ K.lookup cc = some ⟨cl2, cld, .cell (some (.ref D)), csl⟩ ∧ PySem.W.clsIn K D = some cdD := by
  unfold closB at h
  split at h
  · rename_i c cc cda
    obtain ⟨h1, h⟩ := and2 h
    obtain ⟨h2, h⟩ := and2 h
    obtain ⟨h3, h⟩ := and2 h
    obtain ⟨h4, h5⟩ := and2 h
    split at h3
    · rename_i a1 a2 vs a3 e1
      split at h3
      · rename_i f tf e2
        split at h4
        · rename_i b1 b2 d b3 e3
          obtain ⟨cdD, e4⟩ := Option.isSome_iff_exists.mp h5
          have e5 : c = "__class__" := of_decide_eq_true h1
          have e6 : d = D := of_decide_eq_true h4
          subst e5 e6
          exact ⟨_, _, _, _, _, _, cc, cda, vs, f, tf, cdD, rfl, rfl, h2, e1, e2, h3, e3, e4⟩
        · cases h4
      · cases h3
    · cases h3
  · cases h
end
end DL

namespace DL
open PySem PySem.Spec PyProof.Rows L2
section
variable {P : Program} {K : PySem.W.Frag} {mg : Str → Option Value} {D fI : Addr}
def stOf (fd : FuncData) : Stmt := .FunctionDef "x" fd.params (match fd.body with
  | .stmts b => b
  | _ => []) [] none [] fd.scope none "x" ⟨0, 0, 0, 0⟩
def perB (file : Str) (K : PySem.W.Frag) (D fI : Addr) : Bool := match K.lookup fI with
  | some ⟨_, _, .func fd, _⟩ => perShape fd.body && (NdefX.nscB ["self", "value", "__class__"] ["self", "value"] ["__class__"] fd.scope && (decide (fd.scope.names.lookup ("super" : Str) = some .globalImplicit) && (decide ((fd.params.posonlyargs ++ fd.params.args).head?.map (·.arg) = some ("self" : Str)) &&
    (decide (fd.name = "__init__") && (decide (fd.qualname = "PictureError.__init__") && (decide (fd.globals = mainGlobals) && (decide (fd.builtins = builtinsNs) && closB K file D fd.closure fd.code)))))))
  | _ => false
theorem perB_ok (h : perB P.main.file K D fI = true) (hs : mg "super" = none) (ht : (P.main.scope.names.lookup ("super" : Str)).isSome = false) (ho : PySem.W.nsIn K PySem.cStatics "thirdparty.any" = some none) : ∃ fd, PErr P K mg (stOf fd) D fI fd ∧ perShape fd.body = true ∧ NdefX.NScope ["self", "value", "__class__"] ["self", "value"] ["__class__"] fd.scope ∧
    fd.scope.names.lookup ("super" : Str) = some .globalImplicit ∧ (fd.params.posonlyargs ++ fd.params.args).head?.map (·.arg) = some ("self" : Str) := by
  unfold perB at h
  split at h
  · rename_i oc od fd osl e
    obtain ⟨h1, h⟩ := and2 h
    obtain ⟨h2, h⟩ := and2 h
    obtain ⟨h3, h⟩ := and2 h
    obtain ⟨h4, h⟩ := and2 h
    obtain ⟨h5, h⟩ := and2 h
    obtain ⟨h6, h⟩ := and2 h
    obtain ⟨h7, h⟩ := and2 h
    obtain ⟨h8, h9⟩ := and2 h
    have e5 := of_decide_eq_true h5
    have e6 := of_decide_eq_true h6
    have e7 := of_decide_eq_true h7
    have e8 := of_decide_eq_true h8
    obtain ⟨ccl, cl, cdd, cld, ccs, csl, cc, cda, vs, f, tf, cdD, q1, q2, q3, q4, q5, q6, q7, q8⟩ := closB_ok h9
    obtain ⟨p1, p2, p3, p4, p5, p6, p7, p8, p9, p10, hb, _⟩ := perShape_ok h1
    refine ⟨fd, ⟨⟨oc, fd.defaults, fd.kwdefaults, fd.doc, fd.pyModule, fd.closureTuple, ccl, cl, od, fd.annotations, cdd, cld, osl, ccs, csl, cc, cda, vs, f, tf, cdD, ?_, e, q3, q4, q5, q6, q7, q8⟩, hs, ht, ho⟩, h1, NdefX.nscope_by h2, of_decide_eq_true h3, of_decide_eq_true h4⟩
    obtain ⟨a1, a2, a3, a4, a5, a6, a7, a8, a9, a10, a11, a12, a13, a14, a15⟩ := fd
    dsimp only at *
    subst e5 e6 e7 e8 q1 q2 hb
    rfl
  · cases h
end
end DL

namespace DL
open PySem PySem.Spec PyProof.Rows L2
theorem super_ev {p1 p2 p3 p4 p5 : Pos} (hl : (p3.endLine == p5.line) = true) (env : PySem.Env) : eval (.Call (.Attribute (.Call (.Name "super" p1) [] [] p2) "__init__" p3) [.Name "value" p4] [] p5) env = (do
      let ov ← attributeBase (.Call (.Name "super" p1) [] [] p2) "__init__" env (eval (.Call (.Name "super" p1) [] [] p2) env)
      standAt p3.atName
      let (f, first) ← holding [ov] (getMethod ov "__init__" (do return (← importBound (.Call (.Name "super" p1) [] [] p2) env).getD true))
      callWith p5 f first (backTo p5 (starEach [.Name "value" p4] env)) []) := by
  have e : eval (.Call (.Attribute (.Call (.Name "super" p1) [] [] p2) "__init__" p3) [.Name "value" p4] [] p5) env = (do
      let ov ← attributeBase (.Call (.Name "super" p1) [] [] p2) "__init__" env (eval (.Call (.Name "super" p1) [] [] p2) env)
      standAt p3.atName
      methodCall (.Call (.Name "super" p1) [] [] p2) "__init__" p3 p5 env ov 1 (backTo p5 (starEach [.Name "value" p4] env)) (backToKw p5 (keywordEach [] env))) := by rfl
  rw [e]
  have h2 : ∀ ov, methodCall (.Call (.Name "super" p1) [] [] p2) "__init__" p3 p5 env ov 1 (backTo p5 (starEach [.Name "value" p4] env)) (backToKw p5 (keywordEach [] env)) = _ := fun ov => L2.mcall_line (n := 1) rfl hl
  simp only [h2]
  rfl
section
variable [Wd] {P : Program} {w : World} {K : PySem.W.Frag} {mg : Str → Option Value} {base : Heap} {D fI : Addr} {x : Str}
theorem init_of {fd : FuncData} (T : PErr P K mg (stOf fd) D fI fd) (h1 : perShape fd.body = true) (h2 : NdefX.NScope ["self", "value", "__class__"] ["self", "value"] ["__class__"] fd.scope) (h3 : fd.scope.names.lookup ("super" : Str) = some .globalImplicit)
    (h4 : (fd.params.posonlyargs ++ fd.params.args).head?.map (·.arg) = some ("self" : Str)) : FnOk P w K mg base CX0 1 fI fd ["self", "value"] (spInit K D fI) := by
  obtain ⟨p1, p2, p3, p4, p5, p6, p7, p8, p9, p10, hb, hl⟩ := perShape_ok h1
  exact init_ok T (p1 := p1) (p2 := p2) (p3 := p3) (p4 := p4) (p5 := p5) (p6 := p6) (p7 := p7) (p8 := p8) (p9 := p9) (p10 := p10) (by show (match fd.body with | .stmts b => b | _ => []) = _; rw [hb]) h2 h3 h4 (hev := fun env => super_ev hl env)
end
end DL

namespace DL
open PySem PySem.Spec PyProof.Rows L2
section
def parB (p : Arguments) : Bool := match p with
  | ⟨[], [a, b], none, [], [], none, _⟩ => decide (a.arg = "self") && decide (b.arg = "value")
  | _ => false
def dflB1 (K : PySem.W.Frag) (v : Value) : Bool := match v with
  | .ref T => (match K.lookup T with
    | some ⟨_, _, .seq its _, _⟩ => decide (its.size = 1)
    | _ => false)
  | _ => false
theorem parB_ok {K : PySem.W.Frag} {fd : FuncData} (h : parB fd.params = true) (hd : dflB1 K fd.defaults = true) : Binds K fd ["self", "value"] [] := by
  intro s us X hl
  rw [List.append_nil] at hl ⊢
  obtain ⟨a1, a2, p, a4, a5, a6, a7, a8, a9, a10, a11, a12, a13, a14, a15⟩ := fd
  dsimp only at h hd
  unfold parB at h
  unfold dflB1 at hd
  split at hd
  · rename_i T
    split at hd
    · rename_i oc od its n sl lT
      split at h
      · rename_i a b d
        obtain ⟨h1, h2⟩ := and2 h
        obtain ⟨x, ax, px⟩ := a
        obtain ⟨y, ay, py⟩ := b
        have h1 := of_decide_eq_true h1
        have h2 := of_decide_eq_true h2
        dsimp only at h1 h2
        subst h1 h2
        obtain ⟨its⟩ := its
        have hz : its.length = 1 := of_decide_eq_true hd
        match us, hl, its, hz with
        | [u, v], _, [z], _ =>
          refine BindsTo.of_looks fun M => ?_
          exact looks_items X lT rfl (.of_pure rfl)
      · cases h
    · cases hd
  · cases hd
end
end DL

namespace DL
open PySem PySem.Spec PyProof.Rows L2
section
variable [Wd] {P : Program} {w : World} {K : PySem.W.Frag} {mg : Str → Option Value} {base : Heap} {D fI : Addr} {x : Str}
/-- the base's __init__: all that the Bools tell -/
def basB (file : Str) (K : PySem.W.Frag) (D fI : Addr) : Bool := perB file K D fI && (match K.lookup fI with
  | some ⟨_, _, .func fd, _⟩ => parB fd.params && dflB1 K fd.defaults
  | _ => false)
theorem rai_of (hb : basB P.main.file K D fI = true) (hs : mg "super" = none) (ht : (P.main.scope.names.lookup ("super" : Str)).isSome = false) (ho : PySem.W.nsIn K PySem.cStatics "thirdparty.any" = some none) (o : oexB K (He.ga K x) = true) (p : pclB K D fI (He.ga K x) = true) (hm : mg x = some (.ref (He.ga K x))) : Rai P w K mg base 1 x := by
  obtain ⟨h1, h2⟩ := and2 hb
  obtain ⟨fd, T, q1, q2, q3, q4⟩ := perB_ok (P := P) h1 hs ht ho
  have C := pclB_ok (oexB_ok o) p
  obtain ⟨oc, dV, kV, doc, pm, ct, ccl, cl, od, an, cdd, cld, osl, ccs, csl, cc, cda, vs, file, tf, cdD, e, lk, _⟩ := T.ex
  rw [lk] at h2
  obtain ⟨h3, h4⟩ := and2 h2
  exact ⟨⟨D, fI, fd, C, C.tyI, init_of T q1 q2 q3 q4, parB_ok h3 h4⟩, hm⟩
end
end DL

namespace DL
open PySem PySem.Spec PyProof.Rows L2
section
variable {P : Program} {w : World} {K : PySem.W.Frag} {mg : Str → Option Value} {base : Heap} {x : Str} {st : Stmt} {fd : FuncData} {ps ks : List Str} {ix : List Nat} {k : Nat} {kws : List (List Str × List Nat)} {sp : Sp}
abbrev FnT0 (K : PySem.W.Frag) (x : Str) (st : Stmt) (fd : FuncData) : Prop := FunD K x x (defArgs st) (defBody st) (defScope st) [] [] (He.ga K x) fd
theorem kwB_of (F : FnT0 K x st fd) (h : ∀ (kV doc pm : Value) (an : Option Addr) (cdv ct : Value) (ws : List Value), ws.length = ks.length → bindArgs (PySem.W.fnOf x x (defArgs st) (defBody st) (defScope st) .none kV doc pm an cdv ct) ⟨[], ks.zip ws⟩ = pure (ps.zip (perm ix ws))) : KwB K fd ps ks ix := by
  obtain ⟨oc, od, dV, kV, doc, pm, an, cdv, ct, osl, rfl, lk, hcd, hD, hK⟩ := F.ex
  rcases hD with ⟨_, rfl⟩ | ⟨e, _⟩
  · exact fun s ws _ hl => .of_eq (h kV doc pm an cdv ct ws hl)
  · exact absurd rfl e
theorem kwsN {α : Type} {Z : α → Prop} : ∀ p ∈ ([] : List α), Z p := fun _ m => absurd m List.not_mem_nil
theorem kwsC {α : Type} {Z : α → Prop} {a : α} {l : List α} (h : Z a) (r : ∀ p ∈ l, Z p) : ∀ p ∈ a :: l, Z p := fun p m => (List.mem_cons.mp m).elim (fun e => by rw [e]; exact h) (r p)
theorem dfn_of (F : FnT0 K x st fd) (hm : mg x = some (.ref (He.ga K x))) (ok : Fun K x x st (He.ga K x) fd → FnG P w K mg base k (He.ga K x) fd ps sp)
    (hb : ∀ (kV doc pm : Value) (an : Option Addr) (cdv ct : Value) (us : List Value), us.length = ps.length → bindArgs (PySem.W.fnOf x x (defArgs st) (defBody st) (defScope st) .none kV doc pm an cdv ct) ⟨us, []⟩ = pure (ps.zip us))
    (hk : ∀ p ∈ kws, ∀ (kV doc pm : Value) (an : Option Addr) (cdv ct : Value) (ws : List Value), ws.length = p.1.length → bindArgs (PySem.W.fnOf x x (defArgs st) (defBody st) (defScope st) .none kV doc pm an cdv ct) ⟨[], p.1.zip ws⟩ = pure (ps.zip (perm p.2 ws))) : Dfn P w K mg base k x ps kws sp :=
  ⟨⟨fd, ok (He5.fun_of F), F.bindsN hb, fun p hp => kwB_of F (hk p hp)⟩, F.kp, hm⟩
/-- a def that makes lambdas -/
theorem lamH_of [Wd] {q : Str} (F : FnT0 K x st fd) (tb : LamX.TabB base mg (He.cT K (x, none)).1 (He.cT K (x, none)).2) (hm : ((He.cT K (x, none)).2, q ++ "<lambda>") ∈ Wd.T) (hn : (Wd.T.map (·.1)).Nodup) : LamH mg base fd q := by
  obtain ⟨oc, od, dV, kV, doc, pm, an, cdv, ct, osl, rfl, lk, hcd, hD, hK⟩ := F.ex
  obtain ⟨c, rfl⟩ := He.codeIn_ref hcd
  have e : He.codeOf K (x, none) = c := He.codeOf_eq (p := (x, none)) lk rfl
  refine ⟨⟨c, (He.cT K (x, none)).2, rfl, ?_, hm, fun p hp h1 => ?_⟩⟩
  · have e2 : (He.cT K (x, none)).1 = c := e
    rw [← e2]; exact tb
  · -- the tables stand apart
    have key : ∀ (l : List (Addr × Str)), (l.map (·.1)).Nodup → ∀ a b : Addr × Str, a ∈ l → b ∈ l → a.1 = b.1 → a = b := by
      intro l
      induction l with
      | nil => intro _ a b ha; cases ha
      | cons y r ih =>
        intro hn a b ha hb e
        rw [List.map_cons, List.nodup_cons] at hn
        rcases List.mem_cons.mp ha with ea | ha
        · rcases List.mem_cons.mp hb with eb | hb
          · exact ea.trans eb.symm
          · rw [ea] at e; exact absurd (List.mem_map.mpr ⟨b, hb, e.symm⟩) hn.1
        · rcases List.mem_cons.mp hb with eb | hb
          · rw [eb] at e; exact absurd (List.mem_map.mpr ⟨a, ha, e⟩) hn.1
          · exact ih hn.2 a b ha hb e
    exact congrArg Prod.snd (key _ hn p _ hp hm h1)
end
/-- the law's promise from its mirror -/
theorem law_sp [Wd] {K : PySem.W.Frag} {mg : Str → Option Value} {m : List W → Res W} {H : Hp} {a : Addr} {ns : List Int} {kr : Nat} (tb : LamX.Tabs Wd.T H) (sc : ScT K H (.ref a) ns) (h : m [.d (.list (ns.map PyData.int))] = .ok (.d (.bool true))) :
    spC K mg [.sc] (.da kr) m [.ref a] H (fun v _ => v = .bl true) fun _ _ _ => False := by
  refine ⟨fun _ => False, [.d (.list (ns.map PyData.int))], fun _ z => z.elim, tb, rfl, rfl, fun i k e => ?_, ?_⟩
  · cases i with
    | zero => cases e; exact ⟨.ref a, ns, rfl, rfl, sc⟩
    | succ i => cases i <;> cases e
  · rw [h]
    intro v I' H' T g sl nw hT
    obtain ⟨v', d, e1, e2, o⟩ := sl
    cases e1
    cases e2
    have r : RB false K I' H' v (.bool true) := o.rt
    cases r
    rfl
theorem walk_ofG {l : PySem.W.OpenLaw} {n k : Nat} {q : Program} {loose : List Str} {XP : (Str → Option Value) → Heap → Prop} {YP : World → Heap → Prop} {d : DefRec} {x : Str}
    (hn : l.most = some n) (hn2 : n ≤ sizeLine) (hdf : d.params.defaults = []) (hr : Room k callerA) (gd : callerA.guards = some [])
    (F : ∀ (w : World) (mg : Str → Option Value) (fa : Addr) (h : Heap), YP w h → h.Ns mainGlobals mg → mg d.name = some (.ref fa) → ∃ K : PySem.W.Frag, K.In h ∧ ∃ (fd : FuncData) (cs : List (Addr × Addr)),
      (∀ p ∈ cs, h.get? p.2 = some { cls := .none, data := .fields #[] }) ∧ (∀ p ∈ cs, K.lookup p.2 = none) ∧ (∀ p ∈ cs, PySem.W.CodeHd h p.1 p.2) ∧ (∀ (s : Shared) (u : Value), BindsTo s fd ⟨[u], []⟩ [(x, u)]) ∧
      ∀ base : Heap, K.In base → base.Ns mainGlobals mg → (∀ p ∈ cs, LamX.TabB base mg p.1 p.2) → ∀ (a : Addr) (ns : List Int), ns.length ≤ n → (∀ z ∈ ns, Builtin.Int.intBits z ≤ 1048576) →
        ∃ sp : Sp, FnG l.prog w K mg base k fa fd [x] sp ∧ ∀ H : Hp, (∀ p ∈ cs, H p.2 = some (.tbl #[])) → ScT K H (.ref a) ns → sp [.ref a] H (fun v _ => v = .bl true) fun _ _ _ => False) :
    PySem.W.WalkO q loose XP YP l.row.toRowW d [] (fun f vs => PySem.call f vs) := by
  refine Att.attach_callB hn hdf fun w s₀ s₁ mg mb fa o pm cd doc a vs ns G Y ho hd hcd hmg hobj hints hlen hbits hg => ?_
  obtain ⟨K, KX, fd, cs, hT, nT, C, hb, hF⟩ := F w mg fa _ Y G.T.g hmg
  exact law_end KX G.T.g G.T.b G.T.builtins G.T.nolimit hg hT nT C G.T.bmain hobj hints (Nat.le_trans hlen hn2) hr gd (fun base X N T => hF base X N T a ns hlen hbits) hb
section
variable {K : PySem.W.Frag} {mg : Str → Option Value}
/-- all that a head's Bool tells of the errors: D the base, its __init__ -/
def initA (K : PySem.W.Frag) (y : Str) : Addr := match PySem.W.findIn K (.ref (He.ga K y)) "__init__" with
  | some (some (.ref f)) => f
  | _ => 0
/-- the errors ok, each against the classes subs -/
def errsB (file : Str) (K : PySem.W.Frag) (base : Str) (errs : List Str) (subs : List (Str × List Str)) (nones : List Str) : Bool :=
  basB file K (He.ga K base) (initA K base) && (decide (PySem.W.nsIn K PySem.cStatics "thirdparty.any" = some none) && (decide (PySem.W.kitOne K (.type "NoneType") (.type "ValueError") = some false) &&
  ((nones.all fun y => decide (PySem.W.kitOne K (.type "NoneType") (.ref (He.ga K y)) = some false)) &&
  (errs.all fun c => oexB K (He.ga K c) && (pclB K (He.ga K base) (initA K base) (He.ga K c) && (xkB K (He.ga K c) && (decide (PySem.W.kitOne K (.ref (He.ga K c)) (.type "ValueError") = some true) && (decide (PySem.W.exmOne K (.ref (He.ga K c)) (.ref (He.ga K base)) = some true) &&
    (subs.all fun p => decide (PySem.W.kitOne K (.ref (He.ga K c)) (.ref (He.ga K p.1)) = some (p.2.contains c)))))))))))
structure ErrsOk (file : Str) (K : PySem.W.Frag) (base : Str) (errs : List Str) (subs : List (Str × List Str)) (nones : List Str) : Prop where
  bas : basB file K (He.ga K base) (initA K base) = true
  nsi : PySem.W.nsIn K PySem.cStatics "thirdparty.any" = some none
  nve : PySem.W.kitOne K (.type "NoneType") (.type "ValueError") = some false
  non : ∀ y ∈ nones, PySem.W.kitOne K (.type "NoneType") (.ref (He.ga K y)) = some false
  oex : ∀ c ∈ errs, oexB K (He.ga K c) = true
  pcl : ∀ c ∈ errs, pclB K (He.ga K base) (initA K base) (He.ga K c) = true
  xk : ∀ c ∈ errs, xkB K (He.ga K c) = true
  ve : ∀ c ∈ errs, PySem.W.kitOne K (.ref (He.ga K c)) (.type "ValueError") = some true
  exm : ∀ c ∈ errs, PySem.W.exmOne K (.ref (He.ga K c)) (.ref (He.ga K base)) = some true
  sub : ∀ c ∈ errs, ∀ p ∈ subs, PySem.W.kitOne K (.ref (He.ga K c)) (.ref (He.ga K p.1)) = some (p.2.contains c)
theorem errsB_ok {file : Str} {base : Str} {errs : List Str} {subs : List (Str × List Str)} {nones : List Str} (h : errsB file K base errs subs nones = true) : ErrsOk file K base errs subs nones := by
  obtain ⟨h1, h⟩ := and2 h
  obtain ⟨h2, h⟩ := and2 h
  obtain ⟨h3, h⟩ := and2 h
  obtain ⟨h4, h⟩ := and2 h
  have q := List.all_eq_true.mp h
  have key : ∀ c ∈ errs, oexB K (He.ga K c) = true ∧ pclB K (He.ga K base) (initA K base) (He.ga K c) = true ∧ xkB K (He.ga K c) = true ∧ PySem.W.kitOne K (.ref (He.ga K c)) (.type "ValueError") = some true ∧ PySem.W.exmOne K (.ref (He.ga K c)) (.ref (He.ga K base)) = some true ∧
      ∀ p ∈ subs, PySem.W.kitOne K (.ref (He.ga K c)) (.ref (He.ga K p.1)) = some (p.2.contains c) := fun c hc => by
    obtain ⟨g1, g⟩ := and2 (q c hc)
    obtain ⟨g2, g⟩ := and2 g
    obtain ⟨g3, g⟩ := and2 g
    obtain ⟨g4, g⟩ := and2 g
    obtain ⟨g5, g⟩ := and2 g
    exact ⟨g1, g2, g3, of_decide_eq_true g4, of_decide_eq_true g5, fun p hp => of_decide_eq_true (List.all_eq_true.mp g p hp)⟩
  exact ⟨h1, of_decide_eq_true h2, of_decide_eq_true h3, fun y hy => of_decide_eq_true (List.all_eq_true.mp h4 y hy), fun c hc => (key c hc).1, fun c hc => (key c hc).2.1, fun c hc => (key c hc).2.2.1, fun c hc => (key c hc).2.2.2.1, fun c hc => (key c hc).2.2.2.2.1, fun c hc => (key c hc).2.2.2.2.2⟩
variable {P : Program} {w : World} {heap : Heap} {file base : Str} {errs : List Str} {subs : List (Str × List Str)} {nones : List Str}
theorem mg_ga {c : Str} {Cc : Addr} (hm : mg c = some (.ref (He.ga K c))) (e : mg c = some (.ref Cc)) : Cc = He.ga K c := by
  rw [hm] at e
  cases e
  rfl
theorem ErrsOk.eis (E : ErrsOk file K base errs subs nones) {ok sub : Str → Bool} {y : Str} (hok : ∀ c, ok c = true → c ∈ errs) (hmg : ∀ c ∈ errs, mg c = some (.ref (He.ga K c))) (hy : mg y = some (.ref (He.ga K y))) (hn : y ∈ nones) {l : List Str} (hs : (y, l) ∈ subs) (he : ∀ c ∈ errs, l.contains c = sub c) : EIs K mg ok sub y :=
  ⟨⟨He.ga K y, hy, E.non y hn, fun c Cc h1 h2 => by
    have hc := hok c h1
    rw [mg_ga (hmg c hc) h2]
    exact ⟨xkB_ok (E.xk c hc), by rw [← he c hc]; exact E.sub c hc _ hs⟩⟩⟩
theorem ErrsOk.eisT (E : ErrsOk file K base errs subs nones) {ok : Str → Bool} (hok : ∀ c, ok c = true → c ∈ errs) (hmg : ∀ c ∈ errs, mg c = some (.ref (He.ga K c))) : EIsT K mg ok ok "ValueError" :=
  ⟨E.nve, fun c Cc h1 h2 => by
    have hc := hok c h1
    rw [mg_ga (hmg c hc) h2, h1]
    exact ⟨xkB_ok (E.xk c hc), E.ve c hc⟩⟩
theorem ErrsOk.rai [Wd] {bh : Heap} (E : ErrsOk P.main.file K base errs subs nones) {c : Str} (hc : c ∈ errs) (hs : mg "super" = none) (ht : (P.main.scope.names.lookup ("super" : Str)).isSome = false) (hm : mg c = some (.ref (He.ga K c))) : Rai P w K mg bh 1 c :=
  rai_of E.bas hs ht E.nsi (E.oex c hc) (E.pcl c hc) hm
end
end DL

namespace DL
open PySem PySem.Spec PyProof.Rows L2
/-- the addresses: what the module's names reach, and the statics -/
def adY (n : Nat) (look : Addr → Option Obj) : List Addr := PySem.cStatics :: He.asD look n
def seenY (n : Nat) (fa : List He.Fa) (fn : List He.DefD) (tf : List He.Defn) (ex : PySem.W.Frag → Bool) (look : Addr → Option Obj) : He.AlX :=
  let K := He.frT look (adY n look)
  (He.obsT fa fn [] K, ex K && He.tabsB look tf K)
theorem saysY {n : Nat} {fa : List He.Fa} {fn : List He.DefD} {tf : List He.Defn} {ex : PySem.W.Frag → Bool} {w : World} {hp : Heap} (q : seenY n fa fn tf ex hp.get? = He.valX fn [] w) : He.SaysX fa fn [] tf ex w hp (He.frT hp.get? (adY n hp.get?)) := by
  have q1 := congrArg Prod.fst q
  have q2 : (ex (He.frT hp.get? (adY n hp.get?)) && He.tabsB hp.get? tf (He.frT hp.get? (adY n hp.get?))) = true := congrArg Prod.snd q
  obtain ⟨m, tt⟩ := and2 q2
  have each := List.all_eq_true.mp tt
  have tabs : ∀ p ∈ tf, ∃ o, hp.get? (He.cT (He.frT hp.get? (adY n hp.get?)) p).2 = some o ∧ He.emptyTab o = true := fun p hp' => by
    obtain ⟨_, z⟩ := and2 (each p hp')
    cases e : hp.get? (He.cT (He.frT hp.get? (adY n hp.get?)) p).2 with
    | some o => rw [e] at z; exact ⟨o, rfl, z⟩
    | none => rw [e] at z; cases z
  refine ⟨q1, m, fun p i => (and2 (each p i)).1, fun p i => ?_, fun p i => ?_⟩
  · obtain ⟨o, e, z⟩ := tabs p i
    exact He.frT_none e z
  · obtain ⟨o, e, z⟩ := tabs p i
    rw [e, He.emptyTab_eq z]
def hookY (n : Nat) (fa : List He.Fa) (fn : List He.DefD) (tf : List He.Defn) (ex : PySem.W.Frag → Bool) : PySem.W.Hook where
  α := He.AlX
  val := fun w => He.valX fn [] w
  obs := fun s => seenY n fa fn tf ex s.heap.get?
  of := fun _ _ q => ⟨_, He.frT_in, saysY q⟩
  says := fun w hp => ∃ K : PySem.W.Frag, K.In hp ∧ He.SaysX fa fn [] tf ex w hp K
  keeps := fun _ _ _ ⟨K, i, c⟩ kp => ⟨K, PySem.W.Frag.In.keeps i kp, { t := c.t, more := c.more, hd := c.hd, out := c.out, empty := fun p m => kp _ _ (c.empty p m) }⟩
theorem seenY_eq {n : Nat} {fa : List He.Fa} {fn : List He.DefD} {tf : List He.Defn} {ex : PySem.W.Frag → Bool} {look : Addr → Option Obj} {s : Shared} (q : ∀ a, look a = s.heap.get? a) : seenY n fa fn tf ex look = (hookY n fa fn tf ex).obs s := by
  obtain rfl : look = s.heap.get? := funext q
  rfl
end DL

namespace DL
open PySem PySem.Spec PyProof.Rows L2
section
variable [Wd] {X : Cx} {E : XK} {Γ : List SK} {pos : Pos} {k kx kf kr n : Nat} {f : Addr} {fd : FuncData} {x : Str} {p : Pos} {e : Expr} {es : List Expr} {ps : List Str} {kws : List (List Str × List Nat)}
structure DMX (X : Cx) (E : XK) (Γ : List SK) (es : List Expr) (i : Nat) (f : Env → Res (List D × Env)) : Prop where
  ex : ∃ t : TA, PA X es t ∧ ∀ I S ρ σ H Q, ER X.K I Γ ρ σ H S → PX X.K X.mg E I H (SU S) (fun q => ∀ v vs I' H' S', Evo I H (SU S) I' H' (SU S') → ER X.K I' Γ q.2 σ H' S' → σ[i]? = some (some v) → RpA X.K I' H' vs q.1 → Q (v :: vs) H') (f ρ) → t σ H Q
theorem dmx_first {i n : Nat} {y : Str} {p2 : Pos} {es : List Expr} {gs : Env → Res (List D × Env)} (hN : X.N[i]? = some y) (hv : Vis X.env.scope y) (hk : Γ[i]? = some (.da n)) (ha : DAX X E Γ es gs)
    (hs : starEach (.Name y p2 :: es) X.env = (false, eval (.Name y p2) X.env) :: starEach es X.env := by rfl) (hd : (y == ("__debug__" : Str)) = false := by decide) (hcd : (y == ("__classdict__" : Str)) = false := by decide) : DMX X E Γ (.Name y p2 :: es) i gs := by
  obtain ⟨ta, pa, qa⟩ := ha.ex
  refine ⟨_, pa_cons (pe_var hN hv hd hcd) pa hs, fun I S ρ σ H Q R h => ?_⟩
  obtain ⟨v, d, e1, e2, o⟩ := R.slot i _ hk
  refine ⟨v, e1, qa I S ρ σ H _ R (PX.imp h fun q _ h vs I' H' S' ev R' r => ?_)⟩
  exact h v vs I' H' S' ev R' e1 r
def dMX (i : Nat) (m : List D → Res (D × D)) (gs : Env → Res (List D × Env)) : Env → Res (D × Env) := fun ρ => gs ρ >>= fun q => dVar i q.2 >>= fun d0 => m (d0 :: q.1) >>= fun p => .ok (p.1, q.2.set i (.d p.2))
theorem dx_callX {m : List D → Res (D × D)} {i n kr : Nat} {gs : Env → Res (List D × Env)} (F : FnG X.prog X.w X.K X.mg X.base k f fd ps (spM X.K X.mg 0 n kr m)) (c : Cz X E kx) (hk : k ≤ kx) (hg : Gl X x) (hm : X.mg x = some (.ref f)) (hkp : PySem.W.keepIn X.K (.ref f) = true) (hb : Binds X.K fd ps [])
    (hi : Γ[i]? = some (.da n)) (ha : DMX X E Γ (e :: es) i gs) (hdb : (x == ("__debug__" : Str)) = false := by decide) (he : starEach (e :: es) X.env = (false, eval e X.env) :: starEach es X.env := by rfl) (hpl : (backTo pos (starEach es X.env)).any (·.1) = false := by rfl) :
    DX X E Γ (.Call (.Name x p) (e :: es) [] pos) (some kr) (dMX i m gs) := by
  obtain ⟨ta, pa, qa⟩ := ha.ex
  refine ⟨_, pe_callG F (c.hr.mono hk) c.gd hg hm hkp hb c.px pa hdb he hpl, fun I S0 ρ0 σ H Q R0 h => ?_⟩
  refine qa I S0 ρ0 σ H _ R0 (PX.imp (PX.bnd h) fun q _ ⟨e, h1⟩ => ?_)
  obtain ⟨ds, ρ⟩ := q
  intro v vs I1 H1 S v1 R1 ev r1
  have R := R1
  obtain ⟨v', d0, e1, e2, o⟩ := R1.slot i _ hi
  rw [ev] at e1
  cases e1
  have hil : i < ρ.length := by
    have := (List.getElem?_eq_some_iff.mp e2).1
    exact this
  have ev0 : dVar i ρ = .ok d0 := by unfold dVar; rw [e2]
  change PX X.K X.mg E I H (SU S0) _ (dVar i ρ >>= _) at h1
  rw [ev0, Res.ok_bnd] at h1
  refine ⟨I1, d0 :: ds, S i, v, d0, R1.tr, R1.tb, ?_, fun j v' d' hj q1 q2 => ?_, rfl, rfl, o, R1.nod i, R1.nI i, ?_⟩
  · show vs.length + 1 = ds.length + 1
    rw [r1.len]
  · cases j with
    | zero => exact absurd rfl hj
    | succ j =>
      obtain ⟨w, q3, q4⟩ := r1.get (i := j) (d := d') (by simpa using q2)
      have : vs[j]? = some v' := by simpa using q1
      rw [this] at q3
      cases q3
      exact q4
  · cases e3 : m (d0 :: ds) with
    | bad => rw [e3] at h1; exact h1.elim
    | exc c d => rw [e3] at h1; exact (WX.later h1 v1).less fun a z => ⟨i, z⟩
    | ok p =>
      rw [e3] at h1
      intro w I2 H2 T T' ev2 ow ow' hT hTn hT' hTn' tr2
      have o_nod : ∀ a ∈ S i, Nod H1 a := o.nod
      -- the slots behind the call
      have hS : ∀ a j, j ≠ i → a ∈ S j → a ∉ S i := fun a j hj m1 m2 => R1.dis j i a hj m1 m2
      have old : ∀ a, (a ∈ T ∨ a ∈ T') → ∀ j, j ≠ i → a ∉ S j := fun a m j hj mj => by
        rcases (ev2.own a m).1 with z | z
        · exact hS a j hj mj z
        · exact (R1.trk a ⟨j, mj⟩) z
      have keepI : Later I1 H1 I2 H2 := ⟨ev2.sub, fun a o ia q n => ev2.keep a o q (fun z => R1.nI i a z ia) n, fun a o q fx => ev2.keep a o q (fun z => fx.nod q (o_nod a z)) fx.nt⟩
      have R3 : ER X.K I2 Γ (ρ.set i (.d p.2)) σ H2 (fun j => if j = i then T' else S j) := by
        refine ⟨fun j kj q => ?_, fun j a m => ?_, fun j l a hjl m1 m2 => ?_, fun j => ?_, fun j a m => ?_, tr2, by rw [List.length_set]; exact R.lr, R.ls, ev2.tab R1.tb⟩
        · by_cases hj : j = i
          · subst hj
            rw [hi] at q
            cases q
            show SlotR X.K I2 H2 _ (if j = j then T' else S j) _ _
            rw [if_pos rfl, List.getElem?_set_self hil]
            exact ⟨v, p.2, ev, rfl, ow'⟩
          · show SlotR X.K I2 H2 kj (if j = i then T' else S j) _ _
            rw [if_neg hj, List.getElem?_set_ne (Ne.symm hj)]
            exact (R1.slot j kj q).mono keepI fun a m o q n => ev2.keep a o q (fun z => hS a j hj m z) n
        · have m : a ∈ (if j = i then T' else S j) := m
          by_cases hj : j = i
          · subst hj; exact ⟨n, hi⟩
          · rw [if_neg hj] at m; exact R.sd j a m
        · have m1 : a ∈ (if j = i then T' else S j) := m1
          have m2 : a ∈ (if l = i then T' else S l) := m2
          by_cases hj : j = i
          · rw [if_pos hj] at m1
            have hl : l ≠ i := fun z => hjl (hj.trans z.symm)
            rw [if_neg hl] at m2
            exact old a (.inr m1) l hl m2
          · rw [if_neg hj] at m1
            by_cases hl : l = i
            · rw [if_pos hl] at m2
              exact old a (.inr m2) j hj m1
            · rw [if_neg hl] at m2
              exact R.dis j l a hjl m1 m2
        · show (if j = i then T' else S j).Nodup
          by_cases hj : j = i
          · rw [if_pos hj]; exact hTn'
          · rw [if_neg hj]; exact R.nod j
        · have m : a ∈ (if j = i then T' else S j) := m
          by_cases hj : j = i
          · rw [if_pos hj] at m; exact hT' a m
          · rw [if_neg hj] at m
            intro z
            rcases ev2.new a z with z | ⟨z, _⟩
            · exact R1.nI j a m z
            · rcases z with z | z
              · exact hS a j hj m z
              · exact (R1.trk a ⟨j, m⟩) z
      have evo : Evo I H (SU S0) I2 H2 (SU fun j => if j = i then T' else S j) := by
        refine v1.trans ⟨ev2.sub, fun a z => (ev2.new a z).imp id fun z => ⟨z.1.imp (fun z => ⟨i, z⟩) id, z.2⟩, fun b o q z n => ev2.keep b o q (fun m => z ⟨i, m⟩) n, fun a z => ?_, ev2.there, ev2.tab⟩
        obtain ⟨j, m⟩ := z
        have m : a ∈ (if j = i then T' else S j) := m
        by_cases hj : j = i
        · rw [if_pos hj] at m
          exact ⟨(ev2.own a (.inr m)).1.imp (fun z => ⟨i, z⟩) id, (ev2.own a (.inr m)).2⟩
        · rw [if_neg hj] at m
          exact ⟨.inl ⟨j, m⟩, ev2.there a (R1.trk a ⟨j, m⟩)⟩
      refine h1 w I2 H2 _ T evo R3 ow (fun a m => ⟨?_, (hT a m).1, fun ⟨j, mj⟩ => ?_⟩) hTn
      · exact v1.old ((ev2.own a (.inl m)).1.imp (fun z => ⟨i, z⟩) id)
      · have mj : a ∈ (if j = i then T' else S j) := mj
        by_cases hj : j = i
        · rw [if_pos hj] at mj; exact (hT a m).2 mj
        · rw [if_neg hj] at mj; exact old a (.inl m) j hj mj
theorem dx_genX {m : List D → Res (D × D)} {i : Nat} {gs : Env → Res (List D × Env)} (F : Dfn X.prog X.w X.K X.mg X.base kf x ps kws (spM X.K X.mg 0 n kr m)) (c : Cz X E kx) (hg : Gl X x) (hi : Γ[i]? = some (.da n)) (ha : DMX X E Γ (e :: es) i gs) (hk : kf ≤ kx := by decide) (hdb : (x == ("__debug__" : Str)) = false := by decide)
    (he : starEach (e :: es) X.env = (false, eval e X.env) :: starEach es X.env := by rfl) (hpl : (backTo pos (starEach es X.env)).any (·.1) = false := by rfl) : DX X E Γ (.Call (.Name x p) (e :: es) [] pos) (some kr) (dMX i m gs) := by
  obtain ⟨fd, G, b, _⟩ := F.ex
  exact dx_callX G c hk hg F.mg F.kp b hi ha hdb he hpl
end
/-- what a def that calls itself needs of itself -/
structure DfnB (K : PySem.W.Frag) (mg : Str → Option Value) (x : Str) (ps : List Str) (kws : List (List Str × List Nat)) (fd : FuncData) : Prop where
  b : Binds K fd ps []
  kw : ∀ p ∈ kws, KwB K fd ps p.1 p.2
  kp : PySem.W.keepIn K (.ref (He.ga K x)) = true
  mg : mg x = some (.ref (He.ga K x))
section
variable {P : Program} {w : World} {K : PySem.W.Frag} {mg : Str → Option Value} {base : Heap} {x : Str} {st : Stmt} {fd : FuncData} {ps : List Str} {k : Nat} {kws : List (List Str × List Nat)} {sp : Sp}
theorem DfnB.dfn (B : DfnB K mg x ps kws fd) (G : FnG P w K mg base k (He.ga K x) fd ps sp) : Dfn P w K mg base k x ps kws sp := ⟨⟨fd, G, B.b, B.kw⟩, B.kp, B.mg⟩
theorem dfnB_of (F : FnT0 K x st fd) (hm : mg x = some (.ref (He.ga K x)))
    (hb : ∀ (kV doc pm : Value) (an : Option Addr) (cdv ct : Value) (us : List Value), us.length = ps.length → bindArgs (PySem.W.fnOf x x (defArgs st) (defBody st) (defScope st) .none kV doc pm an cdv ct) ⟨us, []⟩ = pure (ps.zip us))
    (hk : ∀ p ∈ kws, ∀ (kV doc pm : Value) (an : Option Addr) (cdv ct : Value) (ws : List Value), ws.length = p.1.length → bindArgs (PySem.W.fnOf x x (defArgs st) (defBody st) (defScope st) .none kV doc pm an cdv ct) ⟨[], p.1.zip ws⟩ = pure (ps.zip (perm p.2 ws))) : DfnB K mg x ps kws fd :=
  ⟨F.bindsN hb, fun p hp => kwB_of F (hk p hp), F.kp, hm⟩
/-- nothing is promised -/
theorem fn_no [Wd] {kr : Nat} : FnG P w K mg base k (He.ga K x) fd ps (spP K mg kr fun _ => .bad) :=
  ⟨fun _ _ _ _ ⟨_, _, _, _, _, h⟩ => h.elim, fun _ _ _ _ _ _ _ _ _ _ _ _ _ _ ⟨_, _, _, _, _, h⟩ => h.elim⟩
end
end DL

namespace DL
open PySem PySem.Spec PyProof.Rows L2
section
variable [Wd] {X : Cx} {E : XK} {Γ : List SK} {pos : Pos} {C : Cf}
/-- arguments that own, n levels each -/
structure DAO (X : Cx) (E : XK) (Γ : List SK) (es : List Expr) (n : Nat) (f : Env → Res (List D)) : Prop where
  ex : ∃ t : TA, PA X es t ∧ ∀ I S ρ σ H Q, ER X.K I Γ ρ σ H S → PX X.K X.mg E I H (SU S) (fun ds => ∀ vs I' H' T, Gr I H I' H' → OwA X.K I' H' n T vs ds → New I H I' T → Q vs H') (f ρ) → t σ H Q
theorem dao_nil {n : Nat} : DAO X E Γ [] n dNil := ⟨tNil, pa_nil, fun I S ρ σ H Q R h => h [] I H [] .refl .nil .nil⟩
theorem dao_cons {n : Nat} {e : Expr} {es : List Expr} {f : Env → Res D} {gs : Env → Res (List D)} (ha : DP X E Γ e (some n) f) (hb : DAO X E Γ es n gs) (hs : starEach (e :: es) X.env = (false, eval e X.env) :: starEach es X.env := by rfl) :
    DAO X E Γ (e :: es) n (dCons f gs) := by
  obtain ⟨ta, pa, qa⟩ := ha.ex
  obtain ⟨tb, pb, qb⟩ := hb.ex
  refine ⟨_, pa_cons pa pb hs, fun I S ρ σ H Q R h => ?_⟩
  refine seq1 qa R h fun d x I1 H1 T1 e1 h1 g1 w1 n1 R1 => ?_
  have w1 : Ow X.K I1 H1 n T1 x d := w1
  refine qb I1 S ρ σ H1 _ R1 (PX.later (PX.bnd h1) (g1.evo R.trk) fun ds _ ⟨e2, h2⟩ => ?_)
  intro vs I' H' T2 g2 w2 n2
  have hne : ∀ a ∈ T1, H1 a ≠ none := fun a m => (Ow.nod w1 a m).ne
  refine h2 (x :: vs) I' H' (T1 ++ T2) (g1.trans g2) (.cons (w1.mono g2.sub (fun a o _ q n => g2.kp a o q n) fun a _ o q n => g2.kp a o q n) w2) ⟨fun a m => ?_, fun a m z => ?_, ?_⟩
  · exact (List.mem_append.mp m).elim (n1.free a) fun m => g1.free (n2.free a m)
  · rcases List.mem_append.mp m with m | m
    · exact (g2.new a z).elim (n1.nI a m) fun q => hne a m q.1
    · exact n2.nI a m z
  · exact List.nodup_append.mpr ⟨n1.nod, n2.nod, fun a m b m' e => hne a m (n2.free a (by rw [e]; exact m'))⟩
theorem dp_lstO {n : Nat} {es : List Expr} {gs : Env → Res (List D)} (ha : DAO X E Γ es n gs) : DP X E Γ (.List es pos) (some (n + 1)) (dLst gs) := by
  obtain ⟨ta, pa, qa⟩ := ha.ex
  refine ⟨_, pe_lst pa, fun I S ρ σ H Q R h => ?_⟩
  refine qa I S ρ σ H _ R (PX.imp (PX.bnd h) fun ds _ ⟨e, h1⟩ => ?_)
  intro vs I1 H1 T g1 r1 n1
  obtain ⟨hz, h1⟩ := lim_px h1
  have hz : vs.length ≤ sizeLine := by rw [r1.len]; exact hz
  refine ⟨hz, fun p hp => ?_⟩
  refine h1 (.ref p) I1 _ (p :: T) (g1.trans (Gr.lay hp)) (.lst upd_same hz (r1.mono (fun a q => q) (fun a o _ q _ => upd_keep hp a o q) fun a _ o q _ => upd_keep hp a o q)) ⟨fun a m => ?_, fun a m q => ?_, ?_⟩
  · rcases List.mem_cons.mp m with rfl | m
    · exact g1.free hp
    · exact n1.free a m
  · rcases List.mem_cons.mp m with rfl | m
    · exact (R.grow g1).tr a q hp
    · exact n1.nI a m q
  · exact List.nodup_cons.mpr ⟨fun m => (r1.nod p m).ne hp, n1.nod⟩
theorem dp_tupO {n : Nat} {es : List Expr} {gs : Env → Res (List D)} {x1 : Nat} (ha : DAO X E Γ es (n + 1) gs) : DP X E Γ (.Tuple es x1 pos) (some (n + 1)) (dTup gs) := by
  obtain ⟨ta, pa, qa⟩ := ha.ex
  refine ⟨_, pe_tup pa, fun I S ρ σ H Q R h => ?_⟩
  refine qa I S ρ σ H _ R (PX.imp (PX.bnd h) fun ds _ ⟨e, h1⟩ => ?_)
  intro vs I1 H1 T g1 r1 n1
  obtain ⟨hz, h1⟩ := lim_px h1
  have hz : vs.length ≤ sizeLine := by rw [r1.len]; exact hz
  refine ⟨hz, fun p hp => ?_⟩
  refine h1 (.ref p) _ _ T (g1.trans (Gr.layI hp)) (.tup (.inr (List.mem_singleton.mpr rfl)) upd_same hz (r1.mono (fun a q => .inl q) (fun a o _ q _ => upd_keep hp a o q) fun a _ o q _ => upd_keep hp a o q)) ⟨n1.free, fun a m q => ?_, n1.nod⟩
  rcases q with q | q
  · exact n1.nI a m q
  · rw [List.mem_singleton.mp q] at m
    exact (r1.nod p m).ne hp
/-- x = x + e: the items of both stay owned -/
def dCat : D → D → Res D
  | .list xs, .list ys => dLim (xs.length + ys.length) (.list (xs ++ ys))
  | _, _ => .bad
def sCat (i : Nat) (fe : Env → Res (D × Env)) : Env → Res Out := fun ρ => fe ρ >>= fun p => dVar i p.2 >>= fun d0 => dCat d0 p.1 >>= fun d => .ok (.nx (p.2.set i (.d d)))
theorem ds_cat {i n : Nat} {x : Str} {e : Expr} {fe : Env → Res (D × Env)} {p2 p3 bpos : Pos} (hN : X.N.Nodup) (hi : X.N[i]? = some x) (hx : Loc X.env.scope x) (hv : Vis X.env.scope x) (hk : Γ[i]? = some (.da (n + 1))) (he : DX X E Γ e (some (n + 1)) fe) (hM : i ∉ C.M := by decide)
    (hs : swapsWith (.BinOp (.Name x p3) .Add e bpos) (some (.Name x p2)) pos.line X.env = pure false := by rfl) (hf : X.fn x = true ∨ X.env.scope.names.lookup x = some .local := by first | exact .inl rfl | exact .inr rfl | assumption) (hd : (x == ("__debug__" : Str)) = false := by decide) (hcd : (x == ("__classdict__" : Str)) = false := by decide) :
    DS1 X E C Γ (.Assign [.Name x p2] (.BinOp (.Name x p3) .Add e bpos) pos) Γ (sCat i fe) := by
  obtain ⟨t, p, q⟩ := he.ex
  have hil : i < Γ.length := (List.getElem?_eq_some_iff.mp hk).1
  refine ⟨_, ps_set hN hi hx (pe_op op_cat (pe_var hi hv hd hcd) p) hs hf, fun I S ρ σ H Dd R h => ?_⟩
  obtain ⟨v, d0, e1, e2, o⟩ := R.slot i _ hk
  refine ⟨v, e1, ?_⟩
  refine seqX (e := e) q R h fun d ρ1 y I1 H1 S1 T e3 h1 ev R1 vr hT hn => ?_
  have vr : Ow X.K I1 H1 (n + 1) T y d := vr
  obtain ⟨v', d1, e1', e4, o1⟩ := R1.slot i _ hk
  rw [e1] at e1'
  cases e1'
  have ed : dVar i ρ1 = .ok d1 := by unfold dVar; rw [e4]
  change PX X.K X.mg E I H (SU S) _ (dVar i ρ1 >>= _) at h1
  rw [ed, Res.ok_bnd] at h1
  -- two lists
  cases d1 with
  | list xs =>
    cases d with
    | list ys =>
      obtain ⟨hz, h2⟩ : xs.length + ys.length ≤ sizeLine ∧ SPo X.K C Γ σ I H S Dd (.nx (ρ1.set i (.d (.list (xs ++ ys))))) := by
        have h1 : PX X.K X.mg E I H (SU S) (SPo X.K C Γ σ I H S Dd) (dLim (xs.length + ys.length) (.list (xs ++ ys)) >>= fun d => .ok (.nx (ρ1.set i (.d d)))) := h1
        unfold dLim at h1
        split at h1
        · rename_i q; exact ⟨by rw [sizeLine_eq]; exact q, h1⟩
        · exact h1.elim
      generalize hS1 : S1 i = Si at o1
      cases o1 with
      | fl r f => cases f
      | lst ha za oa =>
        rename_i Sa a vs
        cases vr with
        | fl r f => cases f
        | lst hb zb ob =>
          rename_i Tb b ws
          refine ⟨a, b, vs, ws, rfl, rfl, ha, hb, by rw [oa.len, ob.len]; exact hz, fun p hp => ?_⟩
          have hp1 : H1 p = none := hp
          have nod1 : (a :: Sa).Nodup := by rw [← hS1]; exact R1.nod i
          have m1 : ∀ c, c ∈ Sa → c ∈ S1 i := fun c m => by rw [hS1]; exact List.mem_cons_of_mem _ m
          have kp : ∀ c o, H1 c = some o → (upd H1 p (.lst (vs ++ ws))) c = some o := fun c o q => upd_keep hp c o q
          have R2 : ER X.K I1 Γ ρ1 σ (upd H1 p (.lst (vs ++ ws))) S1 := R1.grow (Gr.lay hp)
          have ow2 : Ow X.K I1 (upd H1 p (.lst (vs ++ ws))) (n + 1) (p :: (Sa ++ Tb)) (.ref p) (.list (xs ++ ys)) :=
            .lst upd_same (by rw [List.length_append, oa.len, ob.len]; exact hz) ((oa.append ob).mono (fun _ q => q) (fun c o _ q _ => kp c o q) fun c _ o q _ => kp c o q)
          have memT : ∀ c, c ∈ Tb → c ∈ b :: Tb := fun c m => List.mem_cons_of_mem _ m
          have ndt : (p :: (Sa ++ Tb)).Nodup := by
            refine List.nodup_cons.mpr ⟨fun m => ?_, List.nodup_append.mpr ⟨(List.nodup_cons.mp nod1).2, (List.nodup_cons.mp hn).2, fun c mc c' mc' ee => ?_⟩⟩
            · rcases List.mem_append.mp m with m | m
              · exact (R1.trk p ⟨i, m1 p m⟩) hp
              · exact (ob.nod p m).ne hp
            · exact (hT c (by rw [ee]; exact memT _ mc')).2.2 ⟨i, m1 c mc⟩
          have R3 := R2.put (i := i) (n := n + 1) (by rw [R2.lr]; exact hil) ow2 ndt (fun c m => by
            rcases List.mem_cons.mp m with rfl | m
            · exact fun z => R1.tr c z hp
            · rcases List.mem_append.mp m with m | m
              · exact R1.nI i c (m1 c m)
              · exact (hT c (memT c m)).2.1) fun c m j hj mj => by
            rcases List.mem_cons.mp m with rfl | m
            · exact (R1.trk c ⟨j, mj⟩) hp
            · rcases List.mem_append.mp m with m | m
              · exact R1.dis i j c (Ne.symm hj) (m1 c m) mj
              · exact (hT c (memT c m)).2.2 ⟨j, mj⟩
          have eΓ : Γ.set i (.da (n + 1)) = Γ := by
            refine List.ext_getElem? fun j => ?_
            by_cases hj : i = j
            · subst hj; rw [List.getElem?_set_self hil, hk]
            · rw [List.getElem?_set_ne hj]
          rw [eΓ] at R3
          refine h2 I1 _ _ _ ⟨ev.sub, fun c z => ?_, fun c o q z n => kp c o (ev.keep c o q z n), fun c z => ?_, fun c z => ?_, fun t => (Gr.lay (I := I1) hp).tab (ev.tab t)⟩ R3 fun j hj => List.getElem?_set_ne (fun z : i = j => hM (by rw [z]; exact hj))
          · rcases ev.new c z with z | ⟨z, z'⟩
            · exact .inl z
            · exact .inr ⟨z, (Gr.lay (I := I1) hp).there z'⟩
          · obtain ⟨j, m⟩ := z
            have m : c ∈ (if j = i then p :: (Sa ++ Tb) else S1 j) := m
            by_cases hj : j = i
            · rw [if_pos hj] at m
              rcases List.mem_cons.mp m with rfl | m
              · exact ⟨ev.old (.inr hp), by rw [upd_same]; exact fun z => nomatch z⟩
              · rcases List.mem_append.mp m with m | m
                · exact ⟨(ev.own c ⟨i, m1 c m⟩).1, (Gr.lay (I := I1) hp).there (ev.own c ⟨i, m1 c m⟩).2⟩
                · exact ⟨(hT c (memT c m)).1, (Gr.lay (I := I1) hp).there (ob.nod c m).ne⟩
            · rw [if_neg hj] at m
              exact ⟨(ev.own c ⟨j, m⟩).1, (Gr.lay (I := I1) hp).there (ev.own c ⟨j, m⟩).2⟩
          · exact (Gr.lay (I := I1) hp).there (ev.there c z)
    | _ => exact h1.elim
  | _ => exact h1.elim
end
end DL

namespace DL
open PySem PySem.Spec PyProof.Rows L2
def flatI : D → Bool
  | .list ds => flatAll ds
  | _ => false
theorem owA0_flat {K : PySem.W.Frag} {I : Addr → Prop} {H : Hp} {n : Nat} : ∀ {S : List Addr} {vs : List V} {ds : List D}, OwA K I H 0 S vs ds → flatAll ds = true → S = [] ∧ OwA K I H n [] vs ds
  | _, _, _, .nil, _ => ⟨rfl, .nil⟩
  | _, _, _, .cons h r, f => by
    have f : (DL.flat _ && flatAll _) = true := f
    rw [Bool.and_eq_true] at f
    obtain ⟨e, q⟩ := owA0_flat (n := n) r f.2
    subst e
    cases h with
    | sh h => exact ⟨rfl, .cons (S := []) (by cases n with | zero => exact .sh h | succ m => exact .fl h f.1) q⟩
theorem ow1_flat {K : PySem.W.Frag} {I : Addr → Prop} {H : Hp} {n : Nat} {S : List Addr} {v : V} {d : D} (h : Ow K I H 1 S v d) (f : flatI d = true) : Ow K I H (n + 1) S v d := by
  cases h with
  | fl h q => exact .fl h q
  | lst h z r =>
    obtain ⟨rfl, q⟩ := owA0_flat (n := n) r f
    exact .lst h z q
  | tup _ _ _ _ => cases f
  | dK _ _ => cases f
  | dT _ _ => cases f
section
variable [Wd] {X : Cx} {E : XK} {Γ : List SK} {n : Nat} {e : Expr}
def dFlatL (f : Env → Res D) : Env → Res D := fun ρ => f ρ >>= fun d => if flatI d = true then .ok d else .bad
theorem dp_flatL {f : Env → Res D} (h : DP X E Γ e (some 1) f) : DP X E Γ e (some (n + 1)) (dFlatL f) := by
  obtain ⟨t, p, q⟩ := h.ex
  refine ⟨t, p, fun I S ρ σ H Q R hh => q I S ρ σ H Q R (PX.imp (PX.bnd hh) fun d e h => ?_)⟩
  obtain ⟨_, h⟩ := h
  intro v I' H' T g vr nw
  by_cases hf : flatI d = true
  · rw [if_pos hf] at h
    exact h v I' H' T g (ow1_flat vr hf) nw
  · rw [if_neg hf] at h
    exact h.elim
def dFlatLX (f : Env → Res (D × Env)) : Env → Res (D × Env) := fun ρ => f ρ >>= fun p => if flatI p.1 = true then .ok p else .bad
theorem dx_flatL {f : Env → Res (D × Env)} (h : DX X E Γ e (some 1) f) : DX X E Γ e (some (n + 1)) (dFlatLX f) := by
  obtain ⟨t, p, q⟩ := h.ex
  refine ⟨t, p, fun I S ρ σ H Q R hh => q I S ρ σ H Q R (PX.imp (PX.bnd hh) fun d e h => ?_)⟩
  obtain ⟨_, h⟩ := h
  intro v I' H' S' T ev R' vr hT hn
  by_cases hf : flatI d.1 = true
  · rw [if_pos hf] at h
    exact h v I' H' S' T ev R' (ow1_flat vr hf) hT hn
  · rw [if_neg hf] at h
    exact h.elim
end
end DL

namespace DL
open PySem PySem.Spec PyProof.Rows L2
section
variable [Wd] {K : PySem.W.Frag} {I I2 I3 : Addr → Prop} {Γ : List SK} {ρ : Env} {σ : L2.St} {H H2 H3 : Hp} {S : Nat → List Addr} {i n : Nat}
/-- some of slot i's nodes, Sk, were handed out and came back as Sk' -/
theorem ER.part (R : ER K I2 Γ ρ σ H2 S) (hi : Γ[i]? = some (.da n)) {v : V} (ev : σ[i]? = some (some v)) {Sk Sk' T : List Addr} {d : D} (e : Evo I2 H2 (· ∈ Sk) I3 H3 (· ∈ Sk')) (hSk : ∀ a ∈ Sk, a ∈ S i) (hn : ∀ a ∈ Sk, Nod H2 a)
    (o : Ow K I3 H3 n T v d) (hT : ∀ a ∈ T, (a ∈ S i ∧ a ∉ Sk) ∨ a ∈ Sk') (hTn : T.Nodup) (hTI : ∀ a ∈ T, ¬ I3 a) (tr : ∀ a, I3 a → H3 a ≠ none) :
    ER K I3 Γ (ρ.set i (.d d)) σ H3 (fun j => if j = i then T else S j) ∧ Evo I2 H2 (SU S) I3 H3 (SU fun j => if j = i then T else S j) := by
  have hil : i < ρ.length := by
    rw [R.lr]
    exact (List.getElem?_eq_some_iff.mp hi).1
  have old : ∀ a ∈ T, ∀ j, j ≠ i → a ∉ S j := fun a m j hj mj => by
    rcases hT a m with z | z
    · exact R.dis j i a hj mj z.1
    · rcases (e.own a z).1 with z | z
      · exact R.dis j i a hj mj (hSk a z)
      · exact R.trk a ⟨j, mj⟩ z
  have ap : ∀ a j, j ≠ i → a ∈ S j → a ∉ Sk := fun a j hj mj z => R.dis j i a hj mj (hSk a z)
  have lat : Later I2 H2 I3 H3 := ⟨e.sub, fun a o ia q nt => e.keep a o q (fun z => R.nI i a (hSk a z) ia) nt, fun a o q fx => e.keep a o q (fun z => fx.nod q (hn a z)) fx.nt⟩
  refine ⟨⟨fun j kj q => ?_, fun j a m => ?_, fun j l a hjl m1 m2 => ?_, fun j => ?_, fun j a m => ?_, tr, by rw [List.length_set]; exact R.lr, R.ls, e.tab R.tb⟩, ⟨e.sub, fun a z => (e.new a z).imp id fun z => ⟨z.1.imp (fun z => ⟨i, hSk a z⟩) id, z.2⟩, fun b o q z nt => e.keep b o q (fun m => z ⟨i, hSk b m⟩) nt, fun a z => ?_, e.there, e.tab⟩⟩
  · by_cases hj : j = i
    · subst hj
      rw [hi] at q
      cases q
      show SlotR K I3 H3 _ (if j = j then T else S j) _ _
      rw [if_pos rfl, List.getElem?_set_self hil]
      exact ⟨v, d, ev, rfl, o⟩
    · show SlotR K I3 H3 kj (if j = i then T else S j) _ _
      rw [if_neg hj, List.getElem?_set_ne (Ne.symm hj)]
      exact (R.slot j kj q).mono lat fun a m o q nt => e.keep a o q (ap a j hj m) nt
  · have m : a ∈ (if j = i then T else S j) := m
    by_cases hj : j = i
    · subst hj; exact ⟨n, hi⟩
    · rw [if_neg hj] at m; exact R.sd j a m
  · have m1 : a ∈ (if j = i then T else S j) := m1
    have m2 : a ∈ (if l = i then T else S l) := m2
    by_cases hj : j = i
    · rw [if_pos hj] at m1
      have hl : l ≠ i := fun z => hjl (hj.trans z.symm)
      rw [if_neg hl] at m2
      exact old a m1 l hl m2
    · rw [if_neg hj] at m1
      by_cases hl : l = i
      · rw [if_pos hl] at m2
        exact old a m2 j hj m1
      · rw [if_neg hl] at m2
        exact R.dis j l a hjl m1 m2
  · show (if j = i then T else S j).Nodup
    by_cases hj : j = i
    · rw [if_pos hj]; exact hTn
    · rw [if_neg hj]; exact R.nod j
  · have m : a ∈ (if j = i then T else S j) := m
    by_cases hj : j = i
    · rw [if_pos hj] at m; exact hTI a m
    · rw [if_neg hj] at m
      intro z
      rcases e.new a z with z | ⟨z, _⟩
      · exact R.nI j a m z
      · rcases z with z | z
        · exact ap a j hj m z
        · exact R.trk a ⟨j, m⟩ z
  · obtain ⟨j, m⟩ := z
    have m : a ∈ (if j = i then T else S j) := m
    by_cases hj : j = i
    · rw [if_pos hj] at m
      refine ⟨?_, (o.nod a m).ne⟩
      rcases hT a m with z | z
      · exact .inl ⟨i, z.1⟩
      · exact (e.own a z).1.imp (fun z => ⟨i, hSk a z⟩) id
    · rw [if_neg hj] at m
      exact ⟨.inl ⟨j, m⟩, e.there a (R.trk a ⟨j, m⟩)⟩
/-- a list that no slot owns is written -/
theorem ER.lone (R : ER K I Γ ρ σ H S) {D : Addr} {o : HO} (nD : Nod H D) (nI : ¬ I D) (nS : ¬ SU S D) : ER K I Γ ρ σ (upd H D o) S := by
  have ne : ∀ a, H a ≠ none → (upd H D o) a ≠ none := fun a z => by
    by_cases hb : a = D
    · rw [hb, upd_same]; exact fun z => nomatch z
    · rw [upd_ne hb]; exact z
  refine ⟨fun j k e => (R.slot j k e).mono ⟨fun _ z => z, fun a u ia q _ => ?_, fun a u q fx => ?_⟩ fun a m u q _ => ?_, R.sd, R.dis, R.nod, R.nI, fun a z => ne a (R.tr a z), R.lr, R.ls, R.tb.nod nD⟩
  · rw [upd_ne (fun z : a = D => nI (by rw [← z]; exact ia))]; exact q
  · rw [upd_ne (fun z : a = D => fx.nod q (by rw [z]; exact nD))]; exact q
  · rw [upd_ne (fun z : a = D => nS ⟨j, by rw [← z]; exact m⟩)]; exact q
def mapM2 (m : List D → Res (D × D)) : List D → Res (List D × List D)
  | [] => .ok ([], [])
  | d :: r => m [d] >>= fun p => mapM2 m r >>= fun q => .ok (p.1 :: q.1, p.2 :: q.2)
theorem mapM2_get {m : List D → Res (D × D)} : ∀ {ds : List D} {q : List D × List D}, mapM2 m ds = .ok q → q.1.length = ds.length ∧ q.2.length = ds.length ∧ ∀ (i : Nat) (d : D), ds[i]? = some d → ∃ r e, q.1[i]? = some r ∧ q.2[i]? = some e ∧ m [d] = .ok (r, e)
  | [], q, h => by
    cases h
    exact ⟨rfl, rfl, fun i d e => by simp at e⟩
  | d :: r, q, h => by
    unfold mapM2 at h
    cases e1 : m [d] with
    | bad => rw [e1] at h; cases h
    | exc _ _ => rw [e1] at h; cases h
    | ok p =>
      rw [e1, Res.ok_bnd] at h
      cases e2 : mapM2 m r with
      | bad => rw [e2] at h; cases h
      | exc _ _ => rw [e2] at h; cases h
      | ok q' =>
        rw [e2, Res.ok_bnd] at h
        cases h
        obtain ⟨h1, h2, h3⟩ := mapM2_get e2
        refine ⟨congrArg Nat.succ h1, congrArg Nat.succ h2, fun i d' e => ?_⟩
        cases i with
        | zero => cases Option.some.inj e; exact ⟨p.1, p.2, rfl, rfl, e1⟩
        | succ i => exact h3 i d' (by simpa using e)
/-- what stays while items are changed -/
structure Kp (I : Addr → Prop) (H : Hp) (own : List Addr) (I' : Addr → Prop) (H' : Hp) : Prop where
  sub : ∀ a, I a → I' a
  sh : ∀ a o, I a → H a = some o → NT o → H' a = some o
  ow : ∀ a ∈ own, ∀ o, H a = some o → NT o → H' a = some o
/-- a list or a tuple as it is walked -/
structure Cont (K : PySem.W.Frag) (J : It) (nn n : Nat) (mk : List D → D) (ok : List D → Prop) (I : Addr → Prop) (H : Hp) (own : List Addr) (v : V) (xs : List V) : Prop where
  go : ∀ I' H', Kp I H own I' H' → ∀ i, i < xs.length → J.go i H'
  stop : ∀ I' H', Kp I H own I' H' → J.stop xs.length H'
  yld : ∀ I' H', Kp I H own I' H' → ∀ i x H'', i < xs.length → J.yld i H' x H'' → H'' = H' ∧ xs[i]? = some x
  re : ∀ I' H' T ds, Kp I H own I' H' → OwA K I' H' n T xs ds → ok ds → Ow K I' H' nn (own ++ T) v (mk ds)
  len : xs.length ≤ sizeLine
theorem mapQ {J : It} {own T : List Addr} {v : V} {xs : List V} {ds : List D} {nn j : Nat} {mk : List D → D} {okd : List D → Prop} {m : List D → Res (D × D)} {q : List D × List D} {mg : Str → Option Value} {Q : VK}
    (R : ER K I Γ ρ σ H S) (hi : Γ[i]? = some (.da nn)) (ev : σ[i]? = some (some v)) (hj : j < Γ.length) (hSi : S i = own ++ T) (C : Cont K J nn n mk okd I H own v xs) (o : OwA K I H n T xs ds) (hq : mapM2 m ds = .ok q) (hok : ∀ t, t ≤ ds.length → okd (q.2.take t ++ ds.drop t))
    (E0 : XK) (wi : TI) (hw : ∀ R', R' J H → wi σ H R')
    (h : ∀ v' I' H' S' T', Evo I H (SU S) I' H' (SU S') → ER K I' Γ (ρ.set i (.d (mk q.2))) σ H' S' → VR K I' H' (some 1) T' v' (.list q.1) → (∀ a ∈ T', (SU S a ∨ H a = none) ∧ ¬ I' a ∧ ¬ SU S' a) → T'.Nodup → Q v' H') :
    tLc wi (gName j) tYes (fun σ H Q => (tCons (tVar j) tNil) σ H fun vs H1 => spM K mg 0 n 0 m vs H1 Q E0) [j] σ H Q := by
  obtain ⟨l1, l2, each⟩ := mapM2_get hq
  have lx : xs.length = ds.length := o.len
  refine hw _ fun D hD => ?_
  have hDS : ¬ SU S D := fun z => R.trk D z hD
  have hDI : ¬ I D := fun z => R.tr D z hD
  let S2 : List Addr → Nat → List Addr := fun T j => if j = i then own ++ T else S j
  have S2i : ∀ T, S2 T i = own ++ T := fun T => if_pos rfl
  refine ⟨fun t k H2 => k = ds.length - t ∧ t ≤ ds.length ∧ ∃ (I2 : Addr → Prop) (T2 : List Addr) (acc : List V), ER K I2 Γ (ρ.set i (.d (mk (q.2.take t ++ ds.drop t)))) σ H2 (S2 T2) ∧ Evo I H (SU S) I2 H2 (SU (S2 T2)) ∧ Kp I H own I2 H2 ∧ OwA K I2 H2 n T2 xs (q.2.take t ++ ds.drop t) ∧
    H2 D = some (.lst acc) ∧ ¬ I2 D ∧ ¬ SU (S2 T2) D ∧ RpA K I2 H2 acc (q.1.take t), ⟨ds.length, by simp, Nat.zero_le _, I, T, [], ?_, ?_, ?_, ?_, upd_same, hDI, ?_, .nil⟩, ?_⟩
  · have R1 := R.grow (Gr.lay (I := I) (o := HO.lst []) hD)
    have e1 : (S2 T) = S := funext fun j => by
      show (if j = i then own ++ T else S j) = S j
      by_cases hj : j = i
      · rw [if_pos hj, hj, hSi]
      · rw [if_neg hj]
    have e2 : ρ.set i (.d (mk (q.2.take 0 ++ ds.drop 0))) = ρ.set i (.d (mk ds)) := by rw [List.take_zero, List.drop_zero, List.nil_append]
    rw [e1, e2]
    have ow := C.re I H T ds ⟨fun _ z => z, fun _ _ _ e _ => e, fun _ _ _ e _ => e⟩ o (by have := hok 0 (Nat.zero_le _); rw [List.take_zero, List.drop_zero, List.nil_append] at this; exact this)
    have := (R.part (Sk := []) (Sk' := []) (I3 := I) (H3 := H) (T := own ++ T) (d := mk ds) hi ev ⟨fun _ z => z, fun _ z => .inl z, fun _ _ e _ _ => e, fun _ z => nil_nm z, fun _ z => z, fun t => t⟩ (fun _ z => nil_nm z) (fun _ z => nil_nm z) ow (fun a m => .inl ⟨by rw [hSi]; exact m, fun z => nil_nm z⟩) (by rw [← hSi]; exact R.nod i) (fun a m => R.nI i a (by rw [hSi]; exact m)) R.tr).1
    have e3 : (fun j => if j = i then own ++ T else S j) = S := e1
    rw [e3] at this
    exact this.grow (Gr.lay hD)
  · have e1 : (S2 T) = S := funext fun j => by
      show (if j = i then own ++ T else S j) = S j
      by_cases hj : j = i
      · rw [if_pos hj, hj, hSi]
      · rw [if_neg hj]
    rw [e1]
    exact (Gr.lay (I := I) (o := HO.lst []) hD).evo R.trk
  · exact ⟨fun _ z => z, fun a o _ e _ => upd_keep hD a o e, fun a _ o e _ => upd_keep hD a o e⟩
  · rw [List.take_zero, List.drop_zero, List.nil_append]
    exact o.mono (fun _ z => z) (fun a o _ e _ => upd_keep hD a o e) fun a _ o e _ => upd_keep hD a o e
  · rintro ⟨j, m⟩
    have m : D ∈ (if j = i then own ++ T else S j) := m
    by_cases hj : j = i
    · rw [if_pos hj, ← hSi] at m; exact hDS ⟨i, m⟩
    · rw [if_neg hj] at m; exact hDS ⟨j, m⟩
  rintro t k H2 ⟨rfl, ht, I2, T2, acc, R2, ev2, kp2, o2, hD2, nI2, nS2, ra⟩
  by_cases hlt : t < ds.length
  · refine .inr ⟨C.go I2 H2 kp2 t (by rw [lx]; exact hlt), fun H3 => t + 1 ≤ ds.length ∧ ∃ (I2 : Addr → Prop) (T2 : List Addr) (acc : List V), ER K I2 Γ (ρ.set i (.d (mk (q.2.take (t + 1) ++ ds.drop (t + 1))))) σ H3 (S2 T2) ∧ Evo I H (SU S) I2 H3 (SU (S2 T2)) ∧ Kp I H own I2 H3 ∧ OwA K I2 H3 n T2 xs (q.2.take (t + 1) ++ ds.drop (t + 1)) ∧
      H3 D = some (.lst acc) ∧ ¬ I2 D ∧ ¬ SU (S2 T2) D ∧ RpA K I2 H3 acc (q.1.take (t + 1)), fun H3 z => ⟨ds.length - (t + 1), by omega, rfl, z⟩, fun x H3 y => ?_⟩
    obtain ⟨rfl, hx⟩ := C.yld I2 H2 kp2 t x H3 (by rw [lx]; exact hlt) y
    -- the name of the item
    have hjw : j < (L2.wipe σ [j]).length := by rw [L2.wipe_length, R.ls]; exact hj
    refine ⟨wipe_off ⟨List.length_set, fun l hl => List.getElem?_set_ne (fun z => hl (by rw [z]; exact List.mem_singleton.mpr rfl))⟩ (fun l hl => hl), ?_⟩
    refine ⟨x, List.getElem?_set_self hjw, ?_⟩
    -- the item and what is owned of it
    obtain ⟨r, e', g1, g2, gm⟩ := each t ds[t] (List.getElem?_eq_getElem hlt)
    have gd : (q.2.take t ++ ds.drop t)[t]? = some ds[t] := by
      rw [List.getElem?_append_right (by rw [List.length_take]; omega), List.length_take, Nat.min_eq_left (by omega), Nat.sub_self, List.getElem?_drop, Nat.add_zero]
      exact List.getElem?_eq_getElem hlt
    obtain ⟨S1, Sk, S3, x', hx', eT, ok, put⟩ := o2.split gd
    rw [hx] at hx'
    cases hx'
    have nod2 : (own ++ T2).Nodup := by rw [← S2i T2]; exact R2.nod i
    have mT : ∀ a, a ∈ Sk → a ∈ T2 := fun a z => by rw [eT]; exact List.mem_append_right _ (List.mem_append_left _ z)
    have mS : ∀ a, a ∈ Sk → a ∈ S2 T2 i := fun a z => by rw [S2i]; exact List.mem_append_right _ (mT a z)
    have ndT : T2.Nodup := (List.nodup_append.mp nod2).2.1
    have ndk : Sk.Nodup := by rw [eT] at ndT; exact (List.nodup_append.mp (List.nodup_append.mp ndT).2.1).1
    have nI : ∀ a ∈ Sk, ¬ I2 a := fun a z => R2.nI i a (mS a z)
    refine ⟨I2, [ds[t]], Sk, x, ds[t], R2.tr, R2.tb, rfl, fun l v d hl e1 _ => ?_, rfl, rfl, ok, ndk, nI, ?_⟩
    · cases l with
      | zero => exact absurd rfl hl
      | succ l => simp at e1
    rw [gm]
    intro y I3 H4 Tr Tk ev3 owr owk hTr hTrn hTk hTkn tr3
    cases owr with
    | sh rr =>
      have ev3 : Evo I2 H3 (· ∈ Sk) I3 H4 (· ∈ Tk) := ⟨ev3.sub, ev3.new, ev3.keep, fun a z => ev3.own a (.inr z), ev3.there, ev3.tab⟩
      have nDk : D ∉ Sk := fun z => nS2 ⟨i, mS D z⟩
      have hD4 : H4 D = some (.lst acc) := ev3.keep D _ hD2 nDk fun _ z => nomatch z
      have nodk : ∀ a ∈ Sk, Nod H3 a := ok.nod
      have nI3 : ¬ I3 D := fun z => by
        rcases ev3.new D z with z | ⟨z, _⟩
        · exact nI2 z
        · rcases z with z | z
          · exact nDk z
          · rw [hD2] at z; cases z
      have nDk' : D ∉ Tk := fun z => by
        rcases (ev3.own D z).1 with z | z
        · exact nDk z
        · rw [hD2] at z; cases z
      have kp3 : Kp I H own I3 H4 := ⟨fun a z => ev3.sub a (kp2.sub a z), fun a o ia e nt => ev3.keep a o (kp2.sh a o ia e nt) (fun z => nI a z (kp2.sub a ia)) nt, fun a ma o e nt => ev3.keep a o (kp2.ow a ma o e nt) (fun z => by
        exact (List.nodup_append.mp nod2).2.2 a ma a (mT a z) rfl) nt⟩
      have es : (q.2.take t ++ ds.drop t).set t e' = q.2.take (t + 1) ++ ds.drop (t + 1) := by
        rw [List.set_append_right _ _ (by rw [List.length_take]; omega), List.length_take, Nat.min_eq_left (by omega), Nat.sub_self, List.drop_eq_getElem_cons hlt, List.set_cons_zero, List.take_succ, g2]
        simp
      have o3 := put I3 H4 Tk x e' (fun a z => ev3.sub a z) (fun a o ia e nt => ev3.keep a o e (fun z => nI a z ia) nt) (fun a ma o e nt => ev3.keep a o e (fun z => by
        rw [eT] at ndT
        have p1 := List.nodup_append.mp ndT
        have p2 := List.nodup_append.mp p1.2.1
        rcases List.mem_append.mp ma with ma | ma
        · exact p1.2.2 a ma a (List.mem_append_left _ z) rfl
        · exact p2.2.2 a z a ma rfl) nt) owk
      rw [es] at o3
      have xset : xs.set t x = xs := by
        refine List.ext_getElem? fun l => ?_
        by_cases hl : t = l
        · subst hl
          rw [List.getElem?_set_self (by rw [lx]; exact hlt), hx]
        · rw [List.getElem?_set_ne hl]
      rw [xset] at o3
      have inT : ∀ a, a ∈ S1 ++ (Tk ++ S3) → (a ∈ T2 ∧ a ∉ Sk) ∨ a ∈ Tk := fun a ma => by
        rw [eT] at ndT ⊢
        have p1 := List.nodup_append.mp ndT
        have p2 := List.nodup_append.mp p1.2.1
        rcases List.mem_append.mp ma with ma | ma
        · exact .inl ⟨List.mem_append_left _ ma, fun z => p1.2.2 a ma a (List.mem_append_left _ z) rfl⟩
        · rcases List.mem_append.mp ma with ma | ma
          · exact .inr ma
          · exact .inl ⟨List.mem_append_right _ (List.mem_append_right _ ma), fun z => p2.2.2 a z a ma rfl⟩
      -- nodes that came back lie apart from all others
      have apT : ∀ a ∈ Tk, ∀ b ∈ own ++ T2, b ∉ Sk → a ≠ b := fun a ma b mb nb e => by
        subst e
        rcases (ev3.own a ma).1 with z | z
        · exact nb z
        · exact R2.trk a ⟨i, by rw [S2i]; exact mb⟩ z
      have ndN : (own ++ (S1 ++ (Tk ++ S3))).Nodup := by
        have p0 := List.nodup_append.mp nod2
        have p1 := List.nodup_append.mp (by rw [← eT]; exact p0.2.1 : (S1 ++ (Sk ++ S3)).Nodup)
        have p2 := List.nodup_append.mp p1.2.1
        have m1 : ∀ a ∈ S1, a ∈ own ++ T2 ∧ a ∉ Sk := fun a z => ⟨List.mem_append_right _ (by rw [eT]; exact List.mem_append_left _ z), fun z' => p1.2.2 a z a (List.mem_append_left _ z') rfl⟩
        have m3 : ∀ a ∈ S3, a ∈ own ++ T2 ∧ a ∉ Sk := fun a z => ⟨List.mem_append_right _ (by rw [eT]; exact List.mem_append_right _ (List.mem_append_right _ z)), fun z' => p2.2.2 a z' a z rfl⟩
        refine List.nodup_append.mpr ⟨p0.1, List.nodup_append.mpr ⟨p1.1, List.nodup_append.mpr ⟨hTkn, p2.2.1, fun a ma b mb => apT a ma b (m3 b mb).1 (m3 b mb).2⟩, fun a ma b mb e => ?_⟩, fun a ma b mb e => ?_⟩
        · rcases List.mem_append.mp mb with mb | mb
          · exact apT b mb a (m1 a ma).1 (m1 a ma).2 e.symm
          · exact p1.2.2 a ma b (List.mem_append_right _ mb) e
        · rcases inT b mb with z | z
          · exact p0.2.2 a ma b z.1 e
          · exact apT b z a (List.mem_append_left _ ma) (fun z' => p0.2.2 a ma a (mT a z') rfl) e.symm
      have okt := hok (t + 1) hlt
      have ow3 := C.re I3 H4 _ _ kp3 o3 okt
      have nIN : ∀ a ∈ own ++ (S1 ++ (Tk ++ S3)), ¬ I3 a := fun a ma z => by
        rcases List.mem_append.mp ma with ma | ma
        · rcases ev3.new a z with z | ⟨z, _⟩
          · exact R2.nI i a (by rw [S2i]; exact List.mem_append_left _ ma) z
          · rcases z with z | z
            · exact (List.nodup_append.mp nod2).2.2 a ma a (mT a z) rfl
            · exact R2.trk a ⟨i, by rw [S2i]; exact List.mem_append_left _ ma⟩ z
        · rcases inT a ma with z' | z'
          · rcases ev3.new a z with z | ⟨z, _⟩
            · exact R2.nI i a (by rw [S2i]; exact List.mem_append_right _ z'.1) z
            · rcases z with z | z
              · exact z'.2 z
              · exact R2.trk a ⟨i, by rw [S2i]; exact List.mem_append_right _ z'.1⟩ z
          · exact hTk a z' z
      have P := R2.part hi ev ev3 mS nodk ow3 (fun a ma => by
        rw [S2i]
        rcases List.mem_append.mp ma with ma | ma
        · exact .inl ⟨List.mem_append_left _ ma, fun z => (List.nodup_append.mp nod2).2.2 a ma a (mT a z) rfl⟩
        · rcases inT a ma with z | z
          · exact .inl ⟨List.mem_append_right _ z.1, z.2⟩
          · exact .inr z) ndN nIN tr3
      have eS : (fun j => if j = i then own ++ (S1 ++ (Tk ++ S3)) else S2 T2 j) = S2 (S1 ++ (Tk ++ S3)) := funext fun j => by
        show (if j = i then own ++ (S1 ++ (Tk ++ S3)) else if j = i then own ++ T2 else S j) = if j = i then own ++ (S1 ++ (Tk ++ S3)) else S j
        by_cases hj : j = i
        · rw [if_pos hj, if_pos hj]
        · rw [if_neg hj, if_neg hj, if_neg hj]
      rw [eS, List.set_set] at P
      have nS3 : ¬ SU (S2 (S1 ++ (Tk ++ S3))) D := fun z => by
        rcases (P.2.own D z).1 with z | z
        · exact nS2 z
        · rw [hD2] at z; cases z
      have nodD : Nod H4 D := .inl ⟨_, hD4⟩
      have neD : ∀ {z : HO} (a : Addr), H4 a ≠ none → (upd H4 D z) a ≠ none := fun {z} a q => by
        by_cases hb : a = D
        · rw [hb, upd_same]; exact fun z => nomatch z
        · rw [upd_ne hb]; exact q
      have lac : acc.length = t := by rw [ra.len, List.length_take]; omega
      refine ⟨acc, hD4, by have := C.len; omega, hlt, I3, S1 ++ (Tk ++ S3), acc ++ [y], P.1.lone nodD nI3 nS3, ?_, ?_, ?_, upd_same, nI3, nS3, ?_⟩
      · have E := ev2.trans P.2
        refine ⟨E.sub, fun a z => (E.new a z).imp id fun z => ⟨z.1, neD a z.2⟩, fun b o e z nt => ?_, fun a z => ⟨(E.own a z).1, neD a (E.own a z).2⟩, fun a z => neD a (E.there a z), fun t => (E.tab t).nod nodD⟩
        rw [upd_ne (fun z' : b = D => by rw [z', hD] at e; cases e)]
        exact E.keep b o e z nt
      · refine ⟨kp3.sub, fun a o ia e nt => ?_, fun a ma o e nt => ?_⟩
        · rw [upd_ne (fun z' : a = D => hDI (by rw [← z']; exact ia))]
          exact kp3.sh a o ia e nt
        · rw [upd_ne (fun z' : a = D => hDS ⟨i, by rw [hSi, ← z']; exact List.mem_append_left _ ma⟩)]
          exact kp3.ow a ma o e nt
      · refine o3.mono (fun _ z => z) (fun a o ia e nt => ?_) fun a ma o e nt => ?_
        · rw [upd_ne (fun z' : a = D => nI3 (by rw [← z']; exact ia))]; exact e
        · rw [upd_ne (fun z' : a = D => nS3 ⟨i, by rw [S2i, ← z']; exact List.mem_append_right _ ma⟩)]; exact e
      · rw [List.take_succ, g1]
        refine RpA.append ?_ (.cons ?_ .nil)
        · exact ra.mono ev3.sub fun a o ia e nt => by
            rw [upd_ne (fun z' : a = D => nI2 (by rw [← z']; exact ia))]
            exact ev3.keep a o e (fun z => nI a z ia) nt
        · exact rr.mono (fun _ z => z) fun a o ia e nt => by
            rw [upd_ne (fun z' : a = D => nI3 (by rw [← z']; exact ia))]; exact e
  · have ht' : t = ds.length := by omega
    subst ht'
    refine .inl ⟨by rw [← lx]; exact C.stop I2 H2 kp2, ?_⟩
    have e1 : q.2.take ds.length ++ ds.drop ds.length = q.2 := by rw [← l2, List.take_length, l2, List.drop_length, List.append_nil]
    have e2 : q.1.take ds.length = q.1 := by rw [← l1, List.take_length]
    rw [e1] at R2
    rw [e2] at ra
    refine h (.ref D) I2 H2 (S2 T2) [D] ev2 R2 (.lst hD2 (by rw [ra.len, l1, ← lx]; exact C.len) ra.owA0) (fun a m => ?_) (by simp)
    rw [List.mem_singleton.mp m]
    exact ⟨.inr hD, nI2, nS2⟩
end
end DL

namespace DL
open PySem PySem.Spec PyProof.Rows L2
section
variable {K : PySem.W.Frag} {I : Addr → Prop} {H : Hp}
mutual
theorem Ow.flatRp {n : Nat} {S : List Addr} {v : V} {d : D} : Ow K I H n S v d → flat d = true → S = [] ∧ Rp K I H v d
  | .sh h, _ => ⟨rfl, h⟩
  | .fl h _, _ => ⟨rfl, h⟩
  | .lst _ _ _, f => nomatch f
  | .tup i h z r, f => by
    obtain ⟨e, q⟩ := OwA.flatRp r f
    exact ⟨e, .tup (.inl ⟨i, h⟩) z q⟩
  | .dK _ _, f => nomatch f
  | .dT _ _, f => nomatch f
theorem OwA.flatRp {n : Nat} {S : List Addr} {vs : List V} {ds : List D} : OwA K I H n S vs ds → flatAll ds = true → S = [] ∧ RpA K I H vs ds
  | .nil, _ => ⟨rfl, .nil⟩
  | .cons h r, f => by
    have f : (DL.flat _ && flatAll _) = true := f
    rw [Bool.and_eq_true] at f
    obtain ⟨e1, q1⟩ := Ow.flatRp h f.1
    obtain ⟨e2, q2⟩ := OwA.flatRp r f.2
    subst e1 e2
    exact ⟨rfl, .cons q1 q2⟩
end
theorem OwA.zero : ∀ {S : List Addr} {vs : List V} {ds : List D}, OwA K I H 0 S vs ds → S = [] ∧ RpA K I H vs ds
  | _, _, _, .nil => ⟨rfl, .nil⟩
  | _, _, _, .cons h r => by
    obtain ⟨e, q⟩ := OwA.zero r
    subst e
    cases h with
    | sh h => exact ⟨rfl, .cons h q⟩
theorem RpA.owFlat {n : Nat} : ∀ {vs : List V} {ds : List D}, RpA K I H vs ds → flatAll ds = true → OwA K I H (n + 1) [] vs ds
  | _, _, .nil, _ => .nil
  | _, _, .cons h r, f => by
    have f : (DL.flat _ && flatAll _) = true := f
    rw [Bool.and_eq_true] at f
    exact .cons (S := []) (.fl h f.1) (RpA.owFlat r f.2)
theorem cont_list {n : Nat} {a : Addr} {xs : List V} (h : H a = some (.lst xs)) (z : xs.length ≤ sizeLine) : Cont K (Itl K a) (n + 1) n PyData.list (fun _ => True) I H [a] (.ref a) xs where
  go := fun I' H' kp i hi => ⟨xs, xs[i], .inl (.inl (kp.ow a (List.mem_singleton.mpr rfl) _ h fun _ z => nomatch z)), List.getElem?_eq_getElem hi⟩
  stop := fun I' H' kp => ⟨xs, .inl (.inl (kp.ow a (List.mem_singleton.mpr rfl) _ h fun _ z => nomatch z)), Nat.le_refl _⟩
  yld := fun I' H' kp i x H'' hi y => ⟨y.1, y.2 xs (.inl (.inl (kp.ow a (List.mem_singleton.mpr rfl) _ h fun _ z => nomatch z)))⟩
  re := fun I' H' T ds kp o _ => .lst (kp.ow a (List.mem_singleton.mpr rfl) _ h fun _ z => nomatch z) z o
  len := z
theorem cont_tup {n : Nat} {T : List Addr} {v : V} {ds : List D} (o : Ow K I H n T v (.tuple ds)) : ∃ (a : Addr) (xs : List V), v = .ref a ∧ SqT K H a xs ∧ OwA K I H n T xs ds ∧ Cont K (Itt K a) n n PyData.tuple (fun es => flatAll ds = true → flatAll es = true) I H [] v xs := by
  have key : ∀ (a : Addr) (xs : List V) (hh : (I a ∧ H a = some (.tup xs)) ∨ KT K a xs) (z : xs.length ≤ sizeLine), (∀ I' H' T ds', Kp I H [] I' H' → OwA K I' H' n T xs ds' → (flatAll ds = true → flatAll ds' = true) → Ow K I' H' n ([] ++ T) (.ref a) (.tuple ds')) →
      Cont K (Itt K a) n n PyData.tuple (fun es => flatAll ds = true → flatAll es = true) I H [] (.ref a) xs := fun a xs hh z re => by
    have sq : ∀ I' H', Kp I H [] I' H' → SqT K H' a xs := fun I' H' kp => KT.sq (P := I' a) (hh.imp (fun q => ⟨kp.sub a q.1, kp.sh a _ q.1 q.2 fun _ z => nomatch z⟩) id)
    exact ⟨fun I' H' kp i hi => ⟨xs, xs[i], sq I' H' kp, List.getElem?_eq_getElem hi⟩, fun I' H' kp => ⟨xs, sq I' H' kp, Nat.le_refl _⟩, fun I' H' kp i x H'' hi y => ⟨y.1, y.2 xs (sq I' H' kp)⟩, re, z⟩
  cases o with
  | sh r =>
    cases r with
    | tup hh z r =>
      refine ⟨_, _, rfl, KT.sq hh, r.owA0, key _ _ hh z fun I' H' T ds' kp o' _ => ?_⟩
      obtain ⟨e, q⟩ := OwA.zero o'
      subst e
      exact .sh (.tup (hh.imp (fun q => ⟨kp.sub _ q.1, kp.sh _ _ q.1 q.2 fun _ z => nomatch z⟩) id) z q)
  | fl r f =>
    cases r with
    | tup hh z r =>
      refine ⟨_, _, rfl, KT.sq hh, r.owFlat f, key _ _ hh z fun I' H' T ds' kp o' g => ?_⟩
      have f' := g f
      obtain ⟨e, q⟩ := OwA.flatRp o' f'
      subst e
      exact .fl (.tup (hh.imp (fun q => ⟨kp.sub _ q.1, kp.sh _ _ q.1 q.2 fun _ z => nomatch z⟩) id) z q) f'
  | tup i h z r =>
    exact ⟨_, _, rfl, KT.sq (.inl ⟨i, h⟩), r, key _ _ (.inl ⟨i, h⟩) z fun I' H' T ds' kp o' _ => .tup (kp.sub _ i) (kp.sh _ _ i h fun _ z => nomatch z) z o'⟩
end
section
variable [Wd] {X : Cx} {E : XK} {Γ : List SK} {pos pf pc py ty px : Pos} {i j n kf kx : Nat} {m : List D → Res (D × D)} {f x y : Str} {ps : List Str} {kws : List (List Str × List Nat)} {scope : Scope}
def dMapL (i : Nat) (m : List D → Res (D × D)) : Env → Res (D × Env) := fun ρ => dVar i ρ >>= fun d => match d with
  | .list ds => (mapM2 m ds).nox >>= fun q => .ok (.list q.1, ρ.set i (.d (.list q.2)))
  | _ => .bad
def dMapT (i : Nat) (m : List D → Res (D × D)) : Env → Res (D × Env) := fun ρ => dVar i ρ >>= fun d => match d with
  | .tuple ds => (mapM2 m ds).nox >>= fun q => if flatAll ds = true → flatAll q.2 = true then .ok (.list q.1, ρ.set i (.d (.tuple q.2))) else .bad
  | _ => .bad
theorem flatAll_app : ∀ {a b : List D}, flatAll (a ++ b) = true ↔ flatAll a = true ∧ flatAll b = true
  | [], b => ⟨fun h => ⟨rfl, h⟩, fun h => h.2⟩
  | x :: a, b => by
    show (flat x && flatAll (a ++ b)) = true ↔ (flat x && flatAll a) = true ∧ _
    rw [Bool.and_eq_true, Bool.and_eq_true, flatAll_app, and_assoc]
theorem flatAll_take : ∀ {a : List D} (t : Nat), flatAll a = true → flatAll (a.take t) = true := fun {a} t h => by
  rw [← List.take_append_drop t a, flatAll_app] at h
  exact h.1
theorem flatAll_drop : ∀ {a : List D} (t : Nat), flatAll a = true → flatAll (a.drop t) = true := fun {a} t h => by
  rw [← List.take_append_drop t a, flatAll_app] at h
  exact h.2
theorem dx_mapL (F : Dfn X.prog X.w X.K X.mg X.base kf f ps kws (spM X.K X.mg 0 n 0 m)) (c : Cz X E kx) (hk : kf ≤ kx) (hc : X.calm = true) (hN : X.N.Nodup) (hx : X.N[i]? = some x) (hvx : Vis X.env.scope x) (hi : Γ[i]? = some (.da (n + 1))) (hy : X.N[j]? = some y) (hj : j < Γ.length) (ok : BlkOk X.N X.env.scope scope [(y, j)])
    (hgl : ∀ (s : Shared) (H : Hp) (C : Addr) (cl : List (Str × Addr)) (fp : List Addr), Gl (X.blk s H scope (compEnvC scope cl C X.env) fp) f)
    (hly : ∀ (s : Shared) (H : Hp) (C : Addr) (cl : List (Str × Addr)) (fp : List Addr), Loc (X.blk s H scope (compEnvC scope cl C X.env) fp).env.scope y ∧ Vis (X.blk s H scope (compEnvC scope cl C X.env) fp).env.scope y)
    (hst : ∀ (s : Shared) (H : Hp) (C : Addr) (cl : List (Str × Addr)) (fp : List Addr), starEach [.Name y py] (X.blk s H scope (compEnvC scope cl C X.env) fp).env = (false, eval (.Name y py) (X.blk s H scope (compEnvC scope cl C X.env) fp).env) :: starEach [] (X.blk s H scope (compEnvC scope cl C X.env) fp).env)
    (hpl : ∀ (s : Shared) (H : Hp) (C : Addr) (cl : List (Str × Addr)) (fp : List Addr), (backTo pc (starEach [] (X.blk s H scope (compEnvC scope cl C X.env) fp).env)).any (·.1) = false) (hfn : ∀ (s : Shared) (H : Hp) (C : Addr) (cl : List (Str × Addr)) (fp : List Addr), (X.blk s H scope (compEnvC scope cl C X.env) fp).fn y = true ∨ (X.blk s H scope (compEnvC scope cl C X.env) fp).env.scope.names.lookup y = some .local)
    (hs : ∀ z, foldedSetIterable (.Name x px) X.env z = pure z := by intro _; rfl) (hdx : (x == ("__debug__" : Str)) = false := by decide) (hcx : (x == ("__classdict__" : Str)) = false := by decide) (hdy : (y == ("__debug__" : Str)) = false := by decide) (hcy : (y == ("__classdict__" : Str)) = false := by decide) (hdf : (f == ("__debug__" : Str)) = false := by decide) :
    DX X E Γ (.ListComp (.Call (.Name f pf) [.Name y py] [] pc) [⟨.Name y ty, .Name x px, [], 0⟩] scope pos) (some 1) (dMapL i m) := by
  obtain ⟨fd, G, b, _⟩ := F.ex
  refine ⟨_, pe_lc (own := [(y, j)]) (g := gName j) (tt := tYes) (te := fun σ H Q => (tCons (tVar j) tNil) σ H fun vs H1 => spM X.K X.mg 0 n 0 m vs H1 Q E0) hc hN (pi_list (pe_var hx hvx hdx hcx)) ok (fun s H C cl fp => pg_name hN hy (hly s H C cl fp).1 (hfn s H C cl fp)) (fun s H C cl fp => pts_nil)
    (fun s H C cl fp => pe_callG (X := X.blk s H scope (compEnvC scope cl C X.env) fp) G ((Cz.blk c).hr.mono hk) (Cz.blk c (s := s) (H := H) (scope := scope) (cenv := compEnvC scope cl C X.env) (fp := fp)).gd (hgl s H C cl fp) F.mg F.kp b (Cz.blk c (s := s) (H := H) (scope := scope) (cenv := compEnvC scope cl C X.env) (fp := fp)).px (pa_cons (pe_var (X := X.blk s H scope (compEnvC scope cl C X.env) fp) hy (hly s H C cl fp).2 hdy hcy) pa_nil (hst s H C cl fp)) hdf (hst s H C cl fp) (hpl s H C cl fp)) hs, fun I S ρ σ H Q R h => ?_⟩
  obtain ⟨v, d, e1, e2, o⟩ := R.slot i _ hi
  have ed : dVar i ρ = .ok d := by unfold dVar; rw [e2]
  unfold dMapL at h
  rw [ed, Res.ok_bnd] at h
  cases d with
  | list ds =>
    change PX X.K X.mg E I H (SU S) (PC2 X.K Γ σ I H S (some 1) Q) ((mapM2 m ds).nox >>= _) at h
    cases hq : mapM2 m ds with
    | bad => rw [hq] at h; exact h.elim
    | exc _ _ => rw [hq] at h; exact h.elim
    | ok q =>
      rw [hq] at h
      generalize hSi : S i = Si at o
      cases o with
      | fl _ f => cases f
      | lst ha z oa =>
        exact mapQ R hi e1 hj hSi (cont_list ha z) oa hq (fun _ _ => True.intro) E0 _ (fun R' r => ⟨_, e1, _, rfl, ⟨_, .inl (.inl ha)⟩, r⟩) h
  | _ => exact h.elim
theorem dx_mapT (F : Dfn X.prog X.w X.K X.mg X.base kf f ps kws (spM X.K X.mg 0 n 0 m)) (c : Cz X E kx) (hk : kf ≤ kx) (hc : X.calm = true) (hN : X.N.Nodup) (hx : X.N[i]? = some x) (hvx : Vis X.env.scope x) (hi : Γ[i]? = some (.da n)) (hy : X.N[j]? = some y) (hj : j < Γ.length) (ok : BlkOk X.N X.env.scope scope [(y, j)])
    (hgl : ∀ (s : Shared) (H : Hp) (C : Addr) (cl : List (Str × Addr)) (fp : List Addr), Gl (X.blk s H scope (compEnvC scope cl C X.env) fp) f)
    (hly : ∀ (s : Shared) (H : Hp) (C : Addr) (cl : List (Str × Addr)) (fp : List Addr), Loc (X.blk s H scope (compEnvC scope cl C X.env) fp).env.scope y ∧ Vis (X.blk s H scope (compEnvC scope cl C X.env) fp).env.scope y)
    (hst : ∀ (s : Shared) (H : Hp) (C : Addr) (cl : List (Str × Addr)) (fp : List Addr), starEach [.Name y py] (X.blk s H scope (compEnvC scope cl C X.env) fp).env = (false, eval (.Name y py) (X.blk s H scope (compEnvC scope cl C X.env) fp).env) :: starEach [] (X.blk s H scope (compEnvC scope cl C X.env) fp).env)
    (hpl : ∀ (s : Shared) (H : Hp) (C : Addr) (cl : List (Str × Addr)) (fp : List Addr), (backTo pc (starEach [] (X.blk s H scope (compEnvC scope cl C X.env) fp).env)).any (·.1) = false) (hfn : ∀ (s : Shared) (H : Hp) (C : Addr) (cl : List (Str × Addr)) (fp : List Addr), (X.blk s H scope (compEnvC scope cl C X.env) fp).fn y = true ∨ (X.blk s H scope (compEnvC scope cl C X.env) fp).env.scope.names.lookup y = some .local)
    (hs : ∀ z, foldedSetIterable (.Name x px) X.env z = pure z := by intro _; rfl) (hdx : (x == ("__debug__" : Str)) = false := by decide) (hcx : (x == ("__classdict__" : Str)) = false := by decide) (hdy : (y == ("__debug__" : Str)) = false := by decide) (hcy : (y == ("__classdict__" : Str)) = false := by decide) (hdf : (f == ("__debug__" : Str)) = false := by decide) :
    DX X E Γ (.ListComp (.Call (.Name f pf) [.Name y py] [] pc) [⟨.Name y ty, .Name x px, [], 0⟩] scope pos) (some 1) (dMapT i m) := by
  obtain ⟨fd, G, b, _⟩ := F.ex
  refine ⟨_, pe_lc (own := [(y, j)]) (g := gName j) (tt := tYes) (te := fun σ H Q => (tCons (tVar j) tNil) σ H fun vs H1 => spM X.K X.mg 0 n 0 m vs H1 Q E0) hc hN (pi_tup (pe_var hx hvx hdx hcx)) ok (fun s H C cl fp => pg_name hN hy (hly s H C cl fp).1 (hfn s H C cl fp)) (fun s H C cl fp => pts_nil)
    (fun s H C cl fp => pe_callG (X := X.blk s H scope (compEnvC scope cl C X.env) fp) G ((Cz.blk c).hr.mono hk) (Cz.blk c (s := s) (H := H) (scope := scope) (cenv := compEnvC scope cl C X.env) (fp := fp)).gd (hgl s H C cl fp) F.mg F.kp b (Cz.blk c (s := s) (H := H) (scope := scope) (cenv := compEnvC scope cl C X.env) (fp := fp)).px (pa_cons (pe_var (X := X.blk s H scope (compEnvC scope cl C X.env) fp) hy (hly s H C cl fp).2 hdy hcy) pa_nil (hst s H C cl fp)) hdf (hst s H C cl fp) (hpl s H C cl fp)) hs, fun I S ρ σ H Q R h => ?_⟩
  obtain ⟨v, d, e1, e2, o⟩ := R.slot i _ hi
  have ed : dVar i ρ = .ok d := by unfold dVar; rw [e2]
  unfold dMapT at h
  rw [ed, Res.ok_bnd] at h
  cases d with
  | tuple ds =>
    change PX X.K X.mg E I H (SU S) (PC2 X.K Γ σ I H S (some 1) Q) ((mapM2 m ds).nox >>= _) at h
    cases hq : mapM2 m ds with
    | bad => rw [hq] at h; exact h.elim
    | exc _ _ => rw [hq] at h; exact h.elim
    | ok q =>
      rw [hq] at h
      have h : PX X.K X.mg E I H (SU S) (PC2 X.K Γ σ I H S (some 1) Q) (if flatAll ds = true → flatAll q.2 = true then .ok (.list q.1, ρ.set i (.d (.tuple q.2))) else .bad) := h
      split at h
      · rename_i hf
        obtain ⟨a, xs, ea, sq, oa, C⟩ := cont_tup o
        subst ea
        exact mapQ R hi e1 hj (by rw [List.nil_append]) C oa hq (fun t _ f => flatAll_app.mpr ⟨flatAll_take t (hf f), flatAll_drop t f⟩) E0 _ (fun R' r => ⟨_, e1, _, rfl, ⟨_, sq⟩, r⟩) h
      · exact h.elim
  | _ => exact h.elim
/-- never reached -/
theorem ds_bad {C : Cf} {Γn : List SK} {sts : List Stmt} : DS X E C Γ sts Γn (fun _ => .bad) := ⟨fun _ _ _ => False, ⟨fun _ _ _ _ _ _ h => h.elim⟩, fun _ _ _ _ _ _ _ h => h⟩
end
/-- nothing is promised -/
theorem fnM_no [Wd] {P : Program} {w : World} {K : PySem.W.Frag} {mg : Str → Option Value} {base : Heap} {x : Str} {fd : FuncData} {ps : List Str} {k n kr : Nat} : FnG P w K mg base k (He.ga K x) fd ps (spM K mg 0 n kr fun _ => .bad) :=
  ⟨fun _ _ _ _ ⟨_, _, _, _, _, _, _, _, _, _, _, _, _, _, h⟩ => h.elim, fun _ _ _ _ _ _ _ _ _ _ _ _ _ _ ⟨_, _, _, _, _, _, _, _, _, _, _, _, _, _, h⟩ => h.elim⟩
end DL

namespace DL
open PySem PySem.Spec PyProof.Rows L2
section
variable [Wd] {X : Cx} {E : XK} {Γ Γ1 Γ2 Γn : List SK} {pos : Pos} {C : Cf} {i : Nat} {fbs : List (Env → Res D)}
theorem Gr.low {I I' : Addr → Prop} {H H' : Hp} (g : Gr I H I' H') : Later I H I' H' := g.later
/-- the list, known to the object -/
def LvJ (X : Cx) (Γ : List SK) (i : Nat) (fbs : List (Env → Res D)) (I : Addr → Prop) (ρ : Env) (σ : L2.St) (H : Hp) : Prop :=
  ∃ (a : Addr) (xs : List V), σ[i]? = some (some (.ref a)) ∧ I a ∧ H a = some (.lst xs) ∧ xs.length ≤ sizeLine ∧ Paired (LivV X Γ ρ H) xs (fbs.map fun f => f ρ)
theorem LvJ.grow {I I' : Addr → Prop} {ρ : Env} {σ : L2.St} {H H' : Hp} (h : LvJ X Γ i fbs I ρ σ H) (g : Gr I H I' H') : LvJ X Γ i fbs I' ρ σ H' := by
  obtain ⟨a, xs, e1, e2, e3, e4, p⟩ := h
  exact ⟨a, xs, e1, g.later.sub a e2, g.later.shr a _ e2 e3 (fun _ z => nomatch z), e4, p.imp fun _ _ z => z.later g.later⟩
structure DPJ [Wd] (X : Cx) (E : XK) (Γ : List SK) (i : Nat) (fbs : List (Env → Res D)) (e : Expr) (k : Option Nat) (f : Env → Res D) : Prop where
  ex : ∃ t : TE, PE X e t ∧ ∀ I S ρ σ H Q, ER X.K I Γ ρ σ H S → LvJ X Γ i fbs I ρ σ H → PX X.K X.mg E I H (SU S) (PV X I H k Q) (f ρ) → t σ H Q
structure DTJ [Wd] (X : Cx) (E : XK) (Γ : List SK) (i : Nat) (fbs : List (Env → Res D)) (e : Expr) (f : Env → Res Bool) : Prop where
  ex : ∃ t : TT, PT X e t ∧ ∀ I S ρ σ H Q, ER X.K I Γ ρ σ H S → LvJ X Γ i fbs I ρ σ H → PX X.K X.mg E I H (SU S) (fun b => ∀ I' H', Gr I H I' H' → Q b H') (f ρ) → t σ H Q
structure DSJ [Wd] (X : Cx) (E : XK) (C : Cf) (Γ : List SK) (i : Nat) (fbs : List (Env → Res D)) (st : Stmt) (Γn : List SK) (f : Env → Res Out) : Prop where
  ex : ∃ t : TS, PS X st t ∧ ∀ I S ρ σ H Dd, ER X.K I Γ ρ σ H S → LvJ X Γ i fbs I ρ σ H → PX X.K X.mg E I H (SU S) (SPo X.K C Γn σ I H S Dd) (f ρ) → t Dd σ H
/-- seen from the start of the block -/
structure DSA [Wd] (X : Cx) (E : XK) (C : Cf) (Γ : List SK) (i : Nat) (fbs : List (Env → Res D)) (sts : List Stmt) (Γn : List SK) (f : Env → Res Out) : Prop where
  ex : ∃ t : TS, PSs X sts t ∧ ∀ (I0 : Addr → Prop) (H0 : Hp) (σ0 : L2.St) I S ρ σ H Dd (a : Addr) (xs : List V), Gr I0 H0 I H → Mk C.M σ0 σ → ER X.K I Γ ρ σ H S → H0 a = none → σ[i]? = some (some (.ref a)) → H a = some (.lst xs) → ¬ I a → ¬ SU S a → xs.length ≤ sizeLine →
    Paired (LivV X Γ ρ H) xs (fbs.map fun f => f ρ) → PX X.K X.mg E I0 H0 (SU S) (SPo X.K C Γn σ0 I0 H0 S Dd) (f ρ) → t Dd σ H
theorem dsa_end {st : Stmt} {rest : List Stmt} {f g : Env → Res Out} (h1 : DSJ X E C Γ i fbs st Γ1 f) (h2 : DS X E C Γ1 rest Γn g) : DSA X E C Γ i fbs (st :: rest) Γn (sSeq f g) := by
  obtain ⟨t, p, q⟩ := h1.ex
  obtain ⟨u, p2, q2⟩ := h2.ex
  refine ⟨_, pss_cons p p2, fun I0 H0 σ0 I S ρ σ H Dd a xs g0 mk R ha hσ hl hI hS hz hp h => ?_⟩
  have gr : Gr I0 H0 (fz I [a]) H := g0.fz fun b m => by rw [List.mem_singleton.mp m]; exact ⟨ha, by rw [hl]; exact fun z => nomatch z⟩
  have l : Later I H (fz I [a]) H := ⟨fun _ z => .inl z, fun _ _ _ e _ => e, fun _ _ e _ => e⟩
  have R' : ER X.K (fz I [a]) Γ ρ σ H S := ⟨fun j k e => (R.slot j k e).mono l fun _ _ _ e _ => e, R.sd, R.dis, R.nod, fun j b m z => z.elim (R.nI j b m) fun z => hS (by rw [← List.mem_singleton.mp z]; exact ⟨j, m⟩), fun b z => z.elim (R.tr b) fun z => by rw [List.mem_singleton.mp z, hl]; exact (fun z => nomatch z), R.lr, R.ls, R.tb⟩
  have ev : Evo I0 H0 (SU S) (fz I [a]) H (SU S) := by
    refine ⟨gr.sub, fun b z => (gr.new b z).imp id fun z => ⟨.inr z.1, z.2⟩, fun b o e _ n => gr.kp b o e n, fun b z => ⟨.inl z, R.trk b z⟩, fun _ z => gr.there z, gr.tab⟩
  have J : LvJ X Γ i fbs (fz I [a]) ρ σ H := ⟨a, xs, hσ, .inr (List.mem_singleton.mpr rfl), hl, hz, hp.imp fun _ _ z => z.later l⟩
  have h' := PX.later (P' := SPo X.K C Γn σ (fz I [a]) H S Dd) h ev fun o _ z => z.later ev mk
  refine q _ S ρ σ H _ R' J (PX.imp (PX.bnd (f := fun o => match o with | .nx ρ => g ρ | o => .ok o) h') fun o _ ⟨e, h⟩ => ?_)
  cases o with
  | nx ρ1 => exact fun I' H' S' σ' ev R' m => q2 I' S' ρ1 σ' H' Dd R' (PX.later h ev fun o _ z => z.later ev m)
  | rt d ρ1 => exact h
  | bk ρ1 => exact h
  | ct ρ1 => exact h
theorem dsa_one {st : Stmt} {f : Env → Res Out} (h1 : DSJ X E C Γ i fbs st Γn f) : DSA X E C Γ i fbs [st] Γn f := by
  obtain ⟨t, p, q⟩ := h1.ex
  refine ⟨_, pss_one p, fun I0 H0 σ0 I S ρ σ H Dd a xs g0 mk R ha hσ hl hI hS hz hp h => ?_⟩
  have gr : Gr I0 H0 (fz I [a]) H := g0.fz fun b m => by rw [List.mem_singleton.mp m]; exact ⟨ha, by rw [hl]; exact fun z => nomatch z⟩
  have l : Later I H (fz I [a]) H := ⟨fun _ z => .inl z, fun _ _ _ e _ => e, fun _ _ e _ => e⟩
  have R' : ER X.K (fz I [a]) Γ ρ σ H S := ⟨fun j k e => (R.slot j k e).mono l fun _ _ _ e _ => e, R.sd, R.dis, R.nod, fun j b m z => z.elim (R.nI j b m) fun z => hS (by rw [← List.mem_singleton.mp z]; exact ⟨j, m⟩), fun b z => z.elim (R.tr b) fun z => by rw [List.mem_singleton.mp z, hl]; exact (fun z => nomatch z), R.lr, R.ls, R.tb⟩
  have ev : Evo I0 H0 (SU S) (fz I [a]) H (SU S) := by
    refine ⟨gr.sub, fun b z => (gr.new b z).imp id fun z => ⟨.inr z.1, z.2⟩, fun b o e _ n => gr.kp b o e n, fun b z => ⟨.inl z, R.trk b z⟩, fun _ z => gr.there z, gr.tab⟩
  have J : LvJ X Γ i fbs (fz I [a]) ρ σ H := ⟨a, xs, hσ, .inr (List.mem_singleton.mpr rfl), hl, hz, hp.imp fun _ _ z => z.later l⟩
  exact q _ S ρ σ H _ R' J (PX.later (P' := SPo X.K C Γn σ (fz I [a]) H S Dd) h ev fun o _ z => z.later ev mk)
theorem Paired.snoc {α β : Type} {F : α → β → Prop} {l : List α} {m : List β} {a : α} {b : β} (h : Paired F l m) (f : F a b) : Paired F (l ++ [a]) (m ++ [b]) := by
  induction h with
  | nil => exact .cons f .nil
  | cons a r ih => exact .cons a ih
/-- calls.append(lambda ..) -/
theorem dsa_app {c P : Addr} {params : Arguments} {body : Expr} {scope : Scope} {fb : Env → Res D} {x : Str} {xp lp ap cp : Pos} {rest : List Stmt} {g : Env → Res Out} (hN : X.N[i]? = some x) (hv : Vis X.env.scope x) (M : LamM X c P) (L : LivC X Γ params body scope fb)
    (h : DSA X E C Γ i (fbs ++ [fb]) rest Γn g) (hlim : fbs.length < 16777216 := by exact Nat.le_of_ble_eq_true rfl) (hdef : defaultsOf params X.env = ([], []) := by rfl) (hd : (x == ("__debug__" : Str)) = false := by decide) (hcd : (x == ("__classdict__" : Str)) = false := by decide)
    (hs : swapsWith (.Call (.Attribute (.Name x xp) "append" ap) [.Lambda params body scope lp] [] cp) none pos.line X.env = pure false := by rfl) (hbase : attributeBase (.Name x xp) "append" X.env (eval (.Name x xp) X.env) = eval (.Name x xp) X.env := by rfl)
    (hfew : ((backTo cp (starEach [.Lambda params body scope lp] X.env)).all (fun x => !x.1) && (backToKw cp (keywordEach [] X.env)).all (fun x => x.1.isSome)
      && decide ([Expr.Lambda params body scope lp].length + ([] : List Keyword).length + (if ([] : List Keyword).isEmpty then 0 else 1) < 30)) = true := by rfl)
    (hline : (ap.endLine == cp.line) = true := by rfl) (hst : starEach [.Lambda params body scope lp] X.env = (false, eval (.Lambda params body scope lp) X.env) :: starEach [] X.env := by rfl) :
    DSA X E C Γ i fbs (.Expr (.Call (.Attribute (.Name x xp) "append" ap) [.Lambda params body scope lp] [] cp) pos :: rest) Γn g := by
  obtain ⟨t, p, q⟩ := h.ex
  refine ⟨_, pss_cons (ps_expr (pe_bm PySem.F.plainAttrs_list PySem.F.slot_list_append PySem.F.type_list_append mt_append (pe_var hN hv hd hcd) (pa_cons (pe_lamK M L.ls hdef) pa_nil hst) hbase hfew hline hst) hs) p, fun I0 H0 σ0 I S ρ σ H Dd a xs g0 mk R ha hσ hl hI hS hz hp hh => ?_⟩
  refine ⟨.ref a, hσ, .inl ⟨rfl, _, .inl (.inl hl)⟩, R.tb, fun f H1 gl la => ?_⟩
  have hl1 : H1 a = some (.lst xs) := (gl I).kp a _ hl fun _ z => nomatch z
  have hlen : xs.length < sizeLine := by
    have := hp.length
    rw [List.length_map] at this
    rw [this, sizeLine_eq]; exact hlim
  refine ⟨a, xs, .ref f, rfl, rfl, hl1, hlen, ?_⟩
  have g1 : Gr I H I H1 := gl I
  have nf : f ≠ a := fun z => by
    obtain ⟨c', pm, ctv, e1, e2⟩ := la
    rw [z, hl1] at e1
    cases e1
  have l2 : Later I H1 I (upd H1 a (.lst (xs ++ [.ref f]))) := ⟨fun _ z => z, fun b o ib e _ => by rw [upd_ne fun z => hI (by rw [← z]; exact ib)]; exact e, fun b o e fx => by
    rw [upd_ne fun z => ?_]
    · exact e
    · rw [z, hl1] at e
      cases e
      rcases fx with ⟨_, z⟩ | ⟨_, z⟩ | ⟨_, _, z⟩ <;> cases z⟩
  have R1 := R.grow g1
  have R2 : ER X.K I Γ ρ σ (upd H1 a (.lst (xs ++ [.ref f]))) S := ⟨fun j k e => (R1.slot j k e).mono l2 fun b m o e _ => by rw [upd_ne fun z => hS (by rw [← z]; exact ⟨j, m⟩)]; exact e, R1.sd, R1.dis, R1.nod, R1.nI, fun b z => by rw [upd_ne fun z' => hI (by rw [← z']; exact z)]; exact R1.tr b z, R1.lr, R1.ls, R1.tb.nod (.inl ⟨_, hl1⟩)⟩
  have g2 : Gr I0 H0 I (upd H1 a (.lst (xs ++ [.ref f]))) := by
    have g01 := g0.trans g1
    refine ⟨g01.sub, fun b z => (g01.new b z).imp id fun z => ⟨z.1, ?_⟩, fun b o e n => ?_, fun {b} z => ?_, fun t => (g01.tab t).nod (.inl ⟨_, hl1⟩)⟩
    · by_cases hb : b = a
      · rw [hb, upd_same]; exact fun z => nomatch z
      · rw [upd_ne hb]; exact z.2
    · rw [upd_ne fun z => by rw [z, ha] at e; cases e]; exact g01.kp b o e n
    · rw [upd_ne fun z' => z (by rw [z']; exact ha)]; exact g01.there z
  refine q I0 H0 σ0 I S ρ σ _ Dd a _ g2 mk R2 ha hσ upd_same hI hS (by rw [List.length_append]; exact hlen) ?_ hh
  rw [List.map_append]
  exact Paired.snoc (hp.imp fun _ _ z => (z.later g1.later).later l2) ⟨f, params, body, scope, fb, rfl, rfl, L, la.later l2⟩
/-- calls = [lambda ..] -/
theorem ds_lams {c P : Addr} {params : Arguments} {body : Expr} {scope : Scope} {fb : Env → Res D} {x : Str} {p2 lp ep : Pos} {rest : List Stmt} {g : Env → Res Out} (hi0 : Γ[i]? = some .no) (hN : X.N.Nodup) (hi : X.N[i]? = some x) (hx : Loc X.env.scope x) (M : LamM X c P) (L : LivC X Γ params body scope fb)
    (h : DSA X E C Γ i [fb] rest Γn g) (hM : i ∉ C.M := by decide) (hdef : defaultsOf params X.env = ([], []) := by rfl) (hst : starEach [.Lambda params body scope lp] X.env = (false, eval (.Lambda params body scope lp) X.env) :: starEach [] X.env := by rfl)
    (hs : swapsWith (.List [.Lambda params body scope lp] ep) (some (.Name x p2)) pos.line X.env = pure false := by rfl) (hf : X.fn x = true ∨ X.env.scope.names.lookup x = some .local := by first | exact .inl rfl | exact .inr rfl | assumption) :
    DS X E C Γ (.Assign [.Name x p2] (.List [.Lambda params body scope lp] ep) pos :: rest) Γn g := by
  obtain ⟨t, p, q⟩ := h.ex
  refine ⟨_, pss_cons (ps_set hN hi hx (pe_lst (pa_cons (pe_lamK M L.ls hdef) pa_nil hst)) hs hf) p, fun I S ρ σ H Dd R hh => ?_⟩
  refine ⟨R.tb, fun f H1 gl la => ⟨by rw [sizeLine_eq]; exact Nat.le_of_ble_eq_true rfl, fun a ha => ?_⟩⟩
  have g1 : Gr I H I H1 := gl I
  have g2 : Gr I H I (upd H1 a (.lst [.ref f])) := g1.trans (.lay ha)
  have R2 := R.grow g2
  have hlt : i < σ.length := by rw [R.ls]; exact (List.getElem?_eq_some_iff.mp hi0).1
  have R3 : ER X.K I Γ ρ (σ.set i (some (.ref a))) (upd H1 a (.lst [.ref f])) S := ⟨fun j k e => by
    by_cases hj : j = i
    · subst hj
      rw [hi0] at e
      cases e
      trivial
    · rw [List.getElem?_set_ne (Ne.symm hj)]
      exact R2.slot j k e, R2.sd, R2.dis, R2.nod, R2.nI, R2.tr, R2.lr, by rw [List.length_set]; exact R2.ls, R2.tb⟩
  have hI : ¬ I a := fun z => (R.grow g1).tr a z ha
  have hS : ¬ SU S a := fun z => (R.grow g1).trk a z ha
  have l2 : Later I H1 I (upd H1 a (.lst [.ref f])) := (Gr.lay ha).later
  exact q I H σ I S ρ _ _ Dd a _ g2 (fun j hj => List.getElem?_set_ne (fun z : i = j => hM (by rw [z]; exact hj))) R3 (g1.free ha) (List.getElem?_set_self hlt) upd_same hI hS (by rw [sizeLine_eq]; exact Nat.le_of_ble_eq_true rfl) (.cons ⟨f, params, body, scope, fb, rfl, rfl, L, la.later l2⟩ .nil) hh
end
end DL

namespace DL
open PySem PySem.Spec PyProof.Rows L2
section
variable [Wd] {X : Cx} {E : XK} {Γ Γ1 Γ2 Γn : List SK} {pos : Pos} {C : Cf} {i : Nat} {fbs : List (Env → Res D)} {k ka : Option Nat}
/-- the list of closures, as the first argument -/
def eCs (fbs : List (Env → Res D)) : Env → Res W := fun ρ => .ok (.cs (fbs.map fun f => f ρ))
theorem dpj_fnC {kx kf n : Nat} {x y : Str} {p p2 : Pos} {es : List Expr} {ps : List Str} {kws : List (List Str × List Nat)} {Γp : List SK} {m : List W → Res W} {gs : Env → Res (List W)} (F : Dfn X.prog X.w X.K X.mg X.base kf x ps kws (spC X.K X.mg (.cls :: Γp) (.da n) m)) (c : Cz X E kx) (N : InW X) (hfn : ∀ x, X.fn x = true) (hkc : 0 < Wd.kc) (hg : Gl X x)
    (hN : X.N[i]? = some y) (hv : Vis X.env.scope y) (ha : DAC X E Γ es Γp gs) (hk : kf ≤ kx := by decide) (hdb : (x == ("__debug__" : Str)) = false := by decide) (hd : (y == ("__debug__" : Str)) = false := by decide) (hcd : (y == ("__classdict__" : Str)) = false := by decide)
    (he : starEach (.Name y p2 :: es) X.env = (false, eval (.Name y p2) X.env) :: starEach es X.env := by rfl) (hpl : (backTo pos (starEach es X.env)).any (·.1) = false := by rfl) : DPJ X E Γ i fbs (.Call (.Name x p) (.Name y p2 :: es) [] pos) (some n) (dNC m (wCons (eCs fbs) gs)) := by
  obtain ⟨fd, G, b, _⟩ := F.ex
  obtain ⟨ta, pa, qa⟩ := ha.ex
  refine ⟨_, pe_callC (Γ := Γ) G c hk N hfn hkc (.inl ⟨n, rfl⟩) hg F.mg F.kp b (pa_cons (pe_var hN hv hd hcd) pa he) hdb he hpl, fun I S ρ σ H Q R J h => ?_⟩
  obtain ⟨a, xs, e1, e2, e3, e4, pp⟩ := J
  have h : PX X.K X.mg E I H (SU S) (PV X I H (some n) Q) ((gs ρ >>= fun ws => .ok (W.cs (fbs.map fun f => f ρ) :: ws)) >>= fun ws => m ws >>= unD) := h
  refine ⟨.ref a, e1, qa I S ρ σ H _ R ?_⟩
  cases e5 : gs ρ with
  | bad => rw [e5] at h; exact h.elim
  | exc c d => rw [e5] at h; exact h
  | ok ws =>
    rw [e5] at h
    have h : PX X.K X.mg E I H (SU S) (PV X I H (some n) Q) (m (W.cs (fbs.map fun f => f ρ) :: ws) >>= unD) := h
    intro vs I1 H1 g1 ar
    have ar2 : Args X Γ ρ I1 H1 (.cls :: Γp) (.ref a :: vs) (W.cs (fbs.map fun f => f ρ) :: ws) := .cons (ArgR.grow (.inr (.inr ⟨rfl, a, xs, _, rfl, rfl, e2, e3, e4, pp⟩)) g1) ar
    refine ⟨I1, S, ρ, _, R.grow g1, ar2, ?_⟩
    have h1 := PX.later h (g1.evo R.trk) fun d _ (z : PV X I H (some n) Q d) => z
    refine PX.imp (PX.bnd h1) fun w _ ⟨e2, h2⟩ => ?_
    intro v I' H' T g sl nw hT
    obtain ⟨v', d, e3, e4, o⟩ := sl
    cases e3
    cases e4
    exact h2 v I' H' T (g1.trans g) o (nw.ahead g1)
theorem dpj_and {a b : Expr} {rest : List Expr} {f g : Env → Res D} (ha : DPJ X E Γ i fbs a ka f) (hb : DP X E Γ (.BoolOp .And (b :: rest) pos) k g) : DPJ X E Γ i fbs (.BoolOp .And (a :: b :: rest) pos) k (dAndV f g) := by
  obtain ⟨ta, pa, qa⟩ := ha.ex
  obtain ⟨tb, pb, qb⟩ := hb.ex
  refine ⟨_, pe_and pa pb, fun I S ρ σ H Q R J h => ?_⟩
  unfold dAndV at h
  rw [asB_bnd] at h
  refine qa I S ρ σ H _ R J (PX.imp (PX.bnd h) fun d _ ⟨e1, h1⟩ v I1 H1 T1 g1 w1 n1 => ?_)
  have R1 := R.grow g1
  cases d with
  | bool c =>
    refine ⟨c, w1.rt.bool, ?_⟩
    cases c with
    | true => exact qb I1 S ρ σ H1 _ R1 (PX.later h1 (g1.evo R.trk) fun b _ h v I' H' T g vr nw => h v I' H' T (g1.trans g) vr (nw.ahead g1))
    | false => exact h1 _ I1 H1 [] g1 ((At.bl false).vr k) .nil
  | _ => exact h1.elim
theorem dtj_val {e : Expr} {f : Env → Res D} (h : DPJ X E Γ i fbs e k f) (he : ∀ whole, isTrue e X.env whole = (do let v ← whole; standAt e.pos; holding [v] (truthy v)) := by intro _; rfl) : DTJ X E Γ i fbs e (tVal f) := by
  obtain ⟨t, p, q⟩ := h.ex
  refine ⟨_, pt_val p he, fun I S ρ σ H Q R J h => ?_⟩
  refine q I S ρ σ H _ R J (PX.imp (PX.bnd h) fun d _ ⟨e1, h1⟩ v I1 H1 T1 g1 w1 n1 => ?_)
  cases d with
  | bool b => exact ⟨b, w1.rt.bool, h1 I1 H1 g1⟩
  | _ => exact h1.elim
theorem dtj_not {e : Expr} {f : Env → Res Bool} (h : DTJ X E Γ i fbs e f) : DTJ X E Γ i fbs (.UnaryOp .Not e pos) (tNotD f) := by
  obtain ⟨t, p, q⟩ := h.ex
  exact ⟨_, pt_not p, fun I S ρ σ H Q R J h => q I S ρ σ H _ R J (PX.imp (PX.bnd h) fun b _ ⟨e, h1⟩ I1 H1 g => h1 I1 H1 g)⟩
theorem dsj_ret {e : Expr} {f : Env → Res D} (he : DPJ X E Γ i fbs e (some C.kr) f) (hl : lessG Γ C.Gr = true := by rfl) : DSJ X E C Γ i fbs (.Return (some e) pos) Γn (sRet (lift f)) := by
  obtain ⟨t, p, q⟩ := he.ex
  refine ⟨_, ps_ret p, fun I S ρ σ H Dd R J h => ?_⟩
  have h : PX X.K X.mg E I H (SU S) (SPo X.K C Γn σ I H S Dd) (f ρ >>= fun d => .ok (.rt d ρ)) := by
    have h : PX X.K X.mg E I H (SU S) (SPo X.K C Γn σ I H S Dd) ((f ρ >>= fun d => .ok (d, ρ)) >>= fun p => .ok (Out.rt p.1 p.2)) := h
    cases e : f ρ with
    | bad => rw [e] at h; exact h
    | exc c d => rw [e] at h; exact h
    | ok d => rw [e] at h; exact h
  refine q I S ρ σ H _ R J (PX.imp (PX.bnd h) fun d _ ⟨e1, h1⟩ v I1 H1 T g1 vr nw => ?_)
  have R1 := R.grow g1
  have vr : Ow X.K I1 H1 C.kr T v d := vr
  refine h1 _ H1 (keepS C.Gr S) σ v T (evo_keep R1 (g1.evo R.trk) fun a m => ⟨.inr (nw.free a m), (vr.nod a m).ne⟩) (R1.less hl) .refl (vr.mono (fun _ z => .inl z) (fun _ _ _ e _ => e) fun _ _ _ e _ => e) (fun a m => ⟨fun z => ?_, fun ⟨j, mj⟩ => ?_⟩) nw.nod
  · rcases z with z | ⟨j, _, mj⟩
    · exact nw.nI a m z
    · exact R.trk a ⟨j, mj⟩ (nw.free a m)
  · exact R.trk a ⟨j, (keepS_of mj).1⟩ (nw.free a m)
theorem dsj_if {c : Expr} {a b : List Stmt} {fc : Env → Res Bool} {f g : Env → Res Out} (hc : DTJ X E Γ i fbs c fc) (ha : DS X E C Γ a Γn f) (hb : DS X E C Γ b Γn g) : DSJ X E C Γ i fbs (.If c a b pos) Γn (sIf fc f g) := by
  obtain ⟨t, p, q⟩ := hc.ex
  obtain ⟨ta, pa, qa⟩ := ha.ex
  obtain ⟨tb, pb, qb⟩ := hb.ex
  refine ⟨_, ps_if p pa pb, fun I S ρ σ H Dd R J h => ?_⟩
  refine q I S ρ σ H _ R J (PX.imp (PX.bnd h) fun b _ ⟨e1, h1⟩ I1 H1 g1 => ?_)
  have R1 := R.grow g1
  have e := g1.evo (S := SU S) R.trk
  cases b with
  | true => exact qa I1 S ρ σ H1 Dd R1 (PX.later h1 e fun o _ z => z.later e .refl)
  | false => exact qb I1 S ρ σ H1 Dd R1 (PX.later h1 e fun o _ z => z.later e .refl)
end
end DL

namespace DL
open PySem PySem.Spec PyProof.Rows L2
section
variable [Wd] {X : Cx} {E : XK} {Γ Γn : List SK} {pos : Pos} {C : Cf}
/-- an expression of any kind whose value needs no frame -/
structure DES [Wd] (X : Cx) (E : XK) (Γ : List SK) (e : Expr) (k : SK) (f : Env → Res W) : Prop where
  ex : ∃ t : TE, PE X e t ∧ ∀ I S ρ σ H Q, ER X.K I Γ ρ σ H S → PX X.K X.mg E I H (SU S) (fun w => ∀ v I' H', Gr I H I' H' → SlotR X.K I' H' k [] (some (some v)) (some w) → Q v H') (f ρ) → t σ H Q
theorem DES.de {e : Expr} {k : SK} {f : Env → Res W} (h : DES X E Γ e k f) : DE X E Γ e k f := by
  obtain ⟨t, p, q⟩ := h.ex
  exact ⟨t, p, fun I S ρ σ H Q R h => q I S ρ σ H Q R (PX.imp h fun w _ h v I' H' g sl => h v I' H' g (.inl sl))⟩
def ArgsS (K : PySem.W.Frag) (I : Addr → Prop) (H : Hp) (Γp : List SK) (vs : List V) (ws : List W) : Prop := vs.length = Γp.length ∧ ws.length = Γp.length ∧ ∀ (i : Nat) (k : SK), Γp[i]? = some k → SlotR K I H k [] (vs[i]?.map some) ws[i]?
theorem ArgsS.nil {K : PySem.W.Frag} {I : Addr → Prop} {H : Hp} : ArgsS K I H [] [] [] := ⟨rfl, rfl, fun i k e => by simp at e⟩
theorem ArgsS.cons {K : PySem.W.Frag} {I : Addr → Prop} {H : Hp} {k : SK} {Γp : List SK} {v : V} {vs : List V} {w : W} {ws : List W} (h : SlotR K I H k [] (some (some v)) (some w)) (r : ArgsS K I H Γp vs ws) : ArgsS K I H (k :: Γp) (v :: vs) (w :: ws) := by
  refine ⟨congrArg Nat.succ r.1, congrArg Nat.succ r.2.1, fun i k' e1 => ?_⟩
  cases i with
  | zero => cases Option.some.inj e1; exact h
  | succ i => exact r.2.2 i k' (by simpa using e1)
structure DAS [Wd] (X : Cx) (E : XK) (Γ : List SK) (es : List Expr) (Γp : List SK) (f : Env → Res (List W)) : Prop where
  ex : ∃ t : TA, PA X es t ∧ ∀ I S ρ σ H Q, ER X.K I Γ ρ σ H S → PX X.K X.mg E I H (SU S) (fun ws => ∀ vs I' H', Gr I H I' H' → ArgsS X.K I' H' Γp vs ws → Q vs H') (f ρ) → t σ H Q
theorem das_nil : DAS X E Γ [] [] wNil := ⟨tNil, pa_nil, fun I S ρ σ H Q R h => h [] I H .refl .nil⟩
theorem das_cons {e : Expr} {es : List Expr} {k : SK} {Γp : List SK} {f : Env → Res W} {gs : Env → Res (List W)} (ha : DES X E Γ e k f) (hb : DAS X E Γ es Γp gs) (hs : starEach (e :: es) X.env = (false, eval e X.env) :: starEach es X.env := by rfl) : DAS X E Γ (e :: es) (k :: Γp) (wCons f gs) := by
  obtain ⟨ta, pa, qa⟩ := ha.ex
  obtain ⟨tb, pb, qb⟩ := hb.ex
  refine ⟨_, pa_cons pa pb hs, fun I S ρ σ H Q R h => ?_⟩
  refine qa I S ρ σ H _ R (PX.imp (PX.bnd h) fun w _ ⟨e1, h1⟩ => ?_)
  intro v I1 H1 g1 r1
  refine qb I1 S ρ σ H1 _ (R.grow g1) (PX.later (PX.bnd h1) (g1.evo R.trk) fun ws _ ⟨e2, h2⟩ => ?_)
  intro vs I2 H2 g2 r2
  exact h2 (v :: vs) I2 H2 (g1.trans g2) (.cons (r1.mono g2.later fun a m => nil_nm m) r2)
theorem des_d {e : Expr} {n : Nat} {f : Env → Res D} (h : DP X E Γ e (some n) f) : DES X E Γ e (.da 0) (eD f) := by
  obtain ⟨t, p, q⟩ := h.ex
  refine ⟨t, p, fun I S ρ σ H Q R h => q I S ρ σ H Q R (PX.imp (PX.bnd h) fun d _ ⟨_, h⟩ => ?_)⟩
  intro v I' H' T g vr nw
  have vr : Ow X.K I' H' n T v d := vr
  exact h v (fz I' T) H' (g.fz fun a m => ⟨nw.free a m, (Ow.nod vr a m).ne⟩) ⟨v, d, rfl, rfl, .sh (Ow.rp (fun _ z => .inl z) vr fun a m => .inr m)⟩
theorem des_var {i : Nat} {k : SK} {x : Str} (hN : X.N[i]? = some x) (hv : Vis X.env.scope x) (hk : Γ[i]? = some k) (hd : (∀ n, k ≠ .da n) ∧ k ≠ .no) (hdb : (x == ("__debug__" : Str)) = false := by decide) (hcd : (x == ("__classdict__" : Str)) = false := by decide) : DES X E Γ (.Name x pos) k (eVar i) := by
  refine ⟨tVar i, pe_var hN hv hdb hcd, fun I S ρ σ H Q R h => ?_⟩
  have sl := R.slot i k hk
  have key : ∀ (v : V) (w : W), σ[i]? = some (some v) → ρ[i]? = some w → SlotR X.K I H k [] (some (some v)) (some w) → tVar i σ H Q := fun v w e1 e2 r => by
    unfold eVar at h
    rw [e2] at h
    exact ⟨v, e1, h v I H .refl r⟩
  cases k with
  | no => exact absurd rfl hd.2
  | da n => exact absurd rfl (hd.1 n)
  | cl => obtain ⟨v, g, e1, e2, r⟩ := sl; exact key v _ e1 e2 ⟨v, g, rfl, rfl, r⟩
  | cls => obtain ⟨v, g, e1, e2, r⟩ := sl; exact key v _ e1 e2 ⟨v, g, rfl, rfl, r⟩
  | er => obtain ⟨v, g, e1, e2, r⟩ := sl; exact key v _ e1 e2 ⟨v, g, rfl, rfl, r⟩
  | fn => obtain ⟨v, g, e1, e2, r⟩ := sl; exact key v _ e1 e2 ⟨v, g, rfl, rfl, r⟩
  | sc => obtain ⟨v, g, e1, e2, r⟩ := sl; exact key v _ e1 e2 ⟨v, g, rfl, rfl, r⟩
variable {kx kf n : Nat} {x : Str} {p : Pos} {e : Expr} {es : List Expr} {ps : List Str} {kws : List (List Str × List Nat)} {Γp : List SK} {kk : SK} {m : List W → Res W} {gs : Env → Res (List W)}
theorem callS {t : TA} {fd : FuncData} (F : FnG X.prog X.w X.K X.mg X.base kf (He.ga X.K x) fd ps (spC X.K X.mg Γp kk m)) (c : Cz X E kx) (hg : Gl X x) (hm : X.mg x = some (.ref (He.ga X.K x))) (hkp : PySem.W.keepIn X.K (.ref (He.ga X.K x)) = true) (hb : Binds X.K fd ps [])
    (pa : PA X (e :: es) t) (hk : kf ≤ kx := by decide) (hdb : (x == ("__debug__" : Str)) = false := by decide)
    (he : starEach (e :: es) X.env = (false, eval e X.env) :: starEach es X.env := by rfl) (hpl : (backTo pos (starEach es X.env)).any (·.1) = false := by rfl) : PE X (.Call (.Name x p) (e :: es) [] pos) (fun σ H Q => t σ H fun vs H1 => spC X.K X.mg Γp kk m vs H1 Q E) :=
  pe_callG F (c.hr.mono hk) c.gd hg hm hkp hb c.px pa hdb he hpl
theorem dp_fnS (F : Dfn X.prog X.w X.K X.mg X.base kf x ps kws (spC X.K X.mg Γp (.da n) m)) (c : Cz X E kx) (hg : Gl X x) (ha : DAS X E Γ (e :: es) Γp gs) (hk : kf ≤ kx := by decide) (hdb : (x == ("__debug__" : Str)) = false := by decide)
    (he : starEach (e :: es) X.env = (false, eval e X.env) :: starEach es X.env := by rfl) (hpl : (backTo pos (starEach es X.env)).any (·.1) = false := by rfl) : DP X E Γ (.Call (.Name x p) (e :: es) [] pos) (some n) (dNC m gs) := by
  obtain ⟨fd, G, b, _⟩ := F.ex
  obtain ⟨ta, pa, qa⟩ := ha.ex
  refine ⟨_, callS G c hg F.mg F.kp b pa hk hdb he hpl, fun I S ρ σ H Q R h => ?_⟩
  refine qa I S ρ σ H _ R (PX.imp (PX.bnd h) fun ws _ ⟨e1, h1⟩ => ?_)
  intro vs I1 H1 g1 ar
  have R1 := R.grow g1
  refine ⟨I1, ws, R1.tr, R1.tb, ar.1, ar.2.1, ar.2.2, ?_⟩
  have h1 := PX.later (P' := PV X I H (some n) Q) h1 (g1.evo (S := SU S) R.trk) fun d _ z => z
  refine PX.imp ?_ fun w _ h2 => h2
  cases e3 : m ws with
  | bad => rw [e3] at h1; exact h1.elim
  | exc cl d => rw [e3] at h1; exact WX.less h1 fun _ z => z.elim
  | ok w =>
    rw [e3] at h1
    intro v I' H' T g sl nw hT
    obtain ⟨v', d, e4, e5, o⟩ := sl
    cases e4
    cases e5
    exact h1 v I' H' T (g1.trans g) o (nw.ahead g1)
theorem des_fnS (F : Dfn X.prog X.w X.K X.mg X.base kf x ps kws (spC X.K X.mg Γp kk m)) (c : Cz X E kx) (hg : Gl X x) (hkk : ∀ n, kk ≠ .da n) (ha : DAS X E Γ (e :: es) Γp gs) (hk : kf ≤ kx := by decide) (hdb : (x == ("__debug__" : Str)) = false := by decide)
    (he : starEach (e :: es) X.env = (false, eval e X.env) :: starEach es X.env := by rfl) (hpl : (backTo pos (starEach es X.env)).any (·.1) = false := by rfl) : DES X E Γ (.Call (.Name x p) (e :: es) [] pos) kk (eNC m gs) := by
  obtain ⟨fd, G, b, _⟩ := F.ex
  obtain ⟨ta, pa, qa⟩ := ha.ex
  refine ⟨_, callS G c hg F.mg F.kp b pa hk hdb he hpl, fun I S ρ σ H Q R h => ?_⟩
  refine qa I S ρ σ H _ R (PX.imp (PX.bnd h) fun ws _ ⟨e1, h1⟩ => ?_)
  intro vs I1 H1 g1 ar
  have R1 := R.grow g1
  refine ⟨I1, ws, R1.tr, R1.tb, ar.1, ar.2.1, ar.2.2, ?_⟩
  cases e3 : m ws with
  | bad => rw [e3] at h1; exact h1.elim
  | exc cl d => rw [e3] at h1; exact (WX.later h1 (g1.evo (S := SU S) R.trk)).less fun _ z => z.elim
  | ok w =>
    rw [e3] at h1
    intro v I' H' T g sl nw hT
    have e0 : T = [] := by
      cases T with
      | nil => rfl
      | cons a T => obtain ⟨n, z⟩ := hT a List.mem_cons_self; exact absurd z (hkk n)
    rw [e0] at sl
    exact h1 v I' H' (g1.trans g) sl
structure WkC [Wd] (J : It) (I : Addr → Prop) (H : Hp) (gs : List (Res D)) : Prop where
  go : ∀ i I1 H1, i < gs.length → Later I H I1 H1 → J.go i H1
  stop : ∀ I1 H1, Later I H I1 H1 → J.stop gs.length H1
  yld : ∀ i g I1 H1 x H', gs[i]? = some g → Later I H I1 H1 → J.yld i H1 x H' → ∃ I', Gr I1 H1 I' H' ∧ CloT I' H' x g
  len : gs.length ≤ sizeLine
structure DIC [Wd] (X : Cx) (E : XK) (Γ : List SK) (tg iter : Expr) (f : Env → Res (List (Res D))) : Prop where
  ex : ∃ wi : TI, PI X tg iter wi ∧ ∀ I S ρ σ H R, ER X.K I Γ ρ σ H S → PX X.K X.mg E I H (SU S) (fun gs => ∀ J I' H', Gr I H I' H' → WkC J I' H' gs → R J H') (f ρ) → wi σ H R
def iCls (i : Nat) : Env → Res (List (Res D)) := fun ρ => match ρ[i]? with
  | some (.cs gs) => .ok gs
  | _ => .bad
theorem _root_.PySem.Paired.at {α β : Type} {F : α → β → Prop} {l : List α} {m : List β} (h : Paired F l m) : ∀ {i : Nat} {b : β}, m[i]? = some b → ∃ a, l[i]? = some a ∧ F a b := by
  induction h with
  | nil => intro i b e; simp at e
  | cons a r ih =>
    intro i b e
    cases i with
    | zero => cases Option.some.inj e; exact ⟨_, rfl, a⟩
    | succ i => exact ih (by simpa using e)
theorem dic_var {i : Nat} {y : Str} {tg : Expr} (hN : X.N[i]? = some y) (hv : Vis X.env.scope y) (hk : Γ[i]? = some .cls) (hd : (y == ("__debug__" : Str)) = false := by decide) (hcd : (y == ("__classdict__" : Str)) = false := by decide) : DIC X E Γ tg (.Name y pos) (iCls i) := by
  refine ⟨_, pi_list (pe_var hN hv hd hcd), fun I S ρ σ H Rr R h => ?_⟩
  obtain ⟨v, gs, e1, e2, a, xs, rfl, ia, hh, hz, pp⟩ := R.slot i _ hk
  unfold iCls at h
  rw [e2] at h
  refine ⟨_, e1, _, rfl, ⟨_, .inl (.inl hh)⟩, h _ I H .refl ⟨fun i I1 H1 hi l => ?_, fun I1 H1 l => ⟨xs, .inl (.inl (l.shr a _ ia hh fun _ z => nomatch z)), Nat.le_of_eq pp.length⟩, fun i g I1 H1 x H' e l y => ?_, by rw [← pp.length]; exact hz⟩⟩
  · obtain ⟨v, e, _⟩ := pp.at (List.getElem?_eq_getElem hi)
    exact ⟨xs, v, .inl (.inl (l.shr a _ ia hh fun _ z => nomatch z)), e⟩
  · obtain ⟨e1, y⟩ := y
    subst e1
    obtain ⟨v, e2, rv⟩ := pp.at e
    have e3 := y xs (.inl (.inl (l.shr a _ ia hh fun _ z => nomatch z)))
    rw [e2] at e3
    cases e3
    exact ⟨I1, .refl, rv.mono l⟩
def compC (j : Nat) (c : Env → Res Bool) (e : Env → Res D) (ρ : Env) : List (Res D) → Res (List D)
  | [] => .ok []
  | g :: r => c (ρ.set j (.c g)) >>= fun b => if b = true then e (ρ.set j (.c g)) >>= fun y => compC j c e ρ r >>= fun ys => .ok (y :: ys) else compC j c e ρ r
def dCompC (it : Env → Res (List (Res D))) (j : Nat) (c : Env → Res Bool) (e : Env → Res D) : Env → Res D := fun ρ => it ρ >>= fun xs => (compC j c e ρ xs).nox >>= fun ys => .ok (.list ys)
theorem compCQ {wi : TI} {tt : TT} {te : TE} {vs : List Nat} {j : Nat} {fi : Env → Res (List (Res D))} {fc : Env → Res Bool} {fe : Env → Res D} {K : PySem.W.Frag} {mg : Str → Option Value} {E0 : XK}
    (qi : ∀ I S ρ σ H R, ER K I Γ ρ σ H S → PX K mg E I H (SU S) (fun gs => ∀ J I' H', Gr I H I' H' → WkC J I' H' gs → R J H') (fi ρ) → wi σ H R)
    (qt : ∀ I S ρ σ H Q, ER K I ((wipeG Γ vs).set j .cl) ρ σ H S → PX K mg E0 I H (SU S) (fun b => ∀ I' H', Gr I H I' H' → Q b H') (fc ρ) → tt σ H Q)
    (qe : ∀ I S ρ σ H (Q : VK), ER K I ((wipeG Γ vs).set j .cl) ρ σ H S → PX K mg E0 I H (SU S) (fun d => ∀ v I' H' T, Gr I H I' H' → VR K I' H' (some n) T v d → New I H I' T → Q v H') (fe ρ) → te σ H Q)
    (hj : j ∈ vs) (hjl : j < Γ.length) {I : Addr → Prop} {S : Nat → List Addr} {ρ : Env} {σ : L2.St} {H : Hp} {Q : VK} (R : ER K I Γ ρ σ H S)
    (h : PX K mg E I H (SU S) (fun d => ∀ v I' H' T, Gr I H I' H' → VR K I' H' (some (n + 1)) T v d → New I H I' T → Q v H') (dCompC fi j fc fe ρ)) : tLc wi (gName j) tt te vs σ H Q := by
  refine qi I S ρ σ H _ R (PX.imp (PX.bnd h) fun ds _ ⟨e0, h⟩ => ?_)
  intro J I1 H1 g1 wk D hD
  have R1 := R.grow g1
  cases e1 : compC j fc fe ρ ds with
  | bad => rw [e1] at h; exact h.elim
  | exc _ _ => rw [e1] at h; exact h.elim
  | ok ys =>
    rw [e1] at h
    have h : ∀ v I' H' T, Gr I H I' H' → VR K I' H' (some (n + 1)) T v (.list ys) → New I H I' T → Q v H' := h
    have hDI : ¬ I1 D := fun z => R1.tr D z hD
    refine ⟨fun i m H2 => m = ds.length - i ∧ i ≤ ds.length ∧ ∃ (I2 : Addr → Prop) (acc : List V) (ds0 rest : List DL.D) (T : List Addr), Gr I1 H1 I2 H2 ∧ H2 D = some (.lst acc) ∧ ¬ I2 D ∧ OwA K I2 H2 n T acc ds0 ∧
      (∀ a ∈ T, H1 a = none ∧ ¬ I2 a ∧ a ≠ D) ∧ T.Nodup ∧ ds0.length ≤ i ∧ compC j fc fe ρ (ds.drop i) = .ok rest ∧ ds0 ++ rest = ys, ⟨ds.length, by simp, Nat.zero_le _, I1, [], [], ys, [], Gr.lay hD, upd_same, hDI, .nil, fun a m => nil_nm m, .nil, Nat.le_refl _, by simpa using e1, rfl⟩, ?_⟩
    rintro i m H2 ⟨rfl, hi, I2, acc, ds0, rest, T, g2, eD, nD, ow, fr2, nd, hl, er, ey⟩
    have R2 := R1.grow g2
    by_cases hlt : i < ds.length
    · refine .inr ⟨wk.go i I2 H2 hlt g2.later, fun H3 => i + 1 ≤ ds.length ∧ ∃ (I2 : Addr → Prop) (acc : List V) (ds0 rest : List DL.D) (T : List Addr), Gr I1 H1 I2 H3 ∧ H3 D = some (.lst acc) ∧ ¬ I2 D ∧ OwA K I2 H3 n T acc ds0 ∧
        (∀ a ∈ T, H1 a = none ∧ ¬ I2 a ∧ a ≠ D) ∧ T.Nodup ∧ ds0.length ≤ i + 1 ∧ compC j fc fe ρ (ds.drop (i + 1)) = .ok rest ∧ ds0 ++ rest = ys, fun H3 z => ⟨ds.length - (i + 1), by omega, rfl, z.1, z.2⟩, fun x H3 y => ?_⟩
      obtain ⟨I3, g3, rx⟩ := wk.yld i ds[i] I2 H2 x H3 (List.getElem?_eq_getElem hlt) g2.later y
      rw [List.drop_eq_getElem_cons hlt] at er
      unfold compC at er
      · have R3 := (R2.grow g3).wipe vs
        have hjr : j < ρ.length := by rw [R.lr]; exact hjl
        have R4 := R3.putN (i := j) (kk := .cl) (v := x) (w := .c ds[i]) hjr ⟨x, ds[i], rfl, rfl, rx⟩
        have o4 : Off [j] (L2.wipe σ vs) ((L2.wipe σ vs).set j (some x)) := ⟨List.length_set, fun l hl => List.getElem?_set_ne fun z => hl (List.mem_singleton.mpr z.symm)⟩
        have s4 : ∀ l a, a ∈ (if l = j then [] else (fun i => if i ∈ vs then [] else S i) l) → a ∈ (fun i => if i ∈ vs then [] else S i) l := fun l a m => by
          by_cases hl : l = j
          · rw [if_pos hl] at m; cases m
          · rw [if_neg hl] at m; exact m
        · refine ⟨wipe_off o4 fun l hl => by rw [List.mem_singleton.mp hl]; exact hj, ?_⟩
          generalize hρ1 : ρ.set j (.c ds[i]) = ρ1 at er R4
          generalize (L2.wipe σ vs).set j (some x) = σ4 at R4
          generalize (fun l => if l = j then [] else (fun i => if i ∈ vs then [] else S i) l) = S4 at R4
          cases e4 : fc ρ1 with
          | bad => rw [e4] at er; cases er
          | exc _ _ => rw [e4] at er; cases er
          | ok b =>
            rw [e4, Res.ok_bnd] at er
            refine qt I3 S4 ρ1 σ4 H3 _ R4 ?_
            rw [e4]
            intro I5 H5 g5
            have g25 := g3.trans g5
            have nD5 : ¬ I5 D := fun z => (g25.new D z).elim nD fun q => by rw [eD] at q; exact nomatch q.1
            have ow5 : OwA K I5 H5 n T acc ds0 := ow.mono g25.sub (fun a o _ e n => g25.kp a o e n) fun a _ o e n => g25.kp a o e n
            have fr5 : ∀ a ∈ T, H1 a = none ∧ ¬ I5 a ∧ a ≠ D := fun a m => ⟨(fr2 a m).1, fun z => (g25.new a z).elim (fr2 a m).2.1 fun q => (OwA.nod ow a m).ne q.1, (fr2 a m).2.2⟩
            cases b with
            | false => exact ⟨hlt, I5, acc, ds0, rest, T, g2.trans g25, (g25.kp D _ eD fun _ z => nomatch z), nD5, ow5, fr5, nd, Nat.le_succ_of_le hl, er, ey⟩
            | true =>
              simp only [if_true] at er ⊢
              cases e5 : fe ρ1 with
              | bad => rw [e5] at er; cases er
              | exc _ _ => rw [e5] at er; cases er
              | ok y =>
                rw [e5, Res.ok_bnd] at er
                refine qe I5 S4 ρ1 σ4 H5 _ (R4.grow g5) ?_
                rw [e5]
                intro v I6 H6 T6 g6 w6 n6
                have w6 : Ow K I6 H6 n T6 v y := w6
                cases e6 : compC j fc fe ρ (ds.drop (i + 1)) with
                | bad => rw [e6] at er; cases er
                | exc _ _ => rw [e6] at er; cases er
                | ok rest' =>
                  rw [e6] at er
                  cases er
                  have eD6 : H6 D = some (.lst acc) := g6.kp D _ (g25.kp D _ eD fun _ z => nomatch z) fun _ z => nomatch z
                  have hlen : acc.length < sizeLine := by
                    have := ow.len
                    have := wk.len
                    omega
                  refine ⟨acc, eD6, hlen, hlt, I6, acc ++ [v], ds0 ++ [y], rest', T ++ T6, ?_, upd_same, ?_, ?_, ?_, ?_, ?_, rfl, ?_⟩
                  · -- the heap has grown from H1 on
                    have g16 := (g2.trans g25).trans g6
                    refine ⟨g16.sub, fun a z => (g16.new a z).imp id fun q => ⟨q.1, ?_⟩, fun b o e n => ?_, fun {a} z => ?_, fun t => (g16.tab t).nod (.inl ⟨_, eD6⟩)⟩
                    · by_cases hb : a = D
                      · rw [hb, upd_same]; exact fun z => nomatch z
                      · rw [upd_ne hb]; exact q.2
                    · have hb : b ≠ D := fun z => by rw [z, hD] at e; cases e
                      rw [upd_ne hb]
                      exact g16.kp b o e n
                    · by_cases hb : a = D
                      · rw [hb, upd_same]; exact fun z => nomatch z
                      · rw [upd_ne hb]; exact g16.there z
                  · exact fun z => (g6.new D z).elim nD5 fun q => by
                      have e := (g25.kp D _ eD fun _ z => nomatch z)
                      rw [e] at q
                      exact nomatch q.1
                  · have nD6 : ¬ I6 D := fun z => (g6.new D z).elim nD5 fun q => by
                      have e := (g25.kp D _ eD fun _ z => nomatch z)
                      rw [e] at q
                      exact nomatch q.1
                    have k6 : ∀ a o, a ≠ D → H6 a = some o → (upd H6 D (.lst (acc ++ [v]))) a = some o := fun a o na e => by rw [upd_ne na]; exact e
                    refine OwA.append ?_ (T := T6) (by
                      have := OwA.cons (T := []) (w6.mono (I' := I6) (H' := upd H6 D (.lst (acc ++ [v]))) (fun _ z => z) (fun a o ia e _ => k6 a o (fun z => nD6 (z ▸ ia)) e) fun a m o e _ => k6 a o (fun z => by
                        have := n6.free a m
                        rw [z, (g25.kp D _ eD fun _ z => nomatch z)] at this
                        cases this) e) (OwA.nil (K := K) (I := I6) (H := upd H6 D (.lst (acc ++ [v]))) (n := n))
                      rw [List.append_nil] at this
                      exact this)
                    exact ow5.mono g6.sub (fun a o ia e n => k6 a o (fun z => nD5 (z ▸ ia)) (g6.kp a o e n)) fun a m o e n => k6 a o (fr5 a m).2.2 (g6.kp a o e n)
                  · intro a m
                    rcases List.mem_append.mp m with m | m
                    · exact ⟨(fr5 a m).1, fun z => (g6.new a z).elim (fr5 a m).2.1 fun q => (OwA.nod ow5 a m).ne q.1, (fr5 a m).2.2⟩
                    · exact ⟨(g2.trans g25).free (n6.free a m), n6.nI a m, fun z => by
                        have := n6.free a m
                        rw [z, (g25.kp D _ eD fun _ z => nomatch z)] at this
                        cases this⟩
                  · refine List.nodup_append.mpr ⟨nd, n6.nod, fun a m b m' e => ?_⟩
                    subst e
                    exact (OwA.nod ow5 a m).ne (n6.free a m')
                  · rw [List.length_append]
                    simp
                    omega
                  · rw [List.append_assoc]
                    exact ey
    · have hi' : i = ds.length := by omega
      subst hi'
      refine .inl ⟨wk.stop I2 H2 g2.later, ?_⟩
      rw [List.drop_length] at er
      cases er
      rw [List.append_nil] at ey
      subst ey
      refine h (.ref D) I2 H2 (D :: T) (g1.trans g2) (.lst eD (by rw [ow.len]; exact Nat.le_trans hl wk.len) ow) ⟨fun a m => ?_, fun a m => ?_, ?_⟩
      · rcases List.mem_cons.mp m with e | m
        · rw [e]; exact g1.free hD
        · exact g1.free (fr2 a m).1
      · rcases List.mem_cons.mp m with e | m
        · rw [e]; exact nD
        · exact (fr2 a m).2.1
      · exact List.nodup_cons.mpr ⟨fun m => (fr2 D m).2.2 rfl, nd⟩

theorem dp_compC {elt iter : Expr} {ifs : List Expr} {scope : Scope} {own : List (Str × Nat)} {j : Nat} {y : Str} {tp : Pos} {fi : Env → Res (List (Res D))} {fc : Env → Res Bool} {fe : Env → Res D} (hc : X.calm = true) (hN : X.N.Nodup) (hi : DIC X E Γ (.Name y tp) iter fi) (ok : BlkOk X.N X.env.scope scope own)
    (hl : ∀ (s : Shared) (H : Hp) (C : Addr) (cl : List (Str × Addr)) (fp : List Addr), PG (X.blk s H scope (compEnvC scope cl C X.env) fp) (.Name y tp) (gName j))
    (ht : ∀ (s : Shared) (H : Hp) (C : Addr) (cl : List (Str × Addr)) (fp : List Addr), DTs (X.blk s H scope (compEnvC scope cl C X.env) fp) E0 ((wipeG Γ (own.map (·.2))).set j .cl) ifs fc)
    (he : ∀ (s : Shared) (H : Hp) (C : Addr) (cl : List (Str × Addr)) (fp : List Addr), DP (X.blk s H scope (compEnvC scope cl C X.env) fp) E0 ((wipeG Γ (own.map (·.2))).set j .cl) elt (some n) fe)
    (hp : j ∈ own.map (·.2) := by decide) (hjl : j < Γ.length := by decide) (hs : ∀ x, foldedSetIterable iter X.env x = pure x := by intro _; rfl) : DP X E Γ (.ListComp elt [⟨.Name y tp, iter, ifs, 0⟩] scope pos) (some (n + 1)) (dCompC fi j fc fe) := by
  obtain ⟨wi, pi, qi⟩ := hi.ex
  refine ⟨_, pe_lc (g := gName j) (tt := canT X.K X.mg E0 ((wipeG Γ (own.map (·.2))).set j .cl) fc) (te := canE X.K X.mg E0 ((wipeG Γ (own.map (·.2))).set j .cl) (some n) fe) hc hN pi ok hl (fun s H C cl fp => (ht s H C cl fp).can) (fun s H C cl fp => (he s H C cl fp).can) hs, fun I S ρ σ H Q R h => ?_⟩
  exact compCQ qi (fun I S ρ σ H Q R h => ⟨I, S, ρ, R, h⟩) (fun I S ρ σ H Q R h => ⟨I, S, ρ, R, h⟩) hp hjl R h
/-- for call in calls: -/
def forC (j : Nat) (body : Env → Res Out) : List (Res D) → Env → Res Out
  | [], ρ => .ok (.nx ρ)
  | g :: r, ρ => body (ρ.set j (.c g)) >>= fun o => match o with
    | .nx ρ2 => forC j body r ρ2
    | .ct ρ2 => forC j body r ρ2
    | .bk ρ2 => .ok (.nx ρ2)
    | .rt d ρ2 => .ok (.rt d ρ2)
def sForC (it : Env → Res (List (Res D))) (j : Nat) (body : Env → Res Out) : Env → Res Out := fun ρ => it ρ >>= fun xs => forC j body xs ρ
theorem ds_forC {iter : Expr} {body : List Stmt} {j : Nat} {y : Str} {tp : Pos} {fi : Env → Res (List (Res D))} {fb : Env → Res Out} (hp : PassesOwn (model X.prog X.w) X.A X.env X.xe) (hc : X.calm = true) (hi : DIC X E Γ (.Name y tp) iter fi) (hg : PG X (.Name y tp) (gName j))
    (hb : DS X E { C with Gb := Γ, Gc := Γ } (Γ.set j .cl) body Γ fb) (hM : j ∉ C.M := by decide) (hjl : j < Γ.length := by decide) (hs : ∀ x, foldedSetIterable iter X.env x = pure x := by intro _; rfl) : DS1 X E C Γ (.For (.Name y tp) iter body [] pos) Γ (sForC fi j fb) := by
  obtain ⟨wi, pi, qi⟩ := hi.ex
  obtain ⟨tb, pb, qb⟩ := hb.ex
  refine ⟨_, ps_for hp hc pi hg pb hs, fun I S ρ σ H Dd R h => ?_⟩
  refine qi I S ρ σ H _ R (PX.imp (PX.bnd h) fun ds _ ⟨e0, h⟩ => ?_)
  intro J I1 H1 g1 wk
  have ev1 := g1.evo (S := SU S) R.trk
  have R1 := R.grow g1
  refine ⟨fun i m σ2 H2 => m = ds.length - i ∧ i ≤ ds.length ∧ ∃ (I2 : Addr → Prop) (S2 : Nat → List Addr) (ρ2 : Env), Evo I1 H1 (SU S) I2 H2 (SU S2) ∧ ER X.K I2 Γ ρ2 σ2 H2 S2 ∧ Mk C.M σ σ2 ∧ PX X.K X.mg E I2 H2 (SU S2) (SPo X.K C Γ σ2 I2 H2 S2 Dd) (forC j fb (ds.drop i) ρ2),
    ⟨ds.length, by simp, Nat.zero_le _, I1, S, ρ, .refl R1.trk, R1, .refl, PX.later h ev1 fun o _ z => z.later ev1 .refl⟩, ?_⟩
  rintro i m σ2 H2 ⟨rfl, hi, I2, S2, ρ2, ev2, R2, mk2, h2⟩
  have lt2 : Later I1 H1 I2 H2 := ev2.later R1
  by_cases hlt : i < ds.length
  · refine .inr ⟨wk.go i I2 H2 hlt lt2, fun σ3 H3 => i + 1 ≤ ds.length ∧ ∃ (I2 : Addr → Prop) (S2 : Nat → List Addr) (ρ2 : Env), Evo I1 H1 (SU S) I2 H3 (SU S2) ∧ ER X.K I2 Γ ρ2 σ3 H3 S2 ∧ Mk C.M σ σ3 ∧ PX X.K X.mg E I2 H3 (SU S2) (SPo X.K C Γ σ3 I2 H3 S2 Dd) (forC j fb (ds.drop (i + 1)) ρ2),
      fun σ3 H3 z => ⟨ds.length - (i + 1), by omega, rfl, z.1, z.2⟩, fun x H3 y => ?_⟩
    obtain ⟨I3, g3, rx⟩ := wk.yld i ds[i] I2 H2 x H3 (List.getElem?_eq_getElem hlt) lt2 y
    have ev3 := g3.evo (S := SU S2) R2.trk
    have R3 := R2.grow g3
    rw [List.drop_eq_getElem_cons hlt] at h2
    have h3 : PX X.K X.mg E I3 H3 (SU S2) (SPo X.K C Γ σ2 I3 H3 S2 Dd) (forC j fb (ds[i] :: ds.drop (i + 1)) ρ2) := PX.later h2 ev3 fun o _ z => z.later ev3 .refl
    · unfold forC at h3
      have R4 := R3.putN (i := j) (kk := .cl) (v := x) (w := .c ds[i]) (by rw [R3.lr]; exact hjl) ⟨x, ds[i], rfl, rfl, rx⟩
      have s4 : ∀ l a, a ∈ (fun l => if l = j then [] else S2 l) l → a ∈ S2 l := fun l a m => by
        have m : a ∈ (if l = j then [] else S2 l) := m
        by_cases hl : l = j
        · rw [if_pos hl] at m; cases m
        · rw [if_neg hl] at m; exact m
      have mk4 : Mk C.M σ2 (σ2.set j (some x)) := fun l hl => List.getElem?_set_ne fun z => hM (by rw [z]; exact hl)
      show tb _ (σ2.set j (some x)) H3
      generalize hρ4 : ρ2.set j (.c ds[i]) = ρ4 at h3 R4
      generalize σ2.set j (some x) = σ4 at R4 mk4 ⊢
      generalize (fun l => if l = j then [] else S2 l) = S4 at R4 s4
      have ev4 : Evo I3 H3 (SU S2) I3 H3 (SU S4) := .shrink R3.trk s4
      have base := ((ev2.trans ev3).trans ev4)
      have h4 := PX.later (P' := SPo X.K C Γ σ4 I3 H3 S4 Dd) h3 ev4 fun o _ z => z.later ev4 mk4
      refine qb I3 S4 ρ4 σ4 H3 _ R4 (PX.imp (PX.bnd h4) fun o _ ⟨e5, h5⟩ => ?_)
      cases o with
      | nx ρ5 => exact fun I6 H6 S6 σ6 ev6 R6 mk6 => ⟨hlt, I6, S6, ρ5, base.trans ev6, R6, (mk2.trans mk4).trans mk6, PX.later h5 ev6 fun o _ z => z.later ev6 mk6⟩
      | ct ρ5 => exact fun I6 H6 S6 σ6 ev6 R6 mk6 => ⟨hlt, I6, S6, ρ5, base.trans ev6, R6, (mk2.trans mk4).trans mk6, PX.later h5 ev6 fun o _ z => z.later ev6 mk6⟩
      | bk ρ5 => exact fun I6 H6 S6 σ6 ev6 R6 mk6 => h5 I6 H6 S6 σ6 ev6 R6 mk6
      | rt d ρ5 => exact fun I6 H6 S6 σ6 v T ev6 R6 mk6 ow hT hn => h5 I6 H6 S6 σ6 v T ev6 R6 mk6 ow hT hn
  · have hi' : i = ds.length := by omega
    subst hi'
    rw [List.drop_length] at h2
    exact .inl ⟨wk.stop I2 H2 lt2, h2 I2 H2 S2 σ2 (.refl R2.trk) R2 .refl⟩
end
end DL

namespace DL
open PySem PySem.Spec PyProof.Rows L2
section
variable [Wd] {X : Cx} {E : XK} {Γ Γn : List SK} {pos : Pos} {C : Cf}
def sAppX (i : Nat) (fe : Env → Res (D × Env)) : Env → Res Out := fun ρ => dVar i ρ >>= fun d1 => match d1 with
  | .list _ => fe ρ >>= fun p => dVar i p.2 >>= fun d0 => match d0 with
    | .list ds => if ds.length < 16777216 then .ok (.nx (p.2.set i (.d (.list (ds ++ [p.1]))))) else .bad
    | _ => .bad
  | _ => .bad
theorem ds_appX {i m : Nat} {x : Str} {e : Expr} {xp ap cp : Pos} {fe : Env → Res (D × Env)} (hN : X.N[i]? = some x) (hv : Vis X.env.scope x) (hk : Γ[i]? = some (.da (m + 1))) (he : DX X E Γ e (some m) fe)
    (hs : swapsWith (.Call (.Attribute (.Name x xp) "append" ap) [e] [] cp) none pos.line X.env = pure false := by rfl) (hbase : attributeBase (.Name x xp) "append" X.env (eval (.Name x xp) X.env) = eval (.Name x xp) X.env := by rfl)
    (hfew : ((backTo cp (starEach [e] X.env)).all (fun x => !x.1) && (backToKw cp (keywordEach [] X.env)).all (fun x => x.1.isSome)
      && decide ([e].length + ([] : List Keyword).length + (if ([] : List Keyword).isEmpty then 0 else 1) < 30)) = true := by rfl)
    (hline : (ap.endLine == cp.line) = true := by rfl) (hst : starEach [e] X.env = (false, eval e X.env) :: starEach [] X.env := by rfl) (hd : (x == ("__debug__" : Str)) = false := by decide) (hcd : (x == ("__classdict__" : Str)) = false := by decide) :
    DS1 X E C Γ (.Expr (.Call (.Attribute (.Name x xp) "append" ap) [e] [] cp) pos) Γ (sAppX i fe) := by
  obtain ⟨tb, pb, qb⟩ := he.ex
  refine ⟨_, ps_expr (pe_bm PySem.F.plainAttrs_list PySem.F.slot_list_append PySem.F.type_list_append mt_append (pe_var hN hv hd hcd) (pa_cons pb pa_nil hst) hbase hfew hline hst) hs, fun I S ρ σ H Dd R h => ?_⟩
  obtain ⟨v, d1, ev, e4, ow⟩ := R.slot i _ hk
  have ed : dVar i ρ = .ok d1 := by unfold dVar; rw [e4]
  unfold sAppX at h
  rw [ed, Res.ok_bnd] at h
  cases d1 with
  | list ds1 =>
    dsimp only at h
    refine ⟨v, ev, ?_, ?_⟩
    · have r := ow.rt
      cases r with
      | lst i0 hh z rr => exact .inl ⟨rfl, _, .inl (.inl hh)⟩
    refine seqX (e := e) qb R h fun dy ρ1 y I1 H1 S1 T e0 h1 ev0 R1 vr hT hn => ?_
    have oy : Ow X.K I1 H1 m T y dy := vr
    obtain ⟨v', d0, ev', e5, ow2⟩ := R1.slot i _ hk
    rw [ev] at ev'
    cases ev'
    have ed2 : dVar i ρ1 = .ok d0 := by unfold dVar; rw [e5]
    rw [ed2, Res.ok_bnd] at h1
    cases d0 with
    | list ds =>
      dsimp only at h1
      split at h1
      · rename_i hlt
        obtain ⟨l, xs, Sl, ey, hl, hz, ol, ms, ml, nl, nnl, put⟩ := write_at (js := []) ev0 R1 (.refl) (m := m) (by rw [hk]; simp) ev ed2 .here rfl
        have hxl : xs.length < sizeLine := by rw [ol.len, sizeLine_eq]; exact hlt
        have oo : OwA X.K I1 H1 m (Sl ++ (T ++ [])) (xs ++ [y]) (ds ++ [dy]) := ol.append (.cons oy .nil)
        rw [List.append_nil] at oo
        obtain ⟨S', R3, ev3⟩ := put (xs ++ [y]) (ds ++ [dy]) (Sl ++ T) (by rw [List.length_append]; exact hxl) oo (List.nodup_append.mpr ⟨nnl, hn, fun a m b m' e => (hT b m').2.2 ⟨i, by rw [← e]; exact ms a m⟩⟩)
          (fun a m => (List.mem_append.mp m).elim .inl fun z => .inr ⟨(hT a z).2.2, (hT a z).1⟩) (fun a m => (List.mem_append.mp m).elim (fun z => R1.nI i a (ms a z)) fun z => (hT a z).2.1)
        exact ⟨l, xs, y, ey, rfl, hl, hxl, h1 I1 _ S' σ ev3 R3 .refl⟩
      · exact h1.elim
    | _ => exact h1.elim
  | _ => exact h.elim
end
end DL

namespace DL
open PySem PySem.Spec PyProof.Rows L2
def seqE (r : Res Out) (g : Env → Res Out) : Res Out := thenO r g
@[simp] theorem sSeq_ev (f g : Env → Res Out) (ρ : Env) : sSeq f g ρ = seqE (f ρ) g := (rfl)
@[simp] theorem seqE_nx (ρ : Env) (g : Env → Res Out) : seqE (.ok (.nx ρ)) g = g ρ := (rfl)
@[simp] theorem seqE_rt (d : D) (ρ : Env) (g : Env → Res Out) : seqE (.ok (.rt d ρ)) g = .ok (.rt d ρ) := (rfl)
@[simp] theorem seqE_bk (ρ : Env) (g : Env → Res Out) : seqE (.ok (.bk ρ)) g = .ok (.bk ρ) := (rfl)
@[simp] theorem seqE_ct (ρ : Env) (g : Env → Res Out) : seqE (.ok (.ct ρ)) g = .ok (.ct ρ) := (rfl)
@[simp] theorem seqE_exc (c : Str) (v : D) (g : Env → Res Out) : seqE (.exc c v) g = .exc c v := (rfl)
def sel {α : Type} (r : Res Bool) (f g : Env → Res α) (ρ : Env) : Res α := r >>= fun b => if b = true then f ρ else g ρ
@[simp] theorem sel_t {α : Type} (f g : Env → Res α) (ρ : Env) : sel (.ok true) f g ρ = f ρ := (rfl)
@[simp] theorem sel_f {α : Type} (f g : Env → Res α) (ρ : Env) : sel (.ok false) f g ρ = g ρ := (rfl)
@[simp] theorem sel_exc {α : Type} (c : Str) (v : D) (f g : Env → Res α) (ρ : Env) : sel (.exc c v) f g ρ = .exc c v := (rfl)
theorem sel_ok {α : Type} (b : Bool) (f g : Env → Res α) (ρ : Env) : sel (.ok b) f g ρ = if b = true then f ρ else g ρ := (rfl)
@[simp] theorem sIf_ev (c : Env → Res Bool) (f g : Env → Res Out) (ρ : Env) : sIf c f g ρ = sel (c ρ) f g ρ := (rfl)
@[simp] theorem dIf_ev (c : Env → Res Bool) (f g : Env → Res D) (ρ : Env) : dIf c f g ρ = sel (c ρ) f g ρ := (rfl)
def selX {α : Type} (r : Res (Bool × Env)) (f g : Env → Res α) : Res α := r >>= fun p => if p.1 = true then f p.2 else g p.2
@[simp] theorem selX_t {α : Type} (f g : Env → Res α) (ρ : Env) : selX (.ok (true, ρ)) f g = f ρ := (rfl)
@[simp] theorem selX_f {α : Type} (f g : Env → Res α) (ρ : Env) : selX (.ok (false, ρ)) f g = g ρ := (rfl)
@[simp] theorem sIfX_ev (c : Env → Res (Bool × Env)) (f g : Env → Res Out) (ρ : Env) : sIfX c f g ρ = selX (c ρ) f g := (rfl)
@[simp] theorem dIfX_ev (c : Env → Res (Bool × Env)) (f g : Env → Res (D × Env)) (ρ : Env) : dIfX c f g ρ = selX (c ρ) f g := (rfl)
def andR (r : Res Bool) (g : Env → Res Bool) (ρ : Env) : Res Bool := r >>= fun b => if b = true then g ρ else .ok false
def orR (r : Res Bool) (g : Env → Res Bool) (ρ : Env) : Res Bool := r >>= fun b => if b = true then .ok true else g ρ
@[simp] theorem andR_t (g : Env → Res Bool) (ρ : Env) : andR (.ok true) g ρ = g ρ := (rfl)
@[simp] theorem andR_f (g : Env → Res Bool) (ρ : Env) : andR (.ok false) g ρ = .ok false := (rfl)
@[simp] theorem orR_t (g : Env → Res Bool) (ρ : Env) : orR (.ok true) g ρ = .ok true := (rfl)
@[simp] theorem orR_f (g : Env → Res Bool) (ρ : Env) : orR (.ok false) g ρ = g ρ := (rfl)
@[simp] theorem andR_exc (c : Str) (v : D) (g : Env → Res Bool) (ρ : Env) : andR (.exc c v) g ρ = .exc c v := (rfl)
@[simp] theorem orR_exc (c : Str) (v : D) (g : Env → Res Bool) (ρ : Env) : orR (.exc c v) g ρ = .exc c v := (rfl)
theorem andR_ok (b b' : Bool) (g : Env → Res Bool) (ρ : Env) (h : b = true → g ρ = .ok b') : andR (.ok b) g ρ = .ok (b && b') := by cases b with
  | true => exact h rfl
  | false => rfl
theorem orR_ok (b b' : Bool) (g : Env → Res Bool) (ρ : Env) (h : b = false → g ρ = .ok b') : orR (.ok b) g ρ = .ok (b || b') := by cases b with
  | true => rfl
  | false => exact h rfl
@[simp] theorem tAndD_ev (f g : Env → Res Bool) (ρ : Env) : tAndD f g ρ = andR (f ρ) g ρ := (rfl)
@[simp] theorem tOrD_ev (f g : Env → Res Bool) (ρ : Env) : tOrD f g ρ = orR (f ρ) g ρ := (rfl)
@[simp] theorem tNotD_ev (f : Env → Res Bool) (ρ : Env) : tNotD f ρ = (f ρ >>= fun b => .ok (!b)) := (rfl)
@[simp] theorem tVal_ev (f : Env → Res D) (ρ : Env) : tVal f ρ = (f ρ >>= asB) := (rfl)
@[simp] theorem tTru_ev (f : Env → Res D) (ρ : Env) : tTru f ρ = (f ρ >>= tru) := (rfl)
@[simp] theorem asB_b (b : Bool) : asB (.bool b) = .ok b := (rfl)
@[simp] theorem tru_b (b : Bool) : tru (.bool b) = .ok b := (rfl)
@[simp] theorem tru_n : tru .none = .ok false := (rfl)
@[simp] theorem tru_i (i : Int) : tru (.int i) = .ok (i != 0) := (rfl)
@[simp] theorem tru_l (xs : List D) : tru (.list xs) = .ok (!xs.isEmpty) := (rfl)
def andD (r : Res D) (g : Env → Res D) (ρ : Env) : Res D := r >>= asB >>= fun b => if b = true then g ρ else .ok (.bool false)
def orD (r : Res D) (g : Env → Res D) (ρ : Env) : Res D := r >>= asB >>= fun b => if b = true then .ok (.bool true) else g ρ
@[simp] theorem andD_t (g : Env → Res D) (ρ : Env) : andD (.ok (.bool true)) g ρ = g ρ := (rfl)
@[simp] theorem andD_f (g : Env → Res D) (ρ : Env) : andD (.ok (.bool false)) g ρ = .ok (.bool false) := (rfl)
@[simp] theorem orD_t (g : Env → Res D) (ρ : Env) : orD (.ok (.bool true)) g ρ = .ok (.bool true) := (rfl)
@[simp] theorem orD_f (g : Env → Res D) (ρ : Env) : orD (.ok (.bool false)) g ρ = g ρ := (rfl)
@[simp] theorem andD_exc (c : Str) (v : D) (g : Env → Res D) (ρ : Env) : andD (.exc c v) g ρ = .exc c v := (rfl)
@[simp] theorem orD_exc (c : Str) (v : D) (g : Env → Res D) (ρ : Env) : orD (.exc c v) g ρ = .exc c v := (rfl)
theorem andD_ok (b b' : Bool) (g : Env → Res D) (ρ : Env) (h : b = true → g ρ = .ok (.bool b')) : andD (.ok (.bool b)) g ρ = .ok (.bool (b && b')) := by cases b with
  | true => exact h rfl
  | false => rfl
theorem orD_ok (b b' : Bool) (g : Env → Res D) (ρ : Env) (h : b = false → g ρ = .ok (.bool b')) : orD (.ok (.bool b)) g ρ = .ok (.bool (b || b')) := by cases b with
  | true => rfl
  | false => exact h rfl
@[simp] theorem dAndV_ev (f g : Env → Res D) (ρ : Env) : dAndV f g ρ = andD (f ρ) g ρ := (rfl)
@[simp] theorem dOrV_ev (f g : Env → Res D) (ρ : Env) : dOrV f g ρ = orD (f ρ) g ρ := (rfl)
@[simp] theorem dNotV_ev (f : Env → Res D) (ρ : Env) : dNotV f ρ = (f ρ >>= asB >>= fun b => .ok (.bool (!b))) := (rfl)
@[simp] theorem dNeg_ev (f : Env → Res D) (ρ : Env) : dNeg f ρ = (f ρ >>= fun d => match d with
  | .int i => .ok (.int (-i))
  | _ => .bad) := (rfl)
def andX (r : Res (D × Env)) (g : Env → Res (D × Env)) : Res (D × Env) := r >>= fun p => asB p.1 >>= fun b => if b = true then g p.2 else .ok (.bool false, p.2)
def orX (r : Res (D × Env)) (g : Env → Res (D × Env)) : Res (D × Env) := r >>= fun p => asB p.1 >>= fun b => if b = true then .ok (.bool true, p.2) else g p.2
@[simp] theorem andX_t (g : Env → Res (D × Env)) (ρ : Env) : andX (.ok (.bool true, ρ)) g = g ρ := (rfl)
@[simp] theorem andX_f (g : Env → Res (D × Env)) (ρ : Env) : andX (.ok (.bool false, ρ)) g = .ok (.bool false, ρ) := (rfl)
@[simp] theorem orX_t (g : Env → Res (D × Env)) (ρ : Env) : orX (.ok (.bool true, ρ)) g = .ok (.bool true, ρ) := (rfl)
@[simp] theorem orX_f (g : Env → Res (D × Env)) (ρ : Env) : orX (.ok (.bool false, ρ)) g = g ρ := (rfl)
@[simp] theorem dAndX_ev (f g : Env → Res (D × Env)) (ρ : Env) : dAndX f g ρ = andX (f ρ) g := (rfl)
@[simp] theorem dOrX_ev (f g : Env → Res (D × Env)) (ρ : Env) : dOrX f g ρ = orX (f ρ) g := (rfl)
def tandX (r : Res (Bool × Env)) (g : Env → Res (Bool × Env)) : Res (Bool × Env) := r >>= fun p => if p.1 = true then g p.2 else .ok (false, p.2)
def torX (r : Res (Bool × Env)) (g : Env → Res (Bool × Env)) : Res (Bool × Env) := r >>= fun p => if p.1 = true then .ok (true, p.2) else g p.2
@[simp] theorem tandX_t (g : Env → Res (Bool × Env)) (ρ : Env) : tandX (.ok (true, ρ)) g = g ρ := (rfl)
@[simp] theorem tandX_f (g : Env → Res (Bool × Env)) (ρ : Env) : tandX (.ok (false, ρ)) g = .ok (false, ρ) := (rfl)
@[simp] theorem torX_t (g : Env → Res (Bool × Env)) (ρ : Env) : torX (.ok (true, ρ)) g = .ok (true, ρ) := (rfl)
@[simp] theorem torX_f (g : Env → Res (Bool × Env)) (ρ : Env) : torX (.ok (false, ρ)) g = g ρ := (rfl)
@[simp] theorem tAndX_ev (f g : Env → Res (Bool × Env)) (ρ : Env) : tAndX f g ρ = tandX (f ρ) g := (rfl)
@[simp] theorem tOrX_ev (f g : Env → Res (Bool × Env)) (ρ : Env) : tOrX f g ρ = torX (f ρ) g := (rfl)
@[simp] theorem tValX_ev (f : Env → Res (D × Env)) (ρ : Env) : tValX f ρ = (f ρ >>= fun p => asB p.1 >>= fun b => .ok (b, p.2)) := (rfl)
@[simp] theorem tNotX_ev (f : Env → Res (Bool × Env)) (ρ : Env) : tNotX f ρ = (f ρ >>= fun p => .ok (!p.1, p.2)) := (rfl)
@[simp] theorem dNotX_ev (f : Env → Res (D × Env)) (ρ : Env) : dNotX f ρ = (f ρ >>= fun p => asB p.1 >>= fun b => .ok (.bool (!b), p.2)) := (rfl)
@[simp] theorem lift_ev (f : Env → Res D) (ρ : Env) : lift f ρ = (f ρ >>= fun d => .ok (d, ρ)) := (rfl)
@[simp] theorem liftA_ev (f : Env → Res (List D)) (ρ : Env) : liftA f ρ = (f ρ >>= fun d => .ok (d, ρ)) := (rfl)
def then2 {α β : Type} (r : Res (α × Env)) (g : Env → Res (β × Env)) (k : α → β → Env → Res (D × Env)) : Res (D × Env) := r >>= fun p => g p.2 >>= fun q => k p.1 q.1 q.2
@[simp] theorem then2_ok {α β : Type} (a : α) (ρ : Env) (g : Env → Res (β × Env)) (k : α → β → Env → Res (D × Env)) : then2 (.ok (a, ρ)) g k = (g ρ >>= fun q => k a q.1 q.2) := (rfl)
@[simp] theorem then2_exc {α β : Type} (c : Str) (v : D) (g : Env → Res (β × Env)) (k : α → β → Env → Res (D × Env)) : then2 (.exc c v : Res (α × Env)) g k = .exc c v := (rfl)
@[simp] theorem d2X_ev (sem : D → D → Res D) (f g : Env → Res (D × Env)) (ρ : Env) : d2X sem f g ρ = then2 (f ρ) g fun a b ρ => sem a b >>= fun d => .ok (d, ρ) := (rfl)
@[simp] theorem dNX_ev (sem : List D → Res D) (gs : Env → Res (List D × Env)) (ρ : Env) : dNX sem gs ρ = (gs ρ >>= fun p => sem p.1 >>= fun d => .ok (d, p.2)) := (rfl)
def consX (r : Res (D × Env)) (g : Env → Res (List D × Env)) : Res (List D × Env) := r >>= fun p => g p.2 >>= fun q => .ok (p.1 :: q.1, q.2)
@[simp] theorem consX_ok (a : D) (ρ : Env) (g : Env → Res (List D × Env)) : consX (.ok (a, ρ)) g = (g ρ >>= fun q => .ok (a :: q.1, q.2)) := (rfl)
@[simp] theorem consX_exc (c : Str) (v : D) (g : Env → Res (List D × Env)) : consX (.exc c v) g = .exc c v := (rfl)
@[simp] theorem dConsX_ev (f : Env → Res (D × Env)) (g : Env → Res (List D × Env)) (ρ : Env) : dConsX f g ρ = consX (f ρ) g := (rfl)
@[simp] theorem dTupX_ev (gs : Env → Res (List D × Env)) (ρ : Env) : dTupX gs ρ = (gs ρ >>= fun p => dLim p.1.length (.tuple p.1) >>= fun d => .ok (d, p.2)) := (rfl)
@[simp] theorem dLstX_ev (gs : Env → Res (List D × Env)) (ρ : Env) : dLstX gs ρ = (gs ρ >>= fun p => dLim p.1.length (.list p.1) >>= fun d => .ok (d, p.2)) := (rfl)
@[simp] theorem dM_ev (i : Nat) (m : List D → Res (D × D)) (gs : Env → Res (List D)) (ρ : Env) : dM i m gs ρ = (gs ρ >>= fun ds => dVar i ρ >>= fun d0 => m (d0 :: ds) >>= fun p => .ok (p.1, ρ.set i (.d p.2))) := (rfl)
@[simp] theorem dMT_ev (m : List D → Res (D × D)) (f : Env → Res D) (gs : Env → Res (List D)) (ρ : Env) : dMT m f gs ρ = (f ρ >>= fun d0 => gs ρ >>= fun ds => m (d0 :: ds) >>= fun p => .ok p.1) := (rfl)
@[simp] theorem dFlatX_ev (f : Env → Res (D × Env)) (ρ : Env) : dFlatX f ρ = (f ρ >>= fun p => if flat p.1 = true then .ok p else .bad) := (rfl)
@[simp] theorem dVar_ev0 (x : D) (ρ : Env) : dVar 0 (.d x :: ρ) = .ok x := (rfl)
@[simp] theorem dVar_evS (i : Nat) (w : W) (ρ : Env) : dVar (i + 1) (w :: ρ) = dVar i ρ := (rfl)
@[simp] theorem dC_ev (d : D) (ρ : Env) : dC d ρ = .ok d := (rfl)
@[simp] theorem dFlat_ev (f : Env → Res D) (ρ : Env) : dFlat f ρ = (f ρ >>= fun d => if flat d = true then .ok d else .bad) := (rfl)
@[simp] theorem d2_ev (sem : D → D → Res D) (f g : Env → Res D) (ρ : Env) : d2 sem f g ρ = (f ρ >>= fun d => g ρ >>= fun e => sem d e) := (rfl)
@[simp] theorem dNil_ev (ρ : Env) : dNil ρ = .ok [] := (rfl)
@[simp] theorem dCons_ev (f : Env → Res D) (g : Env → Res (List D)) (ρ : Env) : dCons f g ρ = (f ρ >>= fun d => g ρ >>= fun ds => .ok (d :: ds)) := (rfl)
@[simp] theorem dN_ev (sem : List D → Res D) (gs : Env → Res (List D)) (ρ : Env) : dN sem gs ρ = (gs ρ >>= sem) := (rfl)
@[simp] theorem dNK_ev (n : Nat) (ix : List Nat) (m : List D → Res D) (gs : Env → Res (List D)) (ρ : Env) : dNK n ix m gs ρ = (gs ρ >>= fun ds => if ds.length = n then m (perm ix ds) else .bad) := (rfl)
@[simp] theorem perm_nil {α : Type} (l : List α) : perm [] l = [] := (rfl)
@[simp] theorem perm_cons {α : Type} (i : Nat) (r : List Nat) (l : List α) : perm (i :: r) l = match l[i]? with
  | some x => x :: perm r l
  | none => perm r l := by
  unfold perm
  rw [List.filterMap_cons]
  cases l[i]? <;> rfl
@[simp] theorem dLim_ok (n : Nat) (d : D) (h : n ≤ 16777216) : dLim n d = .ok d := if_pos h
@[simp] theorem dTup_ev (gs : Env → Res (List D)) (ρ : Env) : dTup gs ρ = (gs ρ >>= fun ds => dLim ds.length (.tuple ds)) := (rfl)
@[simp] theorem dLst_ev (gs : Env → Res (List D)) (ρ : Env) : dLst gs ρ = (gs ρ >>= fun ds => dLim ds.length (.list ds)) := (rfl)
@[simp] theorem d1_ev (g : D → Res D) (d : D) : d1 g [d] = g d := (rfl)
@[simp] theorem d12_ev (g : D → D → Res D) (d e : D) : d12 g [d, e] = g d e := (rfl)
def chain2 (r : Res Bool) (h : Env → Res D) (ρ : Env) (k : D → Res D) : Res D := r >>= fun b => if b = true then h ρ >>= k else .ok (.bool false)
@[simp] theorem chain2_t (h : Env → Res D) (ρ : Env) (k : D → Res D) : chain2 (.ok true) h ρ k = (h ρ >>= k) := (rfl)
@[simp] theorem chain2_f (h : Env → Res D) (ρ : Env) (k : D → Res D) : chain2 (.ok false) h ρ k = .ok (.bool false) := (rfl)
@[simp] theorem chain2_d (b : Bool) (h : Env → Res D) (ρ : Env) (p : D → Res D) (b' : Bool) (hh : (h ρ >>= p) = .ok (.bool b')) : chain2 (.ok b) h ρ p = .ok (.bool (b && b')) := by cases b with
  | true => exact hh
  | false => rfl
@[simp] theorem dChain_ev (s s' : D → D → Res D) (f g h : Env → Res D) (ρ : Env) : dChain s s' f g h ρ = (f ρ >>= fun d => g ρ >>= fun e => chain2 (s d e >>= asB) h ρ (s' e)) := (rfl)
@[simp] theorem dIsiE_ev (T : String) (f : Env → Res D) (ρ : Env) : dIsiE T f ρ = (f ρ >>= dIsi T) := (rfl)
@[simp] theorem dBits_ev (f : Env → Res D) (ρ : Env) : dBits f ρ = (f ρ >>= fun d => match d with
  | .int i => .ok (.int (Builtin.Int.intBits i : Nat))
  | _ => .bad) := (rfl)
@[simp] theorem dRev_ev (f : Env → Res D) (ρ : Env) : dRev f ρ = (f ρ >>= fun d => match d with
  | .list xs => .ok (.list xs.reverse)
  | _ => .bad) := (rfl)
@[simp] theorem dNoPart_ev (ρ : Env) : dNoPart ρ = .ok none := (rfl)
@[simp] theorem dPart_ev (f : Env → Res D) (ρ : Env) : dPart f ρ = (f ρ >>= asInt) := (rfl)
@[simp] theorem asInt_i (i : Int) : asInt (.int i) = .ok (some i) := (rfl)
@[simp] theorem dSlice_ev (f : Env → Res D) (lo hi : Env → Res (Option Int)) (ρ : Env) : dSlice f lo hi ρ = (f ρ >>= fun d => lo ρ >>= fun l => hi ρ >>= fun u => dSl d l u) := (rfl)
@[simp] theorem dSl_l (xs : List D) (lo hi : Option Int) : dSl (.list xs) lo hi = .ok (.list (cutL xs lo hi)) := (rfl)
@[simp] theorem iSeq_ev (f : Env → Res D) (ρ : Env) : iSeq f ρ = (f ρ >>= asSeq) := (rfl)
@[simp] theorem asSeq_l (xs : List D) : asSeq (.list xs) = .ok xs := (rfl)
@[simp] theorem asSeq_t (xs : List D) : asSeq (.tuple xs) = .ok xs := (rfl)
@[simp] theorem iRng1D_ev (f : Env → Res D) (ρ : Env) : iRng1D f ρ = (f ρ >>= rngA) := (rfl)
@[simp] theorem iRng2D_ev (f g : Env → Res D) (ρ : Env) : iRng2D f g ρ = (f ρ >>= fun d => g ρ >>= fun e => rngB d e) := (rfl)
@[simp] theorem iRng3D_ev (f g h : Env → Res D) (ρ : Env) : iRng3D f g h ρ = (f ρ >>= fun d => g ρ >>= fun e => h ρ >>= fun z => rngC d e z) := (rfl)
@[simp] theorem iEnumD_ev (f : Env → Res D) (ρ : Env) : iEnumD f ρ = (f ρ >>= asList >>= fun xs => .ok (enumL 0 xs)) := (rfl)
@[simp] theorem asList_l (xs : List D) : asList (.list xs) = .ok xs := (rfl)
@[simp] theorem dLenS_ev (i : Nat) (ρ : Env) : dLenS i ρ = (dVar i ρ >>= dLen) := (rfl)
@[simp] theorem dIxS_ev (i : Nat) (f : Env → Res D) (ρ : Env) : dIxS i f ρ = (f ρ >>= fun j => dVar i ρ >>= fun d => dIx d j) := (rfl)
@[simp] theorem dSlS_ev (i : Nat) (fl fu : Env → Res (Option Int)) (ρ : Env) : dSlS i fl fu ρ = (fl ρ >>= fun l => fu ρ >>= fun u => dVar i ρ >>= fun d => dSl d l u) := (rfl)
@[simp] theorem dAdd_i (i j : Int) : dAdd (.int i) (.int j) = .ok (.int (i + j)) := (rfl)
@[simp] theorem dAdd_l (xs ys : List D) : dAdd (.list xs) (.list ys) = dLim (xs.length + ys.length) (.list (xs ++ ys)) := (rfl)
@[simp] theorem dSub_i (i j : Int) : dSub (.int i) (.int j) = .ok (.int (i - j)) := (rfl)
@[simp] theorem dMul_i (i j : Int) : dMul (.int i) (.int j) = iMul i j := (rfl)
theorem iMul_1 {i j : Int} (h : small i = true) : iMul i j = .ok (.int (i * j)) := by unfold iMul; rw [h]; rfl
theorem iMul_2 {i j : Int} (h : small j = true) : iMul i j = .ok (.int (i * j)) := by unfold iMul; rw [h, Bool.or_true]; rfl
@[simp] theorem iMul_o (i j : Int) (h : small i = true ∨ small j = true) : iMul i j = .ok (.int (i * j)) := h.elim iMul_1 iMul_2
theorem dMul_l (xs : List D) (j : Int) (h : xs.length * j.toNat ≤ 16777216) (h1 : j < 2 ^ 62) (h2 : -(2 ^ 62) < j) : dMul (.list xs) (.int j) = .ok (.list (List.replicate j.toNat xs).flatten) := if_pos ⟨h, h1, h2⟩
theorem dMul_1 (x : D) (j : Int) (h : j ≤ 16777216) (h2 : -(2 ^ 62) < j) : dMul (.list [x]) (.int j) = .ok (.list (List.replicate j.toNat x)) := by
  rw [dMul_l _ _ (by simp; omega) (by omega) h2]
  have : ∀ n, (List.replicate n [x]).flatten = List.replicate n x := by
    intro n
    induction n with
    | zero => rfl
    | succ n ih => rw [List.replicate_succ, List.flatten_cons, ih]; rfl
  rw [this]
@[simp] theorem dDiv_i (i j : Int) (h : j ≠ 0) (h2 : j.natAbs < 1073741824) : dDiv (.int i) (.int j) = .ok (.int (i.fdiv j)) := if_pos ⟨h, h2⟩
@[simp] theorem dMod_i (i j : Int) (h : j ≠ 0) : dMod (.int i) (.int j) = .ok (.int (i.fmod j)) := if_pos h
@[simp] theorem dLt_i (i j : Int) : dLt (.int i) (.int j) = .ok (.bool (decide (i < j))) := (rfl)
@[simp] theorem dLe_i (i j : Int) : dLe (.int i) (.int j) = .ok (.bool (decide (i ≤ j))) := (rfl)
@[simp] theorem dGt_i (i j : Int) : dGt (.int i) (.int j) = .ok (.bool (decide (j < i))) := (rfl)
@[simp] theorem dGe_i (i j : Int) : dGe (.int i) (.int j) = .ok (.bool (decide (j ≤ i))) := (rfl)
@[simp] theorem dIsN_ev (d : D) : dIsN d .none = .ok (.bool (isN d)) := (rfl)
@[simp] theorem dNotN_ev (d : D) : dNotN d .none = .ok (.bool (!isN d)) := (rfl)
@[simp] theorem isN_n : isN .none = true := (rfl)
@[simp] theorem isN_l (l : List D) : isN (.list l) = false := (rfl)
@[simp] theorem isN_t (l : List D) : isN (.tuple l) = false := (rfl)
@[simp] theorem isN_i (l : Int) : isN (.int l) = false := (rfl)
@[simp] theorem isN_b (l : Bool) : isN (.bool l) = false := (rfl)
@[simp] theorem isN_s (l : Str) : isN (.str l) = false := (rfl)
@[simp] theorem dIx_l (xs : List D) (i : Int) : dIx (.list xs) (.int i) = resO (atI xs i) := (rfl)
@[simp] theorem dIx_t (xs : List D) (i : Int) : dIx (.tuple xs) (.int i) = resO (atI xs i) := (rfl)
@[simp] theorem resO_s {α : Type} (a : α) : resO (some a) = .ok a := (rfl)
theorem atI_nat {α : Type} (xs : List α) (i : Nat) : atI xs (i : Int) = xs[i]? := by
  unfold atI ixN
  rw [if_pos (by omega)]
  by_cases h : i < xs.length
  · rw [if_pos (by omega)]; rfl
  · rw [if_neg (by omega), List.getElem?_eq_none (by omega)]; rfl
@[simp] theorem atI_0 {α : Type} (x : α) (xs : List α) : atI (x :: xs) 0 = some x := atI_nat (x :: xs) 0
@[simp] theorem atI_1 {α : Type} (x y : α) (xs : List α) : atI (x :: y :: xs) 1 = some y := atI_nat (x :: y :: xs) 1
@[simp] theorem atI_2 {α : Type} (x y z : α) (xs : List α) : atI (x :: y :: z :: xs) 2 = some z := atI_nat (x :: y :: z :: xs) 2
theorem atI_ok {α : Type} {xs : List α} {i : Int} (h0 : 0 ≤ i) (h1 : i.toNat < xs.length) : atI xs i = some xs[i.toNat] := by
  have h : atI xs (i.toNat : Int) = some xs[i.toNat] := by rw [atI_nat]; exact List.getElem?_eq_getElem h1
  rw [Int.toNat_of_nonneg h0] at h
  exact h
theorem fmod_range (i j : Int) (h : 0 < j) : 0 ≤ i.fmod j ∧ i.fmod j < j := ⟨Int.fmod_nonneg_of_pos i h, Int.fmod_lt_of_pos i h⟩
theorem small_of {i : Int} (h : i.natAbs < 2 ^ 64) : small i = true := by
  show (decide _ && decide _) = true
  rw [Bool.and_eq_true, decide_eq_true_eq, decide_eq_true_eq]
  omega
@[simp] theorem small_fmod (i j : Int) (h : 0 < j) (h2 : j < 2 ^ 64) : small (i.fmod j) = true := by
  have := fmod_range i j h
  exact small_of (by omega)
@[simp] theorem dLen_l (xs : List D) : dLen (.list xs) = .ok (.int xs.length) := (rfl)
@[simp] theorem dLen_t (xs : List D) : dLen (.tuple xs) = .ok (.int xs.length) := (rfl)
@[simp] theorem dInt_i (i : Int) : dInt (.int i) = .ok (.int i) := (rfl)
@[simp] theorem dInt_b (b : Bool) : dInt (.bool b) = .ok (.int (if b then 1 else 0)) := (rfl)
@[simp] theorem dAbs_i (i : Int) : dAbs (.int i) = .ok (.int (if i < 0 then -i else i)) := (rfl)
@[simp] theorem dMax2_i (i j : Int) : dMax2 (.int i) (.int j) = .ok (.int (if j > i then j else i)) := (rfl)
@[simp] theorem dMin2_i (i j : Int) : dMin2 (.int i) (.int j) = .ok (.int (if j < i then j else i)) := (rfl)
@[simp] theorem dList_l (xs : List D) : dList (.list xs) = .ok (.list xs) := (rfl)
@[simp] theorem dList_t (xs : List D) : dList (.tuple xs) = .ok (.list xs) := (rfl)
@[simp] theorem dTuple_l (xs : List D) : dTuple (.list xs) = .ok (.tuple xs) := (rfl)
theorem unInts_map : ∀ l : List Int, unInts (l.map .int) = some l
  | [] => rfl
  | i :: r => by show (unInts (r.map .int)).map (i :: ·) = _; rw [unInts_map r]; rfl
theorem unBools_map : ∀ l : List Bool, unBools (l.map .bool) = some l
  | [] => rfl
  | i :: r => by show (unBools (r.map .bool)).map (i :: ·) = _; rw [unBools_map r]; rfl
@[simp] theorem dSum_m (l : List Int) : dSum (.list (l.map .int)) = .ok (.int l.sum) := by show (match unInts (l.map .int) with | some ns => _ | none => _) = _; rw [unInts_map]
@[simp] theorem dAll_m (l : List Bool) : dAll (.list (l.map .bool)) = .ok (.bool (l.all id)) := by show (match unBools (l.map .bool) with | some ns => _ | none => _) = _; rw [unBools_map]
@[simp] theorem dAny_m (l : List Bool) : dAny (.list (l.map .bool)) = .ok (.bool (l.any id)) := by show (match unBools (l.map .bool) with | some ns => _ | none => _) = _; rw [unBools_map]
/-- isinstance -/
def isiK (T : String) (d : D) : Bool := match T, d with
  | "int", .int _ => true
  | "int", .bool _ => true
  | "bool", .bool _ => true
  | "list", .list _ => true
  | "tuple", .tuple _ => true
  | "str", .str _ => true
  | "dict", .dict _ => true
  | _, _ => false
theorem dIsi_int (d : D) : dIsi "int" d = .ok (.bool (isiK "int" d)) := by cases d <;> with_unfolding_all rfl
theorem dIsi_bool (d : D) : dIsi "bool" d = .ok (.bool (isiK "bool" d)) := by cases d <;> with_unfolding_all rfl
theorem dIsi_list (d : D) : dIsi "list" d = .ok (.bool (isiK "list" d)) := by cases d <;> with_unfolding_all rfl
theorem dIsi_tuple (d : D) : dIsi "tuple" d = .ok (.bool (isiK "tuple" d)) := by cases d <;> with_unfolding_all rfl
theorem dIsi_str (d : D) : dIsi "str" d = .ok (.bool (isiK "str" d)) := by cases d <;> with_unfolding_all rfl
@[simp] theorem sNil_ev (ρ : Env) : sNil ρ = .ok (.nx ρ) := (rfl)
@[simp] theorem sPass_ev (ρ : Env) : sPass ρ = .ok (.nx ρ) := (rfl)
@[simp] theorem sBreak_ev (ρ : Env) : sBreak ρ = .ok (.bk ρ) := (rfl)
@[simp] theorem sCont_ev (ρ : Env) : sCont ρ = .ok (.ct ρ) := (rfl)
@[simp] theorem sRetN_ev (ρ : Env) : sRetN ρ = .ok (.rt .none ρ) := (rfl)
@[simp] theorem sRet_ev (f : Env → Res (D × Env)) (ρ : Env) : sRet f ρ = (f ρ >>= fun p => .ok (.rt p.1 p.2)) := (rfl)
@[simp] theorem sRetV_ev (i : Nat) (ρ : Env) : sRetV i ρ = (dVar i ρ >>= fun d => .ok (.rt d ρ)) := (rfl)
@[simp] theorem sDrop_ev (f : Env → Res (D × Env)) (ρ : Env) : sDrop f ρ = (f ρ >>= fun p => .ok (.nx p.2)) := (rfl)
@[simp] theorem sSet_ev (i : Nat) (f : Env → Res (D × Env)) (ρ : Env) : sSet i f ρ = (f ρ >>= fun p => .ok (.nx (p.2.set i (.d p.1)))) := (rfl)
@[simp] theorem sBind_ev (p : Pat) (f : Env → Res (D × Env)) (ρ : Env) : sBind p f ρ = (f ρ >>= fun q => bindP p q.1 q.2 >>= fun ρ1 => .ok (.nx ρ1)) := (rfl)
@[simp] theorem sPar_ev (i j : Nat) (f g : Env → Res (D × Env)) (ρ : Env) : sPar i j f g ρ = (f ρ >>= fun p => g p.2 >>= fun q => .ok (.nx ((q.2.set i (.d p.1)).set j (.d q.1)))) := (rfl)
@[simp] theorem sRaise_ev (x : Str) (gs : Env → Res (List D)) (ρ : Env) : sRaise x gs ρ = (gs ρ >>= fun ds => match ds with
  | [d] => .exc x d
  | _ => .bad) := (rfl)
@[simp] theorem sApp_ev (i : Nat) (fp : Env → Res (List Int)) (fe : Env → Res D) (ρ : Env) : sApp i fp fe ρ = (fp ρ >>= fun js => dVar i ρ >>= fun d0 => match getAt js d0 with
  | some (.list ds) => fe ρ >>= fun y => if ds.length < 16777216 then .ok (.nx (ρ.set i (.d (setAt js (.list (ds ++ [y])) d0)))) else .bad
  | _ => .bad) := (rfl)
@[simp] theorem aNil_ev (i : Nat) (ρ : Env) : aNil i ρ = (dVar i ρ >>= fun _ => .ok []) := (rfl)
@[simp] theorem getAt_nil (d : D) : getAt [] d = some d := (rfl)
@[simp] theorem setAt_nil (z d : D) : setAt [] z d = z := (rfl)
@[simp] theorem sPutI_ev (i : Nat) (fj fe : Env → Res (D × Env)) (ρ : Env) : sPutI i fj fe ρ = (fe ρ >>= fun p => fj p.2 >>= fun q => dVar i q.2 >>= fun d0 => putD [] q.1 p.1 d0 >>= fun d1 => .ok (.nx (q.2.set i (.d d1)))) := (rfl)
@[simp] theorem sSetE_ev (i : Nat) (f : Env → Res W) (ρ : Env) : sSetE i f ρ = (f ρ >>= fun w => .ok (.nx (ρ.set i w))) := (rfl)
@[simp] theorem putD_0 (y x : D) (xs : List D) : putD [] (.int 0) y (.list (x :: xs)) = .ok (.list (y :: xs)) := by unfold putD; simp [getAt, ixN, setAt]
@[simp] theorem putD_1 (y x z : D) (xs : List D) : putD [] (.int 1) y (.list (x :: z :: xs)) = .ok (.list (x :: y :: xs)) := by
  unfold putD
  have : ixN (x :: z :: xs).length 1 = some 1 := by
    unfold ixN
    rw [if_pos (by omega), if_pos (by simp; omega)]; rfl
  simp only [getAt, this, setAt, List.set_cons_succ, List.set_cons_zero]
@[simp] theorem putD_2 (y x z u : D) (xs : List D) : putD [] (.int 2) y (.list (x :: z :: u :: xs)) = .ok (.list (x :: z :: y :: xs)) := by
  unfold putD
  have : ixN (x :: z :: u :: xs).length 2 = some 2 := by
    unfold ixN
    rw [if_pos (by omega), if_pos (by simp; omega)]; rfl
  simp only [getAt, this, setAt, List.set_cons_succ, List.set_cons_zero]
@[simp] theorem bindP_nm (i : Nat) (d : D) (ρ : Env) : bindP (.nm i) d ρ = if i < ρ.length then .ok (ρ.set i (.d d)) else .bad := by unfold bindP; rfl
@[simp] theorem bindP_tp (ps : List Pat) (ds : List D) (ρ : Env) : bindP (.tp ps) (.tuple ds) ρ = bindPs ps ds ρ := by rw [bindP]
@[simp] theorem bindPs_nil (ρ : Env) : bindPs [] [] ρ = .ok ρ := by rw [bindPs]
@[simp] theorem bindPs_cons (p : Pat) (ps : List Pat) (d : D) (ds : List D) (ρ : Env) : bindPs (p :: ps) (d :: ds) ρ = (bindP p d ρ >>= fun ρ1 => bindPs ps ds ρ1) := by rw [bindPs]
def nD (i : Nat) : D := .int i
theorem intL_0 (n : Nat) : intL 0 1 n = (List.range n).map nD := by
  unfold intL
  refine List.map_congr_left fun i _ => ?_
  show PyData.int (0 + (i : Int) * 1) = PyData.int i
  rw [Int.zero_add, Int.mul_one]
theorem rngA_i (j : Int) (h : -(2 ^ 62) ≤ j) (h2 : j < 16777216) : rngA (.int j) = .ok ((List.range j.toNat).map nD) := by
  rw [← intL_0]
  exact if_pos ⟨h, h2⟩
theorem rngA_n (n : Nat) (h2 : n < 16777216) : rngA (.int n) = .ok ((List.range n).map nD) := rngA_i n (by omega) (by omega)
theorem rngB_i (i j : Int) (hi : 0 ≤ i) (h : i ≤ 16777216) (hj : -16777216 ≤ j) (h2 : j < 16777216) : rngB (.int i) (.int j) = .ok (intL i 1 (j - i).toNat) := if_pos ⟨⟨by omega, by omega⟩, ⟨by omega, by omega⟩, by omega⟩
@[simp] theorem sFor_ev (it : Env → Res (List D)) (p : Pat) (body : Env → Res Out) (ρ : Env) : sFor it p body ρ = (it ρ >>= fun xs => forM p body xs ρ) := (rfl)
@[simp] theorem forM_nil (p : Pat) (body : Env → Res Out) (ρ : Env) : forM p body [] ρ = .ok (.nx ρ) := (rfl)
def loopO (r : Res Out) (p : Pat) (body : Env → Res Out) (ds : List D) : Res Out := r >>= fun o => match o with
  | .nx ρ2 => forM p body ds ρ2
  | .ct ρ2 => forM p body ds ρ2
  | .bk ρ2 => .ok (.nx ρ2)
  | .rt d ρ2 => .ok (.rt d ρ2)
@[simp] theorem loopO_nx (ρ : Env) (p : Pat) (body : Env → Res Out) (ds : List D) : loopO (.ok (.nx ρ)) p body ds = forM p body ds ρ := (rfl)
@[simp] theorem loopO_ct (ρ : Env) (p : Pat) (body : Env → Res Out) (ds : List D) : loopO (.ok (.ct ρ)) p body ds = forM p body ds ρ := (rfl)
@[simp] theorem loopO_bk (ρ : Env) (p : Pat) (body : Env → Res Out) (ds : List D) : loopO (.ok (.bk ρ)) p body ds = .ok (.nx ρ) := (rfl)
@[simp] theorem loopO_rt (d : D) (ρ : Env) (p : Pat) (body : Env → Res Out) (ds : List D) : loopO (.ok (.rt d ρ)) p body ds = .ok (.rt d ρ) := (rfl)
@[simp] theorem loopO_exc (c : Str) (v : D) (p : Pat) (body : Env → Res Out) (ds : List D) : loopO (.exc c v) p body ds = .exc c v := (rfl)
theorem forM_cons (p : Pat) (body : Env → Res Out) (d : D) (ds : List D) (ρ : Env) : forM p body (d :: ds) ρ = loopO (bindP p d ρ >>= body) p body ds := by
  show (bindP p d ρ >>= fun ρ1 => body ρ1 >>= fun o => _) = _
  cases bindP p d ρ <;> rfl
/-- an invariant of a loop -/
theorem forM_inv {α : Type} (p : Pat) (body : Env → Res Out) (f : α → D) (P : List α → Env → Prop) (l : List α) :
    ∀ (done : List α) (ρ : Env), P done ρ → (∀ done a ρ, P done ρ → ∃ ρ', (bindP p (f a) ρ >>= body) = .ok (.nx ρ') ∧ P (done ++ [a]) ρ') → ∃ ρ', forM p body (l.map f) ρ = .ok (.nx ρ') ∧ P (done ++ l) ρ' := by
  induction l with
  | nil => intro done ρ h _; exact ⟨ρ, rfl, by rw [List.append_nil]; exact h⟩
  | cons a r ih =>
    intro done ρ h st
    obtain ⟨ρ1, e1, h1⟩ := st done a ρ h
    obtain ⟨ρ2, e2, h2⟩ := ih (done ++ [a]) ρ1 h1 st
    refine ⟨ρ2, ?_, by rw [List.append_assoc] at h2; exact h2⟩
    rw [List.map_cons, forM_cons, e1, loopO_nx, e2]
/-- a loop that carries b -/
theorem forM_st {α β : Type} (p : Pat) (body : Env → Res Out) (f : α → D) (E : β → W → Env) (st : β → α → β) (Inv : β → List α → Prop) (hb : ∀ b w d, bindP p d (E b w) = .ok (E b (.d d)))
    (h : ∀ b a r, Inv b (a :: r) → Inv (st b a) r ∧ body (E b (.d (f a))) = .ok (.nx (E (st b a) (.d (f a))))) : ∀ (l : List α) (b : β) (w : W), Inv b l → ∃ w', forM p body (l.map f) (E b w) = .ok (.nx (E (l.foldl st b) w'))
  | [], b, w, _ => ⟨w, rfl⟩
  | a :: r, b, w, hi => by
    obtain ⟨hi2, e⟩ := h b a r hi
    obtain ⟨w', e'⟩ := forM_st p body f E st Inv hb h r (st b a) (.d (f a)) hi2
    exact ⟨w', by rw [List.map_cons, forM_cons, hb, Res.ok_bnd, e, loopO_nx, e']; rfl⟩
/-- a loop whose turns store by a function of what is carried -/
theorem forM_fold {α β : Type} (p : Pat) (body : Env → Res Out) (f : α → D) (E : β → W → Env) (st : β → α → β) : ∀ (l : List α) (b : β) (w : W), (∀ b a w, a ∈ l → (bindP p (f a) (E b w) >>= body) = .ok (.nx (E (st b a) (.d (f a))))) →
    ∃ w', forM p body (l.map f) (E b w) = .ok (.nx (E (l.foldl st b) w'))
  | [], b, w, _ => ⟨w, rfl⟩
  | a :: r, b, w, h => by
    obtain ⟨w', e⟩ := forM_fold p body f E st r (st b a) (.d (f a)) fun b a' w m => h b a' w (List.mem_cons_of_mem _ m)
    exact ⟨w', by rw [List.map_cons, forM_cons, h b a w List.mem_cons_self, loopO_nx, e]; rfl⟩
@[simp] theorem nox_ev {α : Type} (a : α) : (Res.ok a).nox = .ok a := (rfl)
@[simp] theorem tYesD_ev (ρ : Env) : tYesD ρ = .ok true := (rfl)
@[simp] theorem dComp_ev (fr : Bool) (it : Env → Res (List D)) (p : Pat) (c : Env → Res Bool) (e : Env → Res D) (ρ : Env) : dComp fr it p c e ρ = (it ρ >>= fun xs => (compM fr p c e ρ xs).nox >>= fun ys => .ok (.list ys)) := (rfl)
@[simp] theorem compM_nil (fr : Bool) (p : Pat) (c : Env → Res Bool) (e : Env → Res D) (ρ : Env) : compM fr p c e ρ [] = .ok [] := (rfl)
def compS (r : Res Bool) (e : Env → Res D) (ρ1 : Env) (k : Res (List D)) : Res (List D) := r >>= fun b => if b = true then e ρ1 >>= fun y => k >>= fun ys => .ok (y :: ys) else k
@[simp] theorem compS_t (e : Env → Res D) (ρ1 : Env) (k : Res (List D)) : compS (.ok true) e ρ1 k = (e ρ1 >>= fun y => k >>= fun ys => .ok (y :: ys)) := (rfl)
@[simp] theorem compS_f (e : Env → Res D) (ρ1 : Env) (k : Res (List D)) : compS (.ok false) e ρ1 k = k := (rfl)
theorem compM_cons (p : Pat) (c : Env → Res Bool) (e : Env → Res D) (ρ : Env) (d : D) (r : List D) : compM true p c e ρ (d :: r) = (bindP p d ρ >>= fun ρ1 => compS (c ρ1) e ρ1 (compM true p c e ρ r)) := by
  show (if (true || flat d) = true then _ else _) = _
  rw [Bool.true_or, if_pos rfl]
  rfl
theorem compM_map {α : Type} (p : Pat) (c : Env → Res Bool) (e : Env → Res D) (ρ : Env) (f : α → D) (cf : α → Bool) (ef : α → D) : ∀ l : List α, (∀ a ∈ l, ∃ ρ1, bindP p (f a) ρ = .ok ρ1 ∧ c ρ1 = .ok (cf a) ∧ (cf a = true → e ρ1 = .ok (ef a))) → compM true p c e ρ (l.map f) = .ok ((l.filter cf).map ef)
  | [], _ => rfl
  | a :: r, h => by
    obtain ⟨ρ1, e1, e2, e3⟩ := h a List.mem_cons_self
    have ih := compM_map p c e ρ f cf ef r fun b m => h b (List.mem_cons_of_mem _ m)
    rw [List.map_cons, compM_cons, e1, Res.ok_bnd, e2, ih]
    cases q : cf a with
    | true => rw [compS_t, e3 q, List.filter_cons_of_pos q]; rfl
    | false => rw [compS_f, List.filter_cons_of_neg (by rw [q]; exact Bool.false_ne_true)]
/-- all of them -/
theorem compM_all {α : Type} (p : Pat) (e : Env → Res D) (ρ : Env) (f : α → D) (ef : α → D) (l : List α) (h : ∀ a ∈ l, ∃ ρ1, bindP p (f a) ρ = .ok ρ1 ∧ e ρ1 = .ok (ef a)) : compM true p tYesD e ρ (l.map f) = .ok (l.map ef) := by
  have := compM_map p tYesD e ρ f (fun _ => true) ef l fun a m => let ⟨ρ1, h1, h2⟩ := h a m; ⟨ρ1, h1, rfl, fun _ => h2⟩
  rw [this, List.filter_eq_self.mpr fun _ _ => rfl]
/-- with effects, all of them -/
@[simp] theorem dCompX_ev (fr : Bool) (vs : List Nat) (it : Env → Res (List D)) (p : Pat) (c : Env → Res Bool) (e : Env → Res (D × Env)) (ρ : Env) : dCompX fr vs it p c e ρ = (it ρ >>= fun xs => (compMX fr vs p c e xs ρ).nox >>= fun z => .ok (.list z.1, z.2)) := (rfl)
@[simp] theorem compMX_nil (fr : Bool) (vs : List Nat) (p : Pat) (c : Env → Res Bool) (e : Env → Res (D × Env)) (ρ : Env) : compMX fr vs p c e [] ρ = .ok ([], ρ) := (rfl)
theorem compMX_cons (vs : List Nat) (p : Pat) (e : Env → Res (D × Env)) (ρ : Env) (d : D) (r : List D) : compMX true vs p tYesD e (d :: r) ρ = (bindP p d ρ >>= fun ρ1 => e ρ1 >>= fun q => compMX true vs p tYesD e r (restE vs ρ q.2) >>= fun z => .ok (q.1 :: z.1, z.2)) := by
  show (if (true || flat d) = true then _ else _) = _
  rw [Bool.true_or, if_pos rfl]
  rfl
@[simp] theorem restE_nil (ρ ρ' : Env) : restE [] ρ ρ' = ρ' := (rfl)
@[simp] theorem restE_cons (v : Nat) (vs : List Nat) (ρ ρ' : Env) : restE (v :: vs) ρ ρ' = match ρ[v]? with
    | some w => (restE vs ρ ρ').set v w
    | none => restE vs ρ ρ' := by
  rw [restE]
  try (cases ρ[v]? <;> rfl)
/-- a loop over data, an invariant of the slots -/
theorem forM_ex (p : Pat) (body : Env → Res Out) (Z : Env → Prop) : ∀ (ds : List D) (ρ : Env), Z ρ → (∀ d ∈ ds, ∀ ρ, Z ρ → ∃ ρ', (bindP p d ρ >>= body) = .ok (.nx ρ') ∧ Z ρ') → ∃ ρ', forM p body ds ρ = .ok (.nx ρ') ∧ Z ρ'
  | [], ρ, z, _ => ⟨ρ, rfl, z⟩
  | d :: r, ρ, z, h => by
    obtain ⟨ρ1, e1, z1⟩ := h d List.mem_cons_self ρ z
    obtain ⟨ρ2, e2, z2⟩ := forM_ex p body Z r ρ1 z1 fun x m => h x (List.mem_cons_of_mem _ m)
    exact ⟨ρ2, by rw [forM_cons, e1, loopO_nx, e2], z2⟩
@[simp] theorem mErr_ok (ok : Str → Bool) (d : D) : mErr ok [.c (.ok d)] = .ok (.d .none) := (rfl)
@[simp] theorem mErr_exc (ok : Str → Bool) (c : Str) (v : D) : mErr ok [.c (.exc c v)] = if ok c = true then .ok (.x c v) else .bad := (rfl)
theorem dPowW_i (i j : Int) (h : 0 ≤ j ∧ (Builtin.Int.intBits i : Int) * j ≤ 2 ^ 27) : dPowW (.int i) (.int j) = .ok (.int (i ^ j.toNat)) := if_pos h
theorem pow_18 : dPowW (.int 10) (.int 18) = .ok (.int (10 ^ 18)) := dPowW_i 10 18 (by decide +kernel)
theorem pow_60 : dPowW (.int 10) (.int 60) = .ok (.int (10 ^ 60)) := dPowW_i 10 60 (by decide +kernel)
theorem pow_600 : dPowW (.int (10 ^ 60)) (.int 10) = .ok (.int ((10 ^ 60) ^ 10)) := dPowW_i (10 ^ 60) 10 (by decide +kernel)
theorem cutL_to {α : Type} (xs : List α) (k : Nat) (h : k ≤ xs.length) : cutL xs none (some (k : Int)) = xs.take k := by
  unfold cutL
  rw [HT.sIx_none, HT.sIx_nat, Nat.min_eq_left h, List.drop_zero, Nat.sub_zero]
theorem cutL_from {α : Type} (xs : List α) (k : Nat) (h : k ≤ xs.length) : cutL xs (some (k : Int)) none = xs.drop k := by
  unfold cutL
  rw [HT.sIx_none, HT.sIx_nat, Nat.min_eq_left h]
  exact List.take_of_length_le (by rw [List.length_drop]; exact Nat.le_refl _)
/-- sum(lists, []) -/
theorem flatD_map {α : Type} (f : α → List D) : ∀ l : List α, flatD (l.map fun a => .list (f a)) = some (l.flatMap f)
  | [] => rfl
  | a :: r => by
    show (flatD (r.map fun a => .list (f a))).map (f a ++ ·) = _
    rw [flatD_map f r]
    rfl
theorem sumLD_map {α : Type} (f : α → List D) (l : List α) (h : (l.flatMap f).length ≤ 16777216) : sumLD (.list (l.map fun a => .list (f a))) (.list []) = .ok (.list (l.flatMap f)) := by
  show (match flatD (l.map fun a => .list (f a)) with | some ys => _ | none => _) = _
  rw [flatD_map]
  show (if ([] : List D).length + (l.flatMap f).length ≤ 16777216 then Res.ok (PyData.list ([] ++ l.flatMap f)) else .bad) = _
  rw [if_pos (by simpa using h), List.nil_append]
@[simp] theorem env0_0 (n : Nat) (ds : List D) : env0 n ds = ds.map W.d ++ List.replicate (n - ds.length) (W.d .none) := (rfl)
@[simp] theorem envC_0 (n : Nat) (ws : List W) : envC n ws = ws ++ List.replicate (n - ws.length) (W.d .none) := (rfl)
@[simp] theorem outD_rt (d : D) (ρ : Env) : outD (.rt d ρ) = .ok d := (rfl)
@[simp] theorem outD_nx (ρ : Env) : outD (.nx ρ) = .ok .none := (rfl)
@[simp] theorem outM_rt (d x : D) (ρ : Env) : outM (.rt d (.d x :: ρ)) = .ok (d, x) := (rfl)
@[simp] theorem outM_nx (x : D) (ρ : Env) : outM (.nx (.d x :: ρ)) = .ok (.none, x) := (rfl)
@[simp] theorem runP_ev (np nN : Nat) (fb : Env → Res Out) (ds : List D) (h : ds.length = np) : runP np nN fb ds = (fb (env0 nN ds) >>= outD) := if_pos h
@[simp] theorem runM_ev (np nN : Nat) (fb : Env → Res Out) (ds : List D) (h : ds.length = np) : runM np nN fb ds = (fb (env0 nN ds) >>= outM) := if_pos h
@[simp] theorem runC_ev (np nN : Nat) (fb : Env → Res Out) (ws : List W) (h : ws.length = np) : runC np nN fb ws = (fb (envC nN ws) >>= outD >>= fun d => .ok (.d d)) := if_pos h
@[simp] theorem wNil_ev (ρ : Env) : wNil ρ = .ok [] := (rfl)
@[simp] theorem wCons_ev (f : Env → Res W) (g : Env → Res (List W)) (ρ : Env) : wCons f g ρ = (f ρ >>= fun w => g ρ >>= fun ws => .ok (w :: ws)) := (rfl)
@[simp] theorem eD_ev (f : Env → Res D) (ρ : Env) : eD f ρ = (f ρ >>= fun d => .ok (.d d)) := (rfl)
@[simp] theorem eVar_0 (w : W) (ρ : Env) : eVar 0 (w :: ρ) = .ok w := (rfl)
@[simp] theorem eVar_S (i : Nat) (w : W) (ρ : Env) : eVar (i + 1) (w :: ρ) = eVar i ρ := (rfl)
@[simp] theorem eLam_ev (fb : Env → Res D) (ρ : Env) : eLam fb ρ = .ok (.c (fb ρ)) := (rfl)
@[simp] theorem eNC_ev (m : List W → Res W) (gs : Env → Res (List W)) (ρ : Env) : eNC m gs ρ = (gs ρ >>= m) := (rfl)
@[simp] theorem dNC_ev (m : List W → Res W) (gs : Env → Res (List W)) (ρ : Env) : dNC m gs ρ = (gs ρ >>= fun ws => m ws >>= unD) := (rfl)
@[simp] theorem unD_d (d : D) : unD (.d d) = .ok d := (rfl)
@[simp] theorem dIsiX_0n (ok sub : Str → Bool) (ρ : Env) : dIsiX ok sub 0 (.d .none :: ρ) = .ok (.bool false) := (rfl)
@[simp] theorem dIsiX_0x (ok sub : Str → Bool) (c : Str) (v : D) (ρ : Env) : dIsiX ok sub 0 (.x c v :: ρ) = if ok c = true then .ok (.bool (sub c)) else .bad := (rfl)
@[simp] theorem dIsiX_S (ok sub : Str → Bool) (i : Nat) (w : W) (ρ : Env) : dIsiX ok sub (i + 1) (w :: ρ) = dIsiX ok sub i ρ := (rfl)
@[simp] theorem dValX_0x (ok : Str → Bool) (c : Str) (v : D) (ρ : Env) : dValX ok 0 (.x c v :: ρ) = if ok c = true then .ok v else .bad := (rfl)
@[simp] theorem dValX_S (ok : Str → Bool) (i : Nat) (w : W) (ρ : Env) : dValX ok (i + 1) (w :: ρ) = dValX ok i ρ := (rfl)
end DL

namespace DL
open PySem PySem.Spec PyProof.Rows L2
class Enc (α : Type) where
  enc : α → D
  dp : Nat
  lay : ∀ a, (enc a).canLay0 = true
  dep : ∀ a, (enc a).depth ≤ dp
  eqv : ∀ a b, PyData.eqv (enc a) (enc b) = true ↔ a = b
instance : Enc Int where
  enc := .int
  dp := 0
  lay := fun _ => rfl
  dep := fun _ => Nat.le_refl _
  eqv := fun a b => by simp [PyData.eqv]
instance : Enc Bool where
  enc := .bool
  dp := 0
  lay := fun _ => rfl
  dep := fun _ => Nat.le_refl _
  eqv := fun a b => by simp [PyData.eqv]
instance : Enc Nat where
  enc := fun n => .int n
  dp := 0
  lay := fun _ => rfl
  dep := fun _ => Nat.le_refl _
  eqv := fun a b => by simp [PyData.eqv]; omega
theorem canLay_list {α : Type} (f : α → D) : ∀ l : List α, (∀ a ∈ l, (f a).canLay0 = true) → PyData.canLayAll0 (l.map f) = true
  | [], _ => rfl
  | a :: r, h => by
    rw [List.map_cons, PyData.canLayAll0, h a List.mem_cons_self, canLay_list f r fun b m => h b (List.mem_cons_of_mem _ m)]
    rfl
theorem depth_list {α : Type} (f : α → D) (n : Nat) : ∀ l : List α, (∀ a ∈ l, (f a).depth ≤ n) → PyData.depthAll (l.map f) ≤ n
  | [], _ => Nat.zero_le _
  | a :: r, h => by
    rw [List.map_cons, PyData.depthAll]
    exact Nat.max_le.mpr ⟨h a List.mem_cons_self, depth_list f n r fun b m => h b (List.mem_cons_of_mem _ m)⟩
theorem eqv_list {α : Type} (f : α → D) : ∀ l m : List α, (∀ a ∈ l, ∀ b ∈ m, PyData.eqv (f a) (f b) = true ↔ a = b) → (PyData.eqvAll (l.map f) (m.map f) = true ↔ l = m)
  | [], [], _ => ⟨fun _ => rfl, fun _ => rfl⟩
  | [], b :: m, _ => ⟨fun h => by simp [PyData.eqvAll] at h, fun h => by cases h⟩
  | a :: l, [], _ => ⟨fun h => by simp [PyData.eqvAll] at h, fun h => by cases h⟩
  | a :: l, b :: m, h => by
    rw [List.map_cons, List.map_cons, PyData.eqvAll, Bool.and_eq_true, h a List.mem_cons_self b List.mem_cons_self, eqv_list f l m fun x hx y hy => h x (List.mem_cons_of_mem _ hx) y (List.mem_cons_of_mem _ hy)]
    exact ⟨fun z => by rw [z.1, z.2], fun z => by cases z; exact ⟨rfl, rfl⟩⟩
instance {α : Type} [Enc α] : Enc (List α) where
  enc := fun l => .list (l.map Enc.enc)
  dp := Enc.dp α + 1
  lay := fun l => by
    show PyData.canLay0 (.list _) = true
    rw [PyData.canLay0]
    exact canLay_list _ l fun a _ => Enc.lay a
  dep := fun l => by
    show PyData.depth (.list _) ≤ _
    rw [PyData.depth]
    exact Nat.succ_le_succ (depth_list _ _ l fun a _ => Enc.dep a)
  eqv := fun l m => by
    rw [PyData.eqv, eqv_list Enc.enc l m fun a _ b _ => Enc.eqv a b]
/-- None or an int -/
def encO : Option Int → D
  | none => .none
  | some i => .int i
instance : Enc (Option Int) where
  enc := encO
  dp := 0
  lay := fun a => by cases a <;> rfl
  dep := fun a => by cases a <;> exact Nat.le_refl _
  eqv := fun a b => by cases a <;> cases b <;> simp [encO, PyData.eqv]
instance {α β : Type} [Enc α] [Enc β] : Enc (α × β) where
  enc := fun p => .tuple [Enc.enc p.1, Enc.enc p.2]
  dp := max (Enc.dp α) (Enc.dp β) + 1
  lay := fun p => by
    show PyData.canLay0 (.tuple _) = true
    rw [PyData.canLay0, PyData.canLayAll0, PyData.canLayAll0, PyData.canLayAll0, Enc.lay, Enc.lay]
    rfl
  dep := fun p => by
    show PyData.depth (.tuple _) ≤ _
    rw [PyData.depth, PyData.depthAll, PyData.depthAll, PyData.depthAll]
    have h1 := Enc.dep p.1
    have h2 := Enc.dep p.2
    omega
  eqv := fun p q => by
    rw [PyData.eqv, PyData.eqvAll, PyData.eqvAll, PyData.eqvAll, Bool.and_true, Bool.and_eq_true, Enc.eqv, Enc.eqv, Prod.ext_iff]
abbrev LI (l : List Int) : D := .list (l.map .int)
theorem shaped_enc {α : Type} [Enc α] (a : α) (h : Enc.dp α ≤ 64) : SeqAt.shaped (Enc.enc a) = true := by
  unfold SeqAt.shaped
  rw [Enc.lay, Bool.true_and, decide_eq_true_eq]
  exact Nat.le_trans (Enc.dep a) h
theorem dEq_enc {α : Type} [Enc α] [DecidableEq α] (a b : α) (h : Enc.dp α ≤ 64 := by decide) : dEq (Enc.enc a) (Enc.enc b) = .ok (.bool (decide (a = b))) := by
  unfold dEq
  rw [shaped_enc a h, shaped_enc b h, Bool.and_self, if_pos rfl]
  congr 2
  rw [Bool.eq_iff_iff, Enc.eqv, decide_eq_true_eq]
theorem dNe_enc {α : Type} [Enc α] [DecidableEq α] (a b : α) (h : Enc.dp α ≤ 64 := by decide) : dNe (Enc.enc a) (Enc.enc b) = .ok (.bool (!decide (a = b))) := by
  unfold dNe
  rw [shaped_enc a h, shaped_enc b h, Bool.and_self, if_pos rfl]
  congr 3
  rw [Bool.eq_iff_iff, Enc.eqv, decide_eq_true_eq]
@[simp] theorem dEq_i (a b : Int) : dEq (.int a) (.int b) = .ok (.bool (decide (a = b))) := dEq_enc a b
@[simp] theorem dNe_i (a b : Int) : dNe (.int a) (.int b) = .ok (.bool (!decide (a = b))) := dNe_enc a b
@[simp] theorem dEq_b (a b : Bool) : dEq (.bool a) (.bool b) = .ok (.bool (decide (a = b))) := dEq_enc a b
theorem dEq_LI (a b : List Int) : dEq (LI a) (LI b) = .ok (.bool (decide (a = b))) := dEq_enc a b
theorem dNe_LI (a b : List Int) : dNe (LI a) (LI b) = .ok (.bool (!decide (a = b))) := dNe_enc a b
/-- l == [], l != [] -/
theorem shaped_nil : SeqAt.shaped (.list []) = true := by decide
theorem dEq_nil (xs : List D) (h : SeqAt.shaped (.list xs) = true) : dEq (.list xs) (.list []) = .ok (.bool xs.isEmpty) := by
  unfold dEq
  rw [h, shaped_nil, Bool.and_self, if_pos rfl]
  cases xs with
  | nil => rfl
  | cons x r => simp [PyData.eqv, PyData.eqvAll]
theorem dNe_nil (xs : List D) (h : SeqAt.shaped (.list xs) = true) : dNe (.list xs) (.list []) = .ok (.bool (!xs.isEmpty)) := by
  unfold dNe
  rw [h, shaped_nil, Bool.and_self, if_pos rfl]
  cases xs with
  | nil => rfl
  | cons x r => simp [PyData.eqv, PyData.eqvAll]
/-- texts -/
theorem dNe_self (d : D) (h : SeqAt.shaped d = true) : dNe d d = .ok (.bool false) := by
  unfold dNe
  rw [h, Bool.and_self, if_pos rfl, SeqAt.eqv_refl_plain d (PyData.plain_of_canLay0 d (SeqAt.canLay_of_shaped h))]
  rfl
theorem dEq_self (d : D) (h : SeqAt.shaped d = true) : dEq d d = .ok (.bool true) := by
  unfold dEq
  rw [h, Bool.and_self, if_pos rfl, SeqAt.eqv_refl_plain d (PyData.plain_of_canLay0 d (SeqAt.canLay_of_shaped h))]
theorem canLayAll_iff : ∀ xs : List D, PyData.canLayAll0 xs = true ↔ ∀ x ∈ xs, x.canLay0 = true
  | [] => ⟨fun _ _ m => absurd m List.not_mem_nil, fun _ => rfl⟩
  | x :: r => by
    rw [PyData.canLayAll0, Bool.and_eq_true, canLayAll_iff r]
    exact ⟨fun h y m => (List.mem_cons.mp m).elim (fun e => by rw [e]; exact h.1) (h.2 y), fun h => ⟨h x List.mem_cons_self, fun y m => h y (List.mem_cons_of_mem _ m)⟩⟩
theorem depthAll_iff (n : Nat) : ∀ xs : List D, PyData.depthAll xs ≤ n ↔ ∀ x ∈ xs, x.depth ≤ n
  | [] => ⟨fun _ _ m => absurd m List.not_mem_nil, fun _ => Nat.zero_le _⟩
  | x :: r => by
    rw [PyData.depthAll, Nat.max_le, depthAll_iff n r]
    exact ⟨fun h y m => (List.mem_cons.mp m).elim (fun e => by rw [e]; exact h.1) (h.2 y), fun h => ⟨h x List.mem_cons_self, fun y m => h y (List.mem_cons_of_mem _ m)⟩⟩
theorem shaped_list {xs : List D} : SeqAt.shaped (.list xs) = true ↔ ∀ x ∈ xs, x.canLay0 = true ∧ x.depth ≤ 63 := by
  unfold SeqAt.shaped
  rw [Bool.and_eq_true, decide_eq_true_eq, PyData.canLay0, PyData.depth, canLayAll_iff]
  rw [show PyData.depthAll xs + 1 ≤ 64 ↔ PyData.depthAll xs ≤ 63 from by omega, depthAll_iff]
  exact ⟨fun h x m => ⟨h.1 x m, h.2 x m⟩, fun h => ⟨fun x m => (h x m).1, fun x m => (h x m).2⟩⟩
theorem shaped_filter {xs : List D} (p : D → Bool) (h : SeqAt.shaped (.list xs) = true) : SeqAt.shaped (.list (xs.filter p)) = true := shaped_list.mpr fun x m => shaped_list.mp h x (List.mem_filter.mp m).1
theorem strOk_app {a b : Str} (ha : PyData.strOk a = true) (hb : PyData.strOk b = true) : PyData.strOk (a ++ b) = true := by
  have e : (a ++ b).cps = a.cps ++ b.cps := rfl
  unfold PyData.strOk at *
  rw [e, Array.all_append, ha, hb]
  rfl
theorem strOk_of (s : String) : PyData.strOk (Str.ofString s) = true := by
  unfold PyData.strOk Str.ofString
  rw [cpsOfBytes_string, Array.all_eq_true']
  intro x hx
  rw [List.mem_toArray, List.mem_map] at hx
  obtain ⟨c, _, rfl⟩ := hx
  have h := c.valid
  simp only [UInt32.isValidChar, Nat.isValidChar] at h
  have ht : c.toNat = c.val.toNat := rfl
  rw [decide_eq_true_eq]
  omega
theorem strOk_text : ∀ (ts : List Str) (k : Nat) (acc : Str), PyData.strOk acc = true → (∀ t ∈ ts, PyData.strOk t = true) → PyData.strOk (textFrom k acc ts) = true
  | [], _, _, h, _ => h
  | t :: r, k, acc, h, q => by
    unfold textFrom
    exact strOk_text r _ _ (strOk_app (strOk_app h (strOk_of _)) (q t List.mem_cons_self)) fun z m => q z (List.mem_cons_of_mem _ m)
theorem strOk_join (sep : Str) (hs : PyData.strOk sep = true) : ∀ ts : List Str, (∀ t ∈ ts, PyData.strOk t = true) → PyData.strOk (Str.join sep ts) = true
  | [], _ => by show PyData.strOk Str.empty = true; unfold PyData.strOk Str.empty; simp
  | [x], h => h x List.mem_cons_self
  | x :: y :: r, h => strOk_app (strOk_app (h x List.mem_cons_self) hs) (strOk_join sep hs (y :: r) fun t m => h t (List.mem_cons_of_mem _ m))
/-- what repr shows in few signs: n deep, B signs -/
structure Shw (n B : Nat) (d : D) : Prop where
  sh : d.showable = true
  nd : d.hasDict = false
  dp : d.depth ≤ n
  ln : d.shown.length ≤ B
  cl : d.canLay0 = true
  so : PyData.strOk d.shown = true
theorem Shw.mono {n B n' B' : Nat} {d : D} (h : Shw n B d) (hn : n ≤ n') (hB : B ≤ B') : Shw n' B' d := ⟨h.sh, h.nd, Nat.le_trans h.dp hn, Nat.le_trans h.ln hB, h.cl, h.so⟩
theorem Shw.int {i : Int} (h : i.natAbs < 10 ^ 12) : Shw 0 13 (.int i) := by
  refine ⟨?_, rfl, Nat.le_refl _, PyData.shown_int_le h, rfl, strOk_of _⟩
  show decide (i.natAbs.log2 < 1920) = true
  rw [decide_eq_true_eq]
  by_cases z : i.natAbs = 0
  · rw [z]; decide
  · exact Nat.lt_of_lt_of_le ((Nat.log2_lt z).mpr (Nat.lt_of_lt_of_le h (by decide : 10 ^ 12 ≤ 2 ^ 40))) (by decide)
theorem Shw.none : Shw 0 13 .none := ⟨rfl, rfl, Nat.le_refl _, by decide, rfl, strOk_of _⟩
theorem Shw.bool (b : Bool) : Shw 0 13 (.bool b) := by cases b <;> exact ⟨rfl, rfl, Nat.le_refl _, by decide, rfl, strOk_of _⟩
theorem Shw.str (x : Str) (B : Nat) (h1 : PyData.strOk x = true) (h2 : (reprText x).length ≤ B) (h3 : PyData.strOk (reprText x) = true) : Shw 0 B (.str x) := ⟨rfl, rfl, Nat.le_refl _, h2, h1, h3⟩
theorem Shw.all {n B : Nat} : ∀ {xs : List D}, (∀ x ∈ xs, Shw n B x) → PyData.showableAll xs = true ∧ PyData.hasDictAll xs = false ∧ PyData.depthAll xs ≤ n ∧ ((PyData.shownAll xs).map (·.length)).sum ≤ xs.length * B ∧ (PyData.shownAll xs).length = xs.length ∧ PyData.canLayAll0 xs = true ∧ ∀ t ∈ PyData.shownAll xs, PyData.strOk t = true
  | [], _ => ⟨rfl, rfl, Nat.zero_le _, by simp [PyData.shownAll], rfl, rfl, fun _ m => absurd m List.not_mem_nil⟩
  | x :: r, h => by
    obtain ⟨h1, h2, h3, h4, h5, h6, h7⟩ := Shw.all (xs := r) fun y m => h y (List.mem_cons_of_mem _ m)
    have a := h x List.mem_cons_self
    refine ⟨?_, ?_, ?_, ?_, ?_, ?_, ?_⟩
    · rw [PyData.showableAll, a.sh, h1]; rfl
    · rw [PyData.hasDictAll, a.nd, h2]; rfl
    · rw [PyData.depthAll]; exact Nat.max_le.mpr ⟨a.dp, h3⟩
    · rw [PyData.shownAll, List.map_cons, List.sum_cons, List.length_cons, Nat.succ_mul]
      have := a.ln
      omega
    · rw [PyData.shownAll, List.length_cons, List.length_cons, h5]
    · rw [PyData.canLayAll0, a.cl, h6]; rfl
    · intro t m
      rw [PyData.shownAll] at m
      rcases List.mem_cons.mp m with e | m
      · rw [e]; exact a.so
      · exact h7 t m
theorem Shw.list {n B m : Nat} {xs : List D} (h : ∀ x ∈ xs, Shw n B x) (hm : xs.length ≤ m) : Shw (n + 1) (m * (B + 2) + 3) (.list xs) := by
  obtain ⟨h1, h2, h3, h4, h5, h6, h7⟩ := Shw.all h
  refine ⟨h1, h2, ?_, ?_, by rw [PyData.canLay0]; exact h6, strOk_app (strOk_text _ _ _ (strOk_of _) h7) (strOk_of _)⟩
  · rw [PyData.depth]; omega
  · show (listText (PyData.shownAll xs)).length ≤ _
    have := listText_len_le (PyData.shownAll xs)
    rw [h5] at this
    have e : xs.length * (B + 2) ≤ m * (B + 2) := Nat.mul_le_mul_right _ hm
    rw [Nat.mul_add] at e
    omega
theorem Shw.tuple {n B m : Nat} {xs : List D} (h : ∀ x ∈ xs, Shw n B x) (hm : xs.length ≤ m) : Shw (n + 1) (m * (B + 2) + 3) (.tuple xs) := by
  obtain ⟨h1, h2, h3, h4, h5, h6, h7⟩ := Shw.all h
  refine ⟨h1, h2, ?_, ?_, by rw [PyData.canLay0]; exact h6, strOk_app (strOk_app (strOk_of _) (strOk_join _ (strOk_of _) _ h7)) (strOk_of _)⟩
  · rw [PyData.depth]; omega
  · show (tupleText (PyData.shownAll xs)).length ≤ _
    have := tupleText_len_le (PyData.shownAll xs)
    rw [h5] at this
    have e : xs.length * (B + 2) ≤ m * (B + 2) := Nat.mul_le_mul_right _ hm
    rw [Nat.mul_add] at e
    omega
theorem Shw.pair {n B : Nat} {x y : D} (hx : Shw n B x) (hy : Shw n B y) : Shw (n + 1) (2 * (B + 2) + 3) (.list [x, y]) := Shw.list (fun z m => by
  rcases List.mem_cons.mp m with rfl | m
  · exact hx
  · rw [List.mem_singleton.mp m]; exact hy) (Nat.le_refl _)
theorem Shw.shaped {n B : Nat} {d : D} (h : Shw n B d) (hn : n ≤ 64 := by decide) : SeqAt.shaped d = true := by
  unfold SeqAt.shaped
  rw [h.cl, Bool.true_and, decide_eq_true_eq]
  exact Nat.le_trans h.dp hn
theorem repr_ok {n B : Nat} {d : D} (h : Shw n B d) (hn : n < 60 := by decide) (hB : B ≤ 16777216 := by decide) : nRepr [d] = .ok (.str d.shown) := by
  show reprD d = _
  unfold reprD
  have h1 := h.dp
  have h2 := h.ln
  rw [h.sh, h.nd, decide_eq_true (by omega : d.depth < 60), decide_eq_true (by omega : d.shown.length ≤ 16777216)]
  rfl
theorem shown_shaped {n B : Nat} {d : D} (h : Shw n B d) : SeqAt.shaped (.str d.shown) = true := by
  unfold SeqAt.shaped
  show (PyData.strOk d.shown && _) = true
  rw [h.so]
  rfl
/-- repr(d) == repr(d), repr(d) != repr(d) -/
theorem repr_eq {n B : Nat} {d : D} (h : Shw n B d) : dEq (.str d.shown) (.str d.shown) = .ok (.bool true) := dEq_self _ (shown_shaped h)
theorem repr_ne {n B : Nat} {d : D} (h : Shw n B d) : dNe (.str d.shown) (.str d.shown) = .ok (.bool false) := dNe_self _ (shown_shaped h)
end DL

namespace DL
open PySem PySem.Spec PyProof.Rows L2
def bI (b : Bool) : D := .int (if b then 1 else 0)
def stepN : Nat → List Bool → List Nat
  | _, [] => []
  | acc, true :: l => stepN (acc + 1) l
  | acc, false :: l => if 0 < acc then acc :: stepN 0 l else stepN 0 l
def runsN (l : List Bool) : List Nat := stepN 0 (l ++ [false])
def choose : Nat → Nat → Nat
  | _, 0 => 1
  | 0, _ + 1 => 0
  | n + 1, k + 1 => choose n k + choose n (k + 1)
def allF : Nat → List (List Bool)
  | 0 => [[]]
  | n + 1 => (allF n).map (false :: ·) ++ (allF n).map (true :: ·)
theorem choose_0 (n : Nat) : choose n 0 = 1 := by cases n <;> rfl
theorem choose_z (k : Nat) : choose 0 (k + 1) = 0 := (rfl)
theorem mem_allF : ∀ (n : Nat) (l : List Bool), l ∈ allF n ↔ l.length = n
  | 0, l => by simp [allF]
  | n + 1, [] => by simp [allF]
  | n + 1, b :: l => by
    have := mem_allF n l
    cases b <;> simp [allF, this]
theorem allF_length : ∀ n, (allF n).length = 2 ^ n
  | 0 => rfl
  | n + 1 => by rw [allF, List.length_append, List.length_map, List.length_map, allF_length n]; omega
theorem allF_step : ∀ n, (allF n).flatMap (fun l => [l ++ [false], l ++ [true]]) = allF (n + 1)
  | 0 => rfl
  | n + 1 => by
    rw [allF, List.flatMap_append, List.flatMap_map, List.flatMap_map]
    have ih := allF_step n
    have e : ∀ b : Bool, (allF n).flatMap (fun l => [b :: l ++ [false], b :: l ++ [true]]) = (allF (n + 1)).map (b :: ·) := fun b => by
      rw [← ih, List.map_flatMap]
      rfl
    rw [allF]
    exact congr (congrArg _ (e false)) (e true)
def cnt (n acc : Nat) (rs : List Nat) : Nat := ((allF n).filter fun l => stepN acc (l ++ [false]) = rs).length
theorem cnt_0 (acc : Nat) (rs : List Nat) : cnt 0 acc rs = if (if 0 < acc then [acc] else []) = rs then 1 else 0 := by
  unfold cnt allF
  rw [List.filter_cons]
  have e : stepN acc ([] ++ [false]) = if 0 < acc then [acc] else [] := rfl
  rw [e]
  by_cases h : (if 0 < acc then [acc] else []) = rs
  · rw [if_pos h, if_pos (by simpa using h)]; rfl
  · rw [if_neg h, if_neg (by simpa using h)]; rfl
theorem cnt_s0 (n : Nat) (rs : List Nat) : cnt (n + 1) 0 rs = cnt n 0 rs + cnt n 1 rs := by
  unfold cnt
  rw [allF, List.filter_append, List.length_append, List.filter_map, List.filter_map, List.length_map, List.length_map]
  rfl
theorem cnt_s1 (n acc : Nat) (r : Nat) (rs : List Nat) : cnt (n + 1) (acc + 1) (r :: rs) = (if acc + 1 = r then cnt n 0 rs else 0) + cnt n (acc + 2) (r :: rs) := by
  unfold cnt
  rw [allF, List.filter_append, List.length_append, List.filter_map, List.filter_map, List.length_map, List.length_map]
  congr 1
  by_cases h : acc + 1 = r
  · rw [if_pos h]
    congr 1
    refine List.filter_congr fun l _ => ?_
    have e : stepN (acc + 1) (false :: l ++ [false]) = (acc + 1) :: stepN 0 (l ++ [false]) := (rfl)
    show decide (stepN (acc + 1) (false :: l ++ [false]) = r :: rs) = _
    rw [e, h]
    simp
  · rw [if_neg h, List.length_eq_zero_iff, List.filter_eq_nil_iff]
    intro l _
    have e : stepN (acc + 1) (false :: l ++ [false]) = (acc + 1) :: stepN 0 (l ++ [false]) := (rfl)
    show ¬ decide (stepN (acc + 1) (false :: l ++ [false]) = r :: rs) = true
    rw [e]
    simp [h]
theorem cnt_n1 : ∀ (n acc : Nat), cnt n (acc + 1) [] = 0
  | 0, acc => by rw [cnt_0]; simp
  | n + 1, acc => by
    have ih := cnt_n1 n (acc + 1)
    unfold cnt at ih ⊢
    rw [allF, List.filter_append, List.length_append, List.filter_map, List.filter_map, List.length_map, List.length_map]
    have : (List.filter ((fun l => decide (stepN (acc + 1) (l ++ [false]) = [])) ∘ (false :: ·)) (allF n)).length = 0 := by
      rw [List.length_eq_zero_iff, List.filter_eq_nil_iff]
      intro l _
      have e : stepN (acc + 1) (false :: l ++ [false]) = (acc + 1) :: stepN 0 (l ++ [false]) := (rfl)
      show ¬ decide (stepN (acc + 1) (false :: l ++ [false]) = []) = true
      rw [e]
      simp
    rw [this, Nat.zero_add]
    exact ih
/-- how many lines have these runs -/
theorem cnt_all : ∀ (n : Nat), (∀ rs : List Nat, (∀ r ∈ rs, 1 ≤ r) → cnt n 0 rs = choose (n + 1 - rs.sum) rs.length) ∧
    ∀ (acc r : Nat) (rs : List Nat), (∀ x ∈ rs, 1 ≤ x) → 1 ≤ r → cnt n (acc + 1) (r :: rs) = if r < acc + 1 ∨ n < r - (acc + 1) then 0 else choose (n - (r - (acc + 1)) - rs.sum) rs.length
  | 0 => by
    refine ⟨fun rs h => ?_, fun acc r rs h hr => ?_⟩
    · rw [cnt_0]
      cases rs with
      | nil => rfl
      | cons r rs =>
        have h1 := h r List.mem_cons_self
        rw [if_neg (by simp)]
        have : 0 + 1 - (r :: rs).sum = 0 := by simp; omega
        rw [this]
        rfl
    · rw [cnt_0, if_pos (show 0 < acc + 1 by omega)]
      by_cases e : [acc + 1] = r :: rs
      · rw [if_pos e]
        obtain ⟨rfl, rfl⟩ := List.cons.inj e
        simp [choose_0]
      · rw [if_neg e]
        by_cases q : r < acc + 1 ∨ 0 < r - (acc + 1)
        · rw [if_pos q]
        · rw [if_neg q]
          cases rs with
          | nil => exact absurd (by rw [show r = acc + 1 by omega]) e
          | cons x rs =>
            have : 0 - (r - (acc + 1)) - (x :: rs).sum = 0 := by omega
            rw [this]
            rfl
  | n + 1 => by
    obtain ⟨ih0, ih1⟩ := cnt_all n
    refine ⟨fun rs h => ?_, fun acc r rs h hr => ?_⟩
    · rw [cnt_s0, ih0 rs h]
      cases rs with
      | nil => rw [cnt_n1]; simp [choose_0]
      | cons r rs =>
        have h1 := h r List.mem_cons_self
        rw [ih1 0 r rs (fun x m => h x (List.mem_cons_of_mem _ m)) h1]
        have e : (r :: rs).sum = r + rs.sum := by simp
        rw [e, List.length_cons]
        by_cases q : r < 0 + 1 ∨ n < r - (0 + 1)
        · rw [if_pos q, show n + 1 - (r + rs.sum) = 0 by omega]
          have q2 : n + 1 + 1 - (r + rs.sum) = 0 := by omega
          rw [q2]
          rfl
        · rw [if_neg q]
          by_cases q2 : r + rs.sum ≤ n + 1
          · rw [show n + 1 + 1 - (r + rs.sum) = (n + 1 - (r + rs.sum)) + 1 by omega, show n - (r - (0 + 1)) - rs.sum = n + 1 - (r + rs.sum) by omega]
            show _ = choose _ _ + choose _ _
            omega
          · rw [show n + 1 + 1 - (r + rs.sum) = 0 by omega, show n - (r - (0 + 1)) - rs.sum = 0 by omega, show n + 1 - (r + rs.sum) = 0 by omega]
            cases rs with
            | nil => simp at q2; omega
            | cons x rs => rfl
    · rw [cnt_s1, ih1 (acc + 1) r rs h hr]
      by_cases e : acc + 1 = r
      · rw [if_pos e, ih0 rs h, if_pos (.inl (by omega)), if_neg (by omega), Nat.add_zero]
        congr 1
        omega
      · rw [if_neg e, Nat.zero_add]
        by_cases q : r < acc + 1 + 1 ∨ n < r - (acc + 1 + 1)
        · rw [if_pos q, if_pos (by omega)]
        · rw [if_neg q, if_neg (by omega)]
          congr 1
          omega
theorem stepN_pos : ∀ (l : List Bool) (acc : Nat), ∀ r ∈ stepN acc l, 1 ≤ r
  | [], _, _, m => absurd m List.not_mem_nil
  | true :: l, acc, r, m => stepN_pos l (acc + 1) r m
  | false :: l, acc, r, m => by
    unfold stepN at m
    split at m
    · rcases List.mem_cons.mp m with e | m
      · omega
      · exact stepN_pos l 0 r m
    · exact stepN_pos l 0 r m
theorem runsN_pos (l : List Bool) : ∀ r ∈ runsN l, 1 ≤ r := stepN_pos _ 0
/-- runs and gaps fit the line -/
theorem stepN_sum : ∀ (l : List Bool) (acc : Nat), (stepN acc (l ++ [false])).sum + ((stepN acc (l ++ [false])).length - 1) ≤ acc + l.length
  | [], acc => by
    show (if 0 < acc then [acc] else []).sum + ((if 0 < acc then [acc] else []).length - 1) ≤ acc + 0
    split <;> simp
  | true :: l, acc => by
    have := stepN_sum l (acc + 1)
    show (stepN (acc + 1) (l ++ [false])).sum + ((stepN (acc + 1) (l ++ [false])).length - 1) ≤ acc + (l.length + 1)
    omega
  | false :: l, acc => by
    have := stepN_sum l 0
    show (if 0 < acc then acc :: stepN 0 (l ++ [false]) else stepN 0 (l ++ [false])).sum + ((if 0 < acc then acc :: stepN 0 (l ++ [false]) else stepN 0 (l ++ [false])).length - 1) ≤ acc + (l.length + 1)
    split
    · rw [List.sum_cons, List.length_cons]
      omega
    · omega
theorem runsN_sum (l : List Bool) : (runsN l).sum + ((runsN l).length - 1) ≤ l.length := by
  have := stepN_sum l 0
  rw [Nat.zero_add] at this
  exact this
theorem count_runs (n : Nat) (rs : List Nat) (h : ∀ r ∈ rs, 1 ≤ r) : ((allF n).filter fun l => runsN l = rs).length = choose (n + 1 - rs.sum) rs.length := (cnt_all n).1 rs h
theorem choose_gt : ∀ (n k : Nat), n < k → choose n k = 0
  | _, 0, h => absurd h (Nat.not_lt_zero _)
  | 0, k + 1, _ => rfl
  | n + 1, k + 1, h => by
    show choose n k + choose n (k + 1) = 0
    rw [choose_gt n k (by omega), choose_gt n (k + 1) (by omega)]
theorem choose_step : ∀ (n t : Nat), choose n (t + 1) * (t + 1) = choose n t * (n - t)
  | 0, t => by simp [choose]
  | n + 1, 0 => by
    have ih : choose n 1 * 1 = choose n 0 * n := choose_step n 0
    rw [choose_0] at ih
    show (choose n 0 + choose n 1) * 1 = choose (n + 1) 0 * (n + 1)
    rw [choose_0, choose_0]
    omega
  | n + 1, s + 1 => by
    have ih1 := choose_step n s
    have ih2 := choose_step n (s + 1)
    show (choose n (s + 1) + choose n (s + 2)) * (s + 2) = (choose n s + choose n (s + 1)) * (n + 1 - (s + 1))
    rw [Nat.add_mul, ih2, Nat.add_mul, show n + 1 - (s + 1) = n - s by omega, ← ih1]
    by_cases h : s + 1 ≤ n
    · obtain ⟨d, rfl⟩ : ∃ d, n = s + 1 + d := ⟨n - (s + 1), by omega⟩
      rw [← Nat.mul_add, ← Nat.mul_add]
      congr 1
      omega
    · rw [choose_gt n (s + 1) (by omega)]
      simp
theorem choose_fdiv (n t : Nat) (h : t ≤ n) : ((choose n t : Int) * ((n : Int) - t)).fdiv ((t : Int) + 1) = (choose n (t + 1) : Int) := by
  have e := choose_step n t
  have e2 : (choose n t : Int) * ((n : Int) - t) = (choose n (t + 1) : Int) * ((t : Int) + 1) := by
    rw [← Int.ofNat_sub h]
    exact_mod_cast e.symm
  rw [e2, Int.fdiv_eq_ediv_of_nonneg _ (by omega)]
  exact Int.mul_ediv_cancel _ (by omega)
theorem dEq_LN (a b : List Nat) : dEq (PyData.list (List.map nD a)) (PyData.list (List.map nD b)) = .ok (.bool (decide (a = b))) := dEq_enc a b
theorem dNe_LN (a b : List Nat) : dNe (PyData.list (List.map nD a)) (PyData.list (List.map nD b)) = .ok (.bool (!decide (a = b))) := dNe_enc a b
theorem unInts_LN : ∀ l : List Nat, unInts (l.map nD) = some (l.map fun (n : Nat) => (n : Int))
  | [] => rfl
  | i :: r => by show (unInts (r.map nD)).map ((i : Int) :: ·) = _; rw [unInts_LN r]; rfl
theorem sum_cast : ∀ l : List Nat, (l.map fun (n : Nat) => (n : Int)).sum = (l.sum : Int)
  | [] => rfl
  | i :: r => by rw [List.map_cons, List.sum_cons, List.sum_cons, sum_cast r]; omega
@[simp] theorem dSum_LN (l : List Nat) : dSum (PyData.list (List.map nD l)) = .ok (.int (l.sum : Nat)) := by
  show (match unInts (l.map nD) with | some ns => _ | none => _) = _
  rw [unInts_LN]
  show Res.ok (PyData.int _) = _
  rw [sum_cast]
/-- a text among numbers -/
theorem dIn_str (s : Str) (xs : List D) (hs : PyData.strOk s = true) (hx : SeqAt.shaped (.list xs) = true) (h : ∀ x ∈ xs, PyData.eqv x (.str s) = false) : dIn (.str s) (.list xs) = .ok (.bool false) := by
  have e : SeqAt.shaped (.str s) = true := by
    unfold SeqAt.shaped
    show (PyData.strOk s && _) = true
    rw [hs]; rfl
  show (if SeqAt.shaped (.str s) && SeqAt.shaped (.list xs) then Res.ok (PyData.bool (xs.any fun z => PyData.eqv z (.str s))) else .bad) = _
  rw [e, hx, Bool.and_self, if_pos rfl]
  congr 2
  rw [List.any_eq_false]
  intro x m
  rw [h x m]
  exact Bool.false_ne_true
theorem shaped_LN (l : List Nat) : SeqAt.shaped (PyData.list (List.map nD l)) = true := shaped_enc l (by decide)
theorem bI_lay (b : Bool) : (bI b).canLay0 = true := (rfl)
theorem shaped_LB (l : List Bool) : SeqAt.shaped (PyData.list (List.map bI l)) = true := shaped_list.mpr fun x m => by
  obtain ⟨b, _, rfl⟩ := List.mem_map.mp m
  exact ⟨rfl, Nat.zero_le _⟩
theorem shw_bI (b : Bool) : Shw 0 13 (bI b) := by cases b <;> exact Shw.int (by decide)
theorem shw_nD {n : Nat} (h : n < 10 ^ 12) : Shw 0 13 (nD n) := Shw.int (by show (n : Int).natAbs < _; rw [Int.natAbs_natCast]; exact h)
theorem shw_LB {l : List Bool} {m : Nat} (h : l.length ≤ m) : Shw 1 (m * 15 + 3) (PyData.list (List.map bI l)) := Shw.list (fun x q => by
  obtain ⟨b, _, rfl⟩ := List.mem_map.mp q
  exact shw_bI b) (by rw [List.length_map]; exact h)
theorem shw_LN {l : List Nat} {m : Nat} (h : l.length ≤ m) (hx : ∀ x ∈ l, x < 10 ^ 12) : Shw 1 (m * 15 + 3) (PyData.list (List.map nD l)) := Shw.list (fun x q => by
  obtain ⟨b, hb, rfl⟩ := List.mem_map.mp q
  exact shw_nD (hx b hb)) (by rw [List.length_map]; exact h)
end DL

namespace DL
open PySem PySem.Spec PyProof.Rows L2
abbrev rowD (l : List Bool) : D := .list (l.map bI)
def picD (p : List (List Bool)) : D := .list (p.map fun l => .list (l.map bI))
structure Pic (h w : Nat) (p : List (List Bool)) : Prop where
  len : p.length = h
  row : ∀ l ∈ p, l.length = w
theorem enumL_map {α : Type} (f : α → D) (d : α) : ∀ (l : List α) (k : Nat), enumL k (l.map f) = (List.range l.length).map fun i => .tuple [nD (k + i), f (l.getD i d)]
  | [], _ => rfl
  | a :: r, k => by
    rw [List.map_cons, List.length_cons, List.range_succ_eq_map, List.map_cons, List.map_map]
    show _ :: enumL (k + 1) (r.map f) = _
    rw [enumL_map f d r (k + 1)]
    congr 1
    refine List.map_congr_left fun i _ => ?_
    show _ = PyData.tuple [nD (k + (i + 1)), f ((a :: r).getD (i + 1) d)]
    rw [List.getD_cons_succ, show k + 1 + i = k + (i + 1) by omega]
/-- places of the black cells -/
def posN (l : List Bool) : List Nat := (List.range l.length).filter fun i => l.getD i false
def wholeL (ps : List Nat) : Bool := ps.isEmpty || decide (((ps.getD (ps.length - 1) 0 : Nat) : Int) - (ps.getD 0 0 : Nat) + 1 = ps.length)
def wholeB (l : List Bool) : Bool := wholeL (posN l)
def between (f t i : Nat) : Bool := decide (f ≤ i) && decide (i ≤ t)
def fillL (l : List Bool) : List Bool := if (posN l).isEmpty = true then l else (List.range l.length).map (between ((posN l).getD 0 0) ((posN l).getD ((posN l).length - 1) 0))
def colsB (w : Nat) (p : List (List Bool)) : List (List Bool) := (List.range w).map fun j => p.map fun l => l.getD j false
def vB (b : Bool) : Nat := if b then 1 else 0
def cntB (l : List Bool) : Nat := (l.map vB).sum
def blacks (p : List (List Bool)) : Nat := (p.map cntB).sum
theorem fillL_length (l : List Bool) : (fillL l).length = l.length := by
  unfold fillL
  split
  · rfl
  · rw [List.length_map, List.length_range]
theorem Pic.map {h w : Nat} {p : List (List Bool)} (P : Pic h w p) (f : List Bool → List Bool) (hf : ∀ l, (f l).length = l.length) : Pic h w (p.map f) := ⟨by rw [List.length_map]; exact P.len, fun l m => by obtain ⟨a, ha, rfl⟩ := List.mem_map.mp m; rw [hf]; exact P.row a ha⟩
theorem Pic.cols {h w : Nat} {p : List (List Bool)} (P : Pic h w p) : Pic w h (colsB w p) := ⟨by unfold colsB; rw [List.length_map, List.length_range], fun l m => by
  obtain ⟨j, _, rfl⟩ := List.mem_map.mp m
  rw [List.length_map]; exact P.len⟩
theorem sum_map_add {β : Type} (f g : β → Nat) : ∀ B : List β, (B.map fun b => f b + g b).sum = (B.map f).sum + (B.map g).sum
  | [] => rfl
  | b :: r => by rw [List.map_cons, List.map_cons, List.map_cons, List.sum_cons, List.sum_cons, List.sum_cons, sum_map_add f g r]; omega
theorem sum_swap {α β : Type} (f : α → β → Nat) : ∀ (A : List α) (B : List β), (A.map fun a => (B.map fun b => f a b).sum).sum = (B.map fun b => (A.map fun a => f a b).sum).sum
  | [], B => by
    show 0 = _
    induction B with
    | nil => rfl
    | cons b r ih => rw [List.map_cons, List.sum_cons, ← ih]; rfl
  | a :: A, B => by
    rw [List.map_cons, List.sum_cons, sum_swap f A B, ← sum_map_add]
    rfl
theorem list_eta (l : List Bool) : (List.range l.length).map (fun j => l.getD j false) = l := by
  refine List.ext_getElem (by simp) fun i h1 h2 => ?_
  rw [List.getElem_map, List.getElem_range, List.getD_eq_getElem?_getD, List.getElem?_eq_getElem h2]
  rfl
theorem cntB_range {w : Nat} {l : List Bool} (h : l.length = w) : cntB l = ((List.range w).map fun j => vB (l.getD j false)).sum := by
  subst h
  conv => lhs; rw [← list_eta l]
  unfold cntB
  rw [List.map_map]
  rfl
theorem blacks_cols {h w : Nat} {p : List (List Bool)} (P : Pic h w p) : blacks (colsB w p) = blacks p := by
  have e1 : blacks p = (p.map fun l => ((List.range w).map fun j => vB (l.getD j false)).sum).sum := by
    unfold blacks
    congr 1
    exact List.map_congr_left fun l m => cntB_range (P.row l m)
  rw [e1, sum_swap]
  unfold blacks colsB
  rw [List.map_map]
  congr 1
  refine List.map_congr_left fun j _ => ?_
  show cntB (p.map fun l => l.getD j false) = _
  unfold cntB
  rw [List.map_map]
  rfl
def leB : List Bool → List Bool → Prop
  | [], [] => True
  | a :: l, b :: m => (a = true → b = true) ∧ leB l m
  | _, _ => False
theorem leB_of : ∀ (l m : List Bool), l.length = m.length → (∀ i, l.getD i false = true → m.getD i false = true) → leB l m
  | [], [], _, _ => trivial
  | a :: l, b :: m, h, q => ⟨fun e => by simpa using q 0 (by simpa using e), leB_of l m (by simpa using h) fun i e => by simpa using q (i + 1) (by simpa using e)⟩
  | [], _ :: _, h, _ => by simp at h
  | _ :: _, [], h, _ => by simp at h
theorem leB_cnt : ∀ (l m : List Bool), leB l m → cntB l ≤ cntB m ∧ (cntB l = cntB m → l = m)
  | [], [], _ => ⟨Nat.le_refl _, fun _ => rfl⟩
  | a :: l, b :: m, h => by
    obtain ⟨h1, h2⟩ := leB_cnt l m h.2
    have e1 : cntB (a :: l) = vB a + cntB l := rfl
    have e2 : cntB (b :: m) = vB b + cntB m := rfl
    have hv : vB a ≤ vB b ∧ (vB a = vB b → a = b) := by
      have := h.1
      cases a <;> cases b <;> simp [vB] at this ⊢
    rw [e1, e2]
    exact ⟨by omega, fun e => by rw [hv.2 (by omega), h2 (by omega)]⟩
  | [], _ :: _, h => h.elim
  | _ :: _, [], h => h.elim
theorem posN_pw (l : List Bool) : (posN l).Pairwise (· < ·) := List.Pairwise.filter _ List.pairwise_lt_range
theorem mem_posN {l : List Bool} {i : Nat} : i ∈ posN l ↔ i < l.length ∧ l.getD i false = true := by
  unfold posN
  rw [List.mem_filter, List.mem_range]
theorem pw_ends {ps : List Nat} (h : ps.Pairwise (· < ·)) {i : Nat} (m : i ∈ ps) : ps.getD 0 0 ≤ i ∧ i ≤ ps.getD (ps.length - 1) 0 := by
  obtain ⟨k, hk, rfl⟩ := List.getElem_of_mem m
  have q := List.pairwise_iff_getElem.mp h
  have h0 : 0 < ps.length := by omega
  rw [List.getD_eq_getElem?_getD, List.getElem?_eq_getElem h0, List.getD_eq_getElem?_getD, List.getElem?_eq_getElem (show ps.length - 1 < ps.length by omega)]
  refine ⟨?_, ?_⟩
  · by_cases hk0 : k = 0
    · subst hk0; exact Nat.le_refl _
    · exact Nat.le_of_lt (q 0 k h0 hk (by omega))
  · by_cases hk0 : k = ps.length - 1
    · subst hk0; exact Nat.le_refl _
    · exact Nat.le_of_lt (q k (ps.length - 1) hk (by omega) (by omega))
theorem getD_rangeMap (n i : Nat) (g : Nat → Bool) (h : i < n) : ((List.range n).map g).getD i false = g i := by
  rw [List.getD_eq_getElem?_getD, List.getElem?_map, List.getElem?_range h]
  rfl
theorem getD_lt {l : List Bool} {i : Nat} (h : l.getD i false = true) : i < l.length := by
  by_cases q : i < l.length
  · exact q
  · rw [List.getD_eq_getElem?_getD, List.getElem?_eq_none (by omega)] at h
    cases h
theorem fillL_le (l : List Bool) : leB l (fillL l) := by
  refine leB_of l _ (fillL_length l).symm fun i e => ?_
  have hi := getD_lt e
  unfold fillL
  split
  · exact e
  · rw [getD_rangeMap _ _ _ hi]
    obtain ⟨h1, h2⟩ := pw_ends (posN_pw l) (mem_posN.mpr ⟨hi, e⟩)
    unfold between
    rw [decide_eq_true h1, decide_eq_true h2]
    rfl
theorem filt_range (f t : Nat) : ∀ n, (List.range n).filter (between f t) = List.range' f (min n (t + 1) - f)
  | 0 => by simp
  | n + 1 => by
    rw [List.range_succ, List.filter_append, filt_range f t n, List.filter_cons, List.filter_nil]
    unfold between
    by_cases h : f ≤ n ∧ n ≤ t
    · rw [decide_eq_true h.1, decide_eq_true h.2, Bool.and_self, if_pos rfl, show min (n + 1) (t + 1) - f = (min n (t + 1) - f) + 1 by omega, List.range'_concat]
      congr 2
      omega
    · rw [if_neg (by rw [Bool.and_eq_true, decide_eq_true_eq, decide_eq_true_eq]; exact h), List.append_nil]
      congr 1
      omega
theorem fill_whole (l : List Bool) (h : fillL l = l) : wholeB l = true := by
  unfold wholeB
  by_cases e : (posN l).isEmpty = true
  · unfold wholeL; rw [e]; rfl
  · have e1 : posN l = List.range' ((posN l).getD 0 0) (min l.length ((posN l).getD ((posN l).length - 1) 0 + 1) - (posN l).getD 0 0) := by
      rw [← filt_range]
      conv => lhs; unfold posN
      refine List.filter_congr fun i m => ?_
      have hi := List.mem_range.mp m
      conv => lhs; rw [← h]
      unfold fillL
      rw [if_neg e, getD_rangeMap _ _ _ hi]
    generalize posN l = ps at e e1 ⊢
    generalize ht : ps.getD (ps.length - 1) 0 = t at e1
    generalize hf : ps.getD 0 0 = f at e1
    generalize min l.length (t + 1) - f = m at e1
    have hm : 0 < m := by
      cases m with
      | zero => rw [e1] at e; exact absurd rfl e
      | succ m => omega
    unfold wholeL
    rw [ht, hf]
    have hl : ps.length = m := by rw [e1, List.length_range']
    have ht2 : t = f + (m - 1) := by
      rw [← ht, hl, e1, List.getD_eq_getElem?_getD, List.getElem?_range' (by omega)]
      simp
    rw [hl, Bool.or_eq_true]
    refine .inr (decide_eq_true ?_)
    omega
theorem fills (p : List (List Bool)) : blacks p ≤ blacks (p.map fillL) ∧ (blacks p = blacks (p.map fillL) → p.map fillL = p) := by
  induction p with
  | nil => exact ⟨Nat.le_refl _, fun _ => rfl⟩
  | cons l r ih =>
    obtain ⟨h1, h2⟩ := leB_cnt l _ (fillL_le l)
    have e1 : blacks (l :: r) = cntB l + blacks r := rfl
    have e2 : blacks ((l :: r).map fillL) = cntB (fillL l) + blacks (r.map fillL) := rfl
    rw [e1, e2]
    refine ⟨by omega, fun e => ?_⟩
    rw [List.map_cons, ← h2 (by omega), ih.2 (by omega)]
theorem map_fix {α : Type} {f : α → α} : ∀ {l : List α}, l.map f = l → ∀ a ∈ l, f a = a
  | [], _, _, m => absurd m List.not_mem_nil
  | x :: r, h, a, m => by
    rw [List.map_cons] at h
    obtain ⟨h1, h2⟩ := List.cons.inj h
    rcases List.mem_cons.mp m with rfl | m
    · exact h1
    · exact map_fix h2 a m
/-- one turn of filling -/
def passB (h w : Nat) (p : List (List Bool)) : List (List Bool) := colsB h ((colsB w (p.map fillL)).map fillL)
def allWhole (w : Nat) (p : List (List Bool)) : Bool := (p ++ colsB w p).all wholeB
theorem passB_pic {h w : Nat} {p : List (List Bool)} (P : Pic h w p) : Pic h w (passB h w p) := ((P.map fillL fillL_length).cols.map fillL fillL_length).cols
theorem passB_more {h w : Nat} {p : List (List Bool)} (P : Pic h w p) (hw : allWhole w p = false) : blacks p + 1 ≤ blacks (passB h w p) := by
  have P1 := P.map fillL fillL_length
  have P2 := P1.cols.map fillL fillL_length
  have f1 := fills p
  have f2 := fills (colsB w (p.map fillL))
  have e1 := blacks_cols P1
  have e2 := blacks_cols P2
  unfold passB
  rw [e2]
  by_cases h : blacks p + 1 ≤ blacks ((colsB w (p.map fillL)).map fillL)
  · exact h
  · exfalso
    have q1 := f1.2 (by omega)
    have q2 := f2.2 (by omega)
    rw [q1] at q2
    have : allWhole w p = true := by
      unfold allWhole
      rw [List.all_append, Bool.and_eq_true, List.all_eq_true, List.all_eq_true]
      refine ⟨fun l m => fill_whole l ?_, fun l m => fill_whole l ?_⟩
      · exact map_fix q1 l m
      · exact map_fix q2 l m
    rw [this] at hw
    cases hw
theorem cntB_le : ∀ l : List Bool, cntB l ≤ l.length
  | [] => Nat.le_refl _
  | b :: l => by
    have := cntB_le l
    have e : cntB (b :: l) = vB b + cntB l := rfl
    rw [e, List.length_cons]
    cases b <;> simp [vB] <;> omega
theorem blacks_le {w : Nat} : ∀ p : List (List Bool), (∀ l ∈ p, l.length = w) → blacks p ≤ p.length * w
  | [], _ => by simp [blacks]
  | l :: r, h => by
    have h1 := blacks_le r fun a m => h a (List.mem_cons_of_mem _ m)
    have h2 := cntB_le l
    have h3 := h l List.mem_cons_self
    have e : blacks (l :: r) = cntB l + blacks r := rfl
    rw [e, List.length_cons, Nat.succ_mul]
    omega
end DL

namespace DL
open PySem PySem.Spec PyProof.Rows L2
@[simp] theorem sAppX_ev (i : Nat) (fe : Env → Res (D × Env)) (ρ : Env) : sAppX i fe ρ = (dVar i ρ >>= fun d1 => match d1 with
  | .list _ => fe ρ >>= fun p => dVar i p.2 >>= fun d0 => match d0 with
    | .list ds => if ds.length < 16777216 then .ok (.nx (p.2.set i (.d (.list (ds ++ [p.1]))))) else .bad
    | _ => .bad
  | _ => .bad) := (rfl)
@[simp] theorem dCompC_ev (it : Env → Res (List (Res D))) (j : Nat) (c : Env → Res Bool) (e : Env → Res D) (ρ : Env) : dCompC it j c e ρ = (it ρ >>= fun xs => (compC j c e ρ xs).nox >>= fun ys => .ok (.list ys)) := (rfl)
@[simp] theorem iCls_0 (gs : List (Res D)) (ρ : Env) : iCls 0 (.cs gs :: ρ) = .ok gs := (rfl)
@[simp] theorem iCls_S (i : Nat) (w : W) (ρ : Env) : iCls (i + 1) (w :: ρ) = iCls i ρ := (rfl)
@[simp] theorem compC_nil (j : Nat) (c : Env → Res Bool) (e : Env → Res D) (ρ : Env) : compC j c e ρ [] = .ok [] := (rfl)
theorem compC_cons (j : Nat) (c : Env → Res Bool) (e : Env → Res D) (ρ : Env) (g : Res D) (r : List (Res D)) : compC j c e ρ (g :: r) = compS (c (ρ.set j (.c g))) e (ρ.set j (.c g)) (compC j c e ρ r) := (rfl)
/-- no closure is picked -/
theorem compC_none (j : Nat) (c : Env → Res Bool) (e : Env → Res D) (ρ : Env) : ∀ gs : List (Res D), (∀ g ∈ gs, c (ρ.set j (.c g)) = .ok false) → compC j c e ρ gs = .ok []
  | [], _ => rfl
  | g :: r, h => by rw [compC_cons, h g List.mem_cons_self, compS_f, compC_none j c e ρ r fun x m => h x (List.mem_cons_of_mem _ m)]
@[simp] theorem eCs_ev (fbs : List (Env → Res D)) (ρ : Env) : eCs fbs ρ = .ok (.cs (fbs.map fun f => f ρ)) := (rfl)
@[simp] theorem dMX_ev (i : Nat) (m : List D → Res (D × D)) (gs : Env → Res (List D × Env)) (ρ : Env) : dMX i m gs ρ = (gs ρ >>= fun q => dVar i q.2 >>= fun d0 => m (d0 :: q.1) >>= fun p => .ok (p.1, q.2.set i (.d p.2))) := (rfl)
def whileS (r : Res Bool) (c : Env → Res Bool) (body : Env → Res Out) (n : Nat) (ρ : Env) : Res Out := r >>= fun b => if b = true then body ρ >>= fun o => match o with
      | .nx ρ2 => whileM c body n ρ2
      | .ct ρ2 => whileM c body n ρ2
      | .bk ρ2 => .ok (.nx ρ2)
      | .rt d ρ2 => .ok (.rt d ρ2)
    else .ok (.nx ρ)
theorem whileM_succ (c : Env → Res Bool) (body : Env → Res Out) (n : Nat) (ρ : Env) : whileM c body (n + 1) ρ = whileS (c ρ) c body n ρ := (rfl)
@[simp] theorem whileS_f (c : Env → Res Bool) (body : Env → Res Out) (n : Nat) (ρ : Env) : whileS (.ok false) c body n ρ = .ok (.nx ρ) := (rfl)
theorem whileS_t (c : Env → Res Bool) (body : Env → Res Out) (n : Nat) (ρ ρ2 : Env) (h : body ρ = .ok (.nx ρ2)) : whileS (.ok true) c body n ρ = whileM c body n ρ2 := by
  show (body ρ >>= fun o => match o with
      | .nx ρ2 => whileM c body n ρ2
      | .ct ρ2 => whileM c body n ρ2
      | .bk ρ2 => .ok (.nx ρ2)
      | .rt d ρ2 => .ok (.rt d ρ2)) = _
  rw [h]
  rfl
/-- a while whose measure falls -/
theorem whileM_ex {α : Type} (c : Env → Res Bool) (body : Env → Res Out) (E : α → W → Env) (P : α → Prop) (stop : α → Bool) (nx : α → α) (μ : α → Nat)
    (hc : ∀ a w, P a → c (E a w) = .ok (!stop a)) (hb : ∀ a w, P a → stop a = false → ∃ w', body (E a w) = .ok (.nx (E (nx a) w')) ∧ P (nx a) ∧ μ (nx a) < μ a) : ∀ (n : Nat) (a : α) (w : W), P a → μ a < n → ∃ a' w', whileM c body n (E a w) = .ok (.nx (E a' w')) ∧ P a'
  | 0, _, _, _, h => absurd h (Nat.not_lt_zero _)
  | n + 1, a, w, p, h => by
    rw [whileM_succ, hc a w p]
    cases e : stop a with
    | true => exact ⟨a, w, rfl, p⟩
    | false =>
      obtain ⟨w', e1, p1, l⟩ := hb a w p e
      obtain ⟨a', w2, e2, p2⟩ := whileM_ex c body E P stop nx μ hc hb n (nx a) w' p1 (by omega)
      exact ⟨a', w2, (whileS_t c body n _ _ e1).trans e2, p2⟩
/-- the last one -/
theorem atI_last {α : Type} (xs : List α) (h : 0 < xs.length) : atI xs (-1) = xs[xs.length - 1]? := by
  unfold atI ixN
  rw [if_neg (by omega), if_pos (by omega)]
  show xs[(-1 + (xs.length : Int)).toNat]? = _
  rw [show (-1 + (xs.length : Int)).toNat = xs.length - 1 by omega]
end DL

namespace DL
open PySem PySem.Spec PyProof.Rows L2
def top (i : Nat) : Stmt := PySem.Challenge.pw_linepictures_k64_whole_gaps_of_pictures.main.body.getD i (.Pass ⟨0, 0, 0, 0⟩)
def okc (c : Str) : Bool := [("PictureError" : Str), ("InvalidPicture" : Str)].contains c
def sub_PictureError (c : Str) : Bool := [("PictureError" : Str), ("InvalidPicture" : Str)].contains c
def sub_InvalidPicture (c : Str) : Bool := [("InvalidPicture" : Str)].contains c
theorem sc4 : FnScope ["value"] ["value"] (defScope (top 4)) := ⟨rfl, rfl, rfl, by decide +kernel, rfl, by decide +kernel, by decide +kernel⟩
def b_is_whole : DL.Env → Res Out := (sRet (lift (dAndV (dIsiE "int" (dVar 0)) (dNotV (dIsiE "bool" (dVar 0))))))
def m_is_whole : List D → Res D := runP 1 1 b_is_whole
section
variable [Wd] {P : Program} {w : World} {K : PySem.W.Frag} {mg : Str → Option Value} {base : Heap} {f : Addr} {fd : FuncData}
theorem ok_is_whole (bf : NoG mg)  (F : Fun K "is_whole" "is_whole" (top 4) f fd) : FnG P w K mg base 1 f fd ["value"] (spP K mg 0 m_is_whole) :=
  fnP (C := cfP 1 0) (Γn := []) F sc4 (by decide) fun cdv A outer s H E c =>
  (ds_one (ds_ret (dx_lift (dp_and (q_isi_int (k := some 0) bf (by rfl) (by rfl) (dp_var rfl (.inl rfl) rfl)) (dp_one (dp_not (k := some 0) (q_isi_bool (k := some 0) bf (by rfl) (by rfl) (dp_var rfl (.inl rfl) rfl))))))))
end
theorem sc8 : FnScope ["value", "one"] ["value"] (defScope (top 8)) := ⟨rfl, rfl, rfl, by decide +kernel, rfl, by decide +kernel, by decide +kernel⟩
def E_is_board_by_1 : DL.Env → Res D := (dN m_is_whole (dCons (dVar 1) dNil))
def b_is_board_by : DL.Env → Res Out := (sSeq (sIf (tOrD (tNotD (tVal (dIsiE "tuple" (dVar 0)))) (tOrD (tVal (d2 dNe (dN (d1 dLen) (dCons (dVar 0) dNil)) (dC (.int 2)))) (tNotD (tVal (dN (d1 dAll) (dCons (dComp true (iSeq (dVar 0)) (.nm 1) tYesD E_is_board_by_1) dNil)))))) (sRet (lift (dC (.bool false)))) sNil)
  (sRet (lift (dAndV (dChain dLe dLe (dC (.int 1)) (d2 dIx (dVar 0) (dC (.int 0))) (dC (.int 6))) (dAndV (dChain dLe dLe (dC (.int 1)) (d2 dIx (dVar 0) (dC (.int 1))) (dC (.int 6))) (d2 dLe (d2 dMul (d2 dIx (dVar 0) (dC (.int 0))) (d2 dIx (dVar 0) (dC (.int 1)))) (dC (.int 25))))))))
def m_is_board_by : List D → Res D := runP 1 2 b_is_board_by
section
variable [Wd] {P : Program} {w : World} {K : PySem.W.Frag} {mg : Str → Option Value} {base : Heap} {f : Addr} {fd : FuncData}
theorem ok_is_board_by (bf : NoG mg) (F_is_whole : Dfn P w K mg base 1 "is_whole" ["value"] [] (spP K mg 0 m_is_whole)) (g_MOST_SIDE : ∃ u, mg ("MOST_SIDE" : Str) = some u ∧ RelV (.int 6) u) (g_MOST_CELLS : ∃ u, mg ("MOST_CELLS" : Str) = some u ∧ RelV (.int 25) u) (F : Fun K "is_board_by" "is_board_by" (top 8) f fd) : FnG P w K mg base 2 f fd ["value"] (spP K mg 0 m_is_board_by) :=
  fnP (C := cfP 2 0) (Γn := []) F sc8 (by decide) fun cdv A outer s H E c =>
  (ds_cons (ds_if (Γn := [.da 0, .no]) (DW.dt (dw_or (dt_not (dt_val (q_isi_tuple (k := some 0) bf (by rfl) (by rfl) (dp_var rfl (.inl rfl) rfl)))) (dw_or (t_ne c (q_len (k := some 0) bf (by rfl) (da_cons (fr := false) (dp_var rfl (.inl rfl) rfl) da_nil (fun z => nomatch z))) (dp_int (n := 0))) (dw_or1 (dt_not (dt_val (q_all (k := some 0) rfl bf (by rfl) (da_cons (fr := false) (dp_comp (own := [("one", 1)]) (n := 0) rfl sc8.nd (di_seq (fr := true) (dp_var rfl (.inl rfl) rfl) (by simp)) (blkOk_by (by rfl)) (fun s1 H1 C1 cl1 fp1 => (dg_name sc8.nd rfl (.inl rfl))) (fun s1 H1 C1 cl1 fp1 => dts_nil) (fun s1 H1 C1 cl1 fp1 => (dp_fn F_is_whole c.blk (by rfl) (da_cons (dp_var rfl (.inl rfl) rfl) da_nil (by simp))))) da_nil (fun z => nomatch z))))))))) (ds_one (ds_ret (dx_lift (dp_bl (n := 0))))) ds_nil)
  (ds_one (ds_ret (dx_lift (dp_and (q_lele (k := some 0) (dp_int (n := 0)) (q_ix (dp_var rfl (.inl rfl) rfl) (dp_int (n := 0))) (q_cst (n := 0) g_MOST_SIDE (by rfl) (.int 6))) (dp_and (q_lele (k := some 0) (dp_int (n := 0)) (q_ix (dp_var rfl (.inl rfl) rfl) (dp_int (n := 0))) (q_cst (n := 0) g_MOST_SIDE (by rfl) (.int 6))) (dp_one (q_le (k := some 0) (q_mul (q_ix (dp_var rfl (.inl rfl) rfl) (dp_int (n := 0))) (q_ix (dp_var rfl (.inl rfl) rfl) (dp_int (n := 0)))) (q_cst (n := 0) g_MOST_CELLS (by rfl) (.int 25))))))))))
end
theorem sc9 : FnScope ["board", "value", "row"] ["board", "value"] (defScope (top 9)) := ⟨rfl, rfl, rfl, by decide +kernel, rfl, by decide +kernel, by decide +kernel⟩
def E_is_square_by_1 : DL.Env → Res D := (dAndV (dIsiE "list" (dVar 2)) (d2 dEq (dN (d1 dLen) (dCons (dVar 2) dNil)) (d2 dIx (dVar 0) (dC (.int 1)))))
def b_is_square_by : DL.Env → Res Out := (sSeq (sIf (tOrD (tNotD (tVal (dIsiE "list" (dVar 1)))) (tVal (d2 dNe (dN (d1 dLen) (dCons (dVar 1) dNil)) (d2 dIx (dVar 0) (dC (.int 0)))))) (sRet (lift (dC (.bool false)))) sNil)
  (sRet (lift (dN (d1 dAll) (dCons (dComp true (iSeq (dVar 1)) (.nm 2) tYesD E_is_square_by_1) dNil)))))
def m_is_square_by : List D → Res D := runP 2 3 b_is_square_by
section
variable [Wd] {P : Program} {w : World} {K : PySem.W.Frag} {mg : Str → Option Value} {base : Heap} {f : Addr} {fd : FuncData}
theorem ok_is_square_by (bf : NoG mg)  (F : Fun K "is_square_by" "is_square_by" (top 9) f fd) : FnG P w K mg base 1 f fd ["board", "value"] (spP K mg 0 m_is_square_by) :=
  fnP (C := cfP 3 0) (Γn := []) F sc9 (by decide) fun cdv A outer s H E c =>
  (ds_cons (ds_if (Γn := [.da 0, .da 0, .no]) (DW.dt (dw_or (dt_not (dt_val (q_isi_list (k := some 0) bf (by rfl) (by rfl) (dp_var rfl (.inl rfl) rfl)))) (dw_or1 (t_ne c (q_len (k := some 0) bf (by rfl) (da_cons (fr := false) (dp_var rfl (.inl rfl) rfl) da_nil (fun z => nomatch z))) (q_ix (dp_var rfl (.inr (.inl rfl)) rfl) (dp_int (n := 0))))))) (ds_one (ds_ret (dx_lift (dp_bl (n := 0))))) ds_nil)
  (ds_one (ds_ret (dx_lift (q_all (k := some 0) rfl bf (by rfl) (da_cons (fr := false) (dp_comp (own := [("row", 2)]) (n := 0) rfl sc9.nd (di_seq (fr := true) (dp_var rfl (.inl rfl) rfl) (by simp)) (blkOk_by (by rfl)) (fun s1 H1 C1 cl1 fp1 => (dg_name sc9.nd rfl (.inl rfl))) (fun s1 H1 C1 cl1 fp1 => dts_nil) (fun s1 H1 C1 cl1 fp1 => (dp_and (q_isi_list (k := some 0) bf (by rfl) (by rfl) (dp_var rfl (.inl rfl) rfl)) (dp_one (q_eq (k := some 0) c.blk (q_len (k := some 0) bf (by rfl) (da_cons (fr := false) (dp_var rfl (.inl rfl) rfl) da_nil (fun z => nomatch z))) (q_ix (dp_var rfl (.inr (.inl rfl)) rfl) (dp_int (n := 0)))))))) da_nil (fun z => nomatch z)))))))
end
theorem sc10 : FnScope ["board", "value", "row", "one"] ["board", "value"] (defScope (top 10)) := ⟨rfl, rfl, rfl, by decide +kernel, rfl, by decide +kernel, by decide +kernel⟩
def E_is_picture_on_1 : DL.Env → Res D := (dAndV (dN m_is_whole (dCons (dVar 3) dNil)) (dChain dLe dLe (dC (.int 0)) (dVar 3) (dC (.int 1))))
def E_is_picture_on_2 : DL.Env → Res D := (dN (d1 dAll) (dCons (dComp true (iSeq (dVar 2)) (.nm 3) tYesD E_is_picture_on_1) dNil))
def b_is_picture_on : DL.Env → Res Out := (sSeq (sIf (tNotD (tVal (dN m_is_square_by (dCons (dVar 0) (dCons (dVar 1) dNil))))) (sRet (lift (dC (.bool false)))) sNil)
  (sRet (lift (dN (d1 dAll) (dCons (dComp true (iSeq (dVar 1)) (.nm 2) tYesD E_is_picture_on_2) dNil)))))
def m_is_picture_on : List D → Res D := runP 2 4 b_is_picture_on
section
variable [Wd] {P : Program} {w : World} {K : PySem.W.Frag} {mg : Str → Option Value} {base : Heap} {f : Addr} {fd : FuncData}
theorem ok_is_picture_on (bf : NoG mg) (F_is_square_by : Dfn P w K mg base 1 "is_square_by" ["board", "value"] [] (spP K mg 0 m_is_square_by)) (F_is_whole : Dfn P w K mg base 1 "is_whole" ["value"] [] (spP K mg 0 m_is_whole)) (F : Fun K "is_picture_on" "is_picture_on" (top 10) f fd) : FnG P w K mg base 2 f fd ["board", "value"] (spP K mg 0 m_is_picture_on) :=
  fnP (C := cfP 4 0) (Γn := []) F sc10 (by decide) fun cdv A outer s H E c =>
  (ds_cons (ds_if (Γn := [.da 0, .da 0, .no, .no]) (dt_not (dt_val (dp_fn F_is_square_by c (by rfl) (da_cons (dp_var rfl (.inl rfl) rfl) (da_cons (dp_var rfl (.inl rfl) rfl) da_nil (by simp)) (by simp))))) (ds_one (ds_ret (dx_lift (dp_bl (n := 0))))) ds_nil)
  (ds_one (ds_ret (dx_lift (q_all (k := some 0) rfl bf (by rfl) (da_cons (fr := false) (dp_comp (own := [("row", 2)]) (n := 0) rfl sc10.nd (di_seq (fr := true) (dp_var rfl (.inl rfl) rfl) (by simp)) (blkOk_by (by rfl)) (fun s1 H1 C1 cl1 fp1 => (dg_name sc10.nd rfl (.inl rfl))) (fun s1 H1 C1 cl1 fp1 => dts_nil) (fun s1 H1 C1 cl1 fp1 => (q_all (k := some 0) rfl bf (by rfl) (da_cons (fr := false) (dp_comp (own := [("one", 3)]) (n := 0) rfl sc10.nd (di_seq (fr := true) (dp_var rfl (.inl rfl) rfl) (by simp)) (blkOk_by (by rfl)) (fun s1 H1 C1 cl1 fp1 => (dg_name sc10.nd rfl (.inl rfl))) (fun s1 H1 C1 cl1 fp1 => dts_nil) (fun s1 H1 C1 cl1 fp1 => (dp_and (dp_fn F_is_whole c.blk.blk (by rfl) (da_cons (dp_var rfl (.inl rfl) rfl) da_nil (by simp))) (dp_one (q_lele (k := some 0) (dp_int (n := 0)) (dp_var rfl (.inl rfl) rfl) (dp_int (n := 0))))))) da_nil (fun z => nomatch z))))) da_nil (fun z => nomatch z)))))))
end
theorem sc11 : FnScope ["value", "board"] ["value"] (defScope (top 11)) := ⟨rfl, rfl, rfl, by decide +kernel, rfl, by decide +kernel, by decide +kernel⟩
def b_board_by : DL.Env → Res Out := (sSeq (sIf (tOrD (tNotD (tVal (dIsiE "list" (dVar 0)))) (tOrD (tVal (d2 dEq (dVar 0) (dLst dNil))) (tNotD (tVal (dIsiE "list" (d2 dIx (dVar 0) (dC (.int 0)))))))) (sRet (lift (dC .none))) sNil)
  (sSeq (sSet 1 (lift (dTup (dCons (dN (d1 dLen) (dCons (dVar 0) dNil)) (dCons (dN (d1 dLen) (dCons (d2 dIx (dVar 0) (dC (.int 0))) dNil)) dNil)))))
  (sRet (lift (dIf (tVal (dN m_is_board_by (dCons (dVar 1) dNil))) (dVar 1) (dC .none))))))
def m_board_by : List D → Res D := runP 1 2 b_board_by
section
variable [Wd] {P : Program} {w : World} {K : PySem.W.Frag} {mg : Str → Option Value} {base : Heap} {f : Addr} {fd : FuncData}
theorem ok_board_by (bf : NoG mg) (F_is_board_by : Dfn P w K mg base 2 "is_board_by" ["value"] [] (spP K mg 0 m_is_board_by)) (F : Fun K "board_by" "board_by" (top 11) f fd) : FnG P w K mg base 3 f fd ["value"] (spP K mg 0 m_board_by) :=
  fnP (C := cfP 2 0) (Γn := []) F sc11 (by decide) fun cdv A outer s H E c =>
  (ds_cons (ds_if (Γn := [.da 0, .no]) (DW.dt (dw_or (dt_not (dt_val (q_isi_list (k := some 0) bf (by rfl) (by rfl) (dp_var rfl (.inl rfl) rfl)))) (dw_or (t_eq c (dp_var rfl (.inl rfl) rfl) (dp_lst da_nil)) (dw_or1 (dt_not (dt_val (q_isi_list (k := some 0) bf (by rfl) (by rfl) (q_ix (dp_var rfl (.inl rfl) rfl) (dp_int (n := 0)))))))))) (ds_one (ds_ret (dx_lift (dp_non (n := 0))))) ds_nil)
  (ds_cons (ds_set (n := 0) sc11.nd rfl (.inl rfl) (dx_lift (dp_tup (da_cons (q_len (k := some 0) bf (by rfl) (da_cons (fr := false) (dp_var rfl (.inl rfl) rfl) da_nil (fun z => nomatch z))) (da_cons (q_len (k := some 0) bf (by rfl) (da_cons (fr := false) (q_ix (dp_var rfl (.inl rfl) rfl) (dp_int (n := 0))) da_nil (fun z => nomatch z))) da_nil (by simp)) (by simp)))))
  (ds_one (ds_ret (dx_lift (dp_if (dt_val (dp_fn F_is_board_by c (by rfl) (da_cons (dp_var rfl (.inl rfl) rfl) da_nil (by simp)))) (dp_var rfl (.inl rfl) rfl) (dp_non (n := 0))))))))
end
theorem sc12 : FnScope ["value", "board"] ["value"] (defScope (top 12)) := ⟨rfl, rfl, rfl, by decide +kernel, rfl, by decide +kernel, by decide +kernel⟩
def b_is_picture_by : DL.Env → Res Out := (sSeq (sSet 1 (lift (dN m_board_by (dCons (dVar 0) dNil))))
  (sRet (lift (dAndV (d2 dNotN (dVar 1) (dC .none)) (dN m_is_picture_on (dCons (dVar 1) (dCons (dVar 0) dNil)))))))
def m_is_picture_by : List D → Res D := runP 1 2 b_is_picture_by
section
variable [Wd] {P : Program} {w : World} {K : PySem.W.Frag} {mg : Str → Option Value} {base : Heap} {f : Addr} {fd : FuncData}
theorem ok_is_picture_by (bf : NoG mg) (F_board_by : Dfn P w K mg base 3 "board_by" ["value"] [] (spP K mg 0 m_board_by)) (F_is_picture_on : Dfn P w K mg base 2 "is_picture_on" ["board", "value"] [] (spP K mg 0 m_is_picture_on)) (F : Fun K "is_picture_by" "is_picture_by" (top 12) f fd) : FnG P w K mg base 4 f fd ["value"] (spP K mg 0 m_is_picture_by) :=
  fnP (C := cfP 2 0) (Γn := []) F sc12 (by decide) fun cdv A outer s H E c =>
  (ds_cons (ds_set (n := 0) sc12.nd rfl (.inl rfl) (dx_lift (dp_fn F_board_by c (by rfl) (da_cons (dp_var rfl (.inl rfl) rfl) da_nil (by simp)))))
  (ds_one (ds_ret (dx_lift (dp_and (q_nN (k := some 0) (dp_var rfl (.inl rfl) rfl) (dp_non (n := 0))) (dp_one (dp_fn F_is_picture_on c (by rfl) (da_cons (dp_var rfl (.inl rfl) rfl) (da_cons (dp_var rfl (.inl rfl) rfl) da_nil (by simp)) (by simp)))))))))
end
theorem sc13 : FnScope ["picture"] ["picture"] (defScope (top 13)) := ⟨rfl, rfl, rfl, by decide +kernel, rfl, by decide +kernel, by decide +kernel⟩
def b_check_picture : DL.Env → Res Out := (sIf (tNotD (tVal (dN m_is_picture_by (dCons (dVar 0) dNil)))) (sRaise "InvalidPicture" (dCons (dVar 0) dNil)) sNil)
def m_check_picture : List D → Res D := runP 1 1 b_check_picture
section
variable [Wd] {P : Program} {w : World} {K : PySem.W.Frag} {mg : Str → Option Value} {base : Heap} {f : Addr} {fd : FuncData}
theorem ok_check_picture (bf : NoG mg) (F_is_picture_by : Dfn P w K mg base 4 "is_picture_by" ["value"] [] (spP K mg 0 m_is_picture_by)) (R_InvalidPicture : Rai P w K mg base 1 "InvalidPicture") (F : Fun K "check_picture" "check_picture" (top 13) f fd) : FnG P w K mg base 5 f fd ["picture"] (spP K mg 0 m_check_picture) :=
  fnP (C := cfP 1 0) (Γn := [.da 0]) F sc13 (by decide) fun cdv A outer s H E c =>
  (ds_one (ds_if (Γn := [.da 0]) (dt_not (dt_val (dp_fn F_is_picture_by c (by rfl) (da_cons (dp_var rfl (.inl rfl) rfl) da_nil (by simp))))) (ds_one (ds_rai R_InvalidPicture c rfl (by rfl) (da_cons (dp_var rfl (.inl rfl) rfl) da_nil (by simp)))) ds_nil))
end
theorem sc14 : FnScope ["table", "row"] ["table"] (defScope (top 14)) := ⟨rfl, rfl, rfl, by decide +kernel, rfl, by decide +kernel, by decide +kernel⟩
def E_copied_1 : DL.Env → Res D := (dN (d1 dList) (dCons (dVar 1) dNil))
def b_copied : DL.Env → Res Out := (sRet (lift (dComp true (iSeq (dVar 0)) (.nm 1) tYesD E_copied_1)))
def m_copied : List D → Res D := runP 1 2 b_copied
section
variable [Wd] {P : Program} {w : World} {K : PySem.W.Frag} {mg : Str → Option Value} {base : Heap} {f : Addr} {fd : FuncData}
theorem ok_copied (bf : NoG mg)  (F : Fun K "copied" "copied" (top 14) f fd) : FnG P w K mg base 1 f fd ["table"] (spP K mg 2 m_copied) :=
  fnP (C := cfP 2 2) (Γn := []) F sc14 (by decide) fun cdv A outer s H E c =>
  (ds_one (ds_ret (dx_lift (dp_comp (own := [("row", 1)]) (n := 1) rfl sc14.nd (di_seq (fr := true) (dp_var rfl (.inl rfl) rfl) (by simp)) (blkOk_by (by rfl)) (fun s1 H1 C1 cl1 fp1 => (dg_name sc14.nd rfl (.inl rfl))) (fun s1 H1 C1 cl1 fp1 => dts_nil) (fun s1 H1 C1 cl1 fp1 => (q_list bf (by rfl) (da_cons (dp_var rfl (.inl rfl) rfl) da_nil (by simp))))))))
end
theorem sc16 : FnScope ["line", "places", "place", "one"] ["line"] (defScope (top 16)) := ⟨rfl, rfl, rfl, by decide +kernel, rfl, by decide +kernel, by decide +kernel⟩
def C_is_line_whole_1 : DL.Env → Res Bool := (tVal (d2 dEq (dVar 3) (dC (.int 1))))
def E_is_line_whole_1 : DL.Env → Res D := (dVar 2)
def b_is_line_whole : DL.Env → Res Out := (sSeq (sSet 1 (lift (dComp true (iEnumD (dVar 0)) (.tp [(.nm 2), (.nm 3)]) C_is_line_whole_1 E_is_line_whole_1)))
  (sRet (lift (dOrV (d2 dEq (dVar 1) (dLst dNil)) (d2 dEq (d2 dAdd (d2 dSub (d2 dIx (dVar 1) (dNeg (dC (.int 1)))) (d2 dIx (dVar 1) (dC (.int 0)))) (dC (.int 1))) (dN (d1 dLen) (dCons (dVar 1) dNil)))))))
def m_is_line_whole : List D → Res D := runP 1 4 b_is_line_whole
section
variable [Wd] {P : Program} {w : World} {K : PySem.W.Frag} {mg : Str → Option Value} {base : Heap} {f : Addr} {fd : FuncData}
theorem ok_is_line_whole (bf : NoG mg)  (F : Fun K "is_line_whole" "is_line_whole" (top 16) f fd) : FnG P w K mg base 1 f fd ["line"] (spP K mg 0 m_is_line_whole) :=
  fnP (C := cfP 4 0) (Γn := []) F sc16 (by decide) fun cdv A outer s H E c =>
  (ds_cons (ds1_post (Γn := [.da 0, .da 0, .no, .no]) (ds_setLc (own := [("place", 2), ("one", 3)]) (n := 0) (fr := true) rfl sc16.nd rfl rfl (by rfl) (di_enum (fr := true) (by rfl) (bf _ (by decide)) (dp_var rfl (.inl rfl) rfl) (by simp)) (blkOk_by (by rfl)) (fun s1 H1 C1 cl1 fp1 => (dg_tup rfl (dgs_cons (dg_name sc16.nd rfl (.inl rfl)) (dgs_cons (dg_name sc16.nd rfl (.inl rfl)) dgs_nil)))) (fun s1 H1 C1 cl1 fp1 => (dts_one (t_eq c.blk (dp_var rfl (.inl rfl) rfl) (dp_int (n := 0))))) (fun s1 H1 C1 cl1 fp1 => (dp_var rfl (.inl rfl) rfl))) rfl)
  (ds_one (ds_ret (dx_lift (dp_or (q_eq (k := some 0) c (dp_var rfl (.inl rfl) rfl) (dp_lst da_nil)) (dp_one (q_eq (k := some 0) c (q_add (q_sub (k := some 0) (q_ix (dp_var rfl (.inl rfl) rfl) (dp_neg (k := some 0) (dp_int (n := 0)))) (q_ix (dp_var rfl (.inl rfl) rfl) (dp_int (n := 0)))) (dp_int (n := 0))) (q_len (k := some 0) bf (by rfl) (da_cons (fr := false) (dp_var rfl (.inl rfl) rfl) da_nil (fun z => nomatch z))))))))))
end
theorem sc17 : FnScope ["picture", "place", "row"] ["picture"] (defScope (top 17)) := ⟨rfl, rfl, rfl, by decide +kernel, rfl, by decide +kernel, by decide +kernel⟩
def E_columns_by_1 : DL.Env → Res D := (d2 dIx (dVar 2) (dVar 1))
def E_columns_by_2 : DL.Env → Res D := (dComp true (iSeq (dVar 0)) (.nm 2) tYesD E_columns_by_1)
def b_columns_by : DL.Env → Res Out := (sRet (lift (dComp true (iRng1D (dN (d1 dLen) (dCons (d2 dIx (dVar 0) (dC (.int 0))) dNil))) (.nm 1) tYesD E_columns_by_2)))
def m_columns_by : List D → Res D := runP 1 3 b_columns_by
section
variable [Wd] {P : Program} {w : World} {K : PySem.W.Frag} {mg : Str → Option Value} {base : Heap} {f : Addr} {fd : FuncData}
theorem ok_columns_by (bf : NoG mg)  (F : Fun K "columns_by" "columns_by" (top 17) f fd) : FnG P w K mg base 1 f fd ["picture"] (spP K mg 2 m_columns_by) :=
  fnP (C := cfP 3 2) (Γn := []) F sc17 (by decide) fun cdv A outer s H E c =>
  (ds_one (ds_ret (dx_lift (dp_comp (own := [("place", 1)]) (n := 1) rfl sc17.nd (di_rng1 (fr := true) (by rfl) (bf _ (by decide)) (q_len (k := some 0) bf (by rfl) (da_cons (fr := false) (q_ix (dp_var rfl (.inr (.inl rfl)) rfl) (dp_int (n := 0))) da_nil (fun z => nomatch z)))) (blkOk_by (by rfl)) (fun s1 H1 C1 cl1 fp1 => (dg_name sc17.nd rfl (.inr rfl))) (fun s1 H1 C1 cl1 fp1 => dts_nil) (fun s1 H1 C1 cl1 fp1 => (dp_comp (own := [("row", 2)]) (n := 0) rfl sc17.nd (di_seq (fr := true) (dp_var rfl (.inr (.inl rfl)) rfl) (by simp)) (blkOk_by (by rfl)) (fun s1 H1 C1 cl1 fp1 => (dg_name sc17.nd rfl (.inl rfl))) (fun s1 H1 C1 cl1 fp1 => dts_nil) (fun s1 H1 C1 cl1 fp1 => (q_ix (dp_var rfl (.inl rfl) rfl) (dp_var rfl (.inr (.inl rfl)) rfl)))))))))
end
theorem sc18 : FnScope ["picture", "line"] ["picture"] (defScope (top 18)) := ⟨rfl, rfl, rfl, by decide +kernel, rfl, by decide +kernel, by decide +kernel⟩
def E_is_whole_by_1 : DL.Env → Res D := (dN m_is_line_whole (dCons (dVar 1) dNil))
def b_is_whole_by : DL.Env → Res Out := (sRet (lift (dN (d1 dAll) (dCons (dComp true (iSeq (d2 dAdd (dVar 0) (dN m_columns_by (dCons (dVar 0) dNil)))) (.nm 1) tYesD E_is_whole_by_1) dNil))))
def m_is_whole_by : List D → Res D := runP 1 2 b_is_whole_by
section
variable [Wd] {P : Program} {w : World} {K : PySem.W.Frag} {mg : Str → Option Value} {base : Heap} {f : Addr} {fd : FuncData}
theorem ok_is_whole_by (bf : NoG mg) (F_columns_by : Dfn P w K mg base 1 "columns_by" ["picture"] [] (spP K mg 2 m_columns_by)) (F_is_line_whole : Dfn P w K mg base 1 "is_line_whole" ["line"] [] (spP K mg 0 m_is_line_whole)) (F : Fun K "is_whole_by" "is_whole_by" (top 18) f fd) : FnG P w K mg base 2 f fd ["picture"] (spP K mg 0 m_is_whole_by) :=
  fnP (C := cfP 2 0) (Γn := []) F sc18 (by decide) fun cdv A outer s H E c =>
  (ds_one (ds_ret (dx_lift (q_all (k := some 0) rfl bf (by rfl) (da_cons (fr := false) (dp_comp (own := [("line", 1)]) (n := 0) rfl sc18.nd (di_seq (fr := true) (q_add (dp_var rfl (.inl rfl) rfl) (dp_fn F_columns_by c (by rfl) (da_cons (dp_var rfl (.inl rfl) rfl) da_nil (by simp)))) (by simp)) (blkOk_by (by rfl)) (fun s1 H1 C1 cl1 fp1 => (dg_name sc18.nd rfl (.inl rfl))) (fun s1 H1 C1 cl1 fp1 => dts_nil) (fun s1 H1 C1 cl1 fp1 => (dp_fn F_is_line_whole c.blk (by rfl) (da_cons (dp_var rfl (.inl rfl) rfl) da_nil (by simp))))) da_nil (fun z => nomatch z))))))
end
theorem sc19 : FnScope ["picture"] ["picture"] (defScope (top 19)) := ⟨rfl, rfl, rfl, by decide +kernel, rfl, by decide +kernel, by decide +kernel⟩
def b_has_no_gaps : DL.Env → Res Out := (sSeq (sDrop (lift (dN m_check_picture (dCons (dVar 0) dNil))))
  (sRet (lift (dN m_is_whole_by (dCons (dVar 0) dNil)))))
def m_has_no_gaps : List D → Res D := runP 1 1 b_has_no_gaps
section
variable [Wd] {P : Program} {w : World} {K : PySem.W.Frag} {mg : Str → Option Value} {base : Heap} {f : Addr} {fd : FuncData}
theorem ok_has_no_gaps (bf : NoG mg) (F_check_picture : Dfn P w K mg base 5 "check_picture" ["picture"] [] (spP K mg 0 m_check_picture)) (F_is_whole_by : Dfn P w K mg base 2 "is_whole_by" ["picture"] [] (spP K mg 0 m_is_whole_by)) (F : Fun K "has_no_gaps" "has_no_gaps" (top 19) f fd) : FnG P w K mg base 6 f fd ["picture"] (spP K mg 0 m_has_no_gaps) :=
  fnP (C := cfP 1 0) (Γn := []) F sc19 (by decide) fun cdv A outer s H E c =>
  (ds_cons (ds_expr (dx_lift (dp_fn F_check_picture c (by rfl) (da_cons (dp_var rfl (.inl rfl) rfl) da_nil (by simp)))))
  (ds_one (ds_ret (dx_lift (dp_fn F_is_whole_by c (by rfl) (da_cons (dp_var rfl (.inl rfl) rfl) da_nil (by simp)))))))
end
theorem sc20 : FnScope ["picture", "kind", "lines", "at", "line"] ["picture"] (defScope (top 20)) := ⟨rfl, rfl, rfl, by decide +kernel, rfl, by decide +kernel, by decide +kernel⟩
def L_first_gap_1 : DL.Env → Res Out := (sIf (tNotD (tVal (dN m_is_line_whole (dCons (dVar 4) dNil)))) (sRet (lift (dTup (dCons (dVar 1) (dCons (dVar 3) dNil))))) sNil)
def L_first_gap_2 : DL.Env → Res Out := (sFor (iEnumD (dVar 2)) (.tp [(.nm 3), (.nm 4)]) L_first_gap_1)
def b_first_gap : DL.Env → Res Out := (sSeq (sDrop (lift (dN m_check_picture (dCons (dVar 0) dNil))))
  (sSeq (sFor (iSeq (dTup (dCons (dTup (dCons (dC (.int 0)) (dCons (dVar 0) dNil))) (dCons (dTup (dCons (dC (.int 1)) (dCons (dN m_columns_by (dCons (dVar 0) dNil)) dNil))) dNil)))) (.tp [(.nm 1), (.nm 2)]) L_first_gap_2)
  (sRet (lift (dC .none)))))
def m_first_gap : List D → Res D := runP 1 5 b_first_gap
section
variable [Wd] {P : Program} {w : World} {K : PySem.W.Frag} {mg : Str → Option Value} {base : Heap} {f : Addr} {fd : FuncData}
theorem ok_first_gap (bf : NoG mg) (F_check_picture : Dfn P w K mg base 5 "check_picture" ["picture"] [] (spP K mg 0 m_check_picture)) (F_is_line_whole : Dfn P w K mg base 1 "is_line_whole" ["line"] [] (spP K mg 0 m_is_line_whole)) (F_columns_by : Dfn P w K mg base 1 "columns_by" ["picture"] [] (spP K mg 2 m_columns_by)) (F : Fun K "first_gap" "first_gap" (top 20) f fd) : FnG P w K mg base 6 f fd ["picture"] (spP K mg 0 m_first_gap) :=
  fnP (C := cfP 5 0) (Γn := []) F sc20 (by decide) fun cdv A outer s H E c =>
  (ds_cons (ds_expr (dx_lift (dp_fn F_check_picture c (by rfl) (da_cons (dp_var rfl (.inl rfl) rfl) da_nil (by simp)))))
  (ds_cons (ds_for .leaving rfl (di_seq (fr := true) (dp_tup (da_cons (dp_tup (da_cons (dp_int (n := 0)) (da_cons (dp_var rfl (.inl rfl) rfl) da_nil (by simp)) (by simp))) (da_cons (dp_tup (da_cons (dp_int (n := 0)) (da_cons (dp_sh (dp_fn F_columns_by c (by rfl) (da_cons (dp_var rfl (.inl rfl) rfl) da_nil (by simp)))) da_nil (by simp)) (by simp))) da_nil (by simp)) (by simp))) (by simp)) (dg_tup rfl (dgs_cons (dg_name sc20.nd rfl (.inl rfl)) (dgs_cons (dg_name sc20.nd rfl (.inl rfl)) dgs_nil))) (ds_post (Γn := [.da 0, .no, .no, .no, .no]) (ds_one (ds_for .leaving rfl (di_enum (fr := true) (by rfl) (bf _ (by decide)) (dp_var rfl (.inl rfl) rfl) (by simp)) (dg_tup rfl (dgs_cons (dg_name sc20.nd rfl (.inl rfl)) (dgs_cons (dg_name sc20.nd rfl (.inl rfl)) dgs_nil))) (ds_post (Γn := [.da 0, .da 0, .da 0, .no, .no]) (ds_one (ds_if (Γn := [.da 0, .da 0, .da 0, .da 0, .da 0]) (dt_not (dt_val (dp_fn F_is_line_whole c (by rfl) (da_cons (dp_var rfl (.inl rfl) rfl) da_nil (by simp))))) (ds_one (ds_ret (dx_lift (dp_tup (da_cons (dp_var rfl (.inl rfl) rfl) (da_cons (dp_var rfl (.inl rfl) rfl) da_nil (by simp)) (by simp)))))) ds_nil)) rfl))) rfl))
  (ds_one (ds_ret (dx_lift (dp_non (n := 0)))))))
end
theorem sc21 : FnScope ["line", "places", "place", "one"] ["line"] (defScope (top 21)) := ⟨rfl, rfl, rfl, by decide +kernel, rfl, by decide +kernel, by decide +kernel⟩
def C_filled_line_1 : DL.Env → Res Bool := (tVal (d2 dEq (dVar 3) (dC (.int 1))))
def E_filled_line_1 : DL.Env → Res D := (dVar 2)
def E_filled_line_2 : DL.Env → Res D := (dN (d1 dInt) (dCons (dChain dLe dLe (d2 dIx (dVar 1) (dC (.int 0))) (dVar 2) (d2 dIx (dVar 1) (dNeg (dC (.int 1))))) dNil))
def b_filled_line : DL.Env → Res Out := (sSeq (sSet 1 (lift (dComp true (iEnumD (dVar 0)) (.tp [(.nm 2), (.nm 3)]) C_filled_line_1 E_filled_line_1)))
  (sSeq (sIf (tVal (d2 dEq (dVar 1) (dLst dNil))) (sRet (lift (dN (d1 dList) (dCons (dVar 0) dNil)))) sNil)
  (sRet (lift (dComp true (iRng1D (dN (d1 dLen) (dCons (dVar 0) dNil))) (.nm 2) tYesD E_filled_line_2)))))
def m_filled_line : List D → Res D := runP 1 4 b_filled_line
section
variable [Wd] {P : Program} {w : World} {K : PySem.W.Frag} {mg : Str → Option Value} {base : Heap} {f : Addr} {fd : FuncData}
theorem ok_filled_line (bf : NoG mg)  (F : Fun K "filled_line" "filled_line" (top 21) f fd) : FnG P w K mg base 1 f fd ["line"] (spP K mg 1 m_filled_line) :=
  fnP (C := cfP 4 1) (Γn := []) F sc21 (by decide) fun cdv A outer s H E c =>
  (ds_cons (ds_set (n := 0) sc21.nd rfl (.inr rfl) (dx_lift (dp_sh (dp_comp (own := [("place", 2), ("one", 3)]) (n := 0) rfl sc21.nd (di_enum (fr := true) (by rfl) (bf _ (by decide)) (dp_var rfl (.inl rfl) rfl) (by simp)) (blkOk_by (by rfl)) (fun s1 H1 C1 cl1 fp1 => (dg_tup rfl (dgs_cons (dg_name sc21.nd rfl (.inl rfl)) (dgs_cons (dg_name sc21.nd rfl (.inl rfl)) dgs_nil)))) (fun s1 H1 C1 cl1 fp1 => (dts_one (t_eq c.blk (dp_var rfl (.inl rfl) rfl) (dp_int (n := 0))))) (fun s1 H1 C1 cl1 fp1 => (dp_var rfl (.inl rfl) rfl))))))
  (ds_cons (ds_if (Γn := [.da 0, .da 0, .no, .no]) (t_eq c (dp_var rfl (.inr (.inl rfl)) rfl) (dp_lst da_nil)) (ds_one (ds_ret (dx_lift (q_list bf (by rfl) (da_cons (dp_var rfl (.inl rfl) rfl) da_nil (by simp)))))) ds_nil)
  (ds_one (ds_ret (dx_lift (dp_comp (own := [("place", 2)]) (n := 0) rfl sc21.nd (di_rng1 (fr := true) (by rfl) (bf _ (by decide)) (q_len (k := some 0) bf (by rfl) (da_cons (fr := false) (dp_var rfl (.inl rfl) rfl) da_nil (fun z => nomatch z)))) (blkOk_by (by rfl)) (fun s1 H1 C1 cl1 fp1 => (dg_name sc21.nd rfl (.inl rfl))) (fun s1 H1 C1 cl1 fp1 => dts_nil) (fun s1 H1 C1 cl1 fp1 => (q_int (k := some 0) bf (by rfl) (da_cons (fr := false) (q_lele (k := some 0) (q_ix (dp_var rfl (.inr (.inl rfl)) rfl) (dp_int (n := 0))) (dp_var rfl (.inl rfl) rfl) (q_ix (dp_var rfl (.inr (.inl rfl)) rfl) (dp_neg (k := some 0) (dp_int (n := 0))))) da_nil (fun z => nomatch z))))))))))
end
theorem sc22 : FnScope ["picture", "here", "rows", "line"] ["picture"] (defScope (top 22)) := ⟨rfl, rfl, rfl, by decide +kernel, rfl, by decide +kernel, by decide +kernel⟩
def E_filled_1 : DL.Env → Res D := (dN m_filled_line (dCons (dVar 3) dNil))
def L_filled_1 : DL.Env → Res Out := (sSeq (sSet 2 (lift (dComp true (iSeq (dVar 1)) (.nm 3) tYesD E_filled_1)))
  (sSet 1 (lift (dN m_columns_by (dCons (dComp true (iSeq (dN m_columns_by (dCons (dVar 2) dNil))) (.nm 3) tYesD E_filled_1) dNil)))))
def b_filled : DL.Env → Res Out := (sSeq (sDrop (lift (dN m_check_picture (dCons (dVar 0) dNil))))
  (sSeq (sSet 1 (lift (dN m_copied (dCons (dVar 0) dNil))))
  (sSeq (whileM (tNotD (tVal (dN m_is_whole_by (dCons (dVar 1) dNil)))) L_filled_1 40)
  (sRet (lift (dVar 1))))))
def m_filled : List D → Res D := runP 1 4 b_filled
section
variable [Wd] {P : Program} {w : World} {K : PySem.W.Frag} {mg : Str → Option Value} {base : Heap} {f : Addr} {fd : FuncData}
theorem ok_filled (bf : NoG mg) (F_check_picture : Dfn P w K mg base 5 "check_picture" ["picture"] [] (spP K mg 0 m_check_picture)) (F_copied : Dfn P w K mg base 1 "copied" ["table"] [] (spP K mg 2 m_copied)) (F_filled_line : Dfn P w K mg base 1 "filled_line" ["line"] [] (spP K mg 1 m_filled_line)) (F_columns_by : Dfn P w K mg base 1 "columns_by" ["picture"] [] (spP K mg 2 m_columns_by)) (F_is_whole_by : Dfn P w K mg base 2 "is_whole_by" ["picture"] [] (spP K mg 0 m_is_whole_by)) (F : Fun K "filled" "filled" (top 22) f fd) : FnG P w K mg base 6 f fd ["picture"] (spP K mg 0 m_filled) :=
  fnP (C := cfP 4 0) (Γn := []) F sc22 (by decide) fun cdv A outer s H E c =>
  (ds_cons (ds_expr (dx_lift (dp_fn F_check_picture c (by rfl) (da_cons (dp_var rfl (.inl rfl) rfl) da_nil (by simp)))))
  (ds_cons (ds_set (n := 0) sc22.nd rfl (.inl rfl) (dx_lift (dp_sh (dp_fn F_copied c (by rfl) (da_cons (dp_var rfl (.inl rfl) rfl) da_nil (by simp))))))
  (ds_cons (ds_while 40 .leaving (dt_not (dt_val (dp_fn F_is_whole_by c (by rfl) (da_cons (dp_var rfl (.inl rfl) rfl) da_nil (by simp))))) (ds_post (Γn := [.da 0, .da 0, .no, .no]) (ds_cons (ds1_post (Γn := [.da 0, .da 0, .da 0, .no]) (ds_setLc (own := [("line", 3)]) (n := 0) (fr := true) rfl sc22.nd rfl rfl (by rfl) (di_seq (fr := true) (dp_var rfl (.inl rfl) rfl) (by simp)) (blkOk_by (by rfl)) (fun s1 H1 C1 cl1 fp1 => (dg_name sc22.nd rfl (.inl rfl))) (fun s1 H1 C1 cl1 fp1 => dts_nil) (fun s1 H1 C1 cl1 fp1 => (dp_sh (dp_fn F_filled_line c.blk (by rfl) (da_cons (dp_var rfl (.inl rfl) rfl) da_nil (by simp)))))) rfl)
  (ds_one (ds_set (n := 0) sc22.nd rfl (.inl rfl) (dx_lift (dp_sh (dp_fn F_columns_by c (by rfl) (da_cons (dp_sh (dp_comp (own := [("line", 3)]) (n := 0) rfl sc22.nd (di_seq (fr := true) (dp_fn F_columns_by c (by rfl) (da_cons (dp_var rfl (.inl rfl) rfl) da_nil (by simp))) (by simp)) (blkOk_by (by rfl)) (fun s1 H1 C1 cl1 fp1 => (dg_name sc22.nd rfl (.inl rfl))) (fun s1 H1 C1 cl1 fp1 => dts_nil) (fun s1 H1 C1 cl1 fp1 => (dp_sh (dp_fn F_filled_line c.blk (by rfl) (da_cons (dp_var rfl (.inl rfl) rfl) da_nil (by simp))))))) da_nil (by simp)))))))) rfl))
  (ds_one (ds_ret (dx_lift (dp_var rfl (.inl rfl) rfl)))))))
end
theorem sc24 : FnScope ["seed", "index", "stirred"] ["seed", "index"] (defScope (top 24)) := ⟨rfl, rfl, rfl, by decide +kernel, rfl, by decide +kernel, by decide +kernel⟩
def b__law_hash : DL.Env → Res Out := (sSeq (sSet 2 (lift (d2 dMod (dN (d1 dInt) (dCons (d2 dAdd (d2 dAdd (d2 dAdd (d2 dMul (dVar 0) (dC (.int 1103515245))) (d2 dMul (d2 dMul (dC (.int 27183)) (dVar 1)) (dVar 1))) (d2 dMul (dC (.int 7919)) (dVar 1))) (dC (.int 101))) dNil)) (dC (.int 2147483629)))))
  (sSeq (sSet 2 (lift (d2 dMod (dN (d1 dInt) (dCons (d2 dAdd (d2 dAdd (d2 dMul (dVar 2) (dVar 2)) (d2 dMul (dC (.int 48271)) (dVar 1))) (dC (.int 31))) dNil)) (dC (.int 2147483587)))))
  (sRet (lift (d2 dMod (dN (d1 dInt) (dCons (d2 dMul (dVar 2) (dC (.int 69621))) dNil)) (dC (.int 2147483647)))))))
def m__law_hash : List D → Res D := runP 2 3 b__law_hash
section
variable [Wd] {P : Program} {w : World} {K : PySem.W.Frag} {mg : Str → Option Value} {base : Heap} {f : Addr} {fd : FuncData}
theorem ok__law_hash (bf : NoG mg)  (F : Fun K "_law_hash" "_law_hash" (top 24) f fd) : FnG P w K mg base 1 f fd ["seed", "index"] (spP K mg 0 m__law_hash) :=
  fnP (C := cfP 3 0) (Γn := []) F sc24 (by decide) fun cdv A outer s H E c =>
  (ds_cons (ds_set (n := 0) sc24.nd rfl (.inl rfl) (dx_lift (q_mod (k := some 0) (q_int (k := some 0) bf (by rfl) (da_cons (fr := false) (q_add (q_add (q_add (q_mul (dp_var rfl (.inl rfl) rfl) (dp_int (n := 0))) (q_mul (q_mul (dp_int (n := 0)) (dp_var rfl (.inl rfl) rfl)) (dp_var rfl (.inl rfl) rfl))) (q_mul (dp_int (n := 0)) (dp_var rfl (.inl rfl) rfl))) (dp_int (n := 0))) da_nil (fun z => nomatch z))) (dp_int (n := 0)))))
  (ds_cons (ds_set (n := 0) sc24.nd rfl (.inl rfl) (dx_lift (q_mod (k := some 0) (q_int (k := some 0) bf (by rfl) (da_cons (fr := false) (q_add (q_add (q_mul (dp_var rfl (.inl rfl) rfl) (dp_var rfl (.inl rfl) rfl)) (q_mul (dp_int (n := 0)) (dp_var rfl (.inl rfl) rfl))) (dp_int (n := 0))) da_nil (fun z => nomatch z))) (dp_int (n := 0)))))
  (ds_one (ds_ret (dx_lift (q_mod (k := some 0) (q_int (k := some 0) bf (by rfl) (da_cons (fr := false) (q_mul (dp_var rfl (.inl rfl) rfl) (dp_int (n := 0))) da_nil (fun z => nomatch z))) (dp_int (n := 0))))))))
end
theorem sc25 : FnScope ["generator", "limit", "drawn", "turn"] ["generator", "limit"] (defScope (top 25)) := ⟨rfl, rfl, rfl, by decide +kernel, rfl, by decide +kernel, by decide +kernel⟩
def L__law_random_1 : DL.Env → Res Out := (sSeq (sPutI 0 (lift (dC (.int 2))) (lift (d2 dAdd (dFlat (d2 dIx (dVar 0) (dC (.int 2)))) (dC (.int 1)))))
  (sSet 2 (lift (d2 dAdd (d2 dMul (dVar 2) (dC (.int 2147483587))) (dN m__law_hash (dCons (dFlat (d2 dIx (dVar 0) (dC (.int 1)))) (dCons (dFlat (d2 dIx (dVar 0) (dC (.int 2)))) dNil)))))))
def b__law_random : DL.Env → Res Out := (sSeq (sIf (tVal (d2 dGt (d2 dIx (dVar 0) (dC (.int 0))) (dC (.int 0)))) (sSeq (sSet 2 (lift (d2 dMod (dN (d1 dInt) (dCons (d2 dIx (dVar 0) (dC (.int 0))) dNil)) (dVar 1))))
  (sSeq (sPutI 0 (lift (dC (.int 0))) (lift (d2 dDiv (d2 dIx (dVar 0) (dC (.int 0))) (dVar 1))))
  (sRet (lift (dVar 2))))) sNil)
  (sSeq (sSet 2 (lift (dC (.int 0))))
  (sSeq (sFor (iRng1D (d2 dAdd (dC (.int 1)) (d2 dDiv (dBits (dVar 1)) (dC (.int 30))))) (.nm 3) L__law_random_1)
  (sRet (lift (d2 dMod (dN (d1 dInt) (dCons (dVar 2) dNil)) (dVar 1)))))))
def m__law_random : List D → Res (D × D) := runM 2 4 b__law_random
section
variable [Wd] {P : Program} {w : World} {K : PySem.W.Frag} {mg : Str → Option Value} {base : Heap} {f : Addr} {fd : FuncData}
theorem ok__law_random (bf : NoG mg) (F__law_hash : Dfn P w K mg base 1 "_law_hash" ["seed", "index"] [] (spP K mg 0 m__law_hash)) (F : Fun K "_law_random" "_law_random" (top 25) f fd) : FnG P w K mg base 2 f fd ["generator", "limit"] (spM K mg 0 1 0 m__law_random) :=
  fnM (C := cfM 1 4 0) (n := 1) (Γn := (gamR 1 4)) F sc25 (by decide) (by decide) rfl rfl rfl fun cdv A outer s H E c =>
  (ds_cons (ds_if (Γn := [.da 1, .da 0, .no, .no]) (t_gt (q_ixT (dp_varT rfl (.inl rfl) rfl) (dp_int (n := 0))) (dp_int (n := 0))) (ds_cons (ds_set (n := 0) sc25.nd rfl (.inl rfl) (dx_lift (q_mod (k := some 0) (q_int (k := some 0) bf (by rfl) (da_cons (fr := false) (q_ixT (dp_varT rfl (.inl rfl) rfl) (dp_int (n := 0))) da_nil (fun z => nomatch z))) (dp_var rfl (.inl rfl) rfl))))
  (ds_cons (ds_putI rfl (.inl rfl) rfl (dx_lift (dp_int (n := 0))) (dx_lift (q_div (k := some 0) (q_ixT (dp_varT rfl (.inl rfl) rfl) (dp_int (n := 0))) (dp_var rfl (.inl rfl) rfl))))
  (ds_one (ds_ret (dx_lift (dp_var rfl (.inl rfl) rfl)))))) ds_nil)
  (ds_cons (ds_set (n := 0) sc25.nd rfl (.inl rfl) (dx_lift (dp_int (n := 0))))
  (ds_cons (ds_for .leaving rfl (di_rng1 (fr := true) (by rfl) (bf _ (by decide)) (q_add (dp_int (n := 0)) (q_div (k := some 0) (dp_bits (k := some 0) (dp_var rfl (.inl rfl) rfl)) (dp_int (n := 0))))) (dg_name sc25.nd rfl (.inl rfl)) (ds_post (Γn := [.da 1, .da 0, .da 0, .no]) (ds_cons (ds_putI rfl (.inl rfl) rfl (dx_lift (dp_int (n := 0))) (dx_lift (dp_sh (q_add (dp_flat (n := 0) (q_ixT (dp_varT rfl (.inl rfl) rfl) (dp_int (n := 0)))) (dp_int (n := 0))))))
  (ds_one (ds_set (n := 0) sc25.nd rfl (.inl rfl) (dx_lift (dp_sh (q_add (q_mul (dp_var rfl (.inl rfl) rfl) (dp_int (n := 0))) (dp_fn F__law_hash c (by rfl) (da_cons (dp_flat (n := 0) (q_ixT (dp_varT rfl (.inl rfl) rfl) (dp_int (n := 0)))) (da_cons (dp_flat (n := 0) (q_ixT (dp_varT rfl (.inl rfl) rfl) (dp_int (n := 0)))) da_nil (by simp)) (by simp))))))))) rfl))
  (ds_one (ds_ret (dx_lift (q_mod (k := some 0) (q_int (k := some 0) bf (by rfl) (da_cons (fr := false) (dp_var rfl (.inl rfl) rfl) da_nil (fun z => nomatch z))) (dp_var rfl (.inl rfl) rfl))))))))
end
theorem sc26 : FnScope ["script", "index"] ["script", "index"] (defScope (top 26)) := ⟨rfl, rfl, rfl, by decide +kernel, rfl, by decide +kernel, by decide +kernel⟩
def b__law_cell : DL.Env → Res Out := (sSeq (sIf (tVal (d2 dLt (dVar 1) (dLenS 0))) (sRet (lift (dIxS 0 (dVar 1)))) sNil)
  (sRet (lift (d2 dMod (dN (d1 dSum) (dCons (dSlS 0 dNoPart (dPart (dC (.int 1)))) dNil)) (dC (.int 1000003))))))
def m__law_cell : List W → Res W := runC 2 2 b__law_cell
section
variable [Wd] {P : Program} {w : World} {K : PySem.W.Frag} {mg : Str → Option Value} {base : Heap} {f : Addr} {fd : FuncData}
theorem ok__law_cell (bf : NoG mg)  (F : Fun K "_law_cell" "_law_cell" (top 26) f fd) : FnG P w K mg base 1 f fd ["script", "index"] (spC K mg [.sc, .da 0] (.da 0) m__law_cell) :=
  fnC (C := cfP 2 0) (Γn := []) (Γp := [.sc, .da 0]) F sc26 (by decide) rfl fun cdv A outer s H E c =>
  (ds_cons (ds_if (Γn := [.sc, .da 0]) (t_lt (dp_var rfl (.inl rfl) rfl) (dp_lenS (k := some 0) rfl (.inl rfl) (by rfl) (by rfl) (bf _ (by decide)))) (ds_one (ds_ret (dx_lift (dp_ixS (k := some 0) rfl (.inl rfl) rfl (dp_var rfl (.inl rfl) rfl))))) ds_nil)
  (ds_one (ds_ret (dx_lift (q_mod (k := some 0) (q_sum (k := some 0) rfl bf (by rfl) (da_cons (fr := false) (dp_slS rfl (.inl rfl) rfl do_none (do_some (dp_int (n := 0)))) da_nil (fun z => nomatch z))) (dp_int (n := 0)))))))
end
theorem sc27 : FnScope ["script", "index", "seed"] ["script", "index"] (defScope (top 27)) := ⟨rfl, rfl, rfl, by decide +kernel, rfl, by decide +kernel, by decide +kernel⟩
def b__law_generator : DL.Env → Res Out := (sSeq (sSet 2 (lift (dNC m__law_cell (wCons (eVar 0) (wCons (eD (dVar 1)) wNil)))))
  (sRet (lift (dLst (dCons (d2 dMod (dN (d1 dInt) (dCons (dN (d12 dMax2) (dCons (d2 dSub (dVar 2) (d2 dPowW (dC (.int 10)) (dC (.int 18)))) (dCons (dC (.int 0)) dNil))) dNil)) (d2 dPowW (d2 dPowW (dC (.int 10)) (dC (.int 60))) (dC (.int 10)))) (dCons (d2 dMod (dN (d1 dInt) (dCons (dVar 2) dNil)) (dC (.int 2147483647))) (dCons (d2 dMul (dC (.int 1000)) (dVar 1)) dNil)))))))
def m__law_generator : List W → Res W := runC 2 3 b__law_generator
section
variable [Wd] {P : Program} {w : World} {K : PySem.W.Frag} {mg : Str → Option Value} {base : Heap} {f : Addr} {fd : FuncData}
theorem ok__law_generator (bf : NoG mg) (F__law_cell : Dfn P w K mg base 1 "_law_cell" ["script", "index"] [] (spC K mg [.sc, .da 0] (.da 0) m__law_cell)) (F : Fun K "_law_generator" "_law_generator" (top 27) f fd) : FnG P w K mg base 2 f fd ["script", "index"] (spC K mg [.sc, .da 0] (.da 1) m__law_generator) :=
  fnC (C := cfP 3 1) (Γn := []) (Γp := [.sc, .da 0]) F sc27 (by decide) rfl fun cdv A outer s H E c =>
  (ds_cons (ds_set (n := 0) sc27.nd rfl (.inl rfl) (dx_lift (dp_fnS F__law_cell c (by rfl) (das_cons (des_var rfl (.inl rfl) rfl ⟨(fun _ z => nomatch z), (fun z => nomatch z)⟩) (das_cons (des_d (dp_var rfl (.inl rfl) rfl)) das_nil)))))
  (ds_one (ds_ret (dx_lift (dp_lst (da_cons (q_mod (k := some 0) (q_int (k := some 0) bf (by rfl) (da_cons (fr := false) (q_max2 (k := some 0) rfl bf (by rfl) (da_cons (fr := false) (q_sub (k := some 0) (dp_var rfl (.inl rfl) rfl) (q_pow (k := some 0) (dp_int (n := 0)) (dp_int (n := 0)))) (da_cons (fr := false) (dp_int (n := 0)) da_nil (fun z => nomatch z)) (fun z => nomatch z))) da_nil (fun z => nomatch z))) (q_pow (k := some 0) (q_pow (k := some 0) (dp_int (n := 0)) (dp_int (n := 0))) (dp_int (n := 0)))) (da_cons (q_mod (k := some 0) (q_int (k := some 0) bf (by rfl) (da_cons (fr := false) (dp_var rfl (.inl rfl) rfl) da_nil (fun z => nomatch z))) (dp_int (n := 0))) (da_cons (dp_sh (q_mul (dp_int (n := 0)) (dp_var rfl (.inl rfl) rfl))) da_nil (by simp)) (by simp)) (by simp)))))))
end
theorem sc28 : FnScope ["generator", "low", "high"] ["generator", "low", "high"] (defScope (top 28)) := ⟨rfl, rfl, rfl, by decide +kernel, rfl, by decide +kernel, by decide +kernel⟩
def b__law_between : DL.Env → Res Out := (sRet (d2X dAdd (lift (dVar 1)) (dM 0 m__law_random (dCons (d2 dAdd (d2 dSub (dVar 2) (dVar 1)) (dC (.int 1))) dNil))))
def m__law_between : List D → Res (D × D) := runM 3 3 b__law_between
section
variable [Wd] {P : Program} {w : World} {K : PySem.W.Frag} {mg : Str → Option Value} {base : Heap} {f : Addr} {fd : FuncData}
theorem ok__law_between (bf : NoG mg) (F__law_random : Dfn P w K mg base 2 "_law_random" ["generator", "limit"] [] (spM K mg 0 1 0 m__law_random)) (F : Fun K "_law_between" "_law_between" (top 28) f fd) : FnG P w K mg base 3 f fd ["generator", "low", "high"] (spM K mg 0 1 0 m__law_between) :=
  fnM (C := cfM 1 3 0) (n := 1) (Γn := (gamR 1 3)) F sc28 (by decide) (by decide) rfl rfl rfl fun cdv A outer s H E c =>
  (ds_one (ds_ret (dx_sh (x_add (dx_lift (dp_var rfl (.inl rfl) rfl)) (dx_gen F__law_random c (by rfl) (by rfl) (dm_first rfl (.inl rfl) rfl (da_cons (dp_sh (q_add (q_sub (k := some 0) (dp_var rfl (.inl rfl) rfl) (dp_var rfl (.inl rfl) rfl)) (dp_int (n := 0)))) da_nil (by simp))))))))
end
theorem sc29 : FnScope ["generator", "items"] ["generator", "items"] (defScope (top 29)) := ⟨rfl, rfl, rfl, by decide +kernel, rfl, by decide +kernel, by decide +kernel⟩
def b__law_pick : DL.Env → Res Out := (sRet (d2X dIx (lift (dVar 1)) (dM 0 m__law_random (dCons (dN (d1 dLen) (dCons (dVar 1) dNil)) dNil))))
def m__law_pick : List D → Res (D × D) := runM 2 2 b__law_pick
section
variable [Wd] {P : Program} {w : World} {K : PySem.W.Frag} {mg : Str → Option Value} {base : Heap} {f : Addr} {fd : FuncData}
theorem ok__law_pick (bf : NoG mg) (F__law_random : Dfn P w K mg base 2 "_law_random" ["generator", "limit"] [] (spM K mg 0 1 0 m__law_random)) (F : Fun K "_law_pick" "_law_pick" (top 29) f fd) : FnG P w K mg base 3 f fd ["generator", "items"] (spM K mg 0 1 0 m__law_pick) :=
  fnM (C := cfM 1 2 0) (n := 1) (Γn := (gamR 1 2)) F sc29 (by decide) (by decide) rfl rfl rfl fun cdv A outer s H E c =>
  (ds_one (ds_ret (x_ix (dx_lift (dp_var rfl (.inl rfl) rfl)) (dx_gen F__law_random c (by rfl) (by rfl) (dm_first rfl (.inl rfl) rfl (da_cons (q_len (k := some 0) bf (by rfl) (da_cons (fr := false) (dp_var rfl (.inl rfl) rfl) da_nil (fun z => nomatch z))) da_nil (by simp)))))))
end
theorem sc30 : FnScope ["call", "found", "e"] ["call"] (defScope (top 30)) := ⟨rfl, rfl, rfl, by decide +kernel, rfl, by decide +kernel, by decide +kernel⟩
def m__law_error : List W → Res W := mErr okc
section
variable [Wd] {P : Program} {w : World} {K : PySem.W.Frag} {mg : Str → Option Value} {base : Heap} {f : Addr} {fd : FuncData}
theorem ok__law_error {Dc : Addr} (eW : P = Wd.P ∧ w = Wd.w ∧ K = Wd.K ∧ mg = Wd.mg ∧ base = Wd.base) (hkc : Wd.kc = 7) (hm : mg "PictureError" = some (.ref Dc)) (hok : ∀ c Cc, okc c = true → mg c = some (.ref Cc) → PySem.W.exmOne K (.ref Cc) (.ref Dc) = some true) (hok2 : ∀ c, okc c = true → ∃ Cc, mg c = some (.ref Cc)) (F : Fun K "_law_error" "_law_error" (top 30) f fd) : FnG P w K mg base 8 f fd ["call"] (spC K mg [.cl] .er m__law_error) :=
  err_ok F sc30 rfl rfl rfl rfl rfl (by decide +kernel) (by decide +kernel) hm hok hok2 eW.1 eW.2.1 eW.2.2.1 eW.2.2.2.1 eW.2.2.2.2 (by rw [hkc]; decide) (by rintro y (rfl | rfl | rfl | rfl) <;> decide)
end
theorem sc31 : FnScope ["call", "place", "value", "found", "kinds", "at"] ["call", "place", "value"] (defScope (top 31)) := ⟨rfl, rfl, rfl, by decide +kernel, rfl, by decide +kernel, by decide +kernel⟩
def E__law_refused_1 : DL.Env → Res D := (d2 dEq (dVar 5) (dVar 1))
def b__law_refused : DL.Env → Res Out := (sSeq (sSetE 3 (eNC m__law_error (wCons (eVar 0) wNil)))
  (sSeq (sSet 4 (lift (dLst (dCons (dIsiX okc sub_InvalidPicture 3) dNil))))
  (sRet (lift (dAndV (d2 dEq (dVar 4) (dComp true (iRng1D (dN (d1 dLen) (dCons (dVar 4) dNil))) (.nm 5) tYesD E__law_refused_1)) (dAndV (dIsiX okc okc 3) (d2 dEq (dN (nRepr) (dCons (dValX okc 3) dNil)) (dN (nRepr) (dCons (dVar 2) dNil)))))))))
def m__law_refused : List W → Res W := runC 3 6 b__law_refused
section
variable [Wd] {P : Program} {w : World} {K : PySem.W.Frag} {mg : Str → Option Value} {base : Heap} {f : Addr} {fd : FuncData}
theorem ok__law_refused (bf : NoG mg) (F__law_error : Dfn P w K mg base 8 "_law_error" ["call"] [] (spC K mg [.cl] .er m__law_error)) (hX_InvalidPicture : EIs K mg okc sub_InvalidPicture "InvalidPicture") (hVE : EIsT K mg okc okc "ValueError") (eW : P = Wd.P ∧ w = Wd.w ∧ K = Wd.K ∧ mg = Wd.mg ∧ base = Wd.base) (hkc : Wd.kc = 7) (F : Fun K "_law_refused" "_law_refused" (top 31) f fd) : FnG P w K mg base 9 f fd ["call", "place", "value"] (spC K mg [.cl, .da 0, .da 0] (.da 0) m__law_refused) :=
  fnC (C := cfP 6 0) (Γn := []) (Γp := [.cl, .da 0, .da 0]) F sc31 (by decide) rfl fun cdv A outer s H E c =>
  (ds_cons (ds_setE sc31.nd rfl (.inl rfl) (de_fnC F__law_error c ⟨eW.1, eW.2.1, eW.2.2.1, eW.2.2.2.1, eW.2.2.2.2⟩ (fun _ => rfl) (by rw [hkc]; decide) (by rfl) (dac_cons (de_var rfl (.inl rfl) rfl ⟨(fun _ z => nomatch z), (fun z => nomatch z)⟩) dac_nil)))
  (ds_cons (ds_set (n := 0) sc31.nd rfl (.inl rfl) (dx_lift (dp_sh (dp_lst (da_cons (q_isiX (k := some 0) hX_InvalidPicture ⟨eW.1, eW.2.1, eW.2.2.1, eW.2.2.2.1, eW.2.2.2.2⟩ bf rfl rfl (.inl rfl) (by rfl) (by rfl)) da_nil (by simp))))))
  (ds_one (ds_ret (dx_lift (dp_and (q_eq (k := some 0) c (dp_var rfl (.inl rfl) rfl) (dp_comp (own := [("at", 5)]) (n := 0) rfl sc31.nd (di_rng1 (fr := true) (by rfl) (bf _ (by decide)) (q_len (k := some 0) bf (by rfl) (da_cons (fr := false) (dp_var rfl (.inl rfl) rfl) da_nil (fun z => nomatch z)))) (blkOk_by (by rfl)) (fun s1 H1 C1 cl1 fp1 => (dg_name sc31.nd rfl (.inl rfl))) (fun s1 H1 C1 cl1 fp1 => dts_nil) (fun s1 H1 C1 cl1 fp1 => (q_eq (k := some 0) c.blk (dp_var rfl (.inl rfl) rfl) (dp_var rfl (.inr (.inl rfl)) rfl))))) (dp_and (q_isiVE (k := some 0) hVE ⟨eW.1, eW.2.1, eW.2.2.1, eW.2.2.2.1, eW.2.2.2.2⟩ bf rfl rfl (.inl rfl) (by rfl) (by rfl)) (dp_one (q_eq (k := some 0) c (q_repr (k := some 0) c bf (by rfl) (da_cons (fr := false) (q_valX hVE ⟨eW.1, eW.2.1, eW.2.2.1, eW.2.2.2.1, eW.2.2.2.2⟩ rfl rfl (.inl rfl)) da_nil (fun z => nomatch z))) (q_repr (k := some 0) c bf (by rfl) (da_cons (fr := false) (dp_var rfl (.inl rfl) rfl) da_nil (fun z => nomatch z))))))))))))
end
theorem sc32 : FnScope ["calls", "place", "value", "call"] ["calls", "place", "value"] (defScope (top 32)) := ⟨rfl, rfl, rfl, by decide +kernel, rfl, by decide +kernel, by decide +kernel⟩
def C__law_all_refused_1 : DL.Env → Res Bool := (tNotD (tVal (dNC m__law_refused (wCons (eVar 3) (wCons (eD (dVar 1)) (wCons (eD (dVar 2)) wNil))))))
def E__law_all_refused_1 : DL.Env → Res D := (dC (.int 1))
def b__law_all_refused : DL.Env → Res Out := (sRet (lift (d2 dEq (dCompC (iCls 0) 3 C__law_all_refused_1 E__law_all_refused_1) (dLst dNil))))
def m__law_all_refused : List W → Res W := runC 3 4 b__law_all_refused
section
variable [Wd] {P : Program} {w : World} {K : PySem.W.Frag} {mg : Str → Option Value} {base : Heap} {f : Addr} {fd : FuncData}
theorem ok__law_all_refused (bf : NoG mg) (F__law_refused : Dfn P w K mg base 9 "_law_refused" ["call", "place", "value"] [] (spC K mg [.cl, .da 0, .da 0] (.da 0) m__law_refused)) (F : Fun K "_law_all_refused" "_law_all_refused" (top 32) f fd) : FnG P w K mg base 10 f fd ["calls", "place", "value"] (spC K mg [.cls, .da 0, .da 0] (.da 0) m__law_all_refused) :=
  fnC (C := cfP 4 0) (Γn := []) (Γp := [.cls, .da 0, .da 0]) F sc32 (by decide) rfl fun cdv A outer s H E c =>
  (ds_one (ds_ret (dx_lift (q_eq (k := some 0) c (dp_compC (own := [("call", 3)]) (n := 0) rfl sc32.nd (dic_var rfl (.inl rfl) rfl) (blkOk_by (by rfl)) (fun s1 H1 C1 cl1 fp1 => pg_name sc32.nd rfl (.inl rfl)) (fun s1 H1 C1 cl1 fp1 => (dts_one (dt_not (dt_val (dp_fnS F__law_refused c.blk (by rfl) (das_cons (des_var rfl (.inl rfl) rfl ⟨(fun _ z => nomatch z), (fun z => nomatch z)⟩) (das_cons (des_d (dp_var rfl (.inr (.inl rfl)) rfl)) (das_cons (des_d (dp_var rfl (.inr (.inl rfl)) rfl)) das_nil)))))))) (fun s1 H1 C1 cl1 fp1 => (dp_int (n := 0)))) (dp_lst da_nil)))))
end
theorem sc33 : FnScope ["generator", "most", "boards", "board"] ["generator", "most"] (defScope (top 33)) := ⟨rfl, rfl, rfl, by decide +kernel, rfl, by decide +kernel, by decide +kernel⟩
def C__law_board_1 : DL.Env → Res Bool := (tVal (d2 dLe (d2 dMul (d2 dIx (dVar 3) (dC (.int 0))) (d2 dIx (dVar 3) (dC (.int 1)))) (dVar 1)))
def E__law_board_1 : DL.Env → Res D := (dVar 3)
def b__law_board : DL.Env → Res Out := (sSeq (sSet 2 (lift (dLst (dCons (dTup (dCons (dC (.int 1)) (dCons (dC (.int 1)) dNil))) (dCons (dTup (dCons (dC (.int 1)) (dCons (dC (.int 5)) dNil))) (dCons (dTup (dCons (dC (.int 2)) (dCons (dC (.int 2)) dNil))) (dCons (dTup (dCons (dC (.int 2)) (dCons (dC (.int 3)) dNil))) (dCons (dTup (dCons (dC (.int 3)) (dCons (dC (.int 3)) dNil))) (dCons (dTup (dCons (dC (.int 3)) (dCons (dC (.int 4)) dNil))) (dCons (dTup (dCons (dC (.int 4)) (dCons (dC (.int 4)) dNil))) (dCons (dTup (dCons (dC (.int 5)) (dCons (dC (.int 3)) dNil))) (dCons (dTup (dCons (dC (.int 5)) (dCons (dC (.int 5)) dNil))) (dCons (dTup (dCons (dC (.int 4)) (dCons (dC (.int 6)) dNil))) (dCons (dTup (dCons (dC (.int 6)) (dCons (dC (.int 4)) dNil))) (dCons (dTup (dCons (dC (.int 6)) (dCons (dC (.int 1)) dNil))) dNil)))))))))))))))
  (sRet (dM 0 m__law_pick (dCons (dComp true (iSeq (dVar 2)) (.nm 3) C__law_board_1 E__law_board_1) dNil))))
def m__law_board : List D → Res (D × D) := runM 2 4 b__law_board
section
variable [Wd] {P : Program} {w : World} {K : PySem.W.Frag} {mg : Str → Option Value} {base : Heap} {f : Addr} {fd : FuncData}
theorem ok__law_board (bf : NoG mg) (F__law_pick : Dfn P w K mg base 3 "_law_pick" ["generator", "items"] [] (spM K mg 0 1 0 m__law_pick)) (F : Fun K "_law_board" "_law_board" (top 33) f fd) : FnG P w K mg base 4 f fd ["generator", "most"] (spM K mg 0 1 0 m__law_board) :=
  fnM (C := cfM 1 4 0) (n := 1) (Γn := (gamR 1 4)) F sc33 (by decide) (by decide) rfl rfl rfl fun cdv A outer s H E c =>
  (ds_cons (ds_set (n := 0) sc33.nd rfl (.inl rfl) (dx_lift (dp_sh (dp_lst (da_cons (dp_tup (da_cons (dp_int (n := 0)) (da_cons (dp_int (n := 0)) da_nil (by simp)) (by simp))) (da_cons (dp_tup (da_cons (dp_int (n := 0)) (da_cons (dp_int (n := 0)) da_nil (by simp)) (by simp))) (da_cons (dp_tup (da_cons (dp_int (n := 0)) (da_cons (dp_int (n := 0)) da_nil (by simp)) (by simp))) (da_cons (dp_tup (da_cons (dp_int (n := 0)) (da_cons (dp_int (n := 0)) da_nil (by simp)) (by simp))) (da_cons (dp_tup (da_cons (dp_int (n := 0)) (da_cons (dp_int (n := 0)) da_nil (by simp)) (by simp))) (da_cons (dp_tup (da_cons (dp_int (n := 0)) (da_cons (dp_int (n := 0)) da_nil (by simp)) (by simp))) (da_cons (dp_tup (da_cons (dp_int (n := 0)) (da_cons (dp_int (n := 0)) da_nil (by simp)) (by simp))) (da_cons (dp_tup (da_cons (dp_int (n := 0)) (da_cons (dp_int (n := 0)) da_nil (by simp)) (by simp))) (da_cons (dp_tup (da_cons (dp_int (n := 0)) (da_cons (dp_int (n := 0)) da_nil (by simp)) (by simp))) (da_cons (dp_tup (da_cons (dp_int (n := 0)) (da_cons (dp_int (n := 0)) da_nil (by simp)) (by simp))) (da_cons (dp_tup (da_cons (dp_int (n := 0)) (da_cons (dp_int (n := 0)) da_nil (by simp)) (by simp))) (da_cons (dp_tup (da_cons (dp_int (n := 0)) (da_cons (dp_int (n := 0)) da_nil (by simp)) (by simp))) da_nil (by simp)) (by simp)) (by simp)) (by simp)) (by simp)) (by simp)) (by simp)) (by simp)) (by simp)) (by simp)) (by simp)) (by simp))))))
  (ds_one (ds_ret (dx_gen F__law_pick c (by rfl) (by rfl) (dm_first rfl (.inl rfl) rfl (da_cons (dp_sh (dp_comp (own := [("board", 3)]) (n := 0) rfl sc33.nd (di_seq (fr := true) (dp_var rfl (.inl rfl) rfl) (by simp)) (blkOk_by (by rfl)) (fun s1 H1 C1 cl1 fp1 => (dg_name sc33.nd rfl (.inl rfl))) (fun s1 H1 C1 cl1 fp1 => (dts_one (t_le (q_mul (q_ix (dp_var rfl (.inl rfl) rfl) (dp_int (n := 0))) (q_ix (dp_var rfl (.inl rfl) rfl) (dp_int (n := 0)))) (dp_var rfl (.inr (.inl rfl)) rfl)))) (fun s1 H1 C1 cl1 fp1 => (dp_var rfl (.inl rfl) rfl)))) da_nil (by simp)))))))
end
theorem sc34 : FnScope ["generator", "board", "thick", "found", "row", "column"] ["generator", "board"] (defScope (top 34)) := ⟨rfl, rfl, rfl, by decide +kernel, rfl, by decide +kernel, by decide +kernel⟩
def E__law_picture_1 : DL.Env → Res (D × DL.Env) := (dNX (d1 dInt) (dConsX (d2X dLt (dM 0 m__law_random (dCons (dC (.int 5)) dNil)) (lift (dVar 2))) (liftA dNil)))
def L__law_picture_1 : DL.Env → Res Out := (sAppX 3 (dCompX true [5] (iRng1D (d2 dIx (dVar 1) (dC (.int 1)))) (.nm 5) tYesD E__law_picture_1))
def b__law_picture : DL.Env → Res Out := (sSeq (sSet 2 (dM 0 m__law_pick (dCons (dLst (dCons (dC (.int 1)) (dCons (dC (.int 2)) (dCons (dC (.int 3)) (dCons (dC (.int 4)) dNil))))) dNil)))
  (sSeq (sSet 3 (lift (dLst dNil)))
  (sSeq (sFor (iRng1D (d2 dIx (dVar 1) (dC (.int 0)))) (.nm 4) L__law_picture_1)
  (sRetV 3))))
def m__law_picture : List D → Res (D × D) := runM 2 6 b__law_picture
section
variable [Wd] {P : Program} {w : World} {K : PySem.W.Frag} {mg : Str → Option Value} {base : Heap} {f : Addr} {fd : FuncData}
theorem ok__law_picture (bf : NoG mg) (F__law_pick : Dfn P w K mg base 3 "_law_pick" ["generator", "items"] [] (spM K mg 0 1 0 m__law_pick)) (F__law_random : Dfn P w K mg base 2 "_law_random" ["generator", "limit"] [] (spM K mg 0 1 0 m__law_random)) (F : Fun K "_law_picture" "_law_picture" (top 34) f fd) : FnG P w K mg base 4 f fd ["generator", "board"] (spM K mg 0 1 2 m__law_picture) :=
  fnM (C := cfM 1 6 2) (n := 1) (Γn := (gamR 1 6)) F sc34 (by decide) (by decide) rfl rfl rfl fun cdv A outer s H E c =>
  (ds_cons (ds_set (n := 0) sc34.nd rfl (.inr rfl) (dx_gen F__law_pick c (by rfl) (by rfl) (dm_first rfl (.inr (.inl rfl)) rfl (da_cons (dp_sh (dp_lst (da_cons (dp_int (n := 0)) (da_cons (dp_int (n := 0)) (da_cons (dp_int (n := 0)) (da_cons (dp_int (n := 0)) da_nil (by simp)) (by simp)) (by simp)) (by simp)))) da_nil (by simp)))))
  (ds_cons (ds_set (n := 2) sc34.nd rfl (.inl rfl) (dx_lift (dp_lstO dao_nil)))
  (ds_cons (ds_for .leaving rfl (di_rng1 (fr := true) (by rfl) (bf _ (by decide)) (q_ix (dp_var rfl (.inl rfl) rfl) (dp_int (n := 0)))) (dg_name sc34.nd rfl (.inl rfl)) (ds_post (Γn := [.da 1, .da 0, .da 0, .da 2, .no, .no]) (ds_one (ds_appX (m := 1) rfl (.inl rfl) rfl (dx_comp (own := [("column", 5)]) (n := 0) rfl sc34.nd (di_rng1 (fr := true) (by rfl) (bf _ (by decide)) (q_ix (dp_var rfl (.inl rfl) rfl) (dp_int (n := 0)))) (blkOk_by (by rfl)) (fun s1 H1 C1 cl1 fp1 => (dg_name sc34.nd rfl (.inl rfl))) (fun s1 H1 C1 cl1 fp1 => dts_nil) (fun s1 H1 C1 cl1 fp1 => (x_int (k := some 0) bf (by rfl) (dax_cons (x_lt (k := some 0) (dx_gen F__law_random c.blk (by rfl) (by rfl) (dm_first rfl (.inr (.inl rfl)) rfl (da_cons (dp_int (n := 0)) da_nil (by simp)))) (dx_lift (dp_var rfl (.inr (.inl rfl)) rfl))) (dax_lift da_nil))))))) rfl))
  (ds_one (ds_retV rfl (.inl rfl))))))
end
theorem sc35 : FnScope ["picture", "place", "row"] ["picture"] (defScope (top 35)) := ⟨rfl, rfl, rfl, by decide +kernel, rfl, by decide +kernel, by decide +kernel⟩
def E__law_columns_1 : DL.Env → Res D := (d2 dIx (dVar 2) (dVar 1))
def E__law_columns_2 : DL.Env → Res D := (dComp true (iSeq (dVar 0)) (.nm 2) tYesD E__law_columns_1)
def b__law_columns : DL.Env → Res Out := (sRet (lift (dComp true (iRng1D (dN (d1 dLen) (dCons (d2 dIx (dVar 0) (dC (.int 0))) dNil))) (.nm 1) tYesD E__law_columns_2)))
def m__law_columns : List D → Res D := runP 1 3 b__law_columns
section
variable [Wd] {P : Program} {w : World} {K : PySem.W.Frag} {mg : Str → Option Value} {base : Heap} {f : Addr} {fd : FuncData}
theorem ok__law_columns (bf : NoG mg)  (F : Fun K "_law_columns" "_law_columns" (top 35) f fd) : FnG P w K mg base 1 f fd ["picture"] (spP K mg 2 m__law_columns) :=
  fnP (C := cfP 3 2) (Γn := []) F sc35 (by decide) fun cdv A outer s H E c =>
  (ds_one (ds_ret (dx_lift (dp_comp (own := [("place", 1)]) (n := 1) rfl sc35.nd (di_rng1 (fr := true) (by rfl) (bf _ (by decide)) (q_len (k := some 0) bf (by rfl) (da_cons (fr := false) (q_ix (dp_var rfl (.inr (.inl rfl)) rfl) (dp_int (n := 0))) da_nil (fun z => nomatch z)))) (blkOk_by (by rfl)) (fun s1 H1 C1 cl1 fp1 => (dg_name sc35.nd rfl (.inr rfl))) (fun s1 H1 C1 cl1 fp1 => dts_nil) (fun s1 H1 C1 cl1 fp1 => (dp_comp (own := [("row", 2)]) (n := 0) rfl sc35.nd (di_seq (fr := true) (dp_var rfl (.inr (.inl rfl)) rfl) (by simp)) (blkOk_by (by rfl)) (fun s1 H1 C1 cl1 fp1 => (dg_name sc35.nd rfl (.inl rfl))) (fun s1 H1 C1 cl1 fp1 => dts_nil) (fun s1 H1 C1 cl1 fp1 => (q_ix (dp_var rfl (.inl rfl) rfl) (dp_var rfl (.inr (.inl rfl)) rfl)))))))))
end
theorem sc36 : FnScope ["generator", "picture", "at", "row", "place", "odd", "one"] ["generator", "picture"] (defScope (top 36)) := ⟨rfl, rfl, rfl, by decide +kernel, rfl, by decide +kernel, by decide +kernel⟩
def E__law_no_picture_1 : DL.Env → Res D := (d2 dAdd (d2 dAdd (dSlice (dVar 3) dNoPart (dPart (dVar 4))) (dLst (dCons (dVar 6) dNil))) (dSlice (dVar 3) (dPart (d2 dAdd (dVar 4) (dC (.int 1)))) dNoPart))
def E__law_no_picture_2 : DL.Env → Res D := (d2 dAdd (d2 dAdd (dSlice (dVar 1) dNoPart (dPart (dVar 2))) (dLst (dCons (dVar 6) dNil))) (dSlice (dVar 1) (dPart (d2 dAdd (dVar 2) (dC (.int 1)))) dNoPart))
def b__law_no_picture : DL.Env → Res Out := (sSeq (sSet 2 (dM 0 m__law_random (dCons (dN (d1 dLen) (dCons (dVar 1) dNil)) dNil)))
  (sSeq (sSet 3 (lift (d2 dIx (dVar 1) (dVar 2))))
  (sSeq (sSet 4 (dM 0 m__law_random (dCons (dN (d1 dLen) (dCons (dVar 3) dNil)) dNil)))
  (sSeq (sSet 5 (lift (d2 dAdd (d2 dAdd (dComp true (iSeq (dLst (dCons (dC (.int 2)) (dCons (dC .none) (dCons (dC (.bool true)) (dCons (dC (.str ("1" : Str))) (dCons (d2 dSub (dC (.int 0)) (dC (.int 1))) dNil))))))) (.nm 6) tYesD E__law_no_picture_1) (d2 dMul (dLst (dCons (d2 dAdd (dVar 3) (dLst (dCons (dC (.int 0)) dNil))) (dCons (dN (d1 dTuple) (dCons (dVar 3) dNil)) (dCons (dC .none) dNil)))) (dN (d1 dInt) (dCons (d2 dGt (dN (d1 dLen) (dCons (dVar 1) dNil)) (dC (.int 1))) dNil)))) (dLst (dCons (dN (d1 dTuple) (dCons (dVar 3) dNil)) dNil)))))
  (sRet (dM 0 m__law_pick (dCons (d2 dAdd (dLst (dCons (dC .none) (dCons (dLst dNil) (dCons (dN (d1 dTuple) (dCons (dVar 1) dNil)) (dCons (dLst (dCons (dLst dNil) dNil)) dNil))))) (dComp true (iSeq (dVar 5)) (.nm 6) tYesD E__law_no_picture_2)) dNil)))))))
def m__law_no_picture : List D → Res (D × D) := runM 2 7 b__law_no_picture
section
variable [Wd] {P : Program} {w : World} {K : PySem.W.Frag} {mg : Str → Option Value} {base : Heap} {f : Addr} {fd : FuncData}
theorem ok__law_no_picture (bf : NoG mg) (F__law_random : Dfn P w K mg base 2 "_law_random" ["generator", "limit"] [] (spM K mg 0 1 0 m__law_random)) (F__law_pick : Dfn P w K mg base 3 "_law_pick" ["generator", "items"] [] (spM K mg 0 1 0 m__law_pick)) (F : Fun K "_law_no_picture" "_law_no_picture" (top 36) f fd) : FnG P w K mg base 4 f fd ["generator", "picture"] (spM K mg 0 1 0 m__law_no_picture) :=
  fnM (C := cfM 1 7 0) (n := 1) (Γn := (gamR 1 7)) F sc36 (by decide) (by decide) rfl rfl rfl fun cdv A outer s H E c =>
  (ds_cons (ds_set (n := 0) sc36.nd rfl (.inr rfl) (dx_gen F__law_random c (by rfl) (by rfl) (dm_first rfl (.inl rfl) rfl (da_cons (q_len (k := some 0) bf (by rfl) (da_cons (fr := false) (dp_var rfl (.inr (.inl rfl)) rfl) da_nil (fun z => nomatch z))) da_nil (by simp)))))
  (ds_cons (ds_set (n := 0) sc36.nd rfl (.inr rfl) (dx_lift (q_ix (dp_var rfl (.inr (.inl rfl)) rfl) (dp_var rfl (.inr (.inl rfl)) rfl))))
  (ds_cons (ds_set (n := 0) sc36.nd rfl (.inr rfl) (dx_gen F__law_random c (by rfl) (by rfl) (dm_first rfl (.inl rfl) rfl (da_cons (q_len (k := some 0) bf (by rfl) (da_cons (fr := false) (dp_var rfl (.inr (.inl rfl)) rfl) da_nil (fun z => nomatch z))) da_nil (by simp)))))
  (ds_cons (ds_set (n := 0) sc36.nd rfl (.inl rfl) (dx_lift (dp_sh (q_add (q_add (dp_comp (own := [("one", 6)]) (n := 0) rfl sc36.nd (di_seq (fr := true) (dp_lst (da_cons (dp_int (n := 0)) (da_cons (dp_non (n := 0)) (da_cons (dp_bl (n := 0)) (da_cons (dp_str (n := 0)) (da_cons (q_sub (k := some 0) (dp_int (n := 0)) (dp_int (n := 0))) da_nil (by simp)) (by simp)) (by simp)) (by simp)) (by simp))) (by simp)) (blkOk_by (by rfl)) (fun s1 H1 C1 cl1 fp1 => (dg_name sc36.nd rfl (.inl rfl))) (fun s1 H1 C1 cl1 fp1 => dts_nil) (fun s1 H1 C1 cl1 fp1 => (dp_sh (q_add (q_add (dp_slice (dp_var rfl (.inr (.inl rfl)) rfl) do_none (do_some (dp_var rfl (.inr (.inl rfl)) rfl)) (by simp)) (dp_lst (da_cons (dp_var rfl (.inl rfl) rfl) da_nil (by simp)))) (dp_slice (dp_var rfl (.inr (.inl rfl)) rfl) (do_some (q_add (dp_var rfl (.inr (.inl rfl)) rfl) (dp_int (n := 0)))) do_none (by simp)))))) (q_mul (dp_lst (da_cons (dp_sh (q_add (dp_var rfl (.inr (.inl rfl)) rfl) (dp_lst (da_cons (dp_int (n := 0)) da_nil (by simp))))) (da_cons (q_tuple bf (by rfl) (da_cons (dp_var rfl (.inr (.inl rfl)) rfl) da_nil (by simp))) (da_cons (dp_non (n := 0)) da_nil (by simp)) (by simp)) (by simp))) (q_int (k := some 0) bf (by rfl) (da_cons (fr := false) (q_gt (k := some 0) (q_len (k := some 0) bf (by rfl) (da_cons (fr := false) (dp_var rfl (.inr (.inl rfl)) rfl) da_nil (fun z => nomatch z))) (dp_int (n := 0))) da_nil (fun z => nomatch z))))) (dp_lst (da_cons (q_tuple bf (by rfl) (da_cons (dp_var rfl (.inr (.inl rfl)) rfl) da_nil (by simp))) da_nil (by simp)))))))
  (ds_one (ds_ret (dx_gen F__law_pick c (by rfl) (by rfl) (dm_first rfl (.inl rfl) rfl (da_cons (dp_sh (q_add (dp_lst (da_cons (dp_non (n := 0)) (da_cons (dp_sh (dp_lst da_nil)) (da_cons (q_tuple bf (by rfl) (da_cons (dp_var rfl (.inr (.inl rfl)) rfl) da_nil (by simp))) (da_cons (dp_sh (dp_lst (da_cons (dp_sh (dp_lst da_nil)) da_nil (by simp)))) da_nil (by simp)) (by simp)) (by simp)) (by simp))) (dp_comp (own := [("one", 6)]) (n := 0) rfl sc36.nd (di_seq (fr := true) (dp_var rfl (.inl rfl) rfl) (by simp)) (blkOk_by (by rfl)) (fun s1 H1 C1 cl1 fp1 => (dg_name sc36.nd rfl (.inl rfl))) (fun s1 H1 C1 cl1 fp1 => dts_nil) (fun s1 H1 C1 cl1 fp1 => (dp_sh (q_add (q_add (dp_slice (dp_var rfl (.inr (.inl rfl)) rfl) do_none (do_some (dp_var rfl (.inr (.inl rfl)) rfl)) (by simp)) (dp_lst (da_cons (dp_var rfl (.inl rfl) rfl) da_nil (by simp)))) (dp_slice (dp_var rfl (.inr (.inl rfl)) rfl) (do_some (q_add (dp_var rfl (.inr (.inl rfl)) rfl) (dp_int (n := 0)))) do_none (by simp)))))))) da_nil (by simp))))))))))
end
theorem sc37 : FnScope ["line", "places", "place"] ["line"] (defScope (top 37)) := ⟨rfl, rfl, rfl, by decide +kernel, rfl, by decide +kernel, by decide +kernel⟩
def C__law_line_whole_1 : DL.Env → Res Bool := (tVal (d2 dEq (d2 dIx (dVar 0) (dVar 2)) (dC (.int 1))))
def E__law_line_whole_1 : DL.Env → Res D := (dVar 2)
def b__law_line_whole : DL.Env → Res Out := (sSeq (sSet 1 (lift (dComp true (iRng1D (dN (d1 dLen) (dCons (dVar 0) dNil))) (.nm 2) C__law_line_whole_1 E__law_line_whole_1)))
  (sRet (lift (dOrV (d2 dEq (dVar 1) (dLst dNil)) (d2 dEq (d2 dAdd (d2 dSub (d2 dIx (dVar 1) (dNeg (dC (.int 1)))) (d2 dIx (dVar 1) (dC (.int 0)))) (dC (.int 1))) (dN (d1 dLen) (dCons (dVar 1) dNil)))))))
def m__law_line_whole : List D → Res D := runP 1 3 b__law_line_whole
section
variable [Wd] {P : Program} {w : World} {K : PySem.W.Frag} {mg : Str → Option Value} {base : Heap} {f : Addr} {fd : FuncData}
theorem ok__law_line_whole (bf : NoG mg)  (F : Fun K "_law_line_whole" "_law_line_whole" (top 37) f fd) : FnG P w K mg base 1 f fd ["line"] (spP K mg 0 m__law_line_whole) :=
  fnP (C := cfP 3 0) (Γn := []) F sc37 (by decide) fun cdv A outer s H E c =>
  (ds_cons (ds1_post (Γn := [.da 0, .da 0, .no]) (ds_setLc (own := [("place", 2)]) (n := 0) (fr := true) rfl sc37.nd rfl rfl (by rfl) (di_rng1 (fr := true) (by rfl) (bf _ (by decide)) (q_len (k := some 0) bf (by rfl) (da_cons (fr := false) (dp_var rfl (.inr (.inl rfl)) rfl) da_nil (fun z => nomatch z)))) (blkOk_by (by rfl)) (fun s1 H1 C1 cl1 fp1 => (dg_name sc37.nd rfl (.inl rfl))) (fun s1 H1 C1 cl1 fp1 => (dts_one (t_eq c.blk (q_ix (dp_var rfl (.inr (.inl rfl)) rfl) (dp_var rfl (.inl rfl) rfl)) (dp_int (n := 0))))) (fun s1 H1 C1 cl1 fp1 => (dp_var rfl (.inl rfl) rfl))) rfl)
  (ds_one (ds_ret (dx_lift (dp_or (q_eq (k := some 0) c (dp_var rfl (.inl rfl) rfl) (dp_lst da_nil)) (dp_one (q_eq (k := some 0) c (q_add (q_sub (k := some 0) (q_ix (dp_var rfl (.inl rfl) rfl) (dp_neg (k := some 0) (dp_int (n := 0)))) (q_ix (dp_var rfl (.inl rfl) rfl) (dp_int (n := 0)))) (dp_int (n := 0))) (q_len (k := some 0) bf (by rfl) (da_cons (fr := false) (dp_var rfl (.inl rfl) rfl) da_nil (fun z => nomatch z))))))))))
end
theorem sc38 : FnScope ["picture", "kind", "lines", "at", "line"] ["picture"] (defScope (top 38)) := ⟨rfl, rfl, rfl, by decide +kernel, rfl, by decide +kernel, by decide +kernel⟩
def L__law_first_1 : DL.Env → Res Out := (sIf (tNotD (tVal (dN m__law_line_whole (dCons (dVar 4) dNil)))) (sRet (lift (dTup (dCons (dVar 1) (dCons (dVar 3) dNil))))) sNil)
def L__law_first_2 : DL.Env → Res Out := (sFor (iEnumD (dVar 2)) (.tp [(.nm 3), (.nm 4)]) L__law_first_1)
def b__law_first : DL.Env → Res Out := (sSeq (sFor (iSeq (dLst (dCons (dTup (dCons (dC (.int 0)) (dCons (dVar 0) dNil))) (dCons (dTup (dCons (dC (.int 1)) (dCons (dN m__law_columns (dCons (dVar 0) dNil)) dNil))) dNil)))) (.tp [(.nm 1), (.nm 2)]) L__law_first_2)
  (sRet (lift (dC .none))))
def m__law_first : List D → Res D := runP 1 5 b__law_first
section
variable [Wd] {P : Program} {w : World} {K : PySem.W.Frag} {mg : Str → Option Value} {base : Heap} {f : Addr} {fd : FuncData}
theorem ok__law_first (bf : NoG mg) (F__law_line_whole : Dfn P w K mg base 1 "_law_line_whole" ["line"] [] (spP K mg 0 m__law_line_whole)) (F__law_columns : Dfn P w K mg base 1 "_law_columns" ["picture"] [] (spP K mg 2 m__law_columns)) (F : Fun K "_law_first" "_law_first" (top 38) f fd) : FnG P w K mg base 2 f fd ["picture"] (spP K mg 0 m__law_first) :=
  fnP (C := cfP 5 0) (Γn := []) F sc38 (by decide) fun cdv A outer s H E c =>
  (ds_cons (ds_for .leaving rfl (di_seq (fr := true) (dp_lst (da_cons (dp_tup (da_cons (dp_int (n := 0)) (da_cons (dp_var rfl (.inl rfl) rfl) da_nil (by simp)) (by simp))) (da_cons (dp_tup (da_cons (dp_int (n := 0)) (da_cons (dp_sh (dp_fn F__law_columns c (by rfl) (da_cons (dp_var rfl (.inl rfl) rfl) da_nil (by simp)))) da_nil (by simp)) (by simp))) da_nil (by simp)) (by simp))) (by simp)) (dg_tup rfl (dgs_cons (dg_name sc38.nd rfl (.inl rfl)) (dgs_cons (dg_name sc38.nd rfl (.inl rfl)) dgs_nil))) (ds_post (Γn := [.da 0, .no, .no, .no, .no]) (ds_one (ds_for .leaving rfl (di_enum (fr := true) (by rfl) (bf _ (by decide)) (dp_var rfl (.inl rfl) rfl) (by simp)) (dg_tup rfl (dgs_cons (dg_name sc38.nd rfl (.inl rfl)) (dgs_cons (dg_name sc38.nd rfl (.inl rfl)) dgs_nil))) (ds_post (Γn := [.da 0, .da 0, .da 0, .no, .no]) (ds_one (ds_if (Γn := [.da 0, .da 0, .da 0, .da 0, .da 0]) (dt_not (dt_val (dp_fn F__law_line_whole c (by rfl) (da_cons (dp_var rfl (.inl rfl) rfl) da_nil (by simp))))) (ds_one (ds_ret (dx_lift (dp_tup (da_cons (dp_var rfl (.inl rfl) rfl) (da_cons (dp_var rfl (.inl rfl) rfl) da_nil (by simp)) (by simp)))))) ds_nil)) rfl))) rfl))
  (ds_one (ds_ret (dx_lift (dp_non (n := 0))))))
end
theorem sc39 : FnScope ["generator", "picture", "rows", "line", "places", "one", "due", "kept", "no_picture", "calls", "place"] ["generator"] (defScope (top 39)) := ⟨rfl, rfl, rfl, by decide +kernel, rfl, by decide +kernel, by decide +kernel⟩
def S__law_good_1 : DL.Env → Res Out := (sSet 1 (dMX 0 m__law_picture (dConsX (dM 0 m__law_board (dCons (dC (.int 25)) dNil)) (liftA dNil))))
def S__law_good_2 : DL.Env → Res Out := (sSet 2 (lift (dLst dNil)))
def C__law_good_1 : DL.Env → Res Bool := (tVal (d2 dEq (d2 dIx (dVar 3) (dVar 10)) (dC (.int 1))))
def E__law_good_1 : DL.Env → Res D := (dVar 10)
def E__law_good_2 : DL.Env → Res D := (dN (d1 dInt) (dCons (dAndV (d2 dNe (dVar 4) (dLst dNil)) (dChain dLe dLe (d2 dIx (dVar 4) (dC (.int 0))) (dVar 10) (d2 dIx (dVar 4) (dNeg (dC (.int 1)))))) dNil))
def L__law_good_1 : DL.Env → Res Out := (sSeq (sSet 4 (lift (dComp true (iRng1D (dN (d1 dLen) (dCons (dVar 3) dNil))) (.nm 10) C__law_good_1 E__law_good_1)))
  (sApp 2 (aNil 2) (dComp true (iRng1D (dN (d1 dLen) (dCons (dVar 3) dNil))) (.nm 10) tYesD E__law_good_2)))
def S__law_good_3 : DL.Env → Res Out := (sFor (iSeq (dVar 1)) (.nm 3) L__law_good_1)
def L__law_good_2 : DL.Env → Res Out := (sSeq (sPar 6 7 (lift (dN m__law_first (dCons (dVar 5) dNil))) (lift (dN (nRepr) (dCons (dVar 5) dNil))))
  (sSeq (sIf (tVal (d2 dNe (dN (nRepr) (dCons (dLst (dCons (dN m_first_gap (dCons (dVar 5) dNil)) (dCons (dNK 1 [0] m_first_gap (dCons (dVar 5) dNil)) dNil))) dNil)) (dN (nRepr) (dCons (dLst (dCons (dVar 6) (dCons (dVar 6) dNil))) dNil)))) (sRet (lift (dC (.bool false)))) sNil)
  (sIf (tOrD (tVal (d2 dNe (dN (nRepr) (dCons (dLst (dCons (dN m_has_no_gaps (dCons (dVar 5) dNil)) (dCons (dNK 1 [0] m_has_no_gaps (dCons (dVar 5) dNil)) dNil))) dNil)) (dN (nRepr) (dCons (d2 dMul (dLst (dCons (d2 dIsN (dVar 6) (dC .none)) dNil)) (dC (.int 2))) dNil)))) (tVal (d2 dNe (dN (nRepr) (dCons (dVar 5) dNil)) (dVar 7)))) (sRet (lift (dC (.bool false)))) sNil)))
def S__law_good_4 : DL.Env → Res Out := (sFor (iSeq (dLst (dCons (dVar 1) (dCons (dVar 2) (dCons (dN m__law_columns (dCons (dVar 2) dNil)) (dCons (dN m_filled (dCons (dVar 1) dNil)) dNil)))))) (.nm 5) L__law_good_2)
def S__law_good_5 : DL.Env → Res Out := (sSet 8 (dM 0 m__law_no_picture (dCons (dVar 1) dNil)))
def B__law_good_1 : DL.Env → Res D := (dN m_first_gap (dCons (dVar 8) dNil))
def B__law_good_2 : DL.Env → Res D := (dN m_has_no_gaps (dCons (dVar 8) dNil))
def S__law_good_6 : DL.Env → Res Out := (sRet (lift (dNC m__law_all_refused (wCons (eCs [B__law_good_1, B__law_good_2]) (wCons (eD (dC (.int 0))) (wCons (eD (dVar 8)) wNil))))))
def b__law_good : DL.Env → Res Out := (sSeq S__law_good_1
  (sSeq S__law_good_2
  (sSeq S__law_good_3
  (sSeq S__law_good_4
  (sSeq S__law_good_5
  S__law_good_6)))))
def m__law_good : List D → Res (D × D) := runM 1 11 b__law_good
section
variable [Wd] {P : Program} {w : World} {K : PySem.W.Frag} {mg : Str → Option Value} {base : Heap} {f : Addr} {fd : FuncData}
theorem ok__law_good (bf : NoG mg) (F__law_picture : Dfn P w K mg base 4 "_law_picture" ["generator", "board"] [] (spM K mg 0 1 2 m__law_picture)) (F__law_board : Dfn P w K mg base 4 "_law_board" ["generator", "most"] [] (spM K mg 0 1 0 m__law_board)) (F__law_first : Dfn P w K mg base 2 "_law_first" ["picture"] [] (spP K mg 0 m__law_first)) (F_first_gap : Dfn P w K mg base 6 "first_gap" ["picture"] [(["picture"], [0])] (spP K mg 0 m_first_gap)) (F_has_no_gaps : Dfn P w K mg base 6 "has_no_gaps" ["picture"] [(["picture"], [0])] (spP K mg 0 m_has_no_gaps)) (F_filled : Dfn P w K mg base 6 "filled" ["picture"] [] (spP K mg 0 m_filled)) (F__law_columns : Dfn P w K mg base 1 "_law_columns" ["picture"] [] (spP K mg 2 m__law_columns)) (F__law_no_picture : Dfn P w K mg base 4 "_law_no_picture" ["generator", "picture"] [] (spM K mg 0 1 0 m__law_no_picture)) (F__law_all_refused : Dfn P w K mg base 10 "_law_all_refused" ["calls", "place", "value"] [] (spC K mg [.cls, .da 0, .da 0] (.da 0) m__law_all_refused)) (eW : P = Wd.P ∧ w = Wd.w ∧ K = Wd.K ∧ mg = Wd.mg ∧ base = Wd.base) (hkc : Wd.kc = 7) (hlam : LamH mg base fd (envOfC "_law_good" (defScope (top 39)) 0 0 .none).qual) (F : Fun K "_law_good" "_law_good" (top 39) f fd) : FnG P w K mg base 11 f fd ["generator"] (spM K mg 0 1 0 m__law_good) :=
  fnML (C := cfM 1 11 0) (n := 1) (Γn := (gamR 1 11)) F sc39 (by decide) (by decide) rfl rfl rfl fun cdv hcv A outer s H E c => (LamH.lam2 (X := cxOf (L2.CX P w) P w K mg base ["generator", "picture", "rows", "line", "places", "one", "due", "kept", "no_picture", "calls", "place"] "_law_good" (defScope (top 39)) f cdv A outer s H E) hlam rfl rfl rfl hcv).elim fun lc h1 => h1.elim fun lP LM =>
  (ds_cons (ds_set (n := 0) sc39.nd rfl (.inl rfl) (dx_sh (dx_genX F__law_picture c (by rfl) (by rfl) (dmx_first rfl (.inl rfl) rfl (dax_cons (dx_gen F__law_board c (by rfl) (by rfl) (dm_first rfl (.inl rfl) rfl (da_cons (dp_int (n := 0)) da_nil (by simp)))) (dax_lift da_nil))))))
  (ds_cons (ds_set (n := 2) sc39.nd rfl (.inl rfl) (dx_lift (dp_lstO dao_nil)))
  (ds_cons (ds_for .leaving rfl (di_seq (fr := true) (dp_var rfl (.inl rfl) rfl) (by simp)) (dg_name sc39.nd rfl (.inr rfl)) (ds_post (Γn := [.da 1, .da 0, .da 2, .no, .no, .no, .no, .no, .no, .no, .no]) (ds_cons (ds_set (n := 0) sc39.nd rfl (.inr rfl) (dx_lift (dp_sh (dp_comp (own := [("place", 10)]) (n := 0) rfl sc39.nd (di_rng1 (fr := true) (by rfl) (bf _ (by decide)) (q_len (k := some 0) bf (by rfl) (da_cons (fr := false) (dp_var rfl (.inr (.inl rfl)) rfl) da_nil (fun z => nomatch z)))) (blkOk_by (by rfl)) (fun s1 H1 C1 cl1 fp1 => (dg_name sc39.nd rfl (.inl rfl))) (fun s1 H1 C1 cl1 fp1 => (dts_one (t_eq c.blk (q_ix (dp_var rfl (.inr (.inl rfl)) rfl) (dp_var rfl (.inl rfl) rfl)) (dp_int (n := 0))))) (fun s1 H1 C1 cl1 fp1 => (dp_var rfl (.inl rfl) rfl))))))
  (ds_one (ds_app (p := 0) (m := 1) rfl (dpa_var rfl (.inl rfl) rfl) (dp_comp (own := [("place", 10)]) (n := 0) rfl sc39.nd (di_rng1 (fr := true) (by rfl) (bf _ (by decide)) (q_len (k := some 0) bf (by rfl) (da_cons (fr := false) (dp_var rfl (.inr (.inl rfl)) rfl) da_nil (fun z => nomatch z)))) (blkOk_by (by rfl)) (fun s1 H1 C1 cl1 fp1 => (dg_name sc39.nd rfl (.inl rfl))) (fun s1 H1 C1 cl1 fp1 => dts_nil) (fun s1 H1 C1 cl1 fp1 => (q_int (k := some 0) bf (by rfl) (da_cons (fr := false) (dp_and (q_ne (k := some 0) c.blk (dp_var rfl (.inr (.inl rfl)) rfl) (dp_lst da_nil)) (dp_one (q_lele (k := some 0) (q_ix (dp_var rfl (.inr (.inl rfl)) rfl) (dp_int (n := 0))) (dp_var rfl (.inl rfl) rfl) (q_ix (dp_var rfl (.inr (.inl rfl)) rfl) (dp_neg (k := some 0) (dp_int (n := 0))))))) da_nil (fun z => nomatch z)))))))) rfl))
  (ds_cons (ds1_pre (Γ1 := [.da 1, .da 0, .da 0, .no, .no, .no, .no, .no, .no, .no, .no]) rfl (ds_for .leaving rfl (di_seq (fr := true) (dp_lst (da_cons (dp_var rfl (.inl rfl) rfl) (da_cons (dp_var rfl (.inl rfl) rfl) (da_cons (dp_sh (dp_fn F__law_columns c (by rfl) (da_cons (dp_var rfl (.inl rfl) rfl) da_nil (by simp)))) (da_cons (dp_fn F_filled c (by rfl) (da_cons (dp_var rfl (.inl rfl) rfl) da_nil (by simp))) da_nil (by simp)) (by simp)) (by simp)) (by simp))) (by simp)) (dg_name sc39.nd rfl (.inl rfl)) (ds_post (Γn := [.da 1, .da 0, .da 0, .no, .no, .no, .no, .no, .no, .no, .no]) (ds_cons (ds_par (n1 := 0) (n2 := 0) rfl sc39.nd rfl rfl (by decide) rfl rfl (dx_lift (dp_fn F__law_first c (by rfl) (da_cons (dp_var rfl (.inl rfl) rfl) da_nil (by simp)))) (dx_lift (q_repr (k := some 0) c bf (by rfl) (da_cons (fr := false) (dp_var rfl (.inl rfl) rfl) da_nil (fun z => nomatch z)))) (by rfl))
  (ds_cons (ds_if (Γn := [.da 1, .da 0, .da 0, .no, .no, .da 0, .da 0, .da 0, .no, .no, .no]) (t_ne c (q_repr (k := some 0) c bf (by rfl) (da_cons (fr := false) (dp_lst (da_cons (dp_fn F_first_gap c (by rfl) (da_cons (dp_var rfl (.inl rfl) rfl) da_nil (by simp))) (da_cons (dp_fnK (ks := ["picture"]) (ix := [0]) F_first_gap c (by rfl) (dk_cons (dp_var rfl (.inl rfl) rfl) dk_nil)) da_nil (by simp)) (by simp))) da_nil (fun z => nomatch z))) (q_repr (k := some 0) c bf (by rfl) (da_cons (fr := false) (dp_lst (da_cons (dp_var rfl (.inl rfl) rfl) (da_cons (dp_var rfl (.inl rfl) rfl) da_nil (by simp)) (by simp))) da_nil (fun z => nomatch z)))) (ds_one (ds_ret (dx_lift (dp_bl (n := 0))))) ds_nil)
  (ds_one (ds_if (Γn := [.da 1, .da 0, .da 0, .no, .no, .da 0, .da 0, .da 0, .no, .no, .no]) (DW.dt (dw_or (t_ne c (q_repr (k := some 0) c bf (by rfl) (da_cons (fr := false) (dp_lst (da_cons (dp_fn F_has_no_gaps c (by rfl) (da_cons (dp_var rfl (.inl rfl) rfl) da_nil (by simp))) (da_cons (dp_fnK (ks := ["picture"]) (ix := [0]) F_has_no_gaps c (by rfl) (dk_cons (dp_var rfl (.inl rfl) rfl) dk_nil)) da_nil (by simp)) (by simp))) da_nil (fun z => nomatch z))) (q_repr (k := some 0) c bf (by rfl) (da_cons (fr := false) (q_mul (dp_lst (da_cons (q_isN (k := some 0) (dp_var rfl (.inl rfl) rfl) (dp_non (n := 0))) da_nil (by simp))) (dp_int (n := 0))) da_nil (fun z => nomatch z)))) (dw_or1 (t_ne c (q_repr (k := some 0) c bf (by rfl) (da_cons (fr := false) (dp_var rfl (.inl rfl) rfl) da_nil (fun z => nomatch z))) (dp_var rfl (.inl rfl) rfl))))) (ds_one (ds_ret (dx_lift (dp_bl (n := 0))))) ds_nil)))) rfl)))
  (ds_cons (ds_set (n := 0) sc39.nd rfl (.inr rfl) (dx_gen F__law_no_picture c (by rfl) (by rfl) (dm_first rfl (.inl rfl) rfl (da_cons (dp_var rfl (.inl rfl) rfl) da_nil (by simp)))))
  (ds_lams (i := 9) rfl sc39.nd rfl (.inl rfl) LM ⟨LamX.lamS_by (by rfl), fun _ _ _ _ _ => rfl, [.no, .no, .no, .no, .no, .no, .no, .no, .da 0, .no, .no], rfl, fun A outer s1 H1 E f c0 c1 => (dp_fn F_first_gap (c1.kc hkc) (by rfl) (da_cons (dp_var rfl (.inr (.inr rfl)) rfl) da_nil (by simp)))⟩
  (dsa_app rfl (.inl rfl) LM ⟨LamX.lamS_by (by rfl), fun _ _ _ _ _ => rfl, [.no, .no, .no, .no, .no, .no, .no, .no, .da 0, .no, .no], rfl, fun A outer s1 H1 E f c0 c1 => (dp_fn F_has_no_gaps (c1.kc hkc) (by rfl) (da_cons (dp_var rfl (.inr (.inr rfl)) rfl) da_nil (by simp)))⟩
  (dsa_one (dsj_ret (dpj_fnC F__law_all_refused c ⟨eW.1, eW.2.1, eW.2.2.1, eW.2.2.2.1, eW.2.2.2.2⟩ (fun _ => rfl) (by rw [hkc]; decide) (by rfl) rfl (.inl rfl) (dac_cons (de_d (dp_int (n := 0))) (dac_cons (de_d (dp_var rfl (.inr (.inl rfl)) rfl)) dac_nil))))))))))))
end
theorem sc40 : FnScope ["script", "index"] ["script"] (defScope (top 40)) := ⟨rfl, rfl, rfl, by decide +kernel, rfl, by decide +kernel, by decide +kernel⟩
def L_law_1 : DL.Env → Res Out := (sIf (tNotD (tVal (dMT m__law_good (dNC m__law_generator (wCons (eVar 0) (wCons (eD (dVar 1)) wNil))) dNil))) (sRet (lift (dC (.bool false)))) sNil)
def b_law : DL.Env → Res Out := (sSeq (sFor (iRng1D (dC (.int 8))) (.nm 1) L_law_1)
  (sRet (lift (dAndV (d2 dEq (dN m_first_gap (dCons (dLst (dCons (dLst (dCons (dC (.int 1)) (dCons (dC (.int 0)) (dCons (dC (.int 1)) dNil)))) dNil)) dNil)) (dTup (dCons (dC (.int 0)) (dCons (dC (.int 0)) dNil)))) (dAndV (d2 dEq (dN m_first_gap (dCons (dLst (dCons (dLst (dCons (dC (.int 0)) (dCons (dC (.int 1)) dNil))) (dCons (dLst (dCons (dC (.int 1)) (dCons (dC (.int 0)) dNil))) (dCons (dLst (dCons (dC (.int 0)) (dCons (dC (.int 1)) dNil))) dNil)))) dNil)) (dTup (dCons (dC (.int 1)) (dCons (dC (.int 1)) dNil)))) (dN m_has_no_gaps (dCons (dLst (dCons (dLst (dCons (dC (.int 0)) dNil)) dNil)) dNil)))))))
def m_law : List W → Res W := runC 1 2 b_law
section
variable [Wd] {P : Program} {w : World} {K : PySem.W.Frag} {mg : Str → Option Value} {base : Heap} {f : Addr} {fd : FuncData}
theorem ok_law (bf : NoG mg) (F__law_good : Dfn P w K mg base 11 "_law_good" ["generator"] [] (spM K mg 0 1 0 m__law_good)) (F__law_generator : Dfn P w K mg base 2 "_law_generator" ["script", "index"] [] (spC K mg [.sc, .da 0] (.da 1) m__law_generator)) (F_first_gap : Dfn P w K mg base 6 "first_gap" ["picture"] [(["picture"], [0])] (spP K mg 0 m_first_gap)) (F_has_no_gaps : Dfn P w K mg base 6 "has_no_gaps" ["picture"] [(["picture"], [0])] (spP K mg 0 m_has_no_gaps)) (F : Fun K "law" "law" (top 40) f fd) : FnG P w K mg base 12 f fd ["script"] (spC K mg [.sc] (.da 0) m_law) :=
  fnC (C := cfP 2 0) (Γn := []) (Γp := [.sc]) F sc40 (by decide) rfl fun cdv A outer s H E c =>
  (ds_cons (ds_for .leaving rfl (di_rng1 (fr := true) (by rfl) (bf _ (by decide)) (dp_int (n := 0))) (dg_name sc40.nd rfl (.inl rfl)) (ds_post (Γn := [.sc, .no]) (ds_one (ds_if (Γn := [.sc, .da 0]) (dt_not (dt_val (dp_genT F__law_good c (by rfl) (dp_fnS F__law_generator c (by rfl) (das_cons (des_var rfl (.inl rfl) rfl ⟨(fun _ z => nomatch z), (fun z => nomatch z)⟩) (das_cons (des_d (dp_var rfl (.inl rfl) rfl)) das_nil))) da_nil))) (ds_one (ds_ret (dx_lift (dp_bl (n := 0))))) ds_nil)) rfl))
  (ds_one (ds_ret (dx_lift (dp_and (q_eq (k := some 0) c (dp_fn F_first_gap c (by rfl) (da_cons (dp_sh (dp_lst (da_cons (dp_sh (dp_lst (da_cons (dp_int (n := 0)) (da_cons (dp_int (n := 0)) (da_cons (dp_int (n := 0)) da_nil (by simp)) (by simp)) (by simp)))) da_nil (by simp)))) da_nil (by simp))) (dp_tup (da_cons (dp_int (n := 0)) (da_cons (dp_int (n := 0)) da_nil (by simp)) (by simp)))) (dp_and (q_eq (k := some 0) c (dp_fn F_first_gap c (by rfl) (da_cons (dp_sh (dp_lst (da_cons (dp_sh (dp_lst (da_cons (dp_int (n := 0)) (da_cons (dp_int (n := 0)) da_nil (by simp)) (by simp)))) (da_cons (dp_sh (dp_lst (da_cons (dp_int (n := 0)) (da_cons (dp_int (n := 0)) da_nil (by simp)) (by simp)))) (da_cons (dp_sh (dp_lst (da_cons (dp_int (n := 0)) (da_cons (dp_int (n := 0)) da_nil (by simp)) (by simp)))) da_nil (by simp)) (by simp)) (by simp)))) da_nil (by simp))) (dp_tup (da_cons (dp_int (n := 0)) (da_cons (dp_int (n := 0)) da_nil (by simp)) (by simp)))) (dp_one (dp_fn F_has_no_gaps c (by rfl) (da_cons (dp_sh (dp_lst (da_cons (dp_sh (dp_lst (da_cons (dp_int (n := 0)) da_nil (by simp)))) da_nil (by simp)))) da_nil (by simp))))))))))
end
end DL

namespace DL
open PySem PySem.Spec PyProof.Rows L2
structure Gen3 where
  a : Int
  b : Int
  c : Int
def G3 (g : Gen3) : D := .list [.int g.a, .int g.b, .int g.c]
structure Gn (N : Int) (g : Gen3) : Prop where
  a0 : 0 ≤ g.a
  b0 : 0 ≤ g.b
  b1 : g.b < 2147483647
  c0 : 0 ≤ g.c
  c1 : g.c ≤ N
theorem hash_ex (s i : Int) (hs0 : 0 ≤ s) (hs : s < 2147483647) (hi0 : 0 ≤ i) (hi : i ≤ 2 ^ 60) : ∃ r : Int, m__law_hash [.int s, .int i] = .ok (.int r) ∧ 0 ≤ r ∧ r < 2147483647 := by
  have h1 : small i = true := small_of (by omega)
  refine ⟨_, by unfold m__law_hash b__law_hash; simp [h1]; rfl, fmod_range _ _ (by decide)⟩
theorem intBits_lt (n : Int) (h0 : 0 < n) (h : n < 2 ^ 29) : Builtin.Int.intBits n ≤ 29 := by
  unfold Builtin.Int.intBits
  rw [if_neg (by simp; omega)]
  have : n.natAbs.log2 < 29 := (Nat.log2_lt (by omega)).mpr (by omega)
  omega
theorem rngA_1 : rngA (.int 1) = .ok [.int 0] := rngA_n 1 (by omega)
theorem random_ex (g : Gen3) (N n : Int) (h : Gn N g) (hN : N ≤ 2 ^ 59) (h0 : 0 < n) (hn : n < 2 ^ 29) : ∃ (r : Int) (g' : Gen3), m__law_random [G3 g, .int n] = .ok (.int r, G3 g') ∧ 0 ≤ r ∧ r < n ∧ Gn (N + 1) g' := by
  obtain ⟨a, b, c⟩ := g
  obtain ⟨a0, b0, b1, c0, c1⟩ := h
  dsimp only at a0 b0 b1 c0 c1
  have hr := fmod_range a n h0
  by_cases ha : 0 < a
  · refine ⟨a.fmod n, ⟨a.fdiv n, b, c⟩, ?_, hr.1, hr.2, ⟨Int.fdiv_nonneg a0 (by omega), b0, b1, c0, by show c ≤ N + 1; omega⟩⟩
    unfold m__law_random b__law_random G3
    have e1 : n ≠ 0 := by omega
    have e2 : n.natAbs < 1073741824 := by omega
    simp [ha, e1, e2]
  · obtain ⟨r, e, r0, r1⟩ := hash_ex b (c + 1) b0 b1 (by omega) (by omega)
    have e1 : n ≠ 0 := by omega
    have hb := intBits_lt n h0 hn
    have e3 : 1 + ((Builtin.Int.intBits n : Nat) : Int).fdiv 30 = 1 := by
      rw [Int.fdiv_eq_ediv_of_nonneg _ (by omega)]
      omega
    have e4 : flat (.int (c + 1)) = true := rfl
    have e5 : flat (.int b) = true := rfl
    have e6 : flat (.int c) = true := rfl
    refine ⟨r.fmod n, ⟨a, b, c + 1⟩, ?_, (fmod_range _ _ h0).1, (fmod_range _ _ h0).2, ⟨a0, b0, b1, by show 0 ≤ c + 1; omega, by show c + 1 ≤ N + 1; omega⟩⟩
    unfold m__law_random b__law_random G3
    simp [ha, e3, rngA_1, forM_cons, L__law_random_1, e4, e5, e6, e, e1]
theorem pick_ex (g : Gen3) (N : Int) (xs : List D) (h : Gn N g) (hN : N ≤ 2 ^ 59) (h0 : 0 < xs.length) (hn : xs.length < 2 ^ 29) : ∃ (x : D) (g' : Gen3), m__law_pick [G3 g, .list xs] = .ok (x, G3 g') ∧ x ∈ xs ∧ Gn (N + 1) g' := by
  obtain ⟨r, g', e, r0, r1, hg⟩ := random_ex g N xs.length h hN (by omega) (by omega)
  refine ⟨xs[r.toNat]'(by omega), g', ?_, List.getElem_mem _, hg⟩
  unfold m__law_pick b__law_pick
  simp [e, atI_ok r0 (show r.toNat < xs.length by omega)]
end DL

namespace DL
open PySem PySem.Spec PyProof.Rows L2
def whole : D → Bool
  | .int _ => true
  | _ => false
theorem is_whole_eq (v : D) : m_is_whole [v] = .ok (.bool (whole v)) := by
  unfold m_is_whole b_is_whole
  cases v <;> simp [dIsi_int, dIsi_bool, isiK, whole]
def bitD (lo hi : Int) : D → Bool
  | .int i => decide (lo ≤ i) && decide (i ≤ hi)
  | _ => false
theorem all_bits (lo hi : Int) (xs : List D) : dAll (.list (xs.map fun d => .bool (bitD lo hi d))) = .ok (.bool (xs.all (bitD lo hi))) := by
  have := dAll_m (xs.map (bitD lo hi))
  rw [List.map_map, List.all_map] at this
  exact this
theorem all_of {α : Type} (f : α → Bool) (xs : List α) : dAll (.list (xs.map fun d => .bool (f d))) = .ok (.bool (xs.all f)) := by
  have := dAll_m (xs.map f)
  rw [List.map_map, List.all_map] at this
  exact this
def okBoard (h w : Nat) : Bool := decide (1 ≤ h ∧ h ≤ 6 ∧ 1 ≤ w ∧ w ≤ 6 ∧ h * w ≤ 25)
theorem is_board_by_eq (h w : Nat) (hh : h < 2 ^ 30) (hw : w < 2 ^ 30) : m_is_board_by [.tuple [.int h, .int w]] = .ok (.bool (okBoard h w)) := by
  have e1 : small (h : Int) = true := small_of (by omega)
  unfold m_is_board_by b_is_board_by
  have e : compM true (.nm 1) tYesD E_is_board_by_1 [.d (.tuple [.int h, .int w]), .d .none] [.int h, .int w] = .ok [.bool true, .bool true] := by
    simp [compM_cons, E_is_board_by_1, is_whole_eq, whole]
  have e2 : dAll (.list [.bool true, .bool true]) = .ok (.bool true) := dAll_m [true, true]
  have e4 : ((h : Int) * (w : Int) ≤ 25) ↔ h * w ≤ 25 := by
    rw [← Int.natCast_mul]; omega
  simp [dIsi_tuple, isiK, e, e2, e1]
  unfold okBoard
  by_cases h1 : (1 : Int) ≤ h
  · by_cases h2 : (h : Int) ≤ 6
    · by_cases h3 : (1 : Int) ≤ w
      · by_cases h4 : (w : Int) ≤ 6
        · have a1 : 1 ≤ h := by omega
          have a2 : h ≤ 6 := by omega
          have a3 : 1 ≤ w := by omega
          have a4 : w ≤ 6 := by omega
          simp [h1, h2, h3, h4, e4, a1, a2, a3, a4, e1]
        · have a4 : ¬ w ≤ 6 := by omega
          simp [h1, h2, h3, h4, a4]
      · have a4 : w = 0 := by omega
        subst a4
        simp [h1, h2]
    · have a4 : ¬ h ≤ 6 := by omega
      simp [h1, h2, a4]
  · have a4 : h = 0 := by omega
    subst a4
    simp
/-- the rows -/
def rowOk (w : Nat) : D → Bool
  | .list ys => decide (ys.length = w)
  | _ => false
def rowBits : D → Bool
  | .list ys => ys.all (bitD 0 1)
  | _ => false
theorem is_square_by_eq (h w : Nat) (xs : List D) (hl : xs.length = h) : m_is_square_by [.tuple [.int h, .int w], .list xs] = .ok (.bool (xs.all (rowOk w))) := by
  unfold m_is_square_by b_is_square_by
  have e : compM true (.nm 2) tYesD E_is_square_by_1 [.d (.tuple [.int h, .int w]), .d (.list xs), .d .none] xs = .ok (xs.map fun d => .bool (rowOk w d)) := by
    have := compM_all (.nm 2) E_is_square_by_1 [.d (.tuple [.int h, .int w]), .d (.list xs), .d .none] id (fun d => .bool (rowOk w d)) xs fun d _ => ⟨_, rfl, by
      unfold E_is_square_by_1
      cases d <;> simp [dIsi_list, isiK, rowOk]
      omega⟩
    rw [List.map_id] at this
    exact this
  have e2 := all_of (rowOk w) xs
  have e3 : (xs.length : Int) = (h : Int) := by omega
  simp [dIsi_list, isiK, e, e2, e3]
theorem is_picture_on_eq (h w : Nat) (xs : List D) (hl : xs.length = h) : m_is_picture_on [.tuple [.int h, .int w], .list xs] = .ok (.bool (xs.all (rowOk w) && xs.all rowBits)) := by
  unfold m_is_picture_on b_is_picture_on
  by_cases hq : xs.all (rowOk w) = true
  · have e : compM true (.nm 2) tYesD E_is_picture_on_2 [.d (.tuple [.int h, .int w]), .d (.list xs), .d .none, .d .none] xs = .ok (xs.map fun d => .bool (rowBits d)) := by
      have := compM_all (.nm 2) E_is_picture_on_2 [.d (.tuple [.int h, .int w]), .d (.list xs), .d .none, .d .none] id (fun d => .bool (rowBits d)) xs fun d m => ⟨_, rfl, by
        have hd := List.all_eq_true.mp hq d m
        cases d with
        | list ys =>
          have e1 : compM true (.nm 3) tYesD E_is_picture_on_1 [.d (.tuple [.int h, .int w]), .d (.list xs), .d (.list ys), .d .none] ys = .ok (ys.map fun d => .bool (bitD 0 1 d)) := by
            have := compM_all (.nm 3) E_is_picture_on_1 [.d (.tuple [.int h, .int w]), .d (.list xs), .d (.list ys), .d .none] id (fun d => .bool (bitD 0 1 d)) ys fun d _ => ⟨_, rfl, by
              unfold E_is_picture_on_1
              cases d <;> simp [is_whole_eq, whole, bitD]⟩
            rw [List.map_id] at this
            exact this
          unfold E_is_picture_on_2
          simp [e1, all_bits, rowBits]
        | _ => simp [rowOk] at hd⟩
      rw [List.map_id] at this
      exact this
    have e2 := all_of rowBits xs
    simp [is_square_by_eq h w xs hl, hq, e, e2]
  · rw [Bool.not_eq_true] at hq
    simp [is_square_by_eq h w xs hl, hq]
/-- a list whose first is a list -/
def isPicL (xs : List D) : Bool := match xs with
  | .list ys :: _ => okBoard xs.length ys.length && (xs.all (rowOk ys.length) && xs.all rowBits)
  | _ => false
def isPic : D → Bool
  | .list xs => isPicL xs
  | _ => false
/-- the board of a value, told by its sides -/
def sides : D → Option (Nat × Nat)
  | .list (.list ys :: r) => if okBoard (r.length + 1) ys.length = true then some (r.length + 1, ys.length) else none
  | _ => none
theorem sides_l (ys r : List D) : sides (.list (.list ys :: r)) = if okBoard (r.length + 1) ys.length = true then some (r.length + 1, ys.length) else none := (rfl)
def sidesD : Option (Nat × Nat) → D
  | some (h, w) => .tuple [.int h, .int w]
  | none => .none
theorem board_by_eq (v : D) (hs : SeqAt.shaped v = true) (hl : ∀ ys r, v = .list (.list ys :: r) → r.length < 1000000 ∧ ys.length < 1000000) : m_board_by [v] = .ok (sidesD (sides v)) := by
  unfold m_board_by b_board_by
  cases v with
  | list xs =>
    cases xs with
    | nil => simp [dIsi_list, isiK, dEq_nil _ hs, sides, sidesD]
    | cons x r =>
      cases x with
      | list ys =>
        obtain ⟨l1, l2⟩ := hl ys r rfl
        have e := is_board_by_eq (r.length + 1) ys.length (by omega) (by omega)
        have c : ((r.length + 1 : Nat) : Int) = (r.length : Int) + 1 := rfl
        rw [c] at e
        rw [sides_l]
        by_cases q : okBoard (r.length + 1) ys.length = true
        · rw [if_pos q]
          simp [dIsi_list, isiK, dEq_nil _ hs, e, q, sidesD]
        · rw [if_neg q]
          rw [Bool.not_eq_true] at q
          simp [dIsi_list, isiK, dEq_nil _ hs, e, q, sidesD]
      | _ => simp [dIsi_list, isiK, dEq_nil _ hs, sides, sidesD]
  | _ => simp [dIsi_list, isiK, sides, sidesD]
theorem is_picture_by_eq (v : D) (hs : SeqAt.shaped v = true) (hl : ∀ ys r, v = .list (.list ys :: r) → r.length < 1000000 ∧ ys.length < 1000000) : m_is_picture_by [v] = .ok (.bool (isPic v)) := by
  have e := board_by_eq v hs hl
  unfold m_is_picture_by b_is_picture_by
  unfold sides at e
  split at e
  · rename_i ys r
    have c : ((r.length + 1 : Nat) : Int) = (r.length : Int) + 1 := rfl
    by_cases q : okBoard (r.length + 1) ys.length = true
    · rw [if_pos q] at e
      have e2 := is_picture_on_eq (r.length + 1) ys.length (.list ys :: r) rfl
      rw [c] at e2
      simp [e, e2, isPic, isPicL, q, sidesD]
    · rw [if_neg q] at e
      rw [Bool.not_eq_true] at q
      simp [e, isPic, isPicL, q, sidesD]
  · rename_i hv
    have : isPic v = false := by
      unfold isPic isPicL
      split
      · split
        · rename_i ys r
          exact absurd rfl (hv ys r)
        · rfl
      · rfl
    simp [e, this, sidesD]
theorem check_picture_eq (v : D) (hs : SeqAt.shaped v = true) (hl : ∀ ys r, v = .list (.list ys :: r) → r.length < 1000000 ∧ ys.length < 1000000) : m_check_picture [v] = if isPic v = true then .ok .none else .exc "InvalidPicture" v := by
  unfold m_check_picture b_check_picture
  by_cases h : isPic v = true
  · simp [is_picture_by_eq v hs hl, h]
  · simp [is_picture_by_eq v hs hl, h]
end DL

namespace DL
open PySem PySem.Spec PyProof.Rows L2
theorem bI_eq1 (b : Bool) : dEq (bI b) (.int 1) = .ok (.bool b) := by
  unfold bI
  cases b <;> simp
theorem row_at (l : List Bool) (i : Nat) (h : i < l.length) : atI (l.map bI) (i : Int) = some (bI (l.getD i false)) := by
  rw [atI_nat, List.getElem?_map, List.getElem?_eq_getElem h, List.getD_eq_getElem?_getD, List.getElem?_eq_getElem h]
  rfl
theorem places_enum (l : List Bool) (x y z w : W) : compM true (.tp [(.nm 2), (.nm 3)]) C_is_line_whole_1 E_is_line_whole_1 [x, y, z, w] (enumL 0 (l.map bI)) = .ok ((posN l).map nD) := by
  rw [enumL_map bI false l 0]
  have := compM_map (.tp [(.nm 2), (.nm 3)]) C_is_line_whole_1 E_is_line_whole_1 [x, y, z, w] (fun i => .tuple [nD (0 + i), bI (l.getD i false)]) (fun i => l.getD i false) nD (List.range l.length) fun i _ => ⟨[x, y, .d (nD i), .d (bI (l.getD i false))], by simp, by
    unfold C_is_line_whole_1
    simp [bI_eq1], fun _ => rfl⟩
  exact this
theorem whole_end (ps : List Nat) (hl : ps.length < 1000000) (ρ : Env) (h : dVar 1 ρ = .ok (.list (ps.map nD))) : (dOrV (d2 dEq (dVar 1) (dLst dNil)) (d2 dEq (d2 dAdd (d2 dSub (d2 dIx (dVar 1) (dNeg (dC (.int 1)))) (d2 dIx (dVar 1) (dC (.int 0)))) (dC (.int 1))) (dN (d1 dLen) (dCons (dVar 1) dNil)))) ρ = .ok (.bool (wholeL ps)) := by
  have e1 := dEq_nil _ (shaped_LN ps)
  cases ps with
  | nil =>
    rw [List.map_nil] at e1 h
    simp [h, e1, wholeL]
  | cons a r =>
    have e2 : atI ((a :: r).map nD) (-1) = some (nD ((a :: r).getD ((a :: r).length - 1) 0)) := by
      rw [atI_last _ (by simp), List.length_map, List.getElem?_map, List.getD_eq_getElem?_getD, List.getElem?_eq_getElem (show (a :: r).length - 1 < (a :: r).length by simp)]
      rfl
    have e3 : atI ((a :: r).map nD) 0 = some (nD a) := by rw [List.map_cons, atI_0]
    have e4 : (a :: r).getD 0 0 = a := rfl
    unfold wholeL
    rw [e4]
    generalize (a :: r).getD ((a :: r).length - 1) 0 = t at e2
    rw [List.map_cons] at e1 e2 e3 h
    simp only [nD] at e1 e2 e3 h
    simp [h, e1, e2, e3]
theorem posN_len (l : List Bool) : (posN l).length ≤ l.length := by
  have := List.length_filter_le (fun i => l.getD i false) (List.range l.length)
  rw [List.length_range] at this
  exact this
theorem is_line_whole_eq (l : List Bool) (hl : l.length < 1000000) : m_is_line_whole [rowD l] = .ok (.bool (wholeB l)) := by
  unfold m_is_line_whole b_is_line_whole
  have e := places_enum l (.d (rowD l)) (.d .none) (.d .none) (.d .none)
  have e2 := whole_end (posN l) (by have := posN_len l; omega) [.d (rowD l), .d (.list ((posN l).map nD)), .d .none, .d .none] rfl
  simp only [runP_ev, List.length_cons, List.length_nil, env0_0, List.map_cons, List.map_nil, List.replicate, List.cons_append, List.nil_append, sSeq_ev, sSet_ev, lift_ev, dComp_ev, iEnumD_ev, dVar_ev0, Res.ok_bnd, asList_l, e, nox_ev, List.set, seqE_nx, sRet_ev, e2, outD_rt]
  rfl
theorem law_line_whole_eq (l : List Bool) (hl : l.length < 1000000) : m__law_line_whole [rowD l] = .ok (.bool (wholeB l)) := by
  unfold m__law_line_whole b__law_line_whole
  have e : compM true (.nm 2) C__law_line_whole_1 E__law_line_whole_1 [.d (rowD l), .d .none, .d .none] ((List.range l.length).map nD) = .ok ((posN l).map nD) :=
    compM_map (.nm 2) C__law_line_whole_1 E__law_line_whole_1 [.d (rowD l), .d .none, .d .none] nD (fun i => l.getD i false) nD (List.range l.length) fun i m => ⟨[.d (rowD l), .d .none, .d (nD i)], rfl, by
      have := row_at l i (List.mem_range.mp m)
      unfold C__law_line_whole_1 nD
      simp [this, bI_eq1], fun _ => rfl⟩
  have e2 := whole_end (posN l) (by have := posN_len l; omega) [.d (rowD l), .d (.list ((posN l).map nD)), .d .none] rfl
  have e3 := rngA_n l.length (by omega)
  simp only [runP_ev, List.length_cons, List.length_nil, env0_0, List.map_cons, List.map_nil, List.replicate, List.cons_append, List.nil_append, sSeq_ev, sSet_ev, lift_ev, dComp_ev, iRng1D_ev, dN_ev, dCons_ev, dNil_ev, d1_ev, dLen_l, List.length_map, e3, dVar_ev0, Res.ok_bnd, e, nox_ev, List.set, seqE_nx, sRet_ev, e2, outD_rt]
  rfl
theorem filled_line_eq (l : List Bool) (hl : l.length < 1000000) : m_filled_line [rowD l] = .ok (rowD (fillL l)) := by
  unfold m_filled_line b_filled_line
  have e : compM true (.tp [(.nm 2), (.nm 3)]) C_filled_line_1 E_filled_line_1 [.d (rowD l), .d .none, .d .none, .d .none] (enumL 0 (l.map bI)) = .ok ((posN l).map nD) := places_enum l (.d (rowD l)) (.d .none) (.d .none) (.d .none)
  have e1 := dEq_nil _ (shaped_LN (posN l))
  have e3 := rngA_n l.length (by omega)
  by_cases h : (posN l).isEmpty = true
  · unfold fillL
    rw [if_pos h]
    have h' : ((posN l).map nD).isEmpty = true := by rw [List.isEmpty_map]; exact h
    rw [h'] at e1
    simp [e, e1]
  · have h' : ((posN l).map nD).isEmpty = false := by rw [List.isEmpty_map]; simpa using h
    rw [h'] at e1
    have hlen : 0 < (posN l).length := by
      cases q : posN l with
      | nil => rw [q] at h; exact absurd rfl h
      | cons a r => simp
    have a0 : atI ((posN l).map nD) 0 = some (nD ((posN l).getD 0 0)) := by
      have := atI_nat ((posN l).map nD) 0
      rw [show ((0 : Nat) : Int) = 0 from rfl] at this
      rw [this, List.getElem?_map, List.getD_eq_getElem?_getD, List.getElem?_eq_getElem hlen]; rfl
    have a1 : atI ((posN l).map nD) (-1) = some (nD ((posN l).getD ((posN l).length - 1) 0)) := by
      rw [atI_last _ (by rw [List.length_map]; exact hlen), List.length_map, List.getElem?_map, List.getD_eq_getElem?_getD, List.getElem?_eq_getElem (show (posN l).length - 1 < (posN l).length by omega)]; rfl
    have e4 : ∀ x y : W, compM true (.nm 2) tYesD E_filled_line_2 [.d (rowD l), .d (.list ((posN l).map nD)), x, y] ((List.range l.length).map nD) = .ok ((fillL l).map bI) := fun x y => by
      have := compM_all (.nm 2) E_filled_line_2 [.d (rowD l), .d (.list ((posN l).map nD)), x, y] nD (fun i => bI (between ((posN l).getD 0 0) ((posN l).getD ((posN l).length - 1) 0) i)) (List.range l.length) fun i _ => ⟨_, rfl, by
        unfold E_filled_line_2 between
        generalize (posN l).getD 0 0 = f at a0
        generalize (posN l).getD ((posN l).length - 1) 0 = t at a1
        by_cases h1 : (f : Int) ≤ i
        · have h1' : f ≤ i := by omega
          by_cases h2 : (i : Int) ≤ t
          · have h2' : i ≤ t := by omega
            simp [a0, a1, nD, h1, h1', h2, h2', bI]
          · have h2' : ¬ i ≤ t := by omega
            simp [a0, a1, nD, h1, h1', h2, h2', bI]
        · have h1' : ¬ f ≤ i := by omega
          simp [a0, a1, nD, h1, h1', bI]⟩
      rw [this]
      unfold fillL
      rw [if_neg h, List.map_map]
      rfl
    simp [e, e1, e3, e4]
abbrev rowsD (p : List (List Bool)) : List D := p.map fun l => .list (l.map bI)
theorem rows_0 {h w : Nat} {p : List (List Bool)} (P : Pic h w p) (h0 : 0 < h) : ∃ a : List Bool, a.length = w ∧ atI (rowsD p) 0 = some (.list (a.map bI)) := by
  cases p with
  | nil => have := P.len; simp at this; omega
  | cons a r => exact ⟨a, P.row a List.mem_cons_self, by rw [rowsD, List.map_cons, atI_0]⟩
theorem columns_by_eq {h w : Nat} {p : List (List Bool)} (P : Pic h w p) (h0 : 0 < h) (hw : w < 1000000) : m_columns_by [picD p] = .ok (picD (colsB w p)) := by
  unfold m_columns_by b_columns_by
  obtain ⟨a, ha, e0⟩ := rows_0 P h0
  obtain ⟨Q, hQ⟩ : ∃ Q, Q = rowsD p := ⟨_, rfl⟩
  have e3 := rngA_n w (by omega)
  have e4 : ∀ x y : W, compM true (.nm 1) tYesD E_columns_by_2 [.d (.list Q), x, y] ((List.range w).map nD) = .ok (rowsD (colsB w p)) := fun x y => by
    have := compM_all (.nm 1) E_columns_by_2 [.d (.list Q), x, y] nD (fun j => rowD (p.map fun l => l.getD j false)) (List.range w) fun j m => ⟨_, rfl, by
      have hj := List.mem_range.mp m
      have := compM_all (.nm 2) E_columns_by_1 [.d (.list Q), .d (nD j), y] (fun l : List Bool => .list (l.map bI)) (fun l => bI (l.getD j false)) p fun l ml => ⟨_, rfl, by
        have := row_at l j (by rw [P.row l ml]; omega)
        unfold E_columns_by_1
        simp [nD, this]⟩
      have this : compM true (.nm 2) tYesD E_columns_by_1 [.d (.list Q), .d (nD j), y] Q = .ok ((p.map fun l => l.getD j false).map bI) := by
        rw [List.map_map]
        rw [hQ] at this ⊢
        exact this
      unfold E_columns_by_2
      simp only [dComp_ev, iSeq_ev, dVar_ev0, Res.ok_bnd, asSeq_l, List.set]
      rw [this]
      rfl⟩
    rw [this]
    unfold colsB
    rw [rowsD, List.map_map]
    rfl
  have e1 : picD p = .list Q := by rw [hQ]; rfl
  rw [← hQ] at e0
  rw [e1]
  simp [e0, ha, e3, e4]
  rfl
theorem law_columns_m : m__law_columns = m_columns_by := rfl
end DL

namespace DL
open PySem PySem.Spec PyProof.Rows L2
theorem picD_eq (p : List (List Bool)) : picD p = .list (rowsD p) := rfl
structure PicOk (h w : Nat) (p : List (List Bool)) : Prop extends Pic h w p where
  h0 : 1 ≤ h
  h1 : h ≤ 6
  w0 : 1 ≤ w
  w1 : w ≤ 6
  hw : h * w ≤ 25
theorem PicOk.of {h w : Nat} {p q : List (List Bool)} (P : PicOk h w p) (Q : Pic h w q) : PicOk h w q := ⟨Q, P.h0, P.h1, P.w0, P.w1, P.hw⟩
theorem PicOk.tr {h w : Nat} {p : List (List Bool)} (P : PicOk h w p) : PicOk w h (colsB w p) := ⟨P.toPic.cols, P.w0, P.w1, P.h0, P.h1, by rw [Nat.mul_comm]; exact P.hw⟩
theorem shw_pic {h w : Nat} {p : List (List Bool)} (P : PicOk h w p) : Shw 2 600 (picD p) := by
  refine (Shw.list (n := 1) (B := 93) (m := 6) (fun x m => ?_) ?_).mono (by decide) (by decide)
  · obtain ⟨l, ml, rfl⟩ := List.mem_map.mp m
    exact shw_LB (by rw [P.row l ml]; exact P.w1)
  · rw [List.length_map, P.len]; exact P.h1
theorem bit_bI (b : Bool) : bitD 0 1 (bI b) = true := by cases b <;> decide
theorem isPic_pic {h w : Nat} {p : List (List Bool)} (P : PicOk h w p) : isPic (picD p) = true := by
  have hb : okBoard h w = true := by
    unfold okBoard
    rw [decide_eq_true_eq]
    exact ⟨P.h0, P.h1, P.w0, P.w1, P.hw⟩
  have hp := P.len
  have hr := P.row
  cases p with
  | nil => simp at hp; have := P.h0; omega
  | cons a r =>
    have ha : a.length = w := hr a List.mem_cons_self
    have e1 : (rowsD (a :: r)).all (rowOk w) = true := by
      rw [List.all_eq_true]
      intro x m
      obtain ⟨l, ml, rfl⟩ := List.mem_map.mp m
      simp [rowOk, hr l ml]
    have e2 : (rowsD (a :: r)).all rowBits = true := by
      rw [List.all_eq_true]
      intro x m
      obtain ⟨l, ml, rfl⟩ := List.mem_map.mp m
      show (l.map bI).all (bitD 0 1) = true
      rw [List.all_eq_true]
      intro y my
      obtain ⟨b, _, rfl⟩ := List.mem_map.mp my
      exact bit_bI b
    show isPicL (rowsD (a :: r)) = true
    have e3 : (rowsD (a :: r)).length = h := by rw [List.length_map]; exact hp
    have e4 : isPicL (rowsD (a :: r)) = (okBoard (rowsD (a :: r)).length (a.map bI).length && ((rowsD (a :: r)).all (rowOk (a.map bI).length) && (rowsD (a :: r)).all rowBits)) := rfl
    rw [e4, e3, List.length_map, ha, hb, e1, e2]
    rfl
theorem pic_lim {h w : Nat} {p : List (List Bool)} (P : PicOk h w p) : ∀ ys r, picD p = .list (.list ys :: r) → r.length < 1000000 ∧ ys.length < 1000000 := by
  intro ys r e
  have hp := P.len
  have := P.h1
  have := P.w1
  cases p with
  | nil => cases e
  | cons a q =>
    have ha := P.row a List.mem_cons_self
    rw [picD_eq, rowsD, List.map_cons] at e
    injection e with e
    obtain ⟨e1, e2⟩ := List.cons.inj e
    injection e1 with e1
    rw [← e1, ← e2, List.length_map, List.length_map]
    simp at hp
    omega
theorem check_ok {h w : Nat} {p : List (List Bool)} (P : PicOk h w p) : m_check_picture [picD p] = .ok .none := by
  rw [check_picture_eq _ ((shw_pic P).shaped) (pic_lim P), isPic_pic P]
  rfl
theorem is_whole_by_eq {h w : Nat} {p : List (List Bool)} (P : PicOk h w p) : m_is_whole_by [picD p] = .ok (.bool (allWhole w p)) := by
  have P1 := P.h1
  have P2 := P.w1
  have e1 := columns_by_eq P.toPic P.h0 (by omega)
  have hl := P.len
  have hl2 := P.tr.len
  obtain ⟨d, hd⟩ : ∃ d, d = picD p := ⟨_, rfl⟩
  have e2 : ∀ y : W, compM true (.nm 1) tYesD E_is_whole_by_1 [.d d, y] (rowsD p ++ rowsD (colsB w p)) = .ok ((p ++ colsB w p).map fun l => .bool (wholeB l)) := fun y => by
    have := compM_all (.nm 1) E_is_whole_by_1 [.d d, y] (fun l : List Bool => .list (l.map bI)) (fun l => .bool (wholeB l)) (p ++ colsB w p) fun l m => ⟨_, rfl, by
      have hll : l.length < 1000000 := by
        rcases List.mem_append.mp m with m | m
        · rw [P.row l m]; omega
        · rw [P.tr.row l m]; omega
      have := is_line_whole_eq l hll
      unfold E_is_whole_by_1
      simp [this]⟩
    rw [List.map_append] at this
    exact this
  have e3 := all_of wholeB (p ++ colsB w p)
  have e4 : dAdd d (picD (colsB w p)) = .ok (.list (rowsD p ++ rowsD (colsB w p))) := by
    rw [hd, picD_eq, picD_eq, dAdd_l, dLim_ok _ _ (by rw [List.length_map, List.length_map, hl, hl2]; omega)]
  rw [← hd] at e1
  rw [← hd]
  unfold m_is_whole_by b_is_whole_by
  simp only [runP_ev, List.length_cons, List.length_nil, env0_0, List.map_cons, List.map_nil, List.replicate, List.cons_append, List.nil_append, lift_ev, dComp_ev, iSeq_ev, d2_ev, dN_ev, dCons_ev, dNil_ev, d1_ev, dVar_ev0, Res.ok_bnd, e1, e4, asSeq_l, e2, e3, nox_ev, sRet_ev, outD_rt]
  rfl
theorem has_no_gaps_eq {h w : Nat} {p : List (List Bool)} (P : PicOk h w p) : m_has_no_gaps [picD p] = .ok (.bool (allWhole w p)) := by
  have e1 := check_ok P
  have e2 := is_whole_by_eq P
  unfold m_has_no_gaps b_has_no_gaps
  simp [e1, e2]
def findG : Nat → List (List Bool) → Option Nat
  | _, [] => none
  | k, l :: r => if wholeB l = true then findG (k + 1) r else some k
def gapD (w : Nat) (p : List (List Bool)) : D := match findG 0 p with
  | some i => .tuple [.int 0, nD i]
  | none => match findG 0 (colsB w p) with
    | some i => .tuple [.int 1, nD i]
    | none => .none
theorem findG_none : ∀ (p : List (List Bool)) (k : Nat), (findG k p = none ↔ p.all wholeB = true)
  | [], _ => ⟨fun _ => rfl, fun _ => rfl⟩
  | l :: r, k => by
    unfold findG
    rw [List.all_cons, Bool.and_eq_true]
    by_cases h : wholeB l = true
    · rw [if_pos h, findG_none r (k + 1)]
      exact ⟨fun z => ⟨h, z⟩, fun z => z.2⟩
    · rw [if_neg h]
      exact ⟨fun z => (nomatch z), fun z => absurd z.1 h⟩
theorem findG_lt : ∀ (p : List (List Bool)) (k i : Nat), findG k p = some i → i < k + p.length
  | [], _, _, h => nomatch h
  | l :: r, k, i, h => by
    unfold findG at h
    rw [List.length_cons]
    split at h
    · have := findG_lt r (k + 1) i h; omega
    · cases h; omega
theorem gap_none (w : Nat) (p : List (List Bool)) : isN (gapD w p) = allWhole w p := by
  have h1 := findG_none p 0
  have h2 := findG_none (colsB w p) 0
  unfold gapD allWhole
  rw [List.all_append]
  cases e1 : findG 0 p with
  | some i =>
    have : p.all wholeB = false := by
      rw [← Bool.not_eq_true]
      exact fun z => by rw [h1.mpr z] at e1; cases e1
    rw [this]; rfl
  | none =>
    rw [h1.mp e1]
    cases e2 : findG 0 (colsB w p) with
    | some i =>
      have : (colsB w p).all wholeB = false := by
        rw [← Bool.not_eq_true]
        exact fun z => by rw [h2.mpr z] at e2; cases e2
      rw [this]; rfl
    | none => rw [h2.mp e2]; rfl
theorem gap_shw {h w : Nat} {p : List (List Bool)} (P : PicOk h w p) : Shw 1 40 (gapD w p) := by
  have H1 := P.h1
  have H2 := P.w1
  unfold gapD
  have tup : ∀ (a : Int) (i : Nat), a.natAbs ≤ 1 → i ≤ 6 → Shw 1 40 (.tuple [.int a, nD i]) := fun a i ha hi => (Shw.tuple (n := 0) (B := 13) (m := 2) (fun x m => by
    simp only [List.mem_cons, List.not_mem_nil, or_false] at m
    rcases m with rfl | rfl
    · exact Shw.int (by omega)
    · exact shw_nD (by omega)) (by simp)).mono (by decide) (by decide)
  cases e1 : findG 0 p with
  | some i =>
    have := findG_lt p 0 i e1
    rw [P.len] at this
    exact tup 0 i (by decide) (by omega)
  | none =>
    cases e2 : findG 0 (colsB w p) with
    | some i =>
      have := findG_lt _ 0 i e2
      rw [P.tr.len] at this
      exact tup 1 i (by decide) (by omega)
    | none => exact Shw.none.mono (by decide) (by decide)
theorem inner (L : Env → Res Out) (a b : W) (kind : D) (hL : ∀ (i : D) (l : List Bool), l.length < 1000000 → L [a, .d kind, b, .d i, .d (rowD l)] = if wholeB l = true then .ok (.nx [a, .d kind, b, .d i, .d (rowD l)]) else .ok (.rt (.tuple [kind, i]) [a, .d kind, b, .d i, .d (rowD l)])) :
    ∀ (lines : List (List Bool)) (k : Nat) (c d : W), (∀ l ∈ lines, l.length < 1000000) → ∃ c' d', forM (.tp [(.nm 3), (.nm 4)]) L (enumL k (rowsD lines)) [a, .d kind, b, c, d] = match findG k lines with
      | some i => .ok (.rt (.tuple [kind, nD i]) [a, .d kind, b, c', d'])
      | none => .ok (.nx [a, .d kind, b, c', d'])
  | [], k, c, d, _ => ⟨c, d, rfl⟩
  | l :: r, k, c, d, h => by
    obtain ⟨c', d', e⟩ := inner L a b kind hL r (k + 1) (.d (nD k)) (.d (rowD l)) fun x m => h x (List.mem_cons_of_mem _ m)
    have hl := hL (nD k) l (h l List.mem_cons_self)
    have eb : bindP (.tp [(.nm 3), (.nm 4)]) (.tuple [nD k, rowD l]) [a, .d kind, b, c, d] = .ok [a, .d kind, b, .d (nD k), .d (rowD l)] := by simp
    have ee : enumL k (rowsD (l :: r)) = .tuple [nD k, rowD l] :: enumL (k + 1) (rowsD r) := rfl
    rw [ee, forM_cons, eb, Res.ok_bnd, hl]
    unfold findG
    by_cases q : wholeB l = true
    · rw [if_pos q, if_pos q, loopO_nx]
      exact ⟨c', d', e⟩
    · rw [if_neg q, if_neg q, loopO_rt]
      exact ⟨_, _, rfl⟩
end DL

namespace DL
open PySem PySem.Spec PyProof.Rows L2
theorem inner_p (a b : W) (kind i : D) (l : List Bool) (hl : l.length < 1000000) : L_first_gap_1 [a, .d kind, b, .d i, .d (rowD l)] = if wholeB l = true then .ok (.nx [a, .d kind, b, .d i, .d (rowD l)]) else .ok (.rt (.tuple [kind, i]) [a, .d kind, b, .d i, .d (rowD l)]) := by
  have e := is_line_whole_eq l hl
  unfold L_first_gap_1
  by_cases h : wholeB l = true
  · simp [e, h]
  · simp [e, h]
theorem inner_l (a b : W) (kind i : D) (l : List Bool) (hl : l.length < 1000000) : L__law_first_1 [a, .d kind, b, .d i, .d (rowD l)] = if wholeB l = true then .ok (.nx [a, .d kind, b, .d i, .d (rowD l)]) else .ok (.rt (.tuple [kind, i]) [a, .d kind, b, .d i, .d (rowD l)]) := by
  have e := law_line_whole_eq l hl
  unfold L__law_first_1
  by_cases h : wholeB l = true
  · simp [e, h]
  · simp [e, h]
theorem outer {h w : Nat} {p : List (List Bool)} (P : PicOk h w p) (L M : Env → Res Out) (hM : M = sFor (iEnumD (dVar 2)) (.tp [(.nm 3), (.nm 4)]) L) (d : D)
    (hL : ∀ (a b : W) (kind i : D) (l : List Bool), l.length < 1000000 → L [a, .d kind, b, .d i, .d (rowD l)] = if wholeB l = true then .ok (.nx [a, .d kind, b, .d i, .d (rowD l)]) else .ok (.rt (.tuple [kind, i]) [a, .d kind, b, .d i, .d (rowD l)])) :
    ∃ ρ', seqE (forM (.tp [(.nm 1), (.nm 2)]) M [.tuple [.int 0, picD p], .tuple [.int 1, picD (colsB w p)]] [.d d, .d .none, .d .none, .d .none, .d .none]) (sRet (lift (dC .none))) = .ok (.rt (gapD w p) ρ') := by
  have H1 := P.h1
  have H2 := P.w1
  have l1 : ∀ l ∈ p, l.length < 1000000 := fun l m => by rw [P.row l m]; omega
  have l2 : ∀ l ∈ colsB w p, l.length < 1000000 := fun l m => by rw [P.tr.row l m]; omega
  obtain ⟨c1, d1, e1⟩ := inner L (.d d) (.d (picD p)) (.int 0) (hL _ _ _) p 0 (.d .none) (.d .none) l1
  have m1 : M [.d d, .d (.int 0), .d (picD p), .d .none, .d .none] = match findG 0 p with
      | some i => .ok (.rt (.tuple [.int 0, nD i]) [.d d, .d (.int 0), .d (picD p), c1, d1])
      | none => .ok (.nx [.d d, .d (.int 0), .d (picD p), c1, d1]) := by
    rw [hM]; exact e1
  have b1 : bindP (.tp [(.nm 1), (.nm 2)]) (.tuple [.int 0, picD p]) [.d d, .d .none, .d .none, .d .none, .d .none] = .ok [.d d, .d (.int 0), .d (picD p), .d .none, .d .none] := by simp
  unfold gapD
  rw [forM_cons, b1, Res.ok_bnd, m1]
  cases q1 : findG 0 p with
  | some i => exact ⟨_, rfl⟩
  | none =>
    obtain ⟨c2, d2, e2⟩ := inner L (.d d) (.d (picD (colsB w p))) (.int 1) (hL _ _ _) (colsB w p) 0 c1 d1 l2
    have m2 : M [.d d, .d (.int 1), .d (picD (colsB w p)), c1, d1] = match findG 0 (colsB w p) with
      | some i => .ok (.rt (.tuple [.int 1, nD i]) [.d d, .d (.int 1), .d (picD (colsB w p)), c2, d2])
      | none => .ok (.nx [.d d, .d (.int 1), .d (picD (colsB w p)), c2, d2]) := by
      rw [hM]; exact e2
    have b2 : bindP (.tp [(.nm 1), (.nm 2)]) (.tuple [.int 1, picD (colsB w p)]) [.d d, .d (.int 0), .d (picD p), c1, d1] = .ok [.d d, .d (.int 1), .d (picD (colsB w p)), c1, d1] := by simp
    show ∃ ρ', seqE (loopO (.ok (.nx [.d d, .d (.int 0), .d (picD p), c1, d1])) _ M _) _ = _
    rw [loopO_nx, forM_cons, b2, Res.ok_bnd, m2]
    cases q2 : findG 0 (colsB w p) with
    | some i => exact ⟨_, rfl⟩
    | none => exact ⟨_, rfl⟩
theorem first_gap_eq {h w : Nat} {p : List (List Bool)} (P : PicOk h w p) : m_first_gap [picD p] = .ok (gapD w p) := by
  have H2 := P.w1
  have e1 := check_ok P
  have e2 := columns_by_eq P.toPic P.h0 (by omega)
  obtain ⟨ρ', e3⟩ := outer P L_first_gap_1 L_first_gap_2 rfl (picD p) inner_p
  unfold m_first_gap b_first_gap
  obtain ⟨d, hd⟩ : ∃ d, d = picD p := ⟨_, rfl⟩
  rw [← hd] at e1 e2 e3 ⊢
  simp only [runP_ev, List.length_cons, List.length_nil, env0_0, List.map_cons, List.map_nil, List.replicate, List.cons_append, List.nil_append, sSeq_ev, sDrop_ev, lift_ev, dN_ev, dCons_ev, dNil_ev, dVar_ev0, Res.ok_bnd, e1, seqE_nx, sFor_ev, iSeq_ev, dTup_ev, dC_ev, e2, dLim_ok, asSeq_t, Nat.reduceAdd, Nat.reduceLeDiff]
  simp [e3]
theorem law_first_eq {h w : Nat} {p : List (List Bool)} (P : PicOk h w p) : m__law_first [picD p] = .ok (gapD w p) := by
  have H2 := P.w1
  have e2 := columns_by_eq P.toPic P.h0 (by omega)
  rw [← law_columns_m] at e2
  obtain ⟨ρ', e3⟩ := outer P L__law_first_1 L__law_first_2 rfl (picD p) inner_l
  unfold m__law_first b__law_first
  obtain ⟨d, hd⟩ : ∃ d, d = picD p := ⟨_, rfl⟩
  rw [← hd] at e2 e3 ⊢
  simp only [runP_ev, List.length_cons, List.length_nil, env0_0, List.map_cons, List.map_nil, List.replicate, List.cons_append, List.nil_append, sSeq_ev, dN_ev, dCons_ev, dNil_ev, dVar_ev0, Res.ok_bnd, sFor_ev, iSeq_ev, dTup_ev, dLst_ev, dC_ev, e2, dLim_ok, asSeq_l, Nat.reduceAdd, Nat.reduceLeDiff]
  simp [e3]
theorem copied_eq (p : List (List Bool)) : m_copied [picD p] = .ok (picD p) := by
  unfold m_copied b_copied
  have e : ∀ d y : W, compM true (.nm 1) tYesD E_copied_1 [d, y] (rowsD p) = .ok (rowsD p) := fun d y =>
    compM_all (.nm 1) E_copied_1 [d, y] (fun l : List Bool => .list (l.map bI)) (fun l => .list (l.map bI)) p fun l m => ⟨_, rfl, by
      unfold E_copied_1
      simp⟩
  rw [picD_eq]
  generalize rowsD p = Q at e
  simp [e]
theorem fill_rows (p : List (List Bool)) (hp : ∀ l ∈ p, l.length < 1000000) (a b c d : W) : compM true (.nm 3) tYesD E_filled_1 [a, b, c, d] (rowsD p) = .ok (rowsD (p.map fillL)) := by
  have := compM_all (.nm 3) E_filled_1 [a, b, c, d] (fun l : List Bool => .list (l.map bI)) (fun l => rowD (fillL l)) p fun l m => ⟨_, rfl, by
    have := filled_line_eq l (hp l m)
    unfold E_filled_1
    simp [this]⟩
  rw [this, rowsD, List.map_map]
  rfl
theorem fill_turn {h w : Nat} {p : List (List Bool)} (P : PicOk h w p) (d : D) (x : W) : ∃ x', L_filled_1 [.d d, .d (picD p), x, .d .none] = .ok (.nx [.d d, .d (picD (passB h w p)), x', .d .none]) := by
  have H1 := P.h1
  have H2 := P.w1
  have P1 : PicOk h w (p.map fillL) := P.of (P.toPic.map fillL fillL_length)
  have P2 : PicOk w h ((colsB w (p.map fillL)).map fillL) := P1.tr.of (P1.tr.toPic.map fillL fillL_length)
  have c1 := columns_by_eq P1.toPic P1.h0 (by omega)
  have c2 := columns_by_eq P2.toPic P2.h0 (by omega)
  have f1 := fill_rows p (fun l m => by rw [P.row l m]; omega) (.d d) (.d (picD p)) x (.d .none)
  have f2 := fill_rows (colsB w (p.map fillL)) (fun l m => by rw [P1.tr.row l m]; omega) (.d d) (.d (picD p)) (.d (picD (p.map fillL))) (.d .none)
  refine ⟨.d (picD (p.map fillL)), ?_⟩
  unfold L_filled_1 passB
  rw [picD_eq] at c1 c2 f1 f2 ⊢
  rw [picD_eq] at c1 c2 f2 ⊢
  rw [picD_eq]
  generalize rowsD p = Q at *
  generalize rowsD (List.map fillL p) = Q1 at *
  generalize rowsD (List.map fillL (colsB w (List.map fillL p))) = Q2 at *
  simp [f1, c1, f2, c2]
theorem filled_ex {h w : Nat} {p : List (List Bool)} (P : PicOk h w p) : ∃ q, m_filled [picD p] = .ok (picD q) ∧ PicOk h w q := by
  have e1 := check_ok P
  have e2 := copied_eq p
  have HW := P.hw
  obtain ⟨q, x', e3, hq⟩ := whileM_ex (α := List (List Bool)) (tNotD (tVal (dN m_is_whole_by (dCons (dVar 1) dNil)))) L_filled_1 (fun a x => [.d (picD p), .d (picD a), x, .d .none]) (fun a => PicOk h w a) (allWhole w) (passB h w) (fun a => 25 - blacks a)
    (fun a x pa => by
      have := is_whole_by_eq pa
      simp [this]) (fun a x pa ha => by
      obtain ⟨x', e⟩ := fill_turn pa (picD p) x
      have hm := passB_more pa.toPic ha
      have pn : PicOk h w (passB h w a) := pa.of (passB_pic pa.toPic)
      have hb := blacks_le (passB h w a) pn.row
      rw [pn.len] at hb
      exact ⟨x', e, pn, by show 25 - blacks (passB h w a) < 25 - blacks a; omega⟩) 40 p (.d .none) P (by show 25 - blacks p < 40; omega)
  refine ⟨q, ?_, hq⟩
  unfold m_filled b_filled
  simp [e1, e2, e3]
end DL

namespace DL
open PySem PySem.Spec PyProof.Rows L2
theorem cell_ex (ns : List Int) (i : Nat) (hl : ns.length ≤ 63) : ∃ s : Int, m__law_cell [.d (.list (ns.map .int)), .d (.int i)] = .ok (.d (.int s)) := by
  unfold m__law_cell b__law_cell
  by_cases h : (i : Int) < ns.length
  · have e : atI (ns.map PyData.int) (i : Int) = some (.int (ns[i]'(by omega))) := by
      rw [atI_nat, List.getElem?_map, List.getElem?_eq_getElem (by omega)]; rfl
    refine ⟨ns[i]'(by omega), ?_⟩
    simp [h, e]
  · have e : cutL (ns.map PyData.int) none (some 1) = (ns.take 1).map PyData.int := by
      cases ns with
      | nil => rfl
      | cons a r => exact (cutL_to ((a :: r).map PyData.int) 1 (by simp)).trans rfl
    have e2 : dSum (.list ((ns.take 1).map PyData.int)) = .ok (.int (ns.take 1).sum) := dSum_m _
    refine ⟨(ns.take 1).sum.fmod 1000003, ?_⟩
    rw [← e] at e2
    simp [h]
    rw [e2]
    rfl
theorem gen_ex (ns : List Int) (i : Nat) (hl : ns.length ≤ 63) (hi : i < 64) : ∃ g : Gen3, m__law_generator [.d (.list (ns.map .int)), .d (.int i)] = .ok (.d (G3 g)) ∧ Gn 64000 g := by
  obtain ⟨s, e⟩ := cell_ex ns i hl
  have h1 : small (i : Int) = true := small_of (by omega)
  have hs := fmod_range s 2147483647 (by decide)
  refine ⟨⟨Int.fmod (if 0 > s - 10 ^ 18 then 0 else s - 10 ^ 18) ((10 ^ 60) ^ 10), s.fmod 2147483647, 1000 * i⟩, ?_, ⟨Int.fmod_nonneg_of_pos _ (by decide), hs.1, hs.2, by show (0 : Int) ≤ 1000 * i; omega, by show (1000 : Int) * i ≤ 64000; omega⟩⟩
  have e3 : dMod (.int (if 0 > s - 10 ^ 18 then 0 else s - 10 ^ 18)) (.int ((10 ^ 60) ^ 10)) = .ok (.int (Int.fmod (if 0 > s - 10 ^ 18 then 0 else s - 10 ^ 18) ((10 ^ 60) ^ 10))) := dMod_i _ _ (by decide)
  unfold m__law_generator b__law_generator G3
  simp only [runC_ev, List.length_cons, List.length_nil, envC_0, List.cons_append, List.nil_append, sSeq_ev, sSet_ev, lift_ev, dNC_ev, wCons_ev, eVar_0, eD_ev, dVar_evS, dVar_ev0, Res.ok_bnd, wNil_ev, e, unD_d, seqE_nx, sRet_ev, dLst_ev, dCons_ev, d2_ev, dN_ev, dC_ev, pow_18, pow_60, pow_600, dSub_i, dNil_ev, d12_ev, dMax2_i, d1_ev, dInt_i, e3, List.replicate, List.set]
  simp [h1]
theorem okc_1 : okc "InvalidPicture" = true := by decide +kernel
theorem sub_11 : sub_InvalidPicture "InvalidPicture" = true := by decide +kernel
theorem rng1 : rngA (.int 1) = .ok [.int 0] := rngA_n 1 (by omega)
theorem kin1 : dEq (.list [.bool true]) (.list [.bool true]) = .ok (.bool true) := dEq_self _ (by decide +kernel)
theorem refused_1 (v : D) {B : Nat} (hv : Shw 4 B v) (hB : B ≤ 1000000) : m__law_refused [.c (.exc "InvalidPicture" v), .d (.int 0), .d v] = .ok (.d (.bool true)) := by
  have hr := repr_ok hv (by decide) (by omega)
  have he := repr_eq hv
  unfold m__law_refused b__law_refused m__law_error
  simp [okc_1, sub_11, rng1, compM_cons, E__law_refused_1, kin1, hr, he]
theorem all_refused_1 (v : D) {B : Nat} (hv : Shw 4 B v) (hB : B ≤ 1000000) (gs : List (Res D)) (hg : ∀ g ∈ gs, g = .exc "InvalidPicture" v) : m__law_all_refused [.cs gs, .d (.int 0), .d v] = .ok (.d (.bool true)) := by
  have hr := refused_1 v hv hB
  have e := compC_none 3 C__law_all_refused_1 E__law_all_refused_1 [.cs gs, .d (.int 0), .d v, .d .none] gs fun g m => by
    rw [hg g m]
    unfold C__law_all_refused_1
    simp [hr]
  have e2 := dEq_nil [] (by decide)
  unfold m__law_all_refused b__law_all_refused
  simp [e, e2]
def boardsL : List (Nat × Nat) := [(1, 1), (1, 5), (2, 2), (2, 3), (3, 3), (3, 4), (4, 4), (5, 3), (5, 5), (4, 6), (6, 4), (6, 1)]
def bdD (b : Nat × Nat) : D := .tuple [nD b.1, nD b.2]
theorem board_ex (g : Gen3) (N : Int) (h : Gn N g) (hN : N ≤ 2 ^ 50) : ∃ (b : Nat × Nat) (g' : Gen3), m__law_board [G3 g, .int 25] = .ok (bdD b, G3 g') ∧ b ∈ boardsL ∧ Gn (N + 1) g' := by
  obtain ⟨x, g', e, m, hg⟩ := pick_ex g N (boardsL.map bdD) h (by omega) (by simp [boardsL]) (by simp [boardsL])
  obtain ⟨b, mb, rfl⟩ := List.mem_map.mp m
  refine ⟨b, g', ?_, mb, hg⟩
  have e1 : ∀ a y z w : W, compM true (.nm 3) C__law_board_1 E__law_board_1 [a, .d (.int 25), z, w] (boardsL.map bdD) = .ok (boardsL.map bdD) := fun a y z w => by
    have := compM_map (.nm 3) C__law_board_1 E__law_board_1 [a, .d (.int 25), z, w] bdD (fun b => decide ((b.1 : Int) * b.2 ≤ 25)) bdD boardsL fun b m => ⟨[a, .d (.int 25), z, .d (bdD b)], rfl, by
      have hs : b.1 ≤ 6 := by
        have : ∀ b ∈ boardsL, b.1 ≤ 6 := by decide
        exact this b m
      have e1 : small (b.1 : Int) = true := small_of (by omega)
      unfold C__law_board_1 bdD nD
      simp [e1], fun _ => rfl⟩
    rw [this]
    rfl
  unfold m__law_board b__law_board
  have e5 : (dLst (dCons (dTup (dCons (dC (.int 1)) (dCons (dC (.int 1)) dNil))) (dCons (dTup (dCons (dC (.int 1)) (dCons (dC (.int 5)) dNil))) (dCons (dTup (dCons (dC (.int 2)) (dCons (dC (.int 2)) dNil))) (dCons (dTup (dCons (dC (.int 2)) (dCons (dC (.int 3)) dNil))) (dCons (dTup (dCons (dC (.int 3)) (dCons (dC (.int 3)) dNil))) (dCons (dTup (dCons (dC (.int 3)) (dCons (dC (.int 4)) dNil))) (dCons (dTup (dCons (dC (.int 4)) (dCons (dC (.int 4)) dNil))) (dCons (dTup (dCons (dC (.int 5)) (dCons (dC (.int 3)) dNil))) (dCons (dTup (dCons (dC (.int 5)) (dCons (dC (.int 5)) dNil))) (dCons (dTup (dCons (dC (.int 4)) (dCons (dC (.int 6)) dNil))) (dCons (dTup (dCons (dC (.int 6)) (dCons (dC (.int 4)) dNil))) (dCons (dTup (dCons (dC (.int 6)) (dCons (dC (.int 1)) dNil))) dNil))))))))))))) [.d (G3 g), .d (.int 25), .d .none, .d .none] = .ok (.list (boardsL.map bdD)) := by
    simp [boardsL, bdD, nD]
  generalize boardsL.map bdD = BL at e e1 e5
  simp only [runM_ev, List.length_cons, List.length_nil, env0_0, List.map_cons, List.map_nil, List.replicate, List.cons_append, List.nil_append, sSeq_ev, sSet_ev, lift_ev, e5, Res.ok_bnd, List.set, seqE_nx]
  have e6 := e1 (.d (G3 g)) (.d .none) (.d (.list BL)) (.d .none)
  simp [e6, e]
theorem board_ok {b : Nat × Nat} (m : b ∈ boardsL) : 1 ≤ b.1 ∧ b.1 ≤ 6 ∧ 1 ≤ b.2 ∧ b.2 ≤ 6 ∧ b.1 * b.2 ≤ 25 := by
  have : ∀ b ∈ boardsL, 1 ≤ b.1 ∧ b.1 ≤ 6 ∧ 1 ≤ b.2 ∧ b.2 ≤ 6 ∧ b.1 * b.2 ≤ 25 := by decide
  exact this b m
theorem row_comp (y f : D) (t : Int) (r c : W) : ∀ (ds : List Nat) (g : Gen3) (N : Int), Gn N g → N + ds.length ≤ 2 ^ 58 → ∃ (l : List Bool) (g' : Gen3), compMX true [5] (.nm 5) tYesD E__law_picture_1 (ds.map nD) [.d (G3 g), .d y, .d (.int t), .d f, r, c] = .ok (l.map bI, [.d (G3 g'), .d y, .d (.int t), .d f, r, c]) ∧ l.length = ds.length ∧ Gn (N + ds.length) g'
  | [], g, N, h, _ => ⟨[], g, by simp, rfl, by simpa using h⟩
  | d :: q, g, N, h, hN => by
    rw [List.length_cons] at hN
    obtain ⟨x, g1, e1, x0, x1, h1⟩ := random_ex g N 5 h (by omega) (by omega) (by omega)
    obtain ⟨l, g2, e2, hl, h2⟩ := row_comp y f t r c q g1 (N + 1) h1 (by omega)
    refine ⟨decide (x < t) :: l, g2, ?_, by simp [hl], ?_⟩
    · rw [List.map_cons, compMX_cons]
      simp [E__law_picture_1, e1] at e2 ⊢
      rw [e2]
      simp [bI]
    · have : N + ((d :: q).length : Nat) = N + 1 + (q.length : Nat) := by rw [List.length_cons]; omega
      rw [this]; exact h2
theorem picture_loop (h w : Nat) (t : Int) (hw : w ≤ 6) : ∀ (ds : List Nat) (p : List (List Bool)) (g : Gen3) (N : Int) (r c : W), Gn N g → N + 6 * ds.length ≤ 2 ^ 57 → p.length + ds.length ≤ 100 → (∀ l ∈ p, l.length = w) →
    ∃ (p' : List (List Bool)) (g' : Gen3) (r' c' : W), forM (.nm 4) L__law_picture_1 (ds.map nD) [.d (G3 g), .d (bdD (h, w)), .d (.int t), .d (picD p), r, c] = .ok (.nx [.d (G3 g'), .d (bdD (h, w)), .d (.int t), .d (picD p'), r', c']) ∧ p'.length = p.length + ds.length ∧ (∀ l ∈ p', l.length = w) ∧ Gn (N + 6 * ds.length) g'
  | [], p, g, N, r, c, hg, _, _, hp => ⟨p, g, r, c, rfl, rfl, hp, by simpa using hg⟩
  | d :: q, p, g, N, r, c, hg, hN, hlen, hp => by
    rw [List.length_cons] at hN hlen
    obtain ⟨l, g1, e1, hl, h1⟩ := row_comp (bdD (h, w)) (picD p) t (.d (nD d)) c (List.range w) g N hg (by rw [List.length_range]; omega)
    rw [List.length_range] at hl h1
    have h1' : Gn (N + 6) g1 := ⟨h1.a0, h1.b0, h1.b1, h1.c0, by have := h1.c1; omega⟩
    obtain ⟨p', g', r', c', e2, hl2, hp2, h2⟩ := picture_loop h w t hw q (p ++ [l]) g1 (N + 6) (.d (nD d)) c h1' (by omega) (by rw [List.length_append]; simp; omega) (fun a m => (List.mem_append.mp m).elim (hp a) fun z => by rw [List.mem_singleton.mp z]; exact hl)
    refine ⟨p', g', r', c', ?_, ?_, hp2, ?_⟩
    · have e3 := rngA_n w (by omega)
      have e4 : L__law_picture_1 [.d (G3 g), .d (bdD (h, w)), .d (.int t), .d (picD p), .d (nD d), c] = .ok (.nx [.d (G3 g1), .d (bdD (h, w)), .d (.int t), .d (picD (p ++ [l])), .d (nD d), c]) := by
        have ea : picD (p ++ [l]) = .list (rowsD p ++ [.list (l.map bI)]) := by rw [picD_eq, rowsD, List.map_append]; rfl
        have eb : (rowsD p).length < 16777216 := by rw [List.length_map]; omega
        unfold L__law_picture_1
        rw [ea]
        rw [picD_eq] at e1 ⊢
        generalize rowsD p = Q at *
        unfold bdD nD at *
        simp [e3, e1, eb]
      rw [List.map_cons, forM_cons]
      have eb : bindP (.nm 4) (nD d) [.d (G3 g), .d (bdD (h, w)), .d (.int t), .d (picD p), r, c] = .ok [.d (G3 g), .d (bdD (h, w)), .d (.int t), .d (picD p), .d (nD d), c] := by simp
      rw [eb, Res.ok_bnd, e4, loopO_nx, e2]
    · rw [hl2, List.length_append, List.length_cons]; simp; omega
    · have : N + 6 * ((d :: q).length : Nat) = N + 6 + 6 * (q.length : Nat) := by rw [List.length_cons]; omega
      rw [this]; exact h2
theorem picture_ex (g : Gen3) (N : Int) (b : Nat × Nat) (hg : Gn N g) (hN : N ≤ 2 ^ 50) (mb : b ∈ boardsL) : ∃ (p : List (List Bool)) (g' : Gen3), m__law_picture [G3 g, bdD b] = .ok (picD p, G3 g') ∧ PicOk b.1 b.2 p ∧ Gn (N + 100) g' := by
  obtain ⟨h, w⟩ := b
  obtain ⟨b1, b2, b3, b4, b5⟩ := board_ok mb
  dsimp only at b1 b2 b3 b4 b5
  obtain ⟨x, g1, e1, m1, h1⟩ := pick_ex g N [.int 1, .int 2, .int 3, .int 4] hg (by omega) (by simp) (by simp)
  obtain ⟨t, rfl⟩ : ∃ t : Int, x = .int t := by
    simp only [List.mem_cons, List.not_mem_nil, or_false] at m1
    rcases m1 with rfl | rfl | rfl | rfl <;> exact ⟨_, rfl⟩
  obtain ⟨p, g2, r', c', e2, hl, hp, h2⟩ := picture_loop h w t b4 (List.range h) [] g1 (N + 1) (.d .none) (.d .none) h1 (by rw [List.length_range]; omega) (by rw [List.length_range]; simp; omega) (fun _ m => absurd m List.not_mem_nil)
  rw [List.length_range] at hl h2
  refine ⟨p, g2, ?_, ⟨⟨by simpa using hl, hp⟩, b1, b2, b3, b4, b5⟩, ⟨h2.a0, h2.b0, h2.b1, h2.c0, by have := h2.c1; omega⟩⟩
  have e3 := rngA_n h (by omega)
  have e0 : picD [] = .list [] := rfl
  rw [e0] at e2
  unfold m__law_picture b__law_picture
  have eb : bdD (h, w) = .tuple [.int h, .int w] := rfl
  rw [eb] at e2 ⊢
  simp [e1, e3, e2]
end DL

namespace DL
open PySem PySem.Spec PyProof.Rows L2
structure Bad (v : D) : Prop where
  no : isPic v = false
  sh : Shw 4 100000 v
  lim : ∀ ys r, v = .list (.list ys :: r) → r.length < 1000000 ∧ ys.length < 1000000
theorem Bad.check {v : D} (h : Bad v) : m_check_picture [v] = .exc "InvalidPicture" v := by
  rw [check_picture_eq v h.sh.shaped h.lim, h.no]
  rfl
theorem Bad.gap {v : D} (h : Bad v) : m_first_gap [v] = .exc "InvalidPicture" v := by
  have := h.check
  unfold m_first_gap b_first_gap
  simp [this]
theorem Bad.whole {v : D} (h : Bad v) : m_has_no_gaps [v] = .exc "InvalidPicture" v := by
  have := h.check
  unfold m_has_no_gaps b_has_no_gaps
  simp [this]
theorem lim_of {xs : List D} (h1 : xs.length ≤ 100) (h2 : ∀ ys, .list ys ∈ xs → ys.length ≤ 100) : ∀ ys r, PyData.list xs = .list (.list ys :: r) → r.length < 1000000 ∧ ys.length < 1000000 := by
  intro ys r e
  injection e with e
  have := h2 ys (by rw [e]; exact List.mem_cons_self)
  rw [e] at h1
  simp at h1
  omega
theorem no_bits {xs : List D} (x : D) (m : x ∈ xs) (h : rowBits x = false) : isPicL xs = false := by
  have : xs.all rowBits = false := by
    rw [List.all_eq_false]
    exact ⟨x, m, by rw [h]; exact Bool.false_ne_true⟩
  cases xs with
  | nil => rfl
  | cons y r =>
    cases y with
    | list ys =>
      show (okBoard _ _ && ((PyData.list ys :: r).all (rowOk ys.length) && (PyData.list ys :: r).all rowBits)) = false
      rw [this, Bool.and_false, Bool.and_false]
    | _ => rfl
theorem no_rows {xs : List D} (h : ∀ w, xs.all (rowOk w) = false) : isPicL xs = false := by
  cases xs with
  | nil => rfl
  | cons y r =>
    cases y with
    | list ys =>
      show (okBoard _ _ && ((PyData.list ys :: r).all (rowOk ys.length) && (PyData.list ys :: r).all rowBits)) = false
      rw [h, Bool.false_and, Bool.and_false]
    | _ => rfl
theorem no_row {xs : List D} (x : D) (m : x ∈ xs) (h : ∀ w, rowOk w x = false) : isPicL xs = false := no_rows fun w => by
  rw [List.all_eq_false]
  exact ⟨x, m, by rw [h]; exact Bool.false_ne_true⟩
theorem two_rows {xs : List D} (a b : List D) (ma : .list a ∈ xs) (mb : .list b ∈ xs) (h : a.length ≠ b.length) : isPicL xs = false := no_rows fun w => by
  rw [List.all_eq_false]
  by_cases e : a.length = w
  · exact ⟨_, mb, by simp [rowOk]; omega⟩
  · exact ⟨_, ma, by simp [rowOk]; omega⟩
/-- one row another -/
def putR (p : List (List Bool)) (a : Nat) (x : D) : List D := rowsD (p.take a) ++ [x] ++ rowsD (p.drop (a + 1))
theorem mem_putR (p : List (List Bool)) (a : Nat) (x : D) : x ∈ putR p a x := by
  unfold putR; simp
theorem putR_mem {p : List (List Bool)} {a : Nat} {x y : D} (m : y ∈ putR p a x) : y = x ∨ ∃ l ∈ p, y = .list (l.map bI) := by
  unfold putR at m
  rcases List.mem_append.mp m with m | m
  · rcases List.mem_append.mp m with m | m
    · obtain ⟨l, ml, rfl⟩ := List.mem_map.mp m
      exact .inr ⟨l, List.mem_of_mem_take ml, rfl⟩
    · exact .inl (List.mem_singleton.mp m)
  · obtain ⟨l, ml, rfl⟩ := List.mem_map.mp m
    exact .inr ⟨l, List.mem_of_mem_drop ml, rfl⟩
theorem putR_len (p : List (List Bool)) (a : Nat) (x : D) : (putR p a x).length ≤ p.length + 1 := by
  unfold putR
  simp
  omega
theorem put_bad {h w : Nat} {p : List (List Bool)} (P : PicOk h w p) (a : Nat) (x : D) (hx : Shw 3 200 x) (hl : ∀ ys, x = .list ys → ys.length ≤ 100) (hno : isPicL (putR p a x) = false) : Bad (.list (putR p a x)) := by
  have H1 := P.h1
  have H2 := P.w1
  have hp := P.len
  have hlen := putR_len p a x
  refine ⟨hno, (Shw.list (n := 3) (B := 200) (m := 10) (fun y m => ?_) (by omega)).mono (by decide) (by decide), lim_of (by omega) fun ys m => ?_⟩
  · rcases putR_mem m with rfl | ⟨l, ml, rfl⟩
    · exact hx
    · exact (shw_LB (m := 6) (by rw [P.row l ml]; exact H2)).mono (by decide) (by decide)
  · rcases putR_mem m with e | ⟨l, ml, e⟩
    · exact hl ys e.symm
    · injection e with e
      rw [e, List.length_map, P.row l ml]
      omega
/-- a row with one cell another -/
def put1 (l : List Bool) (a : Nat) (x : D) : List D := (l.take a).map bI ++ [x] ++ (l.drop (a + 1)).map bI
theorem put1_len (l : List Bool) (a : Nat) (x : D) : (put1 l a x).length ≤ l.length + 1 := by
  unfold put1
  simp
  omega
theorem put1_bits (l : List Bool) (a : Nat) (x : D) (h : bitD 0 1 x = false) : rowBits (.list (put1 l a x)) = false := by
  show (put1 l a x).all (bitD 0 1) = false
  unfold put1
  rw [List.all_append, List.all_append]
  simp [h]
theorem put1_shw (l : List Bool) (a : Nat) (x : D) (h : Shw 0 13 x) (hl : l.length ≤ 6) : Shw 3 200 (.list (put1 l a x)) := by
  have := put1_len l a x
  refine (Shw.list (n := 0) (B := 13) (m := 7) (fun y m => ?_) (by omega)).mono (by decide) (by decide)
  unfold put1 at m
  rcases List.mem_append.mp m with m | m
  · rcases List.mem_append.mp m with m | m
    · obtain ⟨b, _, rfl⟩ := List.mem_map.mp m; exact shw_bI b
    · rw [List.mem_singleton.mp m]; exact h
  · obtain ⟨b, _, rfl⟩ := List.mem_map.mp m; exact shw_bI b
theorem shw_s1 : Shw 0 13 (.str ("1" : Str)) := Shw.str _ _ (by decide +kernel) (by decide +kernel) (by decide +kernel)
def odds : List D := [.int 2, .none, .bool true, .str ("1" : Str), .int (-1)]
theorem odds_ok {x : D} (m : x ∈ odds) : Shw 0 13 x ∧ bitD 0 1 x = false := by
  unfold odds at m
  simp only [List.mem_cons, List.not_mem_nil, or_false] at m
  rcases m with rfl | rfl | rfl | rfl | rfl
  · exact ⟨Shw.int (by decide), by decide⟩
  · exact ⟨Shw.none, rfl⟩
  · exact ⟨Shw.bool true, rfl⟩
  · exact ⟨shw_s1, rfl⟩
  · exact ⟨Shw.int (by decide), by decide⟩
theorem cut_put {α : Type} (xs : List α) (a : Nat) (h : a < xs.length) : cutL xs none (some (a : Int)) = xs.take a ∧ cutL xs (some ((a : Int) + 1)) none = xs.drop (a + 1) := by
  refine ⟨cutL_to xs a (by omega), ?_⟩
  have := cutL_from xs (a + 1) (by omega)
  exact this
theorem no_picture_ex {h w : Nat} {p : List (List Bool)} (P : PicOk h w p) (g : Gen3) (N : Int) (hg : Gn N g) (hN : N ≤ 2 ^ 50) : ∃ (v g' : D), m__law_no_picture [G3 g, picD p] = .ok (v, g') ∧ Bad v := by
  have H1 := P.h1
  have H2 := P.w1
  have H3 := P.h0
  have H4 := P.w0
  have hp := P.len
  obtain ⟨a0, g1, e1, ha0, ha1, h1⟩ := random_ex g N h hg (by omega) (by omega) (by omega)
  obtain ⟨a, rfl⟩ : ∃ a : Nat, a0 = a := ⟨a0.toNat, by omega⟩
  have hap : a < p.length := by omega
  obtain ⟨l, hl⟩ : ∃ l, l = p[a] := ⟨_, rfl⟩
  have ml : l ∈ p := by rw [hl]; exact List.getElem_mem _
  have hlw := P.row l ml
  obtain ⟨c0, g2, e2, hc0, hc1, h2⟩ := random_ex g1 (N + 1) w h1 (by omega) (by omega) (by omega)
  obtain ⟨c, rfl⟩ : ∃ c : Nat, c0 = c := ⟨c0.toNat, by omega⟩
  -- the row
  have ea : atI (rowsD p) (a : Int) = some (.list (l.map bI)) := by
    rw [atI_nat, List.getElem?_map, List.getElem?_eq_getElem hap, hl]; rfl
  -- rows with one cell another
  have cl := cut_put (l.map bI) c (by rw [List.length_map]; omega)
  have l1 : min c l.length + 1 ≤ 16777216 := by omega
  have l2 : min c l.length + 1 + (l.length - (c + 1)) ≤ 16777216 := by omega
  have q1 : ∀ d : D, compM true (.nm 6) tYesD E__law_no_picture_1 [.d (G3 g2), .d d, .d (.int a), .d (.list (l.map bI)), .d (.int c), .d .none, .d .none] odds = .ok (odds.map fun x => .list (put1 l c x)) := fun d => by
    have := compM_all (.nm 6) E__law_no_picture_1 [.d (G3 g2), .d d, .d (.int a), .d (.list (l.map bI)), .d (.int c), .d .none, .d .none] id (fun x => .list (put1 l c x)) odds fun x _ => ⟨_, rfl, by
      unfold E__law_no_picture_1 put1
      simp [cl.1, cl.2, l1, l2]⟩
    rw [List.map_id] at this
    exact this
  obtain ⟨tl, htl⟩ : ∃ tl : List D, tl = if 1 < h then [.list (l.map bI ++ [.int 0]), .tuple (l.map bI), .none] else [] := ⟨_, rfl⟩
  obtain ⟨od, hod⟩ : ∃ od : List D, od = (odds.map fun x => PyData.list (put1 l c x)) ++ tl ++ [.tuple (l.map bI)] := ⟨_, rfl⟩
  have m1 : dMul (.list [.list (l.map bI ++ [.int 0]), .tuple (l.map bI), .none]) (.int (if 1 < h then 1 else 0)) = .ok (.list tl) := by
    rw [htl]
    by_cases q : 1 < h
    · rw [if_pos q, if_pos q, dMul_l _ _ (by simp) (by omega) (by omega)]; rfl
    · rw [if_neg q, if_neg q, dMul_l _ _ (by simp) (by omega) (by omega)]; rfl
  have htl3 : tl.length ≤ 3 := by rw [htl]; split <;> simp
  have l3 : l.length + 1 ≤ 16777216 := by omega
  have l4 : 5 + tl.length ≤ 16777216 := by omega
  have l5 : 5 + tl.length + 1 ≤ 16777216 := by omega
  have hodl : od.length ≤ 9 := by rw [hod]; simp [odds]; omega
  -- pictures with one row another
  have cp := cut_put (rowsD p) a (by rw [List.length_map]; exact hap)
  have l6 : min a p.length + 1 ≤ 16777216 := by omega
  have l7 : min a p.length + 1 + (p.length - (a + 1)) ≤ 16777216 := by omega
  have q2 : compM true (.nm 6) tYesD E__law_no_picture_2 [.d (G3 g2), .d (picD p), .d (.int a), .d (.list (l.map bI)), .d (.int c), .d (.list od), .d .none] od = .ok (od.map fun x => .list (putR p a x)) := by
    have := compM_all (.nm 6) E__law_no_picture_2 [.d (G3 g2), .d (picD p), .d (.int a), .d (.list (l.map bI)), .d (.int c), .d (.list od), .d .none] id (fun x => .list (putR p a x)) od fun x _ => ⟨_, rfl, by
      have e1 : putR p a x = (rowsD p).take a ++ [x] ++ (rowsD p).drop (a + 1) := by
        unfold putR; rw [rowsD, rowsD, rowsD, List.map_take, List.map_drop]
      have e2 : (rowsD p).length = p.length := List.length_map _
      unfold E__law_no_picture_2
      rw [e1, picD_eq]
      generalize rowsD p = Q at *
      simp [cp.1, cp.2, e2, l6, l7]⟩
    rw [List.map_id] at this
    exact this
  have l8 : 4 + od.length ≤ 16777216 := by omega
  obtain ⟨v, g3, e3, mv, h3⟩ := pick_ex g2 (N + 1 + 1) ([.none, .list [], .tuple (rowsD p), .list [.list []]] ++ od.map fun x => PyData.list (putR p a x)) h2 (by omega) (by simp) (by simp; omega)
  refine ⟨v, G3 g3, ?_, ?_⟩
  · have e4 : (rowsD p).length = p.length := List.length_map _
    have q1' := q1 (picD p)
    have hodd : (dLst (dCons (dC (.int 2)) (dCons (dC .none) (dCons (dC (.bool true)) (dCons (dC (.str ("1" : Str))) (dCons (d2 dSub (dC (.int 0)) (dC (.int 1))) dNil)))))) [.d (G3 g2), .d (picD p), .d (.int a), .d (.list (l.map bI)), .d (.int c), .d .none, .d .none] = .ok (.list odds) := by
      simp [odds]
    have hpl : (decide ((1 : Int) < h)) = decide (1 < h) := by
      by_cases q : 1 < h
      · rw [decide_eq_true q, decide_eq_true (by omega)]
      · rw [decide_eq_false q, decide_eq_false (by omega)]
    have ol : (odds.map fun x => PyData.list (put1 l c x)).length = 5 := by simp [odds]
    have ol3 : (od.map fun x => PyData.list (putR p a x)).length = od.length := List.length_map _
    simp only [List.cons_append, List.nil_append] at e3
    unfold m__law_no_picture b__law_no_picture
    rw [picD_eq] at *
    generalize rowsD p = Q at *
    generalize odds.map (fun x => PyData.list (put1 l c x)) = O1 at *
    generalize od.map (fun x => PyData.list (putR p a x)) = O2 at *
    have e5 : Q.length = h := by omega
    rw [runM_ev 2 7 _ [G3 g, .list Q] rfl]
    have eE : env0 7 [G3 g, .list Q] = [.d (G3 g), .d (.list Q), .d .none, .d .none, .d .none, .d .none, .d .none] := rfl
    rw [eE]
    simp only [sSeq_ev, sSet_ev, dM_ev, dCons_ev, dN_ev, dNil_ev, d1_ev, dVar_ev0, dVar_evS, Res.ok_bnd, dLen_l, e5, e1, List.set, seqE_nx, lift_ev, d2_ev, dIx_l, ea, resO_s, List.length_map, hlw, e2]
    simp only [hlw] at l3
    have hz : (l.map bI ++ [PyData.int 0]).length = w + 1 := by simp [hlw]
    have ol2 : O1.length = 5 := ol
    unfold odds at q1'
    have hod2 : O1 ++ (tl ++ [PyData.tuple (List.map bI l)]) = od := by rw [hod, List.append_assoc]
    simp [q1', l3, hlw, hpl, m1, l4, l5, ol2, hod2, q2, l8, e3, ol3]
  · have rowb : Shw 3 200 (.tuple (l.map bI)) := (Shw.tuple (n := 0) (B := 13) (m := 6) (fun x m => by obtain ⟨b, _, rfl⟩ := List.mem_map.mp m; exact shw_bI b) (by rw [List.length_map]; omega)).mono (by decide) (by decide)
    rcases List.mem_append.mp mv with m | m
    · simp only [List.mem_cons, List.not_mem_nil, or_false] at m
      rcases m with rfl | rfl | rfl | rfl
      · exact ⟨rfl, Shw.none.mono (by decide) (by decide), fun _ _ e => nomatch e⟩
      · exact ⟨rfl, (Shw.list (n := 0) (B := 13) (m := 0) (fun _ m => absurd m List.not_mem_nil) (by simp)).mono (by decide) (by decide), fun _ _ e => by cases e⟩
      · refine ⟨rfl, (Shw.tuple (n := 1) (B := 93) (m := 6) (fun x m => ?_) (by rw [List.length_map]; omega)).mono (by decide) (by decide), fun _ _ e => nomatch e⟩
        obtain ⟨r, mr, rfl⟩ := List.mem_map.mp m
        exact shw_LB (by rw [P.row r mr]; exact H2)
      · refine ⟨by decide, (Shw.list (n := 1) (B := 93) (m := 1) (fun x m => ?_) (by simp)).mono (by decide) (by decide), lim_of (by simp) fun ys m => ?_⟩
        · rw [List.mem_singleton.mp m]
          exact (Shw.list (n := 0) (B := 13) (m := 0) (fun _ m => absurd m List.not_mem_nil) (by simp)).mono (by decide) (by decide)
        · have := List.mem_singleton.mp m
          injection this with this
          rw [this]; simp
    · obtain ⟨x, mx, rfl⟩ := List.mem_map.mp m
      have hin := mem_putR p a x
      rw [hod] at mx
      rcases List.mem_append.mp mx with mx | mx
      · rcases List.mem_append.mp mx with mx | mx
        · obtain ⟨o, mo, rfl⟩ := List.mem_map.mp mx
          obtain ⟨s1, s2⟩ := odds_ok mo
          exact put_bad P a _ (put1_shw l c o s1 (by omega)) (fun ys e => by injection e with e; rw [← e]; have := put1_len l c o; omega) (no_bits _ hin (put1_bits l c o s2))
        · rw [htl] at mx
          by_cases q : 1 < h
          · rw [if_pos q] at mx
            simp only [List.mem_cons, List.not_mem_nil, or_false] at mx
            rcases mx with rfl | rfl | rfl
            · refine put_bad P a _ ((Shw.list (n := 0) (B := 13) (m := 7) (fun y m => ?_) (by simp; omega)).mono (by decide) (by decide)) (fun ys e => by injection e with e; rw [← e]; simp; omega) ?_
              · rcases List.mem_append.mp m with m | m
                · obtain ⟨b, _, rfl⟩ := List.mem_map.mp m; exact shw_bI b
                · rw [List.mem_singleton.mp m]; exact Shw.int (by decide)
              · -- another row
                obtain ⟨r, mr, mr2⟩ : ∃ r ∈ p, PyData.list (r.map bI) ∈ putR p a (.list (l.map bI ++ [.int 0])) := by
                  by_cases a0 : a = 0
                  · have h1p : 1 < p.length := by omega
                    refine ⟨p[1], List.getElem_mem _, ?_⟩
                    unfold putR
                    refine List.mem_append_right _ (List.mem_map.mpr ⟨p[1], ?_, rfl⟩)
                    rw [a0]
                    refine List.mem_iff_getElem.mpr ⟨0, by simp; omega, ?_⟩
                    simp
                  · have h0p : 0 < p.length := by omega
                    refine ⟨p[0], List.getElem_mem _, ?_⟩
                    unfold putR
                    refine List.mem_append_left _ (List.mem_append_left _ (List.mem_map.mpr ⟨p[0], ?_, rfl⟩))
                    refine List.mem_iff_getElem.mpr ⟨0, by simp; omega, ?_⟩
                    simp
                refine two_rows _ _ hin mr2 ?_
                rw [List.length_append, List.length_map, List.length_map, P.row r mr, hlw]
                simp
            · exact put_bad P a _ rowb (fun _ e => nomatch e) (no_row _ hin fun _ => rfl)
            · exact put_bad P a _ (Shw.none.mono (by decide) (by decide)) (fun _ e => nomatch e) (no_row _ hin fun _ => rfl)
          · rw [if_neg q] at mx
            exact absurd mx List.not_mem_nil
      · rw [List.mem_singleton.mp mx]
        rw [List.mem_singleton.mp mx] at hin
        exact put_bad P a _ rowb (fun _ e => nomatch e) (no_row _ hin fun _ => rfl)
end DL

namespace DL
open PySem PySem.Spec PyProof.Rows L2
def fill2 (l : List Bool) : List Bool := (List.range l.length).map fun i => !(posN l).isEmpty && between ((posN l).getD 0 0) ((posN l).getD ((posN l).length - 1) 0) i
theorem fill2_length (l : List Bool) : (fill2 l).length = l.length := by
  unfold fill2
  rw [List.length_map, List.length_range]
def ev11 (g p r l pl o d k n c q : W) : DL.Env := [g, p, r, l, pl, o, d, k, n, c, q]
theorem row_turn (g p l pl o d k n c q : W) (b : List (List Bool)) (x : List Bool) (hx : x.length < 1000000) (hb : b.length < 100) :
    L__law_good_1 (ev11 g p (.d (picD b)) (.d (rowD x)) pl o d k n c q) = .ok (.nx (ev11 g p (.d (picD (b ++ [fill2 x]))) (.d (rowD x)) (.d (.list ((posN x).map nD))) o d k n c q)) := by
  have e : ∀ u v w : W, compM true (.nm 10) C__law_good_1 E__law_good_1 (ev11 g p (.d (picD b)) (.d (rowD x)) pl o d k n c q) ((List.range x.length).map nD) = .ok ((posN x).map nD) := fun u v w =>
    compM_map (.nm 10) C__law_good_1 E__law_good_1 (ev11 g p (.d (picD b)) (.d (rowD x)) pl o d k n c q) nD (fun i => x.getD i false) nD (List.range x.length) fun i m => ⟨ev11 g p (.d (picD b)) (.d (rowD x)) pl o d k n c (.d (nD i)), rfl, by
      have := row_at x i (List.mem_range.mp m)
      unfold C__law_good_1 ev11 nD
      simp [this, bI_eq1], fun _ => rfl⟩
  have e3 := rngA_n x.length (by omega)
  have e1 := dNe_nil _ (shaped_LN (posN x))
  have e4 : compM true (.nm 10) tYesD E__law_good_2 (ev11 g p (.d (picD b)) (.d (rowD x)) (.d (.list ((posN x).map nD))) o d k n c q) ((List.range x.length).map nD) = .ok ((fill2 x).map bI) := by
    have := compM_all (.nm 10) E__law_good_2 (ev11 g p (.d (picD b)) (.d (rowD x)) (.d (.list ((posN x).map nD))) o d k n c q) nD (fun i => bI (!(posN x).isEmpty && between ((posN x).getD 0 0) ((posN x).getD ((posN x).length - 1) 0) i)) (List.range x.length) fun i _ => ⟨ev11 g p (.d (picD b)) (.d (rowD x)) (.d (.list ((posN x).map nD))) o d k n c (.d (nD i)), rfl, by
      unfold E__law_good_2 between ev11
      by_cases h : (posN x).isEmpty = true
      · have h' : ((posN x).map nD).isEmpty = true := by rw [List.isEmpty_map]; exact h
        rw [h'] at e1
        rw [h]
        generalize (posN x).map nD = Q at e1
        simp [e1, bI]
      · have h' : ((posN x).map nD).isEmpty = false := by rw [List.isEmpty_map]; simpa using h
        rw [h'] at e1
        have h2 : (posN x).isEmpty = false := by simpa using h
        have hlen : 0 < (posN x).length := by
          cases q : posN x with
          | nil => rw [q] at h; exact absurd rfl h
          | cons a r => simp
        have a0 : atI ((posN x).map nD) 0 = some (nD ((posN x).getD 0 0)) := by
          have := atI_nat ((posN x).map nD) 0
          rw [show ((0 : Nat) : Int) = 0 from rfl] at this
          rw [this, List.getElem?_map, List.getD_eq_getElem?_getD, List.getElem?_eq_getElem hlen]; rfl
        have a1 : atI ((posN x).map nD) (-1) = some (nD ((posN x).getD ((posN x).length - 1) 0)) := by
          rw [atI_last _ (by rw [List.length_map]; exact hlen), List.length_map, List.getElem?_map, List.getD_eq_getElem?_getD, List.getElem?_eq_getElem (show (posN x).length - 1 < (posN x).length by omega)]; rfl
        rw [h2]
        generalize (posN x).getD 0 0 = f at a0
        generalize (posN x).getD ((posN x).length - 1) 0 = t at a1
        generalize (posN x).map nD = Q at *
        by_cases h1 : (f : Int) ≤ i
        · have h1' : f ≤ i := by omega
          by_cases h2 : (i : Int) ≤ t
          · have h2' : i ≤ t := by omega
            simp [e1, a0, a1, nD, h1, h1', h2, h2', bI]
          · have h2' : ¬ i ≤ t := by omega
            simp [e1, a0, a1, nD, h1, h1', h2, h2', bI]
        · have h1' : ¬ f ≤ i := by omega
          simp [e1, a0, a1, nD, h1, h1', bI]⟩
    rw [this]
    unfold fill2
    rw [List.map_map]
    rfl
  have ea : picD (b ++ [fill2 x]) = .list (rowsD b ++ [.list ((fill2 x).map bI)]) := by rw [picD_eq, rowsD, List.map_append]; rfl
  have eb : (rowsD b).length < 16777216 := by rw [List.length_map]; omega
  have e := e (.d .none) (.d .none) (.d .none)
  unfold L__law_good_1
  rw [ea]
  rw [picD_eq] at e e4 ⊢
  generalize rowsD b = Q at *
  unfold ev11 at *
  simp [e3, e, e4, eb]
theorem rows_loop (g p o d k n c q : W) : ∀ (ls b : List (List Bool)) (l pl : W), (∀ x ∈ ls, x.length < 1000000) → b.length + ls.length ≤ 100 →
    ∃ l' pl', forM (.nm 3) L__law_good_1 (rowsD ls) (ev11 g p (.d (picD b)) l pl o d k n c q) = .ok (.nx (ev11 g p (.d (picD (b ++ ls.map fill2))) l' pl' o d k n c q))
  | [], b, l, pl, _, _ => ⟨l, pl, by rw [List.map_nil, List.append_nil]; rfl⟩
  | x :: r, b, l, pl, h, hl => by
    rw [List.length_cons] at hl
    obtain ⟨l', pl', e⟩ := rows_loop g p o d k n c q r (b ++ [fill2 x]) (.d (rowD x)) (.d (.list ((posN x).map nD))) (fun a m => h a (List.mem_cons_of_mem _ m)) (by rw [List.length_append]; simp; omega)
    refine ⟨l', pl', ?_⟩
    have e0 : rowsD (x :: r) = rowD x :: rowsD r := rfl
    have eb : bindP (.nm 3) (rowD x) (ev11 g p (.d (picD b)) l pl o d k n c q) = .ok (ev11 g p (.d (picD b)) (.d (rowD x)) pl o d k n c q) := rfl
    rw [e0, forM_cons, eb, Res.ok_bnd, row_turn g p l pl o d k n c q b x (h x List.mem_cons_self) (by omega), loopO_nx, e, List.map_cons, List.append_assoc]
    rfl
theorem ask_turn (g p r l pl n c q d k : W) {h w : Nat} {x : List (List Bool)} (P : PicOk h w x) : L__law_good_2 (ev11 g p r l pl (.d (picD x)) d k n c q) = .ok (.nx (ev11 g p r l pl (.d (picD x)) (.d (gapD w x)) (.d (.str (picD x).shown)) n c q)) := by
  have e1 := law_first_eq P
  have e2 := first_gap_eq P
  have e3 := has_no_gaps_eq P
  have sg := gap_shw P
  have sp := shw_pic P
  have r1 := repr_ok sp
  have r2 := repr_ok (sg.pair sg) (by decide) (by decide)
  have r3 := repr_ne (sg.pair sg)
  have r4 := repr_ne sp
  have r5 := repr_ok ((Shw.bool (allWhole w x)).pair (Shw.bool (allWhole w x)))
  have r6 := repr_ne ((Shw.bool (allWhole w x)).pair (Shw.bool (allWhole w x)))
  have gn := gap_none w x
  have m2 : ∀ b : Bool, dMul (.list [.bool b]) (.int 2) = .ok (.list [.bool b, .bool b]) := fun b => dMul_1 _ _ (by omega) (by omega)
  unfold L__law_good_2 ev11
  generalize picD x = X at *
  generalize gapD w x = Y at *
  simp [e1, e2, e3, r1, r2, r3, r4, r5, r6, gn, m2]
theorem good_ex (g : Gen3) (hg : Gn 64000 g) : ∃ g', m__law_good [G3 g] = .ok (.bool true, g') := by
  obtain ⟨b, g1, e1, mb, h1⟩ := board_ex g 64000 hg (by omega)
  obtain ⟨p, g2, e2, P, h2⟩ := picture_ex g1 (64000 + 1) b h1 (by omega) mb
  have H1 := P.h1
  have H2 := P.w1
  have hp := P.len
  obtain ⟨v, g3, e5, hv⟩ := no_picture_ex P g2 _ h2 (by omega)
  obtain ⟨f, ef, F⟩ := filled_ex P
  have R : PicOk b.1 b.2 (p.map fill2) := P.of (P.toPic.map fill2 fill2_length)
  have ec : m__law_columns [picD (p.map fill2)] = .ok (picD (colsB b.2 (p.map fill2))) := by
    rw [law_columns_m]; exact columns_by_eq R.toPic R.h0 (by omega)
  obtain ⟨l', pl', e3⟩ := rows_loop (.d (G3 g2)) (.d (picD p)) (.d .none) (.d .none) (.d .none) (.d .none) (.d .none) (.d .none) p [] (.d .none) (.d .none) (fun x m => by rw [P.row x m]; omega) (by simp; omega)
  rw [List.nil_append] at e3
  have e0 : picD [] = .list [] := rfl
  rw [e0] at e3
  -- all four are asked
  obtain ⟨ρ4, e4, o4, d4, k4, rfl⟩ := forM_ex (.nm 5) L__law_good_2 (fun ρ => ∃ o d k, ρ = ev11 (.d (G3 g2)) (.d (picD p)) (.d (picD (p.map fill2))) l' pl' o d k (.d .none) (.d .none) (.d .none)) [picD p, picD (p.map fill2), picD (colsB b.2 (p.map fill2)), picD f] (ev11 (.d (G3 g2)) (.d (picD p)) (.d (picD (p.map fill2))) l' pl' (.d .none) (.d .none) (.d .none) (.d .none) (.d .none) (.d .none)) ⟨_, _, _, rfl⟩ fun x m ρ ⟨o, d, k, e⟩ => by
    subst e
    simp only [List.mem_cons, List.not_mem_nil, or_false] at m
    rcases m with rfl | rfl | rfl | rfl
    · exact ⟨_, ask_turn _ _ _ _ _ _ _ _ d k P, _, _, _, rfl⟩
    · exact ⟨_, ask_turn _ _ _ _ _ _ _ _ d k R, _, _, _, rfl⟩
    · exact ⟨_, ask_turn _ _ _ _ _ _ _ _ d k R.tr, _, _, _, rfl⟩
    · exact ⟨_, ask_turn _ _ _ _ _ _ _ _ d k F, _, _, _, rfl⟩
  have t1 : S__law_good_1 (ev11 (.d (G3 g)) (.d .none) (.d .none) (.d .none) (.d .none) (.d .none) (.d .none) (.d .none) (.d .none) (.d .none) (.d .none)) = .ok (.nx (ev11 (.d (G3 g2)) (.d (picD p)) (.d .none) (.d .none) (.d .none) (.d .none) (.d .none) (.d .none) (.d .none) (.d .none) (.d .none))) := by
    unfold S__law_good_1 ev11
    simp [e1, e2]
  have t2 : S__law_good_2 (ev11 (.d (G3 g2)) (.d (picD p)) (.d .none) (.d .none) (.d .none) (.d .none) (.d .none) (.d .none) (.d .none) (.d .none) (.d .none)) = .ok (.nx (ev11 (.d (G3 g2)) (.d (picD p)) (.d (.list [])) (.d .none) (.d .none) (.d .none) (.d .none) (.d .none) (.d .none) (.d .none) (.d .none))) := by
    unfold S__law_good_2 ev11
    simp
  have t3 : S__law_good_3 (ev11 (.d (G3 g2)) (.d (picD p)) (.d (.list [])) (.d .none) (.d .none) (.d .none) (.d .none) (.d .none) (.d .none) (.d .none) (.d .none)) = .ok (.nx (ev11 (.d (G3 g2)) (.d (picD p)) (.d (picD (p.map fill2))) l' pl' (.d .none) (.d .none) (.d .none) (.d .none) (.d .none) (.d .none))) := by
    unfold S__law_good_3
    rw [sFor_ev]
    exact e3
  have t4 : S__law_good_4 (ev11 (.d (G3 g2)) (.d (picD p)) (.d (picD (p.map fill2))) l' pl' (.d .none) (.d .none) (.d .none) (.d .none) (.d .none) (.d .none)) = .ok (.nx (ev11 (.d (G3 g2)) (.d (picD p)) (.d (picD (p.map fill2))) l' pl' o4 d4 k4 (.d .none) (.d .none) (.d .none))) := by
    unfold S__law_good_4
    unfold ev11 at e4 ⊢
    generalize picD (p.map fill2) = Q at *
    generalize picD p = Q0 at *
    simp [ec, ef, e4]
  have t5 : S__law_good_5 (ev11 (.d (G3 g2)) (.d (picD p)) (.d (picD (p.map fill2))) l' pl' o4 d4 k4 (.d .none) (.d .none) (.d .none)) = .ok (.nx (ev11 (.d g3) (.d (picD p)) (.d (picD (p.map fill2))) l' pl' o4 d4 k4 (.d v) (.d .none) (.d .none))) := by
    unfold S__law_good_5 ev11
    simp [e5]
  have a6 := all_refused_1 v hv.sh (by decide) [.exc "InvalidPicture" v, .exc "InvalidPicture" v] (fun g m => by
    simp only [List.mem_cons, List.not_mem_nil, or_false] at m
    rcases m with rfl | rfl <;> rfl)
  have t6 : S__law_good_6 (ev11 (.d g3) (.d (picD p)) (.d (picD (p.map fill2))) l' pl' o4 d4 k4 (.d v) (.d .none) (.d .none)) = .ok (.rt (.bool true) (ev11 (.d g3) (.d (picD p)) (.d (picD (p.map fill2))) l' pl' o4 d4 k4 (.d v) (.d .none) (.d .none))) := by
    have b1 := hv.gap
    have b2 := hv.whole
    unfold S__law_good_6 B__law_good_1 B__law_good_2 ev11
    simp [b1, b2, a6]
  refine ⟨g3, ?_⟩
  have eE : env0 11 [G3 g] = ev11 (.d (G3 g)) (.d .none) (.d .none) (.d .none) (.d .none) (.d .none) (.d .none) (.d .none) (.d .none) (.d .none) (.d .none) := rfl
  unfold m__law_good b__law_good
  rw [runM_ev 1 11 _ [G3 g] rfl, eE]
  simp only [sSeq_ev, seqE_nx, t1, t2, t3, t4, t5, t6]
  rfl
theorem law_loop (ns : List Int) (hl : ns.length ≤ 63) (i : Nat) (hi : i < 64) : L_law_1 [.d (.list (ns.map .int)), .d (nD i)] = .ok (.nx [.d (.list (ns.map .int)), .d (nD i)]) := by
  obtain ⟨g, e, hg⟩ := gen_ex ns i hl hi
  obtain ⟨g', e2⟩ := good_ex g hg
  unfold L_law_1 nD
  simp [e, e2]
theorem pic1 : PicOk 1 3 [[true, false, true]] := ⟨⟨rfl, by decide⟩, by decide, by decide, by decide, by decide, by decide⟩
theorem pic2 : PicOk 3 2 [[false, true], [true, false], [false, true]] := ⟨⟨rfl, by decide⟩, by decide, by decide, by decide, by decide, by decide⟩
theorem pic3 : PicOk 1 1 [[false]] := ⟨⟨rfl, by decide⟩, by decide, by decide, by decide, by decide, by decide⟩
theorem plain_law (ns : List Int) (hl : ns.length ≤ 63) : m_law [.d (.list (ns.map PyData.int))] = .ok (.d (.bool true)) := by
  obtain ⟨w', e⟩ := forM_st (.nm 1) L_law_1 nD (fun (_ : Unit) w => [.d (.list (ns.map .int)), w]) (fun _ _ => ()) (fun _ r => ∀ i ∈ r, i < 64) (fun _ _ _ => rfl) (fun _ i r hi => ⟨fun j m => hi j (List.mem_cons_of_mem _ m), law_loop ns hl i (hi i List.mem_cons_self)⟩) (List.range 8) () (.d .none) (fun i m => by have := List.mem_range.mp m; omega)
  have h4 : rngA (.int 8) = .ok ((List.range 8).map nD) := rngA_n 8 (by omega)
  have w1 : m_first_gap [.list [.list [.int 1, .int 0, .int 1]]] = .ok (.tuple [.int 0, .int 0]) := (first_gap_eq pic1).trans (congrArg Res.ok (by
    unfold gapD
    rw [show findG 0 [[true, false, true]] = some 0 by decide +kernel]
    rfl))
  have w2 : m_first_gap [.list [.list [.int 0, .int 1], .list [.int 1, .int 0], .list [.int 0, .int 1]]] = .ok (.tuple [.int 1, .int 1]) := (first_gap_eq pic2).trans (congrArg Res.ok (by
    unfold gapD
    rw [show findG 0 [[false, true], [true, false], [false, true]] = none by decide +kernel, show findG 0 (colsB 2 [[false, true], [true, false], [false, true]]) = some 1 by decide +kernel]
    rfl))
  have w3 : m_has_no_gaps [.list [.list [.int 0]]] = .ok (.bool true) := (has_no_gaps_eq pic3).trans (by rw [show allWhole 1 [[false]] = true by decide +kernel])
  have w4 : dEq (.tuple [.int 0, .int 0]) (.tuple [.int 0, .int 0]) = .ok (.bool true) := dEq_self _ (by decide +kernel)
  have w5 : dEq (.tuple [.int 1, .int 1]) (.tuple [.int 1, .int 1]) = .ok (.bool true) := dEq_self _ (by decide +kernel)
  unfold m_law b_law
  simp [h4, e, w1, w2, w3, w4, w5, -List.map]
end DL

namespace DL
open PySem PySem.Spec PyProof.Rows L2
def dd (x : Str) (i : Nat) : He.DefD := ⟨(x, none), x, x, defArgs (top i), defBody (top i), defScope (top i), [], []⟩
def fnL : List He.DefD := [dd "is_whole" 4, dd "is_board_by" 8, dd "is_square_by" 9, dd "is_picture_on" 10, dd "board_by" 11, dd "is_picture_by" 12, dd "check_picture" 13, dd "copied" 14, dd "is_line_whole" 16, dd "columns_by" 17, dd "is_whole_by" 18, dd "has_no_gaps" 19, dd "first_gap" 20, dd "filled_line" 21, dd "filled" 22, dd "_law_hash" 24, dd "_law_random" 25, dd "_law_cell" 26, dd "_law_generator" 27, dd "_law_between" 28, dd "_law_pick" 29, dd "_law_error" 30, dd "_law_refused" 31, dd "_law_all_refused" 32, dd "_law_board" 33, dd "_law_picture" 34, dd "_law_columns" 35, dd "_law_no_picture" 36, dd "_law_line_whole" 37, dd "_law_first" 38, dd "_law_good" 39, dd "law" 40]
def glos : List Str := ([("PictureError" : Str), ("InvalidPicture" : Str), ("is_whole" : Str), ("is_board_by" : Str), ("is_square_by" : Str), ("is_picture_on" : Str), ("board_by" : Str), ("is_picture_by" : Str), ("check_picture" : Str), ("copied" : Str), ("is_line_whole" : Str), ("columns_by" : Str), ("is_whole_by" : Str), ("has_no_gaps" : Str), ("first_gap" : Str), ("filled_line" : Str), ("filled" : Str), ("_law_hash" : Str), ("_law_random" : Str), ("_law_cell" : Str), ("_law_generator" : Str), ("_law_between" : Str), ("_law_pick" : Str), ("_law_error" : Str), ("_law_refused" : Str), ("_law_all_refused" : Str), ("_law_board" : Str), ("_law_picture" : Str), ("_law_columns" : Str), ("_law_no_picture" : Str)] : List Str) ++ ([("_law_line_whole" : Str), ("_law_first" : Str), ("_law_good" : Str), ("law" : Str)] : List Str)
def faI : List He.Fa := ([.int "MOST_SIDE" 6, .int "MOST_CELLS" 25] : List He.Fa)
def faL : List He.Fa := glos.map .glo ++ (BL.map .free ++ faI)
def tfL : List He.Defn := [("_law_good", none)]
def tabT (K : PySem.W.Frag) : List (Addr × Str) := [((He.cT K ("_law_good", none)).2, (envOfC "_law_good" (defScope (top 39)) 0 0 .none).qual ++ "<lambda>")]
def errL : List Str := [("PictureError" : Str), ("InvalidPicture" : Str)]
def subL : List (Str × List Str) := [(("PictureError" : Str), [("PictureError" : Str), ("InvalidPicture" : Str)]), (("InvalidPicture" : Str), [("InvalidPicture" : Str)])]
def exL (K : PySem.W.Frag) : Bool := errsB PySem.Challenge.pw_linepictures_k64_whole_gaps_of_pictures.main.file K "PictureError" errL subL errL && decide (((tabT K).map (·.1)).Nodup)
abbrev RL : PySem.W.OpenRow := PySem.W.OpenLaw.row PySem.Challenge.rw_linepictures_k64_whole_gaps_of_pictures
abbrev hkL : PySem.W.Hook := hookY 4 faL fnL tfL exL
def obL (s : PySem.W.SharedT) : He.AlX := seenY 4 faL fnL tfL exL (HandSHeadRun.getT s)
theorem obL_eq (s : PySem.W.SharedT) : obL s = hkL.obs s.abs := seenY_eq (HandSHeadRun.getT_eq s)
def loose : List Str := ([("PictureError" : Str), ("InvalidPicture" : Str), ("is_whole" : Str), ("is_board_by" : Str), ("is_square_by" : Str), ("is_picture_on" : Str), ("board_by" : Str), ("is_picture_by" : Str), ("check_picture" : Str), ("copied" : Str), ("is_line_whole" : Str), ("columns_by" : Str), ("is_whole_by" : Str), ("has_no_gaps" : Str), ("first_gap" : Str), ("filled_line" : Str), ("filled" : Str), ("_law_hash" : Str), ("_law_random" : Str), ("_law_cell" : Str), ("_law_generator" : Str), ("_law_between" : Str), ("_law_pick" : Str), ("_law_error" : Str), ("_law_refused" : Str), ("_law_all_refused" : Str), ("_law_board" : Str), ("_law_picture" : Str), ("_law_columns" : Str), ("_law_no_picture" : Str)] : List Str) ++ ([("_law_line_whole" : Str), ("_law_first" : Str), ("_law_good" : Str), ("MOST_SIDE" : Str), ("MOST_CELLS" : Str)] : List Str)
theorem runL (w : World) : HandSHeadRun.RunEq RL (PySem.W.view RL.prog [40]) hkL obL 4000 loose w := by
  intro os
  kernel_rfl
theorem law_at (w : World) (mg : Str → Option Value) (fa : Addr) (h : Heap) (Y : hkL.says w h) (G : h.Ns mainGlobals mg) (hmg : mg ("law" : Str) = some (.ref fa)) : ∃ K : PySem.W.Frag, K.In h ∧ ∃ (fd : FuncData) (cs : List (Addr × Addr)),
      (∀ p ∈ cs, h.get? p.2 = some { cls := .none, data := .fields #[] }) ∧ (∀ p ∈ cs, K.lookup p.2 = none) ∧ (∀ p ∈ cs, PySem.W.CodeHd h p.1 p.2) ∧ (∀ (s : Shared) (u : Value), BindsTo s fd ⟨[u], []⟩ [(("script" : Str), u)]) ∧
      ∀ base : Heap, K.In base → base.Ns mainGlobals mg → (∀ p ∈ cs, LamX.TabB base mg p.1 p.2) → ∀ (a : Addr) (ns : List Int), ns.length ≤ 63 → (∀ z ∈ ns, Builtin.Int.intBits z ≤ 1048576) →
        ∃ sp : Sp, FnG PySem.Challenge.rw_linepictures_k64_whole_gaps_of_pictures.prog w K mg base 12 fa fd ["script"] sp ∧ ∀ H : Hp, (∀ p ∈ cs, H p.2 = some (.tbl #[])) → ScT K H (.ref a) ns → sp [.ref a] H (fun v _ => v = .bl true) fun _ _ _ => False := by
  obtain ⟨K, KX, c⟩ := Y
  have cd : He.SaysD faL fnL K := c.t.d
  have gl : ∀ x ∈ glos, mg x = some (.ref (He.ga K x)) := fun x hx => He.glo_ok KX G (cd.facts (f := .glo x) (List.mem_append_left _ (List.mem_map.mpr ⟨x, hx, rfl⟩)))
  have bf : NoG mg := fun x hx => He.free_ok KX G (cd.facts (f := .free x) (List.mem_append_right _ (List.mem_append_left _ (List.mem_map.mpr ⟨x, hx, rfl⟩))))
  obtain ⟨ex1, ex2⟩ := and2 c.more
  have ER := errsB_ok ex1
  have hok : ∀ c, okc c = true → c ∈ errL := fun c hc => by simpa [okc, errL] using hc
  have hmE : ∀ c ∈ errL, mg c = some (.ref (He.ga K c)) := fun c hc => gl c (by revert c; decide)
  obtain ⟨fd_is_whole, FD_is_whole⟩ := cd.def_ 0 (d := dd "is_whole" 4) rfl
  obtain ⟨fd_is_board_by, FD_is_board_by⟩ := cd.def_ 1 (d := dd "is_board_by" 8) rfl
  obtain ⟨fd_is_square_by, FD_is_square_by⟩ := cd.def_ 2 (d := dd "is_square_by" 9) rfl
  obtain ⟨fd_is_picture_on, FD_is_picture_on⟩ := cd.def_ 3 (d := dd "is_picture_on" 10) rfl
  obtain ⟨fd_board_by, FD_board_by⟩ := cd.def_ 4 (d := dd "board_by" 11) rfl
  obtain ⟨fd_is_picture_by, FD_is_picture_by⟩ := cd.def_ 5 (d := dd "is_picture_by" 12) rfl
  obtain ⟨fd_check_picture, FD_check_picture⟩ := cd.def_ 6 (d := dd "check_picture" 13) rfl
  obtain ⟨fd_copied, FD_copied⟩ := cd.def_ 7 (d := dd "copied" 14) rfl
  obtain ⟨fd_is_line_whole, FD_is_line_whole⟩ := cd.def_ 8 (d := dd "is_line_whole" 16) rfl
  obtain ⟨fd_columns_by, FD_columns_by⟩ := cd.def_ 9 (d := dd "columns_by" 17) rfl
  obtain ⟨fd_is_whole_by, FD_is_whole_by⟩ := cd.def_ 10 (d := dd "is_whole_by" 18) rfl
  obtain ⟨fd_has_no_gaps, FD_has_no_gaps⟩ := cd.def_ 11 (d := dd "has_no_gaps" 19) rfl
  obtain ⟨fd_first_gap, FD_first_gap⟩ := cd.def_ 12 (d := dd "first_gap" 20) rfl
  obtain ⟨fd_filled_line, FD_filled_line⟩ := cd.def_ 13 (d := dd "filled_line" 21) rfl
  obtain ⟨fd_filled, FD_filled⟩ := cd.def_ 14 (d := dd "filled" 22) rfl
  obtain ⟨fd__law_hash, FD__law_hash⟩ := cd.def_ 15 (d := dd "_law_hash" 24) rfl
  obtain ⟨fd__law_random, FD__law_random⟩ := cd.def_ 16 (d := dd "_law_random" 25) rfl
  obtain ⟨fd__law_cell, FD__law_cell⟩ := cd.def_ 17 (d := dd "_law_cell" 26) rfl
  obtain ⟨fd__law_generator, FD__law_generator⟩ := cd.def_ 18 (d := dd "_law_generator" 27) rfl
  obtain ⟨fd__law_between, FD__law_between⟩ := cd.def_ 19 (d := dd "_law_between" 28) rfl
  obtain ⟨fd__law_pick, FD__law_pick⟩ := cd.def_ 20 (d := dd "_law_pick" 29) rfl
  obtain ⟨fd__law_error, FD__law_error⟩ := cd.def_ 21 (d := dd "_law_error" 30) rfl
  obtain ⟨fd__law_refused, FD__law_refused⟩ := cd.def_ 22 (d := dd "_law_refused" 31) rfl
  obtain ⟨fd__law_all_refused, FD__law_all_refused⟩ := cd.def_ 23 (d := dd "_law_all_refused" 32) rfl
  obtain ⟨fd__law_board, FD__law_board⟩ := cd.def_ 24 (d := dd "_law_board" 33) rfl
  obtain ⟨fd__law_picture, FD__law_picture⟩ := cd.def_ 25 (d := dd "_law_picture" 34) rfl
  obtain ⟨fd__law_columns, FD__law_columns⟩ := cd.def_ 26 (d := dd "_law_columns" 35) rfl
  obtain ⟨fd__law_no_picture, FD__law_no_picture⟩ := cd.def_ 27 (d := dd "_law_no_picture" 36) rfl
  obtain ⟨fd__law_line_whole, FD__law_line_whole⟩ := cd.def_ 28 (d := dd "_law_line_whole" 37) rfl
  obtain ⟨fd__law_first, FD__law_first⟩ := cd.def_ 29 (d := dd "_law_first" 38) rfl
  obtain ⟨fd__law_good, FD__law_good⟩ := cd.def_ 30 (d := dd "_law_good" 39) rfl
  obtain ⟨fd_law, FD_law⟩ := cd.def_ 31 (d := dd "law" 40) rfl
  have g_MOST_SIDE : ∃ u, mg ("MOST_SIDE" : Str) = some u ∧ RelV (.int (6)) u := by obtain ⟨t, ht⟩ := He.int_ok KX G (cd.facts (f := .int "MOST_SIDE" (6)) (by unfold faL faI; simp)); exact ⟨_, ht, ⟨_, rfl⟩⟩
  have g_MOST_CELLS : ∃ u, mg ("MOST_CELLS" : Str) = some u ∧ RelV (.int (25)) u := by obtain ⟨t, ht⟩ := He.int_ok KX G (cd.facts (f := .int "MOST_CELLS" (25)) (by unfold faL faI; simp)); exact ⟨_, ht, ⟨_, rfl⟩⟩
  have efa : fa = He.ga K "law" := mg_ga (gl _ (by decide)) hmg
  subst efa
  refine ⟨K, KX, fd_law, tfL.map (He.cT K), ?_, ?_, ?_, ?_, ?_⟩
  · intro p hp; obtain ⟨q, hq, rfl⟩ := List.mem_map.mp hp; exact c.empty q hq
  · intro p hp; obtain ⟨q, hq, rfl⟩ := List.mem_map.mp hp; exact c.out q hq
  · intro p hp; obtain ⟨q, hq, rfl⟩ := List.mem_map.mp hp; exact PySem.W.codeHd_of_K KX (c.hd q hq)
  · exact fun s u => FunD.bindsA (ps := ["script"]) FD_law (fun _ _ _ _ _ _ us hl => match us, hl with | [_], _ => rfl) s [u] rfl
  · intro base XB NB tb a ns hl hbits
    letI : Wd := ⟨PySem.Challenge.rw_linepictures_k64_whole_gaps_of_pictures.prog, w, K, mg, base, tabT K, 7⟩
    have hnd : ((Wd.T).map (·.1)).Nodup := of_decide_eq_true ex2
    have eW : PySem.Challenge.rw_linepictures_k64_whole_gaps_of_pictures.prog = Wd.P ∧ w = Wd.w ∧ K = Wd.K ∧ mg = Wd.mg ∧ base = Wd.base := ⟨rfl, rfl, rfl, rfl, rfl⟩
    have hkc : Wd.kc = 7 := rfl
    have R_PictureError : Rai PySem.Challenge.rw_linepictures_k64_whole_gaps_of_pictures.prog w K mg base 1 "PictureError" := ErrsOk.rai ER (by decide) (bf _ (by decide)) (by kernel_rfl) (gl _ (by decide))
    have hX_PictureError : EIs K mg okc sub_PictureError "PictureError" := ER.eis hok hmE (gl _ (by decide)) (by decide) (l := [("PictureError" : Str), ("InvalidPicture" : Str)]) (by decide) (by decide)
    have R_InvalidPicture : Rai PySem.Challenge.rw_linepictures_k64_whole_gaps_of_pictures.prog w K mg base 1 "InvalidPicture" := ErrsOk.rai ER (by decide) (bf _ (by decide)) (by kernel_rfl) (gl _ (by decide))
    have hX_InvalidPicture : EIs K mg okc sub_InvalidPicture "InvalidPicture" := ER.eis hok hmE (gl _ (by decide)) (by decide) (l := [("InvalidPicture" : Str)]) (by decide) (by decide)
    have hVE : EIsT K mg okc okc "ValueError" := ER.eisT hok hmE
    have F_is_whole : Dfn PySem.Challenge.rw_linepictures_k64_whole_gaps_of_pictures.prog w K mg base 1 "is_whole" ["value"] [] (spP K mg 0 m_is_whole) := dfn_of (st := top 4) FD_is_whole (gl _ (by decide)) (ok_is_whole bf ) (fun _ _ _ _ _ _ us hl => match us, hl with | [_], _ => rfl) (kwsN)
    have F_is_board_by : Dfn PySem.Challenge.rw_linepictures_k64_whole_gaps_of_pictures.prog w K mg base 2 "is_board_by" ["value"] [] (spP K mg 0 m_is_board_by) := dfn_of (st := top 8) FD_is_board_by (gl _ (by decide)) (ok_is_board_by bf F_is_whole g_MOST_SIDE g_MOST_CELLS) (fun _ _ _ _ _ _ us hl => match us, hl with | [_], _ => rfl) (kwsN)
    have F_is_square_by : Dfn PySem.Challenge.rw_linepictures_k64_whole_gaps_of_pictures.prog w K mg base 1 "is_square_by" ["board", "value"] [] (spP K mg 0 m_is_square_by) := dfn_of (st := top 9) FD_is_square_by (gl _ (by decide)) (ok_is_square_by bf ) (fun _ _ _ _ _ _ us hl => match us, hl with | [_, _], _ => rfl) (kwsN)
    have F_is_picture_on : Dfn PySem.Challenge.rw_linepictures_k64_whole_gaps_of_pictures.prog w K mg base 2 "is_picture_on" ["board", "value"] [] (spP K mg 0 m_is_picture_on) := dfn_of (st := top 10) FD_is_picture_on (gl _ (by decide)) (ok_is_picture_on bf F_is_square_by F_is_whole) (fun _ _ _ _ _ _ us hl => match us, hl with | [_, _], _ => rfl) (kwsN)
    have F_board_by : Dfn PySem.Challenge.rw_linepictures_k64_whole_gaps_of_pictures.prog w K mg base 3 "board_by" ["value"] [] (spP K mg 0 m_board_by) := dfn_of (st := top 11) FD_board_by (gl _ (by decide)) (ok_board_by bf F_is_board_by) (fun _ _ _ _ _ _ us hl => match us, hl with | [_], _ => rfl) (kwsN)
    have F_is_picture_by : Dfn PySem.Challenge.rw_linepictures_k64_whole_gaps_of_pictures.prog w K mg base 4 "is_picture_by" ["value"] [] (spP K mg 0 m_is_picture_by) := dfn_of (st := top 12) FD_is_picture_by (gl _ (by decide)) (ok_is_picture_by bf F_board_by F_is_picture_on) (fun _ _ _ _ _ _ us hl => match us, hl with | [_], _ => rfl) (kwsN)
    have F_check_picture : Dfn PySem.Challenge.rw_linepictures_k64_whole_gaps_of_pictures.prog w K mg base 5 "check_picture" ["picture"] [] (spP K mg 0 m_check_picture) := dfn_of (st := top 13) FD_check_picture (gl _ (by decide)) (ok_check_picture bf F_is_picture_by R_InvalidPicture) (fun _ _ _ _ _ _ us hl => match us, hl with | [_], _ => rfl) (kwsN)
    have F_copied : Dfn PySem.Challenge.rw_linepictures_k64_whole_gaps_of_pictures.prog w K mg base 1 "copied" ["table"] [] (spP K mg 2 m_copied) := dfn_of (st := top 14) FD_copied (gl _ (by decide)) (ok_copied bf ) (fun _ _ _ _ _ _ us hl => match us, hl with | [_], _ => rfl) (kwsN)
    have F_is_line_whole : Dfn PySem.Challenge.rw_linepictures_k64_whole_gaps_of_pictures.prog w K mg base 1 "is_line_whole" ["line"] [] (spP K mg 0 m_is_line_whole) := dfn_of (st := top 16) FD_is_line_whole (gl _ (by decide)) (ok_is_line_whole bf ) (fun _ _ _ _ _ _ us hl => match us, hl with | [_], _ => rfl) (kwsN)
    have F_columns_by : Dfn PySem.Challenge.rw_linepictures_k64_whole_gaps_of_pictures.prog w K mg base 1 "columns_by" ["picture"] [] (spP K mg 2 m_columns_by) := dfn_of (st := top 17) FD_columns_by (gl _ (by decide)) (ok_columns_by bf ) (fun _ _ _ _ _ _ us hl => match us, hl with | [_], _ => rfl) (kwsN)
    have F_is_whole_by : Dfn PySem.Challenge.rw_linepictures_k64_whole_gaps_of_pictures.prog w K mg base 2 "is_whole_by" ["picture"] [] (spP K mg 0 m_is_whole_by) := dfn_of (st := top 18) FD_is_whole_by (gl _ (by decide)) (ok_is_whole_by bf F_columns_by F_is_line_whole) (fun _ _ _ _ _ _ us hl => match us, hl with | [_], _ => rfl) (kwsN)
    have F_has_no_gaps : Dfn PySem.Challenge.rw_linepictures_k64_whole_gaps_of_pictures.prog w K mg base 6 "has_no_gaps" ["picture"] [(["picture"], [0])] (spP K mg 0 m_has_no_gaps) := dfn_of (st := top 19) FD_has_no_gaps (gl _ (by decide)) (ok_has_no_gaps bf F_check_picture F_is_whole_by) (fun _ _ _ _ _ _ us hl => match us, hl with | [_], _ => rfl) ((kwsC (fun _ _ _ _ _ _ ws hl => match ws, hl with | [_], _ => rfl) kwsN))
    have F_first_gap : Dfn PySem.Challenge.rw_linepictures_k64_whole_gaps_of_pictures.prog w K mg base 6 "first_gap" ["picture"] [(["picture"], [0])] (spP K mg 0 m_first_gap) := dfn_of (st := top 20) FD_first_gap (gl _ (by decide)) (ok_first_gap bf F_check_picture F_is_line_whole F_columns_by) (fun _ _ _ _ _ _ us hl => match us, hl with | [_], _ => rfl) ((kwsC (fun _ _ _ _ _ _ ws hl => match ws, hl with | [_], _ => rfl) kwsN))
    have F_filled_line : Dfn PySem.Challenge.rw_linepictures_k64_whole_gaps_of_pictures.prog w K mg base 1 "filled_line" ["line"] [] (spP K mg 1 m_filled_line) := dfn_of (st := top 21) FD_filled_line (gl _ (by decide)) (ok_filled_line bf ) (fun _ _ _ _ _ _ us hl => match us, hl with | [_], _ => rfl) (kwsN)
    have F_filled : Dfn PySem.Challenge.rw_linepictures_k64_whole_gaps_of_pictures.prog w K mg base 6 "filled" ["picture"] [] (spP K mg 0 m_filled) := dfn_of (st := top 22) FD_filled (gl _ (by decide)) (ok_filled bf F_check_picture F_copied F_filled_line F_columns_by F_is_whole_by) (fun _ _ _ _ _ _ us hl => match us, hl with | [_], _ => rfl) (kwsN)
    have F__law_hash : Dfn PySem.Challenge.rw_linepictures_k64_whole_gaps_of_pictures.prog w K mg base 1 "_law_hash" ["seed", "index"] [] (spP K mg 0 m__law_hash) := dfn_of (st := top 24) FD__law_hash (gl _ (by decide)) (ok__law_hash bf ) (fun _ _ _ _ _ _ us hl => match us, hl with | [_, _], _ => rfl) (kwsN)
    have F__law_random : Dfn PySem.Challenge.rw_linepictures_k64_whole_gaps_of_pictures.prog w K mg base 2 "_law_random" ["generator", "limit"] [] (spM K mg 0 1 0 m__law_random) := dfn_of (st := top 25) FD__law_random (gl _ (by decide)) (ok__law_random bf F__law_hash) (fun _ _ _ _ _ _ us hl => match us, hl with | [_, _], _ => rfl) (kwsN)
    have F__law_cell : Dfn PySem.Challenge.rw_linepictures_k64_whole_gaps_of_pictures.prog w K mg base 1 "_law_cell" ["script", "index"] [] (spC K mg [.sc, .da 0] (.da 0) m__law_cell) := dfn_of (st := top 26) FD__law_cell (gl _ (by decide)) (ok__law_cell bf ) (fun _ _ _ _ _ _ us hl => match us, hl with | [_, _], _ => rfl) (kwsN)
    have F__law_generator : Dfn PySem.Challenge.rw_linepictures_k64_whole_gaps_of_pictures.prog w K mg base 2 "_law_generator" ["script", "index"] [] (spC K mg [.sc, .da 0] (.da 1) m__law_generator) := dfn_of (st := top 27) FD__law_generator (gl _ (by decide)) (ok__law_generator bf F__law_cell) (fun _ _ _ _ _ _ us hl => match us, hl with | [_, _], _ => rfl) (kwsN)
    have F__law_between : Dfn PySem.Challenge.rw_linepictures_k64_whole_gaps_of_pictures.prog w K mg base 3 "_law_between" ["generator", "low", "high"] [] (spM K mg 0 1 0 m__law_between) := dfn_of (st := top 28) FD__law_between (gl _ (by decide)) (ok__law_between bf F__law_random) (fun _ _ _ _ _ _ us hl => match us, hl with | [_, _, _], _ => rfl) (kwsN)
    have F__law_pick : Dfn PySem.Challenge.rw_linepictures_k64_whole_gaps_of_pictures.prog w K mg base 3 "_law_pick" ["generator", "items"] [] (spM K mg 0 1 0 m__law_pick) := dfn_of (st := top 29) FD__law_pick (gl _ (by decide)) (ok__law_pick bf F__law_random) (fun _ _ _ _ _ _ us hl => match us, hl with | [_, _], _ => rfl) (kwsN)
    have F__law_error : Dfn PySem.Challenge.rw_linepictures_k64_whole_gaps_of_pictures.prog w K mg base 8 "_law_error" ["call"] [] (spC K mg [.cl] .er m__law_error) := dfn_of (st := top 30) FD__law_error (gl _ (by decide)) (fun F => ok__law_error eW hkc (gl _ (by decide)) (fun c Cc h1 h2 => by rw [mg_ga (hmE c (hok c h1)) h2]; exact ER.exm c (hok c h1)) (fun c h1 => ⟨_, hmE c (hok c h1)⟩) F) (fun _ _ _ _ _ _ us hl => match us, hl with | [_], _ => rfl) (kwsN)
    have F__law_refused : Dfn PySem.Challenge.rw_linepictures_k64_whole_gaps_of_pictures.prog w K mg base 9 "_law_refused" ["call", "place", "value"] [] (spC K mg [.cl, .da 0, .da 0] (.da 0) m__law_refused) := dfn_of (st := top 31) FD__law_refused (gl _ (by decide)) (ok__law_refused bf F__law_error hX_InvalidPicture hVE eW hkc) (fun _ _ _ _ _ _ us hl => match us, hl with | [_, _, _], _ => rfl) (kwsN)
    have F__law_all_refused : Dfn PySem.Challenge.rw_linepictures_k64_whole_gaps_of_pictures.prog w K mg base 10 "_law_all_refused" ["calls", "place", "value"] [] (spC K mg [.cls, .da 0, .da 0] (.da 0) m__law_all_refused) := dfn_of (st := top 32) FD__law_all_refused (gl _ (by decide)) (ok__law_all_refused bf F__law_refused) (fun _ _ _ _ _ _ us hl => match us, hl with | [_, _, _], _ => rfl) (kwsN)
    have F__law_board : Dfn PySem.Challenge.rw_linepictures_k64_whole_gaps_of_pictures.prog w K mg base 4 "_law_board" ["generator", "most"] [] (spM K mg 0 1 0 m__law_board) := dfn_of (st := top 33) FD__law_board (gl _ (by decide)) (ok__law_board bf F__law_pick) (fun _ _ _ _ _ _ us hl => match us, hl with | [_, _], _ => rfl) (kwsN)
    have F__law_picture : Dfn PySem.Challenge.rw_linepictures_k64_whole_gaps_of_pictures.prog w K mg base 4 "_law_picture" ["generator", "board"] [] (spM K mg 0 1 2 m__law_picture) := dfn_of (st := top 34) FD__law_picture (gl _ (by decide)) (ok__law_picture bf F__law_pick F__law_random) (fun _ _ _ _ _ _ us hl => match us, hl with | [_, _], _ => rfl) (kwsN)
    have F__law_columns : Dfn PySem.Challenge.rw_linepictures_k64_whole_gaps_of_pictures.prog w K mg base 1 "_law_columns" ["picture"] [] (spP K mg 2 m__law_columns) := dfn_of (st := top 35) FD__law_columns (gl _ (by decide)) (ok__law_columns bf ) (fun _ _ _ _ _ _ us hl => match us, hl with | [_], _ => rfl) (kwsN)
    have F__law_no_picture : Dfn PySem.Challenge.rw_linepictures_k64_whole_gaps_of_pictures.prog w K mg base 4 "_law_no_picture" ["generator", "picture"] [] (spM K mg 0 1 0 m__law_no_picture) := dfn_of (st := top 36) FD__law_no_picture (gl _ (by decide)) (ok__law_no_picture bf F__law_random F__law_pick) (fun _ _ _ _ _ _ us hl => match us, hl with | [_, _], _ => rfl) (kwsN)
    have F__law_line_whole : Dfn PySem.Challenge.rw_linepictures_k64_whole_gaps_of_pictures.prog w K mg base 1 "_law_line_whole" ["line"] [] (spP K mg 0 m__law_line_whole) := dfn_of (st := top 37) FD__law_line_whole (gl _ (by decide)) (ok__law_line_whole bf ) (fun _ _ _ _ _ _ us hl => match us, hl with | [_], _ => rfl) (kwsN)
    have F__law_first : Dfn PySem.Challenge.rw_linepictures_k64_whole_gaps_of_pictures.prog w K mg base 2 "_law_first" ["picture"] [] (spP K mg 0 m__law_first) := dfn_of (st := top 38) FD__law_first (gl _ (by decide)) (ok__law_first bf F__law_line_whole F__law_columns) (fun _ _ _ _ _ _ us hl => match us, hl with | [_], _ => rfl) (kwsN)
    have F__law_good : Dfn PySem.Challenge.rw_linepictures_k64_whole_gaps_of_pictures.prog w K mg base 11 "_law_good" ["generator"] [] (spM K mg 0 1 0 m__law_good) := dfn_of (st := top 39) FD__law_good (gl _ (by decide)) (ok__law_good bf F__law_picture F__law_board F__law_first F_first_gap F_has_no_gaps F_filled F__law_columns F__law_no_picture F__law_all_refused eW hkc (lamH_of (st := top 39) FD__law_good (tb _ (List.mem_map.mpr ⟨("_law_good", none), by decide, rfl⟩)) (by show _ ∈ tabT K; exact List.mem_cons_self) hnd)) (fun _ _ _ _ _ _ us hl => match us, hl with | [_], _ => rfl) (kwsN)
    refine ⟨_, ok_law bf F__law_good F__law_generator F_first_gap F_has_no_gaps (He5.fun_of FD_law), fun H hH sc => law_sp (fun p hp => ?_) sc (plain_law ns hl)⟩
    have hp : p ∈ tabT K := hp
    have all : ∀ q ∈ tfL, H (He.cT K q).2 = some (.tbl #[]) := fun q hq => hH (He.cT K q) (List.mem_map.mpr ⟨q, hq, rfl⟩)
    unfold tabT at hp
    simp only [List.mem_cons, List.not_mem_nil, or_false] at hp
    rcases hp with rfl <;> exact LamX.TabS.nil (all _ (by decide))
end DL
open PySem PySem.W PySem.Calls PyProof.Rows
theorem PySem.Challenge.cw_linepictures_k64_whole_gaps_of_pictures_holds : PySem.Challenge.rw_linepictures_k64_whole_gaps_of_pictures.Holds := by
  w_on; o_law
  refine HandSHeadRun.head_any (r := OpenLaw.row PySem.Challenge.rw_linepictures_k64_whole_gaps_of_pictures) (q := view (OpenLaw.row PySem.Challenge.rw_linepictures_k64_whole_gaps_of_pictures).prog [40]) (H := DL.hkL) (ob := DL.obL) (M := 4000) (loose := DL.loose) (d := HandSHeadRun.topDef (OpenLaw.row PySem.Challenge.rw_linepictures_k64_whole_gaps_of_pictures).prog 40) (kwd := []) DL.obL_eq
    (by kernel_rfl) (fun s => by kernel_rfl) DL.runL (by kernel_rfl) (by kernel_rfl) (by kernel_rfl) (by rfl) (by first | assumption | decide +kernel) (by decide +kernel) ⟨rfl, rfl, rfl, rfl, rfl, by decide +kernel⟩ ?hw ?hc
  case hw => w_witness2
  case hc =>
    refine DL.walk_ofG (l := PySem.Challenge.rw_linepictures_k64_whole_gaps_of_pictures) (n := 63) (k := 12) (x := "script") rfl (by decide) (by kernel_rfl) ⟨rfl, by decide, by decide⟩ rfl ?F
    intro w mg fa h Y G hmg0
    have hmg : mg ("law" : PySem.Str) = some (.ref fa) := by
      have e : (HandSHeadRun.topDef (OpenLaw.row PySem.Challenge.rw_linepictures_k64_whole_gaps_of_pictures).prog 40).name = ("law" : PySem.Str) := by kernel_rfl
      rw [← e]
      exact hmg0
    exact DL.law_at w mg fa h Y G hmg

