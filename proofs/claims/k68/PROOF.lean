import PyProof.Rows.All
import Wide.All
import OpenK.AllK
import Wide.FinOn
import HandS.ForMost
import HandS.Wide
import HandS.IsInst
import HandS.Style
import HandS.Deep
import HandS.TryOnly
import HandS.ExcOwn
import HandS.ExcIs
import HandS.WordsExc
import KE.DataMinMax
import HandS.TupLe
import HandS.TupSets
import HandS.Steps
import HandS.Conv
import HandS.Walk
import HandS.HotCalls
import HandS.ExcCtx
import HandS.Iter
import HandS.SortRule
import HandS.DictTup
import KE.KDictPairs
import KE.KDictKeyed
import HandS.Zip
import HandS.SetFor
import HandS.SortInts
import HandS.More
import KE.KDictKeyed
import PySem.Challenge.RW_slidecut_k68_texts_of_no_point
set_option Elab.async false
set_option maxRecDepth 100000
set_option maxHeartbeats 4000000
set_option linter.unusedVariables false
namespace Sc
open PySem PySem.Spec PyProof.Rows L2

/-! ### data in the heap -/
mutual
/-- v stands for the data d; no list of it is one of X -/
inductive Rep (K : PySem.W.Frag) (X : Addr → Prop) (H : Hp) : PyData → V → Prop
  | non : Rep K X H .none .non
  | bl (b : Bool) : Rep K X H (.bool b) (.bl b)
  | int (i : Int) : Rep K X H (.int i) (.int i)
  | str (x : Str) : Rep K X H (.str x) (.str x)
  | tup {a : Addr} {ds : List PyData} {vs : List V} : H a = some (.tup vs) → Reps K X H ds vs → Rep K X H (.tuple ds) (.ref a)
  | lst {a : Addr} {ds : List PyData} {vs : List V} : ¬ X a → Rd H a (.lst vs) → Reps K X H ds vs → Rep K X H (.list ds) (.ref a)
inductive Reps (K : PySem.W.Frag) (X : Addr → Prop) (H : Hp) : List PyData → List V → Prop
  | nil : Reps K X H [] []
  | cons {d : PyData} {ds : List PyData} {v : V} {vs : List V} : Rep K X H d v → Reps K X H ds vs → Reps K X H (d :: ds) (v :: vs)
end

/-- what may not be written stands as it stood -/
def Keep (X : Addr → Prop) (H H' : Hp) : Prop :=
  (∀ a o, H a = some o → ¬ X a → H' a = some o) ∧ (∀ a vs, H a = some (.tup vs) → H' a = some (.tup vs)) ∧ (∀ a o u, H a = some (.frz o u) → H' a = some (.frz o u))
theorem Keep.refl {X : Addr → Prop} {H : Hp} : Keep X H H := ⟨fun _ _ h _ => h, fun _ _ h => h, fun _ _ _ h => h⟩
theorem Keep.same {X : Addr → Prop} {H H' : Hp} (s : Same H H') : Keep X H H' := ⟨fun _ _ h _ => s _ _ h, fun _ _ h => s _ _ h, fun _ _ _ h => s _ _ h⟩
theorem Keep.rd {X : Addr → Prop} {H H' : Hp} (k : Keep X H H') {a : Addr} {o : HO} (n : ¬ X a) (h : Rd H a o) : Rd H' a o := by
  rcases h with h | ⟨u, h⟩
  · exact .inl (k.1 _ _ h n)
  · exact .inr ⟨u, k.2.2 _ _ _ h⟩
theorem Keep.sqT {X : Addr → Prop} {K : PySem.W.Frag} {H H' : Hp} (k : Keep X H H') {a : Addr} {vs : List V} (h : SqT K H a vs) : SqT K H' a vs := by
  rcases h with (h | ⟨o, h⟩) | h
  · exact .inl (.inl (k.2.1 _ _ h))
  · exact .inl (.inr ⟨o, k.2.2 _ _ _ h⟩)
  · exact .inr h
theorem Keep.mono {X Y : Addr → Prop} {H H' : Hp} (k : Keep X H H') (h : ∀ a, X a → Y a) : Keep Y H H' := ⟨fun a o e n => k.1 a o e fun z => n (h a z), k.2.1, k.2.2⟩
theorem Keep.trans {X : Addr → Prop} {H H1 H2 : Hp} (k : Keep X H H1) (j : Keep X H1 H2) : Keep X H H2 := ⟨fun a o e n => j.1 a o (k.1 a o e n) n, fun a v e => j.2.1 a v (k.2.1 a v e), fun a o u e => j.2.2 a o u (k.2.2 a o u e)⟩

section
variable {K : PySem.W.Frag} {X Y : Addr → Prop} {H H' : Hp}
mutual
theorem Rep.keep (k : Keep X H H') : ∀ {d : PyData} {v : V}, Rep K X H d v → Rep K X H' d v
  | _, _, .non => .non
  | _, _, .bl b => .bl b
  | _, _, .int i => .int i
  | _, _, .str x => .str x
  | _, _, .tup h r => .tup (k.2.1 _ _ h) (Reps.keep k r)
  | _, _, .lst n h r => .lst n (k.rd n h) (Reps.keep k r)
theorem Reps.keep (k : Keep X H H') : ∀ {d : List PyData} {v : List V}, Reps K X H d v → Reps K X H' d v
  | _, _, .nil => .nil
  | _, _, .cons r t => .cons (Rep.keep k r) (Reps.keep k t)
end
mutual
theorem Rep.anti (h : ∀ a, Y a → X a) : ∀ {d : PyData} {v : V}, Rep K X H d v → Rep K Y H d v
  | _, _, .non => .non
  | _, _, .bl b => .bl b
  | _, _, .int i => .int i
  | _, _, .str x => .str x
  | _, _, .tup q r => .tup q (Reps.anti h r)
  | _, _, .lst n q r => .lst (fun z => n (h _ z)) q (Reps.anti h r)
theorem Reps.anti (h : ∀ a, Y a → X a) : ∀ {d : List PyData} {v : List V}, Reps K X H d v → Reps K Y H d v
  | _, _, .nil => .nil
  | _, _, .cons r t => .cons (Rep.anti h r) (Reps.anti h t)
end
theorem rd_nn {a : Addr} {o : HO} (h : Rd H a o) : H a ≠ none := by
  rcases h with h | ⟨u, h⟩ <;> rw [h] <;> exact fun z => nomatch z
mutual
/-- a new address may be forbidden -/
theorem Rep.more {p : Addr} (hp : H p = none) : ∀ {d : PyData} {v : V}, Rep K X H d v → Rep K (fun a => X a ∨ a = p) H d v
  | _, _, .non => .non
  | _, _, .bl b => .bl b
  | _, _, .int i => .int i
  | _, _, .str x => .str x
  | _, _, .tup q r => .tup q (Reps.more hp r)
  | _, _, .lst n q r => .lst (fun z => z.elim n fun e => rd_nn q (e ▸ hp)) q (Reps.more hp r)
theorem Reps.more {p : Addr} (hp : H p = none) : ∀ {d : List PyData} {v : List V}, Reps K X H d v → Reps K (fun a => X a ∨ a = p) H d v
  | _, _, .nil => .nil
  | _, _, .cons r t => .cons (Rep.more hp r) (Reps.more hp t)
end
mutual
theorem Rep.dp : ∀ {d : PyData} {v : V}, Rep K X H d v → Dp K H v d
  | _, _, .non => .non
  | _, _, .bl b => .bl b
  | _, _, .int i => .int i
  | _, _, .str x => .str x
  | _, _, .tup q r => .tup (.inl (.inl q)) (Reps.dp r)
  | _, _, .lst n q r => .lst (.inl q) (Reps.dp r)
theorem Reps.dp : ∀ {d : List PyData} {v : List V}, Reps K X H d v → DpAll K H v d
  | _, _, .nil => .nil
  | _, _, .cons r t => .cons (Rep.dp r) (Reps.dp t)
end
theorem Reps.length : ∀ {ds : List PyData} {vs : List V}, Reps K X H ds vs → vs.length = ds.length
  | _, _, .nil => rfl
  | _, _, .cons _ t => congrArg (· + 1) (Reps.length t)
theorem Reps.get : ∀ {ds : List PyData} {vs : List V} {i : Nat} {d : PyData}, Reps K X H ds vs → ds[i]? = some d → ∃ v, vs[i]? = some v ∧ Rep K X H d v
  | _, _, _, _, .nil, e => by simp at e
  | _, _, 0, _, .cons r _, e => by simp at e; subst e; exact ⟨_, rfl, r⟩
  | _, _, i + 1, d, .cons _ t, e => by
    obtain ⟨v, h1, h2⟩ := Reps.get (i := i) t (by simpa using e)
    exact ⟨v, by simpa using h1, h2⟩
theorem Reps.get' : ∀ {ds : List PyData} {vs : List V} {i : Nat} {v : V}, Reps K X H ds vs → vs[i]? = some v → ∃ d, ds[i]? = some d ∧ Rep K X H d v
  | _, _, _, _, .nil, e => by simp at e
  | _, _, 0, _, .cons r _, e => by simp at e; subst e; exact ⟨_, rfl, r⟩
  | _, _, i + 1, d, .cons _ t, e => by
    obtain ⟨v, h1, h2⟩ := Reps.get' (i := i) t (by simpa using e)
    exact ⟨v, by simpa using h1, h2⟩
theorem Reps.append : ∀ {d1 d2 : List PyData} {v1 v2 : List V}, Reps K X H d1 v1 → Reps K X H d2 v2 → Reps K X H (d1 ++ d2) (v1 ++ v2)
  | _, _, _, _, .nil, s => s
  | _, _, _, _, .cons r t, s => .cons r (Reps.append t s)
theorem Reps.take : ∀ {d1 : List PyData} {v1 : List V} (n : Nat), Reps K X H d1 v1 → Reps K X H (d1.take n) (v1.take n)
  | _, _, 0, _ => .nil
  | _, _, _ + 1, .nil => .nil
  | _, _, n + 1, .cons r t => .cons r (Reps.take n t)
theorem Reps.drop : ∀ {d1 : List PyData} {v1 : List V} (n : Nat), Reps K X H d1 v1 → Reps K X H (d1.drop n) (v1.drop n)
  | _, _, 0, h => h
  | _, _, _ + 1, .nil => .nil
  | _, _, n + 1, .cons _ t => Reps.drop n t
theorem Reps.set {d : PyData} {v : V} (q : Rep K X H d v) : ∀ {d1 : List PyData} {v1 : List V} (n : Nat), Reps K X H d1 v1 → Reps K X H (d1.set n d) (v1.set n v)
  | _, _, _, .nil => .nil
  | _, _, 0, .cons _ t => .cons q t
  | _, _, n + 1, .cons r t => .cons r (Reps.set q n t)
theorem Reps.reverse {ds : List PyData} {vs : List V} (h : Reps K X H ds vs) : Reps K X H ds.reverse vs.reverse := by
  induction ds generalizing vs with
  | nil => cases h; exact .nil
  | cons d ds ih => cases h with | cons r t => rw [List.reverse_cons, List.reverse_cons]; exact (ih t).append (.cons r .nil)
theorem Reps.ints : ∀ {ns : List Int}, Reps K X H (ns.map PyData.int) (ns.map V.int)
  | [] => .nil
  | n :: ns => .cons (.int n) Reps.ints
theorem Reps.toInts : ∀ {ns : List Int} {vs : List V}, Reps K X H (ns.map PyData.int) vs → vs = ns.map V.int
  | [], _, .nil => rfl
  | n :: ns, _, .cons (.int _) t => by rw [List.map_cons, Reps.toInts t]
theorem Reps.toBools : ∀ {ns : List Bool} {vs : List V}, Reps K X H (ns.map PyData.bool) vs → vs = ns.map V.bl
  | [], _, .nil => rfl
  | n :: ns, _, .cons (.bl _) t => by rw [List.map_cons, Reps.toBools t]
end

/-! ### Lean data as Python data -/
class Py (α : Type) where
  enc : α → PyData
open Py (enc)
instance : Py Int := ⟨.int⟩
instance : Py Bool := ⟨.bool⟩
instance : Py Unit := ⟨fun _ => .none⟩
instance : Py Str := ⟨.str⟩
structure T1 (α : Type) where
  a : α
  deriving DecidableEq
structure T2 (α β : Type) where
  a : α
  b : β
  deriving DecidableEq
structure T3 (α β γ : Type) where
  a : α
  b : β
  c : γ
  deriving DecidableEq
structure T4 (α β γ δ : Type) where
  a : α
  b : β
  c : γ
  d : δ
  deriving DecidableEq
structure T5 (α β γ δ ε : Type) where
  a : α
  b : β
  c : γ
  d : δ
  e : ε
  deriving DecidableEq
section
variable {α β γ δ ε : Type}
instance [Py α] : Py (T1 α) := ⟨fun x => .tuple [enc x.a]⟩
instance [Py α] [Py β] : Py (T2 α β) := ⟨fun x => .tuple [enc x.a, enc x.b]⟩
instance [Py α] [Py β] [Py γ] : Py (T3 α β γ) := ⟨fun x => .tuple [enc x.a, enc x.b, enc x.c]⟩
instance [Py α] [Py β] [Py γ] [Py δ] : Py (T4 α β γ δ) := ⟨fun x => .tuple [enc x.a, enc x.b, enc x.c, enc x.d]⟩
instance [Py α] [Py β] [Py γ] [Py δ] [Py ε] : Py (T5 α β γ δ ε) := ⟨fun x => .tuple [enc x.a, enc x.b, enc x.c, enc x.d, enc x.e]⟩
instance [Py α] : Py (List α) := ⟨fun xs => .list (xs.map enc)⟩
instance [Py α] : Py (Option α) := ⟨fun x => match x with | none => .none | some y => enc y⟩
end

/-- the script -/
def SqX (K : PySem.W.Frag) (X : Addr → Prop) (H : Hp) (ns : List Int) (v : V) : Prop := ∃ a, v = .ref a ∧ ((¬ X a ∧ Rd H a (.lst (ns.map V.int))) ∨ ∀ H', SqL K H' a (ns.map V.int))
section
variable {K : PySem.W.Frag} {X Y : Addr → Prop} {H H' : Hp} {ns : List Int} {v : V}
theorem SqX.keep (k : Keep X H H') (h : SqX K X H ns v) : SqX K X H' ns v := by
  obtain ⟨a, e, h⟩ := h
  exact ⟨a, e, h.imp (fun z => ⟨z.1, k.rd z.1 z.2⟩) id⟩
theorem SqX.anti (g : ∀ a, Y a → X a) (h : SqX K X H ns v) : SqX K Y H ns v := by
  obtain ⟨a, e, h⟩ := h
  exact ⟨a, e, h.imp (fun z => ⟨fun y => z.1 (g _ y), z.2⟩) id⟩
theorem SqX.more {p : Addr} (hp : H p = none) (h : SqX K X H ns v) : SqX K (fun a => X a ∨ a = p) H ns v := by
  obtain ⟨a, e, h⟩ := h
  exact ⟨a, e, h.imp (fun z => ⟨fun y => y.elim z.1 fun e => rd_nn z.2 (e ▸ hp), z.2⟩) id⟩
theorem SqX.sq (h : SqX K X H ns v) : ∃ a, v = .ref a ∧ SqL K H a (ns.map V.int) := by
  obtain ⟨a, e, h⟩ := h
  exact ⟨a, e, h.elim (fun z => .inl z.2) fun z => z H⟩
theorem SqX.of {a : Addr} (h : SqL K H a (ns.map V.int)) : SqX K (fun _ => False) H ns (.ref a) := ⟨a, rfl, h.elim (fun z => .inl ⟨id, z⟩) fun z => .inr fun _ => .inr z⟩
end

/-! ### the state of a def's body -/
/-- an object that the body may write -/
inductive MO where
  | lst (ds : List PyData)
  | lstZ (Z : Addr → Prop) (ds : List PyData)
  | any
  | dct (es : List (List L2.Key × PyData))
  | ex (R : Addr → (Addr → Prop) → Hp → Prop)
/-- an object of a list -/
abbrev ml {α : Type} [Py α] (xs : List α) : MO := .lst (xs.map enc)
/-- a slot: nothing known, data, an object that may be written; tmp: such an object in no slot -/
inductive Sl where
  | unk
  | scr (ns : List Int)
  | ref (a : Addr)
  | imm (d : PyData)
  | fix (Z : Addr → Prop) (d : PyData)
  | fixN (Z : Addr → Prop) (d : PyData)
  | exv (Z : Addr → Prop) (R : V → (Addr → Prop) → Hp → Prop)
  | lax (i j : Int)
  | mu (p : Addr) (o : MO)
  | tmp (p : Addr) (o : MO)
def Sl.ad : Sl → Option Addr
  | .mu p _ => some p
  | .tmp p _ => some p
  | _ => none
def muts (Γ : List Sl) : List Addr := Γ.filterMap Sl.ad
/-- a set of addresses that a new list is not in -/
def Frz (H : Hp) (b : Addr) : Prop := ∃ o u, H b = some (.frz o u)
abbrev NewX (X Z : Addr → Prop) (H : Hp) : Addr → Prop := fun b => X b ∨ ¬ Z b ∨ Frz H b
mutual
theorem Rep.keepF {K : PySem.W.Frag} {X Z : Addr → Prop} {H H' : Hp} (k : Keep X H H') : ∀ {d : PyData} {v : V}, Rep K (NewX X Z H) H d v → Rep K (NewX X Z H') H' d v
  | _, _, .non => .non
  | _, _, .bl b => .bl b
  | _, _, .int i => .int i
  | _, _, .str x => .str x
  | _, _, .tup h r => .tup (k.2.1 _ _ h) (Reps.keepF k r)
  | _, _, .lst n h r => by
    rcases h with h | ⟨o, h⟩
    · have h' := k.1 _ _ h fun z => n (.inl z)
      exact .lst (fun z => z.elim (fun z => n (.inl z)) fun z => z.elim (fun z => n (.inr (.inl z))) fun ⟨o, u, z⟩ => by rw [h'] at z; cases z) (.inl h') (Reps.keepF k r)
    · exact (n (.inr (.inr ⟨_, _, h⟩))).elim
theorem Reps.keepF {K : PySem.W.Frag} {X Z : Addr → Prop} {H H' : Hp} (k : Keep X H H') : ∀ {d : List PyData} {v : List V}, Reps K (NewX X Z H) H d v → Reps K (NewX X Z H') H' d v
  | _, _, .nil => .nil
  | _, _, .cons r t => .cons (Rep.keepF k r) (Reps.keepF k t)
end
/-- the entries of a dict, in order -/
inductive DReps (K : PySem.W.Frag) (X : Addr → Prop) (H : Hp) : List (List L2.Key × PyData) → List (List L2.Key × V) → Prop
  | nil : DReps K X H [] []
  | cons {k : List L2.Key} {d : PyData} {v : V} {es : List (List L2.Key × PyData)} {kvs : List (List L2.Key × V)} : Rep K X H d v → DReps K X H es kvs → DReps K X H ((k, d) :: es) ((k, v) :: kvs)
theorem DReps.keep {K : PySem.W.Frag} {X : Addr → Prop} {H H' : Hp} (k : Keep X H H') : ∀ {es : List (List L2.Key × PyData)} {kvs : List (List L2.Key × V)}, DReps K X H es kvs → DReps K X H' es kvs
  | _, _, .nil => .nil
  | _, _, .cons r t => .cons (r.keep k) (DReps.keep k t)
theorem DReps.anti {K : PySem.W.Frag} {X Y : Addr → Prop} {H : Hp} (h : ∀ a, Y a → X a) : ∀ {es : List (List L2.Key × PyData)} {kvs : List (List L2.Key × V)}, DReps K X H es kvs → DReps K Y H es kvs
  | _, _, .nil => .nil
  | _, _, .cons r t => .cons (r.anti h) (DReps.anti h t)
theorem DReps.more {K : PySem.W.Frag} {X : Addr → Prop} {H : Hp} {p : Addr} (h : H p = none) : ∀ {es : List (List L2.Key × PyData)} {kvs : List (List L2.Key × V)}, DReps K X H es kvs → DReps K (fun a => X a ∨ a = p) H es kvs
  | _, _, .nil => .nil
  | _, _, .cons r t => .cons (r.more h) (DReps.more h t)
/-- what any other description of an object must keep -/
structure RX (R : Addr → (Addr → Prop) → Hp → Prop) : Prop where
  keep : ∀ {p : Addr} {X : Addr → Prop} {H H' : Hp}, Keep X H H' → H' p = H p → R p X H → R p X H'
  anti : ∀ {p : Addr} {X Y : Addr → Prop} {H : Hp}, (∀ a, Y a → X a) → R p X H → R p Y H
  more : ∀ {p q : Addr} {X : Addr → Prop} {H : Hp}, H q = none → R p X H → R p (fun a => X a ∨ a = q) H
  nn : ∀ {p : Addr} {X : Addr → Prop} {H : Hp}, R p X H → H p ≠ none
  ntup : ∀ {p : Addr} {X : Addr → Prop} {H : Hp}, R p X H → (∀ vs, H p ≠ some (.tup vs)) ∧ (∀ u w, H p ≠ some (.frz u w))
/-- what a description of a value must keep -/
structure RV (Z : Addr → Prop) (R : V → (Addr → Prop) → Hp → Prop) : Prop where
  keep : ∀ {v : V} {X : Addr → Prop} {H H' : Hp}, Keep X H H' → R v X H → R v X H'
  anti : ∀ {v : V} {X Y : Addr → Prop} {H : Hp}, (∀ a, Y a → X a) → R v X H → R v Y H
  more : ∀ {v : V} {q : Addr} {X : Addr → Prop} {H : Hp}, H q = none → R v X H → R v (fun a => X a ∨ a = q) H
  clr : ∀ {v : V} {b : Addr} {us : List V} {X : Addr → Prop} {H : Hp}, Z b → H b = some (.lst us) → R v X H → R v X (upd H b (.lst []))
/-- the object at p is o -/
def MRep (K : PySem.W.Frag) (X : Addr → Prop) (H : Hp) (p : Addr) : MO → Prop
  | .lst ds => ∃ vs, H p = some (.lst vs) ∧ Reps K X H ds vs
  | .lstZ Z ds => ∃ vs, H p = some (.lst vs) ∧ Reps K (NewX X Z H) H ds vs
  | .any => ∃ vs, H p = some (.lst vs)
  | .dct es => ∃ kvs, H p = some (.dT kvs) ∧ DReps K X H es kvs
  | .ex R => RX R ∧ R p X H
def SlOk (K : PySem.W.Frag) (X : Addr → Prop) (H : Hp) (v : Option (Option V)) : Sl → Prop
  | .unk => True
  | .scr ns => ∃ u, v = some (some u) ∧ SqX K X H ns u
  | .ref a => v = some (some (.ref a))
  | .imm d => ∃ u, v = some (some u) ∧ Rep K X H d u
  | .fix Z d => ∃ u, v = some (some u) ∧ Rep K (fun b => X b ∨ ¬ Z b) H d u
  | .fixN Z d => ∃ u, v = some (some u) ∧ Rep K (NewX X Z H) H d u
  | .exv Z R => ∃ u, v = some (some u) ∧ RV Z R ∧ R u X H
  | .lax i j => ∃ a, v = some (some (.ref a)) ∧ SqT K H a [.int i, .int j]
  | .mu p o => v = some (some (.ref p)) ∧ MRep K X H p o
  | .tmp p o => MRep K X H p o
/-- the known ones: the written part, what may be written at the entry, the heap there, whose objects the body may change -/
structure Cn where
  K : PySem.W.Frag
  X0 : Addr → Prop
  H0 : Hp
  P0 : List Addr
  n : Nat
structure Lo (C : Cn) (X : Addr → Prop) (H : Hp) (σ : L2.St) (Γ : List Sl) : Prop where
  len : σ.length = C.n
  at_ : ∀ (i : Nat) (s : Sl), Γ[i]? = some s → SlOk C.K X H σ[i]? s
  nd : (muts Γ).Nodup
  mx : ∀ p ∈ muts Γ, X p
  m0 : ∀ a, C.X0 a → X a
  xd : ∀ a, X a → H a ≠ none
  base : ∀ a o, C.H0 a = some o → a ∉ C.P0 → H a = some o
  dom : ∀ a, C.H0 a ≠ none → H a ≠ none
  own : ∀ p ∈ muts Γ, p ∈ C.P0 ∨ C.H0 p = none
  tf : ∀ a ∈ C.P0, (∀ vs, C.H0 a ≠ some (.tup vs)) ∧ (∀ o u, C.H0 a ≠ some (.frz o u))

theorem MRep.keep {K : PySem.W.Frag} {X : Addr → Prop} {H H' : Hp} {p : Addr} (k : Keep X H H') (e : H' p = H p) : ∀ {o : MO}, MRep K X H p o → MRep K X H' p o
  | .lst _, ⟨vs, h, r⟩ => ⟨vs, e.trans h, r.keep k⟩
  | .lstZ _ _, ⟨vs, h, r⟩ => ⟨vs, e.trans h, r.keepF k⟩
  | .any, ⟨vs, h⟩ => ⟨vs, e.trans h⟩
  | .dct _, ⟨vs, h, r⟩ => ⟨vs, e.trans h, r.keep k⟩
  | .ex _, ⟨x, r⟩ => ⟨x, x.keep k e r⟩
theorem MRep.anti {K : PySem.W.Frag} {X Y : Addr → Prop} {H : Hp} {p : Addr} (h : ∀ a, Y a → X a) : ∀ {o : MO}, MRep K X H p o → MRep K Y H p o
  | .lst _, ⟨vs, q, r⟩ => ⟨vs, q, r.anti h⟩
  | .lstZ _ _, ⟨vs, q, r⟩ => ⟨vs, q, r.anti fun a z => z.imp (h a) id⟩
  | .any, h => h
  | .dct _, ⟨vs, q, r⟩ => ⟨vs, q, r.anti h⟩
  | .ex _, ⟨x, r⟩ => ⟨x, x.anti h r⟩
theorem MRep.more {K : PySem.W.Frag} {X : Addr → Prop} {H : Hp} {p q : Addr} (h : H q = none) : ∀ {o : MO}, MRep K X H p o → MRep K (fun a => X a ∨ a = q) H p o
  | .lst _, ⟨vs, e, r⟩ => ⟨vs, e, r.more h⟩
  | .lstZ _ _, ⟨vs, e, r⟩ => ⟨vs, e, (r.more h).anti fun a z => z.elim (fun z => z.elim (fun z => .inl (.inl z)) .inr) fun z => .inl (.inr z)⟩
  | .any, h => h
  | .dct _, ⟨vs, e, r⟩ => ⟨vs, e, r.more h⟩
  | .ex _, ⟨x, r⟩ => ⟨x, x.more h r⟩
theorem MRep.nn {K : PySem.W.Frag} {X : Addr → Prop} {H : Hp} {p : Addr} : ∀ {o : MO}, MRep K X H p o → H p ≠ none
  | .lst _, ⟨vs, e, r⟩ => by rw [e]; exact fun z => nomatch z
  | .lstZ _ _, ⟨vs, e, r⟩ => by rw [e]; exact fun z => nomatch z
  | .any, ⟨vs, e⟩ => by rw [e]; exact fun z => nomatch z
  | .dct _, ⟨vs, e, r⟩ => by rw [e]; exact fun z => nomatch z
  | .ex _, ⟨x, r⟩ => x.nn r
theorem MRep.ntup {K : PySem.W.Frag} {X : Addr → Prop} {H : Hp} {p : Addr} : ∀ {o : MO}, MRep K X H p o → (∀ vs, H p ≠ some (.tup vs)) ∧ (∀ u w, H p ≠ some (.frz u w))
  | .lst _, ⟨vs, e, r⟩ => by
    rw [e]
    constructor
    · intro _ z; cases z
    · intro _ _ z; cases z
  | .lstZ _ _, ⟨vs, e, r⟩ => by
    rw [e]
    constructor
    · intro _ z; cases z
    · intro _ _ z; cases z
  | .any, ⟨vs, e⟩ => by
    rw [e]
    constructor
    · intro _ z; cases z
    · intro _ _ z; cases z
  | .ex _, ⟨x, r⟩ => x.ntup r
  | .dct _, ⟨vs, e, r⟩ => by
    rw [e]
    constructor
    · intro _ z; cases z
    · intro _ _ z; cases z

theorem mem_muts {Γ : List Sl} {p : Addr} : p ∈ muts Γ ↔ ∃ (i : Nat) (s : Sl), Γ[i]? = some s ∧ s.ad = some p := by
  unfold muts
  rw [List.mem_filterMap]
  constructor
  · rintro ⟨s, hs, e⟩
    obtain ⟨i, hi⟩ := List.getElem?_of_mem hs
    exact ⟨i, s, hi, e⟩
  · rintro ⟨i, s, hi, e⟩
    exact ⟨s, List.mem_of_getElem? hi, e⟩

section
variable {C : Cn} {X : Addr → Prop} {H H' : Hp} {σ : L2.St} {Γ : List Sl}
theorem SlOk.mrep {K : PySem.W.Frag} {v : Option (Option V)} {s : Sl} {p : Addr} (h : SlOk K X H v s) (e : s.ad = some p) : ∃ o, MRep K X H p o := by
  cases s with
  | unk => cases e
  | scr ns => cases e
  | ref a => cases e
  | imm d => cases e
  | fix Z d => cases e
  | fixN Z d => cases e
  | exv _ _ => cases e
  | lax i j => cases e
  | mu q o => cases e; exact ⟨o, h.2⟩
  | tmp q o => cases e; exact ⟨o, h⟩
theorem SlOk.keep {K : PySem.W.Frag} {v : Option (Option V)} (k : Keep X H H') : ∀ {s : Sl}, (∀ p, s.ad = some p → H' p = H p) → SlOk K X H v s → SlOk K X H' v s
  | .unk, _, _ => trivial
  | .scr _, _, ⟨u, e, r⟩ => ⟨u, e, r.keep k⟩
  | .ref _, _, e => e
  | .imm _, _, ⟨u, e, r⟩ => ⟨u, e, r.keep k⟩
  | .fix _ _, _, ⟨u, e, r⟩ => ⟨u, e, r.keep (k.mono fun _ => .inl)⟩
  | .fixN _ _, _, ⟨u, e, r⟩ => ⟨u, e, r.keepF k⟩
  | .exv _ _, _, ⟨u, e, x, r⟩ => ⟨u, e, x, x.keep k r⟩
  | .lax _ _, _, ⟨u, e, r⟩ => ⟨u, e, k.sqT r⟩
  | .mu p _, g, ⟨e, r⟩ => ⟨e, r.keep k (g p rfl)⟩
  | .tmp p _, g, r => MRep.keep k (g p rfl) r
theorem SlOk.anti {K : PySem.W.Frag} {Y : Addr → Prop} {v : Option (Option V)} (h : ∀ a, Y a → X a) : ∀ {s : Sl}, SlOk K X H v s → SlOk K Y H v s
  | .unk, _ => trivial
  | .scr _, ⟨u, e, r⟩ => ⟨u, e, r.anti h⟩
  | .ref _, e => e
  | .imm _, ⟨u, e, r⟩ => ⟨u, e, r.anti h⟩
  | .fix _ _, ⟨u, e, r⟩ => ⟨u, e, r.anti fun a z => z.imp (h a) id⟩
  | .fixN _ _, ⟨u, e, r⟩ => ⟨u, e, r.anti fun a z => z.imp (h a) id⟩
  | .exv _ _, ⟨u, e, x, r⟩ => ⟨u, e, x, x.anti h r⟩
  | .lax _ _, h => h
  | .mu p _, ⟨e, r⟩ => ⟨e, r.anti h⟩
  | .tmp p _, r => MRep.anti h r
theorem SlOk.more {K : PySem.W.Frag} {v : Option (Option V)} {q : Addr} (h : H q = none) : ∀ {s : Sl}, SlOk K X H v s → SlOk K (fun a => X a ∨ a = q) H v s
  | .unk, _ => trivial
  | .scr _, ⟨u, e, r⟩ => ⟨u, e, r.more h⟩
  | .ref _, e => e
  | .imm _, ⟨u, e, r⟩ => ⟨u, e, r.more h⟩
  | .fix _ _, ⟨u, e, r⟩ => ⟨u, e, (r.more h).anti fun a z => z.elim (fun z => z.elim (fun z => .inl (.inl z)) .inr) fun z => .inl (.inr z)⟩
  | .fixN _ _, ⟨u, e, r⟩ => ⟨u, e, (r.more h).anti fun a z => z.elim (fun z => z.elim (fun z => .inl (.inl z)) .inr) fun z => .inl (.inr z)⟩
  | .exv _ _, ⟨u, e, x, r⟩ => ⟨u, e, x, x.more h r⟩
  | .lax _ _, h => h
  | .mu p _, ⟨e, r⟩ => ⟨e, r.more h⟩
  | .tmp p _, r => MRep.more h r
theorem Lo.mem (L : Lo C X H σ Γ) {p : Addr} (h : p ∈ muts Γ) : ∃ o, MRep C.K X H p o := by
  obtain ⟨i, s, hi, e⟩ := mem_muts.mp h
  exact (L.at_ i s hi).mrep e
theorem Lo.same (L : Lo C X H σ Γ) (s : Same H H') : Lo C X H' σ Γ := by
  have hd : ∀ a, H a ≠ none → H' a = H a := fun a h => by
    cases e : H a with
    | none => exact (h e).elim
    | some o => exact s a o e
  refine ⟨L.len, fun i t hi => (L.at_ i t hi).keep (.same s) fun p e => hd p ?_, L.nd, L.mx, L.m0, fun a h => ?_, fun a o e n => s _ _ (L.base a o e n), fun a h => ?_, L.own, L.tf⟩
  · obtain ⟨o, r⟩ := (L.at_ i t hi).mrep e
    exact r.nn
  · rw [hd a (L.xd a h)]; exact L.xd a h
  · rw [hd a (L.dom a h)]; exact L.dom a h
theorem nodup_setS {s0 : Sl} (e0 : s0.ad = none) : ∀ {Γ : List Sl} {i : Nat}, (muts Γ).Nodup → (muts (Γ.set i s0)).Nodup
  | [], _, h => h
  | s :: Γ, 0, h => by
    refine List.Sublist.nodup ?_ h
    show (List.filterMap Sl.ad (s0 :: Γ)).Sublist (List.filterMap Sl.ad (s :: Γ))
    rw [List.filterMap_cons, e0]
    show (List.filterMap Sl.ad Γ).Sublist _
    rw [List.filterMap_cons]
    cases s.ad with
    | none => exact List.Sublist.refl _
    | some p => exact List.sublist_cons_self _ _
  | s :: Γ, i + 1, h => by
    have h' : (List.filterMap Sl.ad (s :: Γ)).Nodup := h
    show (List.filterMap Sl.ad (s :: Γ.set i s0)).Nodup
    rw [List.filterMap_cons] at h' ⊢
    cases e : s.ad with
    | none =>
      rw [e] at h'
      exact nodup_setS e0 (i := i) h'
    | some p =>
      rw [e] at h'
      obtain ⟨n1, n2⟩ := List.nodup_cons.mp h'
      refine List.nodup_cons.mpr ⟨fun hp => n1 ?_, nodup_setS e0 (i := i) n2⟩
      obtain ⟨t, ht, et⟩ := List.mem_filterMap.mp hp
      rcases List.mem_or_eq_of_mem_set ht with q | q
      · exact List.mem_filterMap.mpr ⟨t, q, et⟩
      · subst q; rw [e0] at et; cases et
theorem nodup_set {Γ : List Sl} {i : Nat} {d : PyData} (h : (muts Γ).Nodup) : (muts (Γ.set i (.imm d))).Nodup := nodup_setS rfl h
theorem muts_setS {s0 : Sl} (e0 : s0.ad = none) {Γ : List Sl} {i : Nat} {p : Addr} (hp : p ∈ muts (Γ.set i s0)) : p ∈ muts Γ := by
  obtain ⟨j, s, hj, e⟩ := mem_muts.mp hp
  by_cases z : j = i
  · subst z
    by_cases hi : j < Γ.length
    · rw [List.getElem?_set_self hi] at hj
      cases hj; rw [e0] at e; cases e
    · rw [List.getElem?_eq_none_iff.mpr (by rw [List.length_set]; omega)] at hj
      cases hj
  · rw [List.getElem?_set_ne (Ne.symm z)] at hj
    exact mem_muts.mpr ⟨j, s, hj, e⟩
theorem muts_set_imm {Γ : List Sl} {i : Nat} {d : PyData} {p : Addr} (hp : p ∈ muts (Γ.set i (.imm d))) : p ∈ muts Γ := by
  obtain ⟨j, s, hj, e⟩ := mem_muts.mp hp
  by_cases z : j = i
  · subst z
    by_cases hi : j < Γ.length
    · rw [List.getElem?_set_self hi] at hj
      cases hj; cases e
    · rw [List.getElem?_eq_none_iff.mpr (by rw [List.length_set]; omega)] at hj
      cases hj
  · rw [List.getElem?_set_ne (Ne.symm z)] at hj
    exact mem_muts.mpr ⟨j, s, hj, e⟩
/-- a value is stored -/
theorem Lo.set (L : Lo C X H σ Γ) {i : Nat} {v : V} {d : PyData} (r : Rep C.K X H d v) (hi : i < C.n) : Lo C X H (σ.set i (some v)) (Γ.set i (.imm d)) := by
  refine ⟨by rw [List.length_set]; exact L.len, fun j s hj => ?_, nodup_set L.nd, fun p hp => L.mx p (muts_set_imm hp), L.m0, L.xd, L.base, L.dom, fun p hp => L.own p (muts_set_imm hp), L.tf⟩
  by_cases z : j = i
  · subst z
    have hlt : j < Γ.length := by
      have h2 := (List.getElem?_eq_some_iff.mp hj).1
      rw [List.length_set] at h2; exact h2
    rw [List.getElem?_set_self hlt] at hj
    cases hj
    exact ⟨v, List.getElem?_set_self (by rw [L.len]; exact hi), r⟩
  · rw [List.getElem?_set_ne (Ne.symm z)] at hj
    rw [List.getElem?_set_ne (Ne.symm z)]
    exact L.at_ j s hj
end

section
variable {C : Cn} {X : Addr → Prop} {H H' : Hp} {σ : L2.St} {Γ Γ' : List Sl}
/-- a value that is no data is stored, or none -/
theorem Lo.setS (L : Lo C X H σ Γ) {i : Nat} {v : Option V} {s : Sl} (e : s.ad = none) (r : SlOk C.K X H (some v) s) (hi : i < C.n) : Lo C X H (σ.set i v) (Γ.set i s) := by
  refine ⟨by rw [List.length_set]; exact L.len, fun j t hj => ?_, nodup_setS e L.nd, fun p hp => L.mx p (muts_setS e hp), L.m0, L.xd, L.base, L.dom, fun p hp => L.own p (muts_setS e hp), L.tf⟩
  by_cases z : j = i
  · subst z
    have hlt : j < Γ.length := by
      have h2 := (List.getElem?_eq_some_iff.mp hj).1
      rw [List.length_set] at h2; exact h2
    rw [List.getElem?_set_self hlt] at hj
    cases hj
    rw [List.getElem?_set_self (by rw [L.len]; exact hi)]
    exact r
  · rw [List.getElem?_set_ne (Ne.symm z)] at hj
    rw [List.getElem?_set_ne (Ne.symm z)]
    exact L.at_ j t hj
end
/-- a weaker description: slots forgotten, the last ones dropped -/
def Wk : List Sl → List Sl → Prop
  | _, [] => True
  | [], s' :: Γ' => s' = .unk ∧ Wk [] Γ'
  | s :: Γ, s' :: Γ' => (s' = s ∨ s' = .unk) ∧ Wk Γ Γ'
theorem Wk.e {Γ : List Sl} : Wk Γ [] := by cases Γ <;> exact trivial
theorem Wk.k {s : Sl} {Γ Γ' : List Sl} (h : Wk Γ Γ') : Wk (s :: Γ) (s :: Γ') := ⟨.inl rfl, h⟩
theorem Wk.d {s : Sl} {Γ Γ' : List Sl} (h : Wk Γ Γ') : Wk (s :: Γ) (.unk :: Γ') := ⟨.inr rfl, h⟩
theorem Wk.get : ∀ {Γ Γ' : List Sl}, Wk Γ Γ' → ∀ {i : Nat} {s : Sl}, Γ'[i]? = some s → s = .unk ∨ Γ[i]? = some s
  | _, [], _, _, _, e => by simp at e
  | [], s' :: Γ', ⟨h, t⟩, 0, s, e => by simp at e; subst e; exact .inl h
  | [], s' :: Γ', ⟨h, t⟩, i + 1, s, e => by
    rcases Wk.get t (i := i) (s := s) (by simpa using e) with z | z
    · exact .inl z
    · simp at z
  | s0 :: Γ, s' :: Γ', ⟨h, t⟩, 0, s, e => by
    simp at e; subst e
    rcases h with h | h
    · subst h; exact .inr rfl
    · exact .inl h
  | s0 :: Γ, s' :: Γ', ⟨h, t⟩, i + 1, s, e => by
    rcases Wk.get t (i := i) (s := s) (by simpa using e) with z | z
    · exact .inl z
    · exact .inr (by simpa using z)
theorem Wk.sub : ∀ {Γ Γ' : List Sl}, Wk Γ Γ' → (muts Γ').Sublist (muts Γ)
  | _, [], _ => List.nil_sublist _
  | [], s' :: Γ', ⟨h, t⟩ => by
    subst h
    exact Wk.sub (Γ := []) (Γ' := Γ') t
  | s0 :: Γ, s' :: Γ', ⟨h, t⟩ => by
    have ih := Wk.sub t
    unfold muts at ih ⊢
    rw [List.filterMap_cons, List.filterMap_cons]
    rcases h with h | h
    · subst h
      cases s'.ad with
      | none => exact ih
      | some p => exact ih.cons_cons _
    · subst h
      show (List.filterMap Sl.ad Γ').Sublist _
      cases s0.ad with
      | none => exact ih
      | some p => exact ih.cons _

/-- what a def tells: data, or a new object of the caller's own -/
inductive Rs where
  | imm (d : PyData)
  | immN (Z : Addr → Prop) (d : PyData)
  | new (o : MO)
  | raw (R : V → Hp → Prop)
def RRep (K : PySem.W.Frag) (X : Addr → Prop) (H H' : Hp) : Rs → V → Prop
  | .imm d, v => Rep K X H' d v
  | .immN Z d, v => Rep K (NewX X Z H') H' d v
  | .new o, v => ∃ p, v = .ref p ∧ H p = none ∧ MRep K (fun a => X a ∨ a = p) H' p o
  | .raw R, v => R v H'
structure Fin (K : PySem.W.Frag) (X : Addr → Prop) (H : Hp) (P0 : List Addr) (ps : List (Addr × MO)) (rs : Rs) (v : V) (H' : Hp) : Prop where
  base : ∀ a o, H a = some o → a ∉ P0 → H' a = some o
  dom : ∀ a, H a ≠ none → H' a ≠ none
  mu : ∀ q ∈ ps, MRep K X H' q.1 q.2
  res : RRep K X H H' rs v
def As (K : PySem.W.Frag) (X : Addr → Prop) (H : Hp) : List Sl → List V → Prop
  | [], vs => vs = []
  | s :: Γ, vs => ∃ v r, vs = v :: r ∧ SlOk K X H (some (some v)) s ∧ As K X H Γ r
theorem As.nil {K : PySem.W.Frag} {X : Addr → Prop} {H : Hp} : As K X H [] [] := rfl
theorem As.im {K : PySem.W.Frag} {X : Addr → Prop} {H : Hp} {d : PyData} {v : V} {Γ : List Sl} {vs : List V} (r : Rep K X H d v) (t : As K X H Γ vs) : As K X H (.imm d :: Γ) (v :: vs) := ⟨v, vs, rfl, ⟨v, rfl, r⟩, t⟩
theorem As.m {K : PySem.W.Frag} {X : Addr → Prop} {H : Hp} {p : Addr} {o : MO} {Γ : List Sl} {vs : List V} (r : MRep K X H p o) (t : As K X H Γ vs) : As K X H (.mu p o :: Γ) (.ref p :: vs) := ⟨_, vs, rfl, ⟨rfl, r⟩, t⟩
theorem As.s {K : PySem.W.Frag} {X : Addr → Prop} {H : Hp} {ns : List Int} {v : V} {Γ : List Sl} {vs : List V} (r : SqX K X H ns v) (t : As K X H Γ vs) : As K X H (.scr ns :: Γ) (v :: vs) := ⟨v, vs, rfl, ⟨v, rfl, r⟩, t⟩
/-- what a def asks of its arguments -/
structure Cond (K : PySem.W.Frag) (X : Addr → Prop) (H : Hp) (Γ : List Sl) (vs : List V) : Prop where
  as : As K X H Γ vs
  nd : (muts Γ).Nodup
  mx : ∀ p ∈ muts Γ, X p
  xd : ∀ a, X a → H a ≠ none
theorem As.len {K : PySem.W.Frag} {X : Addr → Prop} {H : Hp} : ∀ {Γ : List Sl} {vs : List V}, As K X H Γ vs → vs.length = Γ.length
  | [], _, h => by subst h; rfl
  | s :: Γ, _, ⟨v, r, e, _, t⟩ => by subst e; exact congrArg (· + 1) (As.len t)
theorem As.get {K : PySem.W.Frag} {X : Addr → Prop} {H : Hp} : ∀ {Γ : List Sl} {vs : List V}, As K X H Γ vs → ∀ {i : Nat} {s : Sl}, Γ[i]? = some s → ∃ v, vs[i]? = some v ∧ SlOk K X H (some (some v)) s
  | [], _, h, _, _, e => by simp at e
  | s :: Γ, _, ⟨v, r, e, h, t⟩, 0, s', e' => by subst e; simp at e'; subst e'; exact ⟨v, rfl, h⟩
  | s :: Γ, _, ⟨v, r, e, h, t⟩, i + 1, s', e' => by
    subst e
    obtain ⟨u, h1, h2⟩ := As.get t (i := i) (s := s') (by simpa using e')
    exact ⟨u, by simpa using h1, h2⟩
theorem Cond.len {K : PySem.W.Frag} {X : Addr → Prop} {H : Hp} {Γ : List Sl} {vs : List V} (c : Cond K X H Γ vs) : vs.length = Γ.length := c.as.len
theorem muts_unk : ∀ {Γ : List Sl} (n : Nat), muts (Γ ++ List.replicate n .unk) = muts Γ := fun {Γ} n => by
  unfold muts
  rw [List.filterMap_append]
  have : ∀ n, List.filterMap Sl.ad (List.replicate n Sl.unk) = [] := fun n => by
    induction n with
    | zero => rfl
    | succ n ih => rw [List.replicate_succ, List.filterMap_cons]; exact ih
  rw [this, List.append_nil]
theorem Cond.start {K : PySem.W.Frag} {X : Addr → Prop} {H : Hp} {Γ : List Sl} {vs : List V} (c : Cond K X H Γ vs) (N : List Str) (hn : Γ.length ≤ N.length) :
    Lo ⟨K, X, H, muts Γ, N.length⟩ X H (L2.start N vs) (Γ ++ List.replicate (N.length - Γ.length) .unk) := by
  refine ⟨?_, fun i s hi => ?_, by rw [muts_unk]; exact c.nd, fun p hp => c.mx p (by rw [muts_unk] at hp; exact hp), fun _ h => h, c.xd, fun _ _ h _ => h, fun _ h => h, fun p hp => .inl (by rw [muts_unk] at hp; exact hp), fun a ha => ?_⟩
  · show (vs.map some ++ List.replicate (N.length - vs.length) none).length = N.length
    rw [List.length_append, List.length_map, List.length_replicate, c.len]
    omega
  · by_cases h : i < Γ.length
    · rw [List.getElem?_append_left h] at hi
      obtain ⟨v, h1, h2⟩ := c.as.get hi
      have h3 : (L2.start N vs)[i]? = some (some v) := by
        show (vs.map some ++ List.replicate (N.length - vs.length) none)[i]? = _
        rw [List.getElem?_append_left (by rw [List.length_map, c.len]; exact h), List.getElem?_map, h1]
        rfl
      rw [h3]; exact h2
    · rw [List.getElem?_append_right (by omega)] at hi
      have := List.mem_of_getElem? hi
      rw [List.mem_replicate] at this
      rw [this.2]; trivial
  · obtain ⟨i, s, hi, e⟩ := mem_muts.mp (show a ∈ muts Γ from ha)
    obtain ⟨v, _, h2⟩ := c.as.get hi
    obtain ⟨o, r⟩ := h2.mrep e
    exact r.ntup

section
variable {C : Cn} {X : Addr → Prop} {H H' : Hp} {σ : L2.St} {Γ Γ' : List Sl}
theorem Lo.weak (L : Lo C X H σ Γ) (w : Wk Γ Γ') : Lo C X H σ Γ' := by
  refine ⟨L.len, fun i s hi => ?_, w.sub.nodup L.nd, fun p hp => L.mx p (w.sub.mem hp), L.m0, L.xd, L.base, L.dom, fun p hp => L.own p (w.sub.mem hp), L.tf⟩
  rcases w.get hi with z | z
  · subst z; trivial
  · exact L.at_ i s z
/-- an enclosing view is entered and left -/
abbrev Cn.at_ (C : Cn) (X : Addr → Prop) (H : Hp) (Γ : List Sl) : Cn := ⟨C.K, X, H, muts Γ, C.n⟩
theorem Lo.enter (L : Lo C X H σ Γ) : Lo (C.at_ X H Γ) X H σ Γ :=
  ⟨L.len, L.at_, L.nd, L.mx, fun _ h => h, L.xd, fun _ _ h _ => h, fun _ h => h, fun _ hp => .inl hp, fun a ha => by
    obtain ⟨o, r⟩ := L.mem (p := a) ha
    exact r.ntup⟩
theorem Lo.nown (L : Lo C X H σ Γ) {a : Addr} {o : HO} (h : C.H0 a = some o) (n : a ∉ C.P0) : a ∉ muts Γ := fun hp => by
  rcases L.own a hp with z | z
  · exact n z
  · rw [z] at h; cases h
theorem Lo.leave {X' : Addr → Prop} {σ' : L2.St} (L : Lo C X H σ Γ) (M : Lo (C.at_ X H Γ) X' H' σ' Γ') (hs : muts Γ' = muts Γ) : Lo C X H' σ' Γ' := by
  have sub : ∀ a, X a → X' a := M.m0
  refine ⟨M.len, fun i s hi => (M.at_ i s hi).anti sub, M.nd, fun p hp => L.mx p (hs ▸ hp), L.m0, fun a h => M.xd a (sub a h), fun a o e n => M.base a o (L.base a o e n) (L.nown e n), fun a h => M.dom a (L.dom a h), fun p hp => L.own p (hs ▸ hp), L.tf⟩
theorem Lo.keep {X' : Addr → Prop} {σ' : L2.St} (L : Lo C X H σ Γ) (M : Lo (C.at_ X H Γ) X' H' σ' Γ') : Keep X H H' := by
  refine ⟨fun a o e n => M.base a o e fun h => n (L.mx a h), fun a vs e => M.base a _ e fun h => ?_, fun a o u e => M.base a _ e fun h => ?_⟩
  · obtain ⟨o, r⟩ := L.mem (p := a) h
    exact r.ntup.1 _ e
  · obtain ⟨o', r⟩ := L.mem (p := a) h
    exact r.ntup.2 _ _ e
theorem Fin.leave {ps : List (Addr × MO)} {rs : Rs} {v : V} (L : Lo C X H σ Γ) (F : Fin C.K X H (muts Γ) ps rs v H') : Fin C.K C.X0 C.H0 C.P0 ps rs v H' := by
  refine ⟨fun a o e n => F.base a o (L.base a o e n) (L.nown e n), fun a h => F.dom a (L.dom a h), fun q hq => (F.mu q hq).anti L.m0, ?_⟩
  cases rs with
  | imm d => exact Rep.anti L.m0 F.res
  | immN Z d => exact Rep.anti (fun a z => z.imp (L.m0 a) id) F.res
  | raw R => exact F.res
  | new o =>
    obtain ⟨p, e, h, r⟩ := F.res
    refine ⟨p, e, ?_, r.anti fun a h => h.elim (fun z => .inl (L.m0 a z)) .inr⟩
    cases e : C.H0 p with
    | none => rfl
    | some o => exact (L.dom p (by rw [e]; exact fun z => nomatch z) h).elim
/-- the end of a def: data is told -/
theorem Lo.fin {ps : List (Addr × MO)} {d : PyData} {v : V} (L : Lo C X H σ Γ) (hp : ∀ q ∈ ps, MRep C.K X H q.1 q.2) (r : Rep C.K X H d v) : Fin C.K C.X0 C.H0 C.P0 ps (.imm d) v H :=
  ⟨L.base, L.dom, fun q hq => (hp q hq).anti L.m0, Rep.anti L.m0 r⟩
theorem Lo.finZ {ps : List (Addr × MO)} {Z : Addr → Prop} {d : PyData} {v : V} (L : Lo C X H σ Γ) (hp : ∀ q ∈ ps, MRep C.K X H q.1 q.2) (r : Rep C.K (NewX X Z H) H d v) : Fin C.K C.X0 C.H0 C.P0 ps (.immN Z d) v H :=
  ⟨L.base, L.dom, fun q hq => (hp q hq).anti L.m0, Rep.anti (fun a z => z.imp (L.m0 a) id) r⟩
theorem Lo.finR {ps : List (Addr × MO)} {R : V → Hp → Prop} {v : V} (L : Lo C X H σ Γ) (hp : ∀ q ∈ ps, MRep C.K X H q.1 q.2) (r : R v H) : Fin C.K C.X0 C.H0 C.P0 ps (.raw R) v H :=
  ⟨L.base, L.dom, fun q hq => (hp q hq).anti L.m0, r⟩
/-- .. an object that the body has made -/
theorem Lo.finN {ps : List (Addr × MO)} {o : MO} {p : Addr} (L : Lo C X H σ Γ) (hp : ∀ q ∈ ps, MRep C.K X H q.1 q.2) (hn : C.H0 p = none) (hx : X p) (r : MRep C.K X H p o) : Fin C.K C.X0 C.H0 C.P0 ps (.new o) (.ref p) H :=
  ⟨L.base, L.dom, fun q hq => (hp q hq).anti L.m0, p, rfl, hn, r.anti fun a h => h.elim (L.m0 a) fun e => e ▸ hx⟩
theorem Lo.mrep (L : Lo C X H σ Γ) {i : Nat} {p : Addr} {o : MO} (e : Γ[i]? = some (.mu p o)) : MRep C.K X H p o := (L.at_ i _ e).2

/-- behind a call that wrote nothing of ours -/
theorem Lo.after0 {rs : Rs} {v : V} {ps : List (Addr × MO)} (L : Lo C X H σ Γ) (F : Fin C.K X H [] ps rs v H') : Lo C X H' σ Γ ∧ ∀ d u, Rep C.K X H d u → Rep C.K X H' d u := by
  have s : Same H H' := fun a o e => F.base a o e (by simp)
  exact ⟨L.same s, fun _ _ r => r.keep (.same s)⟩
theorem Lo.cond (L : Lo C X H σ Γ) {Γa : List Sl} {vs : List V} (as : As C.K X H Γa vs) (nd : (muts Γa).Nodup) (sub : ∀ p ∈ muts Γa, p ∈ muts Γ) : Cond C.K X H Γa vs := ⟨as, nd, fun p h => L.mx p (sub p h), L.xd⟩
theorem Lo.get (L : Lo C X H σ Γ) {i : Nat} {d : PyData} (e : Γ[i]? = some (.imm d)) : ∃ u, σ[i]? = some (some u) ∧ Rep C.K X H d u := L.at_ i _ e

theorem ad_unique {Γ : List Sl} (nd : (muts Γ).Nodup) : ∀ {i j : Nat} {s t : Sl} {p : Addr}, Γ[i]? = some s → Γ[j]? = some t → s.ad = some p → t.ad = some p → i = j := by
  induction Γ with
  | nil => intro i j s t p h; simp at h
  | cons s0 Γ ih =>
    intro i j s t p hi hj es et
    have nd' : (List.filterMap Sl.ad (s0 :: Γ)).Nodup := nd
    have tl : (muts Γ).Nodup := by
      rw [List.filterMap_cons] at nd'
      cases e : s0.ad with
      | none => rw [e] at nd'; exact nd'
      | some q => rw [e] at nd'; exact (List.nodup_cons.mp nd').2
    have no : ∀ (k : Nat) (r : Sl), s0.ad = some p → Γ[k]? = some r → r.ad = some p → False := fun k r e0 hk er => by
      rw [List.filterMap_cons, e0] at nd'
      exact (List.nodup_cons.mp nd').1 (List.mem_filterMap.mpr ⟨r, List.mem_of_getElem? hk, er⟩)
    cases i with
    | zero =>
      cases j with
      | zero => rfl
      | succ j =>
        simp at hi hj; subst hi
        exact (no j t es hj et).elim
    | succ i =>
      cases j with
      | zero =>
        simp at hi hj; subst hj
        exact (no i s et hi es).elim
      | succ j =>
        simp at hi hj
        rw [ih tl hi hj es et]
/-- another object at the same place -/
def Sl.to (o : MO) : Sl → Sl
  | .mu p _ => .mu p o
  | .tmp p _ => .tmp p o
  | s => s
theorem muts_to {o : MO} : ∀ {Γ : List Sl} {i : Nat} {s : Sl}, Γ[i]? = some s → muts (Γ.set i (s.to o)) = muts Γ
  | [], _, _, h => by simp at h
  | s0 :: Γ, 0, s, h => by
    simp at h; subst h
    show List.filterMap Sl.ad (s0.to o :: Γ) = List.filterMap Sl.ad (s0 :: Γ)
    rw [List.filterMap_cons, List.filterMap_cons]
    have : (s0.to o).ad = s0.ad := by cases s0 <;> rfl
    rw [this]
  | s0 :: Γ, i + 1, s, h => by
    have ih := muts_to (o := o) (Γ := Γ) (i := i) (s := s) (by simpa using h)
    show List.filterMap Sl.ad (s0 :: Γ.set i (s.to o)) = List.filterMap Sl.ad (s0 :: Γ)
    rw [List.filterMap_cons, List.filterMap_cons]
    have ih' : List.filterMap Sl.ad (Γ.set i (s.to o)) = List.filterMap Sl.ad Γ := ih
    rw [ih']
/-- the object at p is written (or turned by a call): all else keeps -/
theorem Lo.wrote (L : Lo C X H σ Γ) {i : Nat} {p : Addr} {s : Sl} {o : MO} (e : Γ[i]? = some s) (es : s.ad = some p) (hk : ∀ a u, H a = some u → a ≠ p → H' a = some u) (hd : ∀ a, H a ≠ none → H' a ≠ none) (r : MRep C.K X H' p o) :
    Lo C X H' σ (Γ.set i (s.to o)) ∧ ∀ d u, Rep C.K X H d u → Rep C.K X H' d u := by
  have hpm : p ∈ muts Γ := mem_muts.mpr ⟨i, s, e, es⟩
  have hpx : X p := L.mx p hpm
  obtain ⟨o0, r0⟩ := L.mem hpm
  have kp : Keep X H H' := ⟨fun a u h n => hk a u h fun z => n (z ▸ hpx), fun a vs h => hk a _ h fun z => r0.ntup.1 _ (z ▸ h), fun a u w h => hk a _ h fun z => r0.ntup.2 _ _ (z ▸ h)⟩
  have hil : i < Γ.length := (List.getElem?_eq_some_iff.mp e).1
  refine ⟨⟨L.len, fun j t hj => ?_, by rw [muts_to e]; exact L.nd, fun q hq => L.mx q (by rw [muts_to e] at hq; exact hq), L.m0, fun a h => hd a (L.xd a h), fun a u h n => ?_, fun a h => hd a (L.dom a h), fun q hq => L.own q (by rw [muts_to e] at hq; exact hq), L.tf⟩, fun _ _ q => q.keep kp⟩
  · by_cases z : j = i
    · subst z
      rw [List.getElem?_set_self hil] at hj
      have := L.at_ j s e
      cases hj
      cases s with
      | unk => cases es
      | scr ns => cases es
      | ref a => cases es
      | imm d => cases es
      | fix Z d => cases es
      | fixN Z d => cases es
      | exv _ _ => cases es
      | lax _ _ => cases es
      | mu q o1 => cases es; exact ⟨this.1, r⟩
      | tmp q o1 => cases es; exact r
    · rw [List.getElem?_set_ne (Ne.symm z)] at hj
      refine (L.at_ j t hj).keep kp fun q eq => ?_
      have ne : q ≠ p := fun y => z (ad_unique L.nd hj e (by rw [eq, y]) es)
      obtain ⟨o1, r1⟩ := L.mem (mem_muts.mpr ⟨j, t, hj, eq⟩)
      cases hq : H q with
      | none => exact (r1.nn hq).elim
      | some u => exact hk q u hq ne
  · have h1 := L.base a u h n
    exact hk a u h1 fun z => by
      subst z
      exact L.nown h n hpm
/-- behind a call that wrote one object -/
theorem Lo.after1 {rs : Rs} {v : V} {p : Addr} {o : MO} {s : Sl} (L : Lo C X H σ Γ) (F : Fin C.K X H [p] [(p, o)] rs v H') {i : Nat} (e : Γ[i]? = some s) (es : s.ad = some p) :
    Lo C X H' σ (Γ.set i (s.to o)) ∧ ∀ d u, Rep C.K X H d u → Rep C.K X H' d u :=
  L.wrote e es (fun a u h n => F.base a u h (by simpa using n)) F.dom (F.mu (p, o) (by simp))
/-- a new object is laid: forbidden from now on -/
theorem Lo.lay (L : Lo C X H σ Γ) {p : Addr} {o : MO} {H1 : Hp} (hn : H p = none) (s : Same H H1) (r : MRep C.K (fun a => X a ∨ a = p) H1 p o) :
    Lo C (fun a => X a ∨ a = p) H1 σ (Γ ++ [.tmp p o]) ∧ (∀ d u, Rep C.K X H d u → Rep C.K (fun a => X a ∨ a = p) H1 d u) ∧ C.H0 p = none ∧ ¬ C.X0 p := by
  have h0 : C.H0 p = none := by
    cases e : C.H0 p with
    | none => rfl
    | some o => exact (L.dom p (by rw [e]; exact fun z => nomatch z) hn).elim
  have hd : ∀ a, H a ≠ none → H1 a = H a := fun a h => by
    cases e : H a with
    | none => exact (h e).elim
    | some o => exact s a o e
  have hm : muts (Γ ++ [Sl.tmp p o]) = muts Γ ++ [p] := by unfold muts; rw [List.filterMap_append]; rfl
  have hnm : p ∉ muts Γ := fun h => L.xd p (L.mx p h) hn
  refine ⟨⟨L.len, fun i t hi => ?_, ?_, fun q hq => ?_, fun a h => .inl (L.m0 a h), fun a h => ?_, fun a u h n => s a u (L.base a u h n), fun a h => ?_, fun q hq => ?_, L.tf⟩, fun _ _ q => (q.more hn).keep (.same s), h0, fun z => L.xd p (L.m0 p z) hn⟩
  · by_cases hlt : i < Γ.length
    · rw [List.getElem?_append_left hlt] at hi
      refine ((L.at_ i t hi).more hn).keep (.same s) fun q e => hd q ?_
      obtain ⟨o', r'⟩ := (L.at_ i t hi).mrep e
      exact r'.nn
    · rw [List.getElem?_append_right (by omega)] at hi
      have ht := List.mem_of_getElem? hi
      rw [List.mem_singleton] at ht
      subst ht
      exact r
  · rw [hm]
    exact List.nodup_append.mpr ⟨L.nd, by simp, fun a ha b hb => by
      rw [List.mem_singleton] at hb
      subst hb
      intro z
      exact hnm (z ▸ ha)⟩
  · rw [hm, List.mem_append, List.mem_singleton] at hq
    exact hq.elim (fun z => .inl (L.mx q z)) .inr
  · rcases h with h | h
    · rw [hd a (L.xd a h)]; exact L.xd a h
    · subst h; exact r.nn
  · rw [hd a (L.dom a h)]; exact L.dom a h
  · rw [hm, List.mem_append, List.mem_singleton] at hq
    exact hq.elim (L.own q) fun z => .inr (z ▸ h0)
/-- the last object is given a name -/
theorem Lo.name {p : Addr} {o : MO} (L : Lo C X H σ (Γ ++ [.tmp p o])) {i : Nat} (hi : i < C.n) (hl : i < Γ.length) : Lo C X H (σ.set i (some (.ref p))) (Γ.set i (.mu p o)) := by
  have hm : muts (Γ ++ [Sl.tmp p o]) = muts Γ ++ [p] := by unfold muts; rw [List.filterMap_append]; rfl
  have nd := L.nd
  rw [hm] at nd
  obtain ⟨nd1, _, nd2⟩ := List.nodup_append.mp nd
  have hnp : p ∉ muts Γ := fun h => nd2 p h p (by simp) rfl
  have sub : ∀ q, q ∈ muts (Γ.set i (.mu p o)) → q ∈ muts (Γ ++ [Sl.tmp p o]) := fun q hq => by
    rw [hm, List.mem_append, List.mem_singleton]
    obtain ⟨j, s, hj, e⟩ := mem_muts.mp hq
    by_cases z : j = i
    · subst z
      rw [List.getElem?_set_self hl] at hj
      cases hj; cases e; exact .inr rfl
    · rw [List.getElem?_set_ne (Ne.symm z)] at hj
      exact .inl (mem_muts.mpr ⟨j, s, hj, e⟩)
  have ndp : ∀ {Γ : List Sl} {i : Nat}, (muts Γ).Nodup → p ∉ muts Γ → (muts (Γ.set i (.mu p o))).Nodup := by
    intro Γ
    induction Γ with
    | nil => intro i h _; exact h
    | cons s0 Γ ih =>
      intro i h hn
      have h' : (List.filterMap Sl.ad (s0 :: Γ)).Nodup := h
      have hn' : p ∉ List.filterMap Sl.ad (s0 :: Γ) := hn
      have hg : p ∉ muts Γ := fun z => hn' (by rw [List.filterMap_cons]; cases s0.ad with | none => exact z | some q => exact List.mem_cons_of_mem _ z)
      have hgn : (muts Γ).Nodup := by
        rw [List.filterMap_cons] at h'
        cases e : s0.ad with
        | none => rw [e] at h'; exact h'
        | some q => rw [e] at h'; exact (List.nodup_cons.mp h').2
      cases i with
      | zero => exact List.nodup_cons.mpr ⟨hg, hgn⟩
      | succ i =>
        have ih' := ih (i := i) hgn hg
        show (List.filterMap Sl.ad (s0 :: Γ.set i (.mu p o))).Nodup
        rw [List.filterMap_cons] at h' hn' ⊢
        cases e : s0.ad with
        | none => exact ih'
        | some q =>
          rw [e] at h' hn'
          refine List.nodup_cons.mpr ⟨fun z => ?_, ih'⟩
          obtain ⟨t, ht, et⟩ := List.mem_filterMap.mp (show q ∈ List.filterMap Sl.ad (Γ.set i (.mu p o)) from z)
          rcases List.mem_or_eq_of_mem_set ht with y | y
          · exact (List.nodup_cons.mp h').1 (List.mem_filterMap.mpr ⟨t, y, et⟩)
          · subst y
            cases et
            exact hn' List.mem_cons_self
  refine ⟨by rw [List.length_set]; exact L.len, fun j t hj => ?_, ndp nd1 hnp, fun q hq => L.mx q (sub q hq), L.m0, L.xd, L.base, L.dom, fun q hq => L.own q (sub q hq), L.tf⟩
  by_cases z : j = i
  · subst z
    rw [List.getElem?_set_self hl] at hj
    cases hj
    refine ⟨List.getElem?_set_self (by rw [L.len]; exact hi), ?_⟩
    exact L.at_ Γ.length (.tmp p o) (by rw [List.getElem?_append_right (Nat.le_refl _)]; simp)
  · rw [List.getElem?_set_ne (Ne.symm z)] at hj
    rw [List.getElem?_set_ne (Ne.symm z)]
    refine L.at_ j t ?_
    rw [List.getElem?_append_left (List.getElem?_eq_some_iff.mp hj).1]
    exact hj
/-- an object that is written no more is data -/
theorem Lo.freeze {p : Addr} {ds : List PyData} (L : Lo C X H σ Γ) {i : Nat} (e : Γ[i]? = some (.mu p (.lst ds))) (hx : ¬ C.X0 p) : Lo C (fun a => X a ∧ a ≠ p) H σ (Γ.set i (.imm (.list ds))) := by
  have hil : i < Γ.length := (List.getElem?_eq_some_iff.mp e).1
  refine ⟨L.len, fun j t hj => ?_, nodup_set L.nd, fun q hq => ⟨L.mx q (muts_set_imm hq), fun z => ?_⟩, fun a h => ⟨L.m0 a h, fun z => hx (z ▸ h)⟩, fun a h => L.xd a h.1, L.base, L.dom, fun q hq => L.own q (muts_set_imm hq), L.tf⟩
  · by_cases z : j = i
    · subst z
      rw [List.getElem?_set_self hil] at hj
      cases hj
      obtain ⟨h1, vs, h2, h3⟩ := L.at_ j _ e
      exact ⟨.ref p, h1, .lst (fun y => y.2 rfl) (.inl h2) (h3.anti fun a h => h.1)⟩
    · rw [List.getElem?_set_ne (Ne.symm z)] at hj
      exact (L.at_ j t hj).anti fun a h => h.1
  · subst z
    obtain ⟨j, s, hj, es⟩ := mem_muts.mp hq
    by_cases y : j = i
    · subst y
      rw [List.getElem?_set_self hil] at hj
      cases hj; cases es
    · rw [List.getElem?_set_ne (Ne.symm y)] at hj
      exact y (ad_unique L.nd hj e es rfl)
theorem RRep.imm {K : PySem.W.Frag} {X : Addr → Prop} {H H' : Hp} {ds : List PyData} {v : V} (r : RRep K X H H' (.new (.lst ds)) v) (xd : ∀ a, X a → H a ≠ none) : Rep K X H' (.list ds) v := by
  obtain ⟨p, e, hn, vs, h2, h3⟩ := r
  subst e
  exact .lst (fun z => xd p z hn) (.inl h2) (h3.anti fun _ z => .inl z)
end
open Py (enc)

/-! ### what may fail -/
/-- .. in the middle of a term -/
theorem obE {α β : Type} {m : Option α} {k : α → Option β} {r : β} {P : Prop} (h : m.bind k = some r) (f : ∀ x, m = some x → k x = some r → P) : P := by
  obtain ⟨x, a, b⟩ := Option.bind_eq_some_iff.mp h
  exact f x a b
theorem ob {α β : Type} {m : Option α} {k : α → Option β} {r : β} (h : m.bind k = some r) : ∃ x, m = some x ∧ k x = some r := Option.bind_eq_some_iff.mp h
/-- a product, a quotient, a rest, where they are told -/
def mulG (a b : Int) : Option Int := if a.natAbs.log2 + b.natAbs.log2 < 1000000 then some (a * b) else none
def divG (a b : Int) : Option Int := if b ≠ 0 ∧ b.natAbs.log2 < 9000 then some (a.fdiv b) else none
def modG (a b : Int) : Option Int := if b ≠ 0 then some (a.fmod b) else none
def lenOk (n : Nat) : Option Unit := if n ≤ 16777216 then some () else none
def guard (b : Bool) : Option Unit := if b = true then some () else none
def iabs (i : Int) : Int := if i < 0 then -i else i
def b2 (b : Bool) : Int := if b = true then 1 else 0
def ix {α : Type} (xs : List α) (i : Int) : Option α := atI xs i
theorem line_eq : sizeLine = 16777216 := sizeLine_eq

section
variable {Xc : Cx}
def cMulG (i j : Int) : Prop := i.natAbs.log2 + j.natAbs.log2 < 1000000
def cDivG (i j : Int) : Prop := j ≠ 0 ∧ j.natAbs.log2 < 9000
theorem op_divG : OpR Xc (binaryOp .FloorDiv) (rI cDivG fun i j => .int (i.fdiv j)) := opI fun i j _ _ _ _ _ hc q => floordiv_int hc.1 q (.inl (PyProof.noPylong_of_log2 hc.2))
end


/-- continuations by name, so that goals stay as they are -/
def KB (Q : Bool → Hp → Prop) : VK := fun x H => ∃ k, x = .bl k ∧ Q k H
def KNot (Q : Bool → Hp → Prop) : Bool → Hp → Prop := fun c H => Q (!c) H
def KAnd (u : TT) (σ : L2.St) (Q : Bool → Hp → Prop) : Bool → Hp → Prop := fun c H => if c = true then u σ H Q else Q false H
def KOr (u : TT) (σ : L2.St) (Q : Bool → Hp → Prop) : Bool → Hp → Prop := fun c H => if c = true then Q true H else u σ H Q
def KNotV (Q : VK) : Bool → Hp → Prop := fun c H => Q (.bl (!c)) H
def KAndV (u : TE) (σ : L2.St) (Q : VK) : Bool → Hp → Prop := fun c H => if c = true then u σ H Q else Q (.bl false) H
def KOrV (u : TE) (σ : L2.St) (Q : VK) : Bool → Hp → Prop := fun c H => if c = true then Q (.bl true) H else u σ H Q
def KIf (t u : TS) (D : Ends) (σ : L2.St) : Bool → Hp → Prop := fun c H => if c = true then t D σ H else u D σ H
def KIfE (t u : TE) (σ : L2.St) (Q : VK) : Bool → Hp → Prop := fun c H => if c = true then t σ H Q else u σ H Q
def KTup (Q : VK) : List V → Hp → Prop := fun xs H => xs.length ≤ sizeLine ∧ ∀ p, H p = none → Q (.ref p) (upd H p (.tup xs))
def KLst (Q : VK) : List V → Hp → Prop := fun xs H => xs.length ≤ sizeLine ∧ ∀ p, H p = none → Q (.ref p) (upd H p (.lst xs))
def KPar (i j : Nat) (σ : L2.St) (N : L2.St → Hp → Prop) : List V → Hp → Prop := fun vs H => ∃ v w, vs = [v, w] ∧ N ((σ.set i (some v)).set j (some w)) H

section
variable {C : Cn} {X : Addr → Prop} {H : Hp} {σ : L2.St} {Γ Γ' : List Sl} {Q : VK} {α β γ δ ε ρ : Type}
/-! ### expressions, from the left -/
theorem x_op {r : R2} {ta tb : TE} (h : ta σ H fun x H1 => tb σ H1 fun y H2 => r x y H2 Q) : tOp r ta tb σ H Q := h
theorem x_un {r : V → Hp → VK → Prop} {ta : TE} (h : ta σ H fun x H1 => r x H1 Q) : tUn r ta σ H Q := h
theorem x_c {v : V} (h : Q v H) : tC v σ H Q := h
theorem x_cons {ta : TE} {tr : TA} {Q : List V → Hp → Prop} (h : ta σ H fun x H1 => tr σ H1 fun xs H2 => Q (x :: xs) H2) : tCons ta tr σ H Q := h
theorem x_nil {Q : List V → Hp → Prop} (h : Q [] H) : tNil σ H Q := h
/-- a name of the def: data, an object that may be written, the script -/
theorem x_vd {i : Nat} {d : PyData} (L : Lo C X H σ Γ) (e : Γ[i]? = some (.imm d)) (h : ∀ v, Rep C.K X H d v → Q v H) : tVar i σ H Q := by
  obtain ⟨u, h1, h2⟩ := L.get e
  exact ⟨u, h1, h u h2⟩
theorem x_vm {i : Nat} {p : Addr} {o : MO} (L : Lo C X H σ Γ) (e : Γ[i]? = some (.mu p o)) (h : Q (.ref p) H) : tVar i σ H Q := ⟨_, (L.at_ i _ e).1, h⟩
theorem x_vscr {i : Nat} {ns : List Int} (L : Lo C X H σ Γ) (e : Γ[i]? = some (.scr ns)) (h : ∀ v, SqX C.K X H ns v → Q v H) : tVar i σ H Q := by
  obtain ⟨u, h1, h2⟩ := L.at_ i _ e
  exact ⟨u, h1, h u h2⟩
theorem repI {K : PySem.W.Frag} {x : Int} {u : V} (h : Rep K X H (PyData.int x) u) : u = (V.int x) := by cases h; rfl
theorem x_vI {i : Nat} {x : Int} (L : Lo C X H σ Γ) (e : Γ[i]? = some (.imm (PyData.int x))) (h : Q (V.int x) H) : tVar i σ H Q :=
  x_vd L e fun v r => by rw [repI (x := x) r]; exact h
theorem repB {K : PySem.W.Frag} {x : Bool} {u : V} (h : Rep K X H (PyData.bool x) u) : u = (V.bl x) := by cases h; rfl
theorem x_vB {i : Nat} {x : Bool} (L : Lo C X H σ Γ) (e : Γ[i]? = some (.imm (PyData.bool x))) (h : Q (V.bl x) H) : tVar i σ H Q :=
  x_vd L e fun v r => by rw [repB (x := x) r]; exact h
theorem repS {K : PySem.W.Frag} {x : Str} {u : V} (h : Rep K X H (PyData.str x) u) : u = (V.str x) := by cases h; rfl
theorem x_vS {i : Nat} {x : Str} (L : Lo C X H σ Γ) (e : Γ[i]? = some (.imm (PyData.str x))) (h : Q (V.str x) H) : tVar i σ H Q :=
  x_vd L e fun v r => by rw [repS (x := x) r]; exact h
theorem repN {K : PySem.W.Frag} {x : Unit} {u : V} (h : Rep K X H PyData.none u) : u = V.non := by cases h; rfl
theorem x_vN {i : Nat} {x : Unit} (L : Lo C X H σ Γ) (e : Γ[i]? = some (.imm PyData.none)) (h : Q V.non H) : tVar i σ H Q :=
  x_vd L e fun v r => by rw [repN (x := x) r]; exact h
/-! ### whole numbers -/
theorem x_r0 {g : Int → Int → V} {a b : Int} (h : Q (g a b) H) : rI0 g (.int a) (.int b) H Q := ⟨a, b, rfl, rfl, h⟩
theorem x_mulL {a b : Int} (hc : -(2 ^ 64) < a ∧ a < 2 ^ 64) (h : Q (.int (a * b)) H) : rI CMul (fun i j => .int (i * j)) (.int a) (.int b) H Q := ⟨a, b, rfl, rfl, .inl hc, h⟩
theorem x_mulR {a b : Int} (hc : -(2 ^ 64) < b ∧ b < 2 ^ 64) (h : Q (.int (a * b)) H) : rI CMul (fun i j => .int (i * j)) (.int a) (.int b) H Q := ⟨a, b, rfl, rfl, .inr hc, h⟩
theorem x_mulc {a b n : Int} (hc : a.natAbs.log2 + b.natAbs.log2 < 1000000) (e : a * b = n) (h : Q (.int n) H) : rI CMulW (fun i j => .int (i * j)) (.int a) (.int b) H Q := by subst e; exact ⟨a, b, rfl, rfl, hc, h⟩
theorem room65 {k : Nat} {A : Around} (r : Room k A) : A.units + 65 < cLine := by have := r.un; omega
theorem x_divc {a b : Int} (hc : CDiv a b) (h : Q (.int (a / b)) H) : rI CDiv (fun i j => .int (i / j)) (.int a) (.int b) H Q := ⟨a, b, rfl, rfl, hc, h⟩
theorem x_divW {a b : Int} (hc : CDivW a b) (h : Q (.int (a / b)) H) : rI CDivW (fun i j => .int (i / j)) (.int a) (.int b) H Q := ⟨a, b, rfl, rfl, hc, h⟩
theorem x_modc {a b : Int} (hc : 0 < b) (h : Q (.int (a % b)) H) : rI (fun _ j => 0 < j) (fun i j => .int (i % j)) (.int a) (.int b) H Q := ⟨a, b, rfl, rfl, hc, h⟩
theorem x_powc {a b n : Int} (hc : CPow a b) (e : a ^ b.toNat = n) (h : Q (.int n) H) : rI CPow (fun i j => .int (i ^ j.toNat)) (.int a) (.int b) H Q := by subst e; exact ⟨a, b, rfl, rfl, hc, h⟩
theorem x_mul {a b : Int} {k : Int → Option ρ} {r : ρ} (hm : (mulG a b).bind k = some r) (h : ∀ z, mulG a b = some z → k z = some r → Q (.int z) H) : rI CMulW (fun i j => .int (i * j)) (.int a) (.int b) H Q := by
  obtain ⟨z, hz, hk⟩ := ob hm
  have hz' := hz
  unfold mulG at hz'
  split at hz'
  · rename_i hc
    have e : a * b = z := Option.some.inj hz'
    subst e
    exact ⟨a, b, rfl, rfl, hc, h _ hz hk⟩
  · cases hz'
theorem x_div {a b : Int} {k : Int → Option ρ} {r : ρ} (hm : (divG a b).bind k = some r) (h : ∀ z, divG a b = some z → k z = some r → Q (.int z) H) : rI cDivG (fun i j => .int (i.fdiv j)) (.int a) (.int b) H Q := by
  obtain ⟨z, hz, hk⟩ := ob hm
  have hz' := hz
  unfold divG at hz'
  split at hz'
  · rename_i hc
    have e : a.fdiv b = z := Option.some.inj hz'
    subst e
    exact ⟨a, b, rfl, rfl, hc, h _ hz hk⟩
  · cases hz'
theorem x_mod {a b : Int} {k : Int → Option ρ} {r : ρ} (hm : (modG a b).bind k = some r) (h : ∀ z, modG a b = some z → k z = some r → Q (.int z) H) : rI (fun _ j => j ≠ 0) (fun i j => .int (i.fmod j)) (.int a) (.int b) H Q := by
  obtain ⟨z, hz, hk⟩ := ob hm
  have hz' := hz
  unfold modG at hz'
  split at hz'
  · rename_i hc
    have e : a.fmod b = z := Option.some.inj hz'
    subst e
    exact ⟨a, b, rfl, rfl, hc, h _ hz hk⟩
  · cases hz'
theorem x_u {g : Int → V} {a : Int} (h : Q (g a) H) : rU g (.int a) H Q := ⟨a, rfl, h⟩
theorem x_eqi {a b : Int} (h : Q (.bl (decide (a = b))) H) : rEq (.int a) (.int b) H Q := by
  refine ⟨rfl, ?_⟩
  have e : decide (V.int a = V.int b) = decide (a = b) := by by_cases z : a = b <;> simp [z]
  rw [e]; exact h
theorem x_nei {a b : Int} (h : Q (.bl (!decide (a = b))) H) : rNe (.int a) (.int b) H Q := by
  refine ⟨rfl, ?_⟩
  have e : decide (V.int a = V.int b) = decide (a = b) := by by_cases z : a = b <;> simp [z]
  rw [e]; exact h
theorem x_eqb {a b : Bool} (h : Q (.bl (decide (a = b))) H) : rEq (.bl a) (.bl b) H Q := by
  refine ⟨rfl, ?_⟩
  have e : decide (V.bl a = V.bl b) = decide (a = b) := by by_cases z : a = b <;> simp [z]
  rw [e]; exact h
theorem x_neb {a b : Bool} (h : Q (.bl (!decide (a = b))) H) : rNe (.bl a) (.bl b) H Q := by
  refine ⟨rfl, ?_⟩
  have e : decide (V.bl a = V.bl b) = decide (a = b) := by by_cases z : a = b <;> simp [z]
  rw [e]; exact h
theorem x_eqs {a b : Str} (h : Q (.bl (decide (a = b))) H) : rEq (.str a) (.str b) H Q := by
  refine ⟨rfl, ?_⟩
  have e : decide (V.str a = V.str b) = decide (a = b) := by by_cases z : a = b <;> simp [z]
  rw [e]; exact h
theorem x_nes {a b : Str} (h : Q (.bl (!decide (a = b))) H) : rNe (.str a) (.str b) H Q := by
  refine ⟨rfl, ?_⟩
  have e : decide (V.str a = V.str b) = decide (a = b) := by by_cases z : a = b <;> simp [z]
  rw [e]; exact h
/-- an item of a tuple -/
theorem rep_tupS {K : PySem.W.Frag} {ds : List PyData} {v : V} (r : Rep K X H (.tuple ds) v) : ∃ a vs, v = .ref a ∧ H a = some (.tup vs) ∧ Reps K X H ds vs := by
  cases r with | tup h q => exact ⟨_, _, rfl, h, q⟩
theorem rep_tup {K : PySem.W.Frag} {ds : List PyData} {v : V} (r : Rep K X H (.tuple ds) v) : ∃ a vs, v = .ref a ∧ SqT K H a vs ∧ Reps K X H ds vs := by
  cases r with | tup h q => exact ⟨_, _, rfl, .inl (.inl h), q⟩
theorem rep_lst {K : PySem.W.Frag} {ds : List PyData} {v : V} (r : Rep K X H (.list ds) v) : ∃ a vs, v = .ref a ∧ ¬ X a ∧ Rd H a (.lst vs) ∧ Reps K X H ds vs := by
  cases r with | lst n h q => exact ⟨_, _, rfl, n, h, q⟩
theorem atI_reps {K : PySem.W.Frag} {ds : List PyData} {vs : List V} {i : Int} {d : PyData} (q : Reps K X H ds vs) (e : atI ds i = some d) : ∃ u, atI vs i = some u ∧ Rep K X H d u := by
  unfold atI at e ⊢
  rw [q.length]
  cases h : ixN ds.length i with
  | none => rw [h] at e; cases e
  | some j => rw [h] at e; exact q.get e
theorem x_ixT {ds : List PyData} {d : PyData} {i : Int} {v : V} (r : Rep C.K X H (.tuple ds) v) (e : atI ds i = some d) (h : ∀ u, Rep C.K X H d u → Q u H) : rIxT C.K v (.int i) H Q := by
  obtain ⟨a, vs, rfl, hs, q⟩ := rep_tup r
  obtain ⟨u, h1, h2⟩ := atI_reps q e
  exact ⟨a, vs, i, u, rfl, rfl, hs, h1, h u h2⟩
theorem x_ixTI {ds : List PyData} {x : Int} {i : Int} {v : V} (r : Rep C.K X H (.tuple ds) v) (e : atI ds i = some (PyData.int x)) (h : Q (V.int x) H) : rIxT C.K v (.int i) H Q :=
  x_ixT r e fun u q => by rw [repI (x := x) q]; exact h
theorem x_ixTB {ds : List PyData} {x : Bool} {i : Int} {v : V} (r : Rep C.K X H (.tuple ds) v) (e : atI ds i = some (PyData.bool x)) (h : Q (V.bl x) H) : rIxT C.K v (.int i) H Q :=
  x_ixT r e fun u q => by rw [repB (x := x) q]; exact h
theorem x_ixTS {ds : List PyData} {x : Str} {i : Int} {v : V} (r : Rep C.K X H (.tuple ds) v) (e : atI ds i = some (PyData.str x)) (h : Q (V.str x) H) : rIxT C.K v (.int i) H Q :=
  x_ixT r e fun u q => by rw [repS (x := x) q]; exact h
theorem x_ixTN {ds : List PyData} {x : Unit} {i : Int} {v : V} (r : Rep C.K X H (.tuple ds) v) (e : atI ds i = some PyData.none) (h : Q V.non H) : rIxT C.K v (.int i) H Q :=
  x_ixT r e fun u q => by rw [repN (x := x) q]; exact h
theorem atI_map {f : α → β} {xs : List α} {i : Int} : atI (xs.map f) i = (atI xs i).map f := by
  unfold atI
  rw [List.length_map]
  cases ixN xs.length i with
  | none => rfl
  | some j => exact List.getElem?_map ..
/-- an item of a list -/
theorem x_ixL [Py α] {xs : List α} {i : Int} {v : V} {k : α → Option ρ} {r : ρ} (hm : (ix xs i).bind k = some r) (q : Rep C.K X H (enc xs) v) (h : ∀ x u, ix xs i = some x → k x = some r → Rep C.K X H (enc x) u → Q u H) : rIxL C.K v (.int i) H Q := by
  obtain ⟨x, hx, hk⟩ := ob hm
  obtain ⟨a, vs, rfl, _, hs, q⟩ := rep_lst (ds := xs.map enc) q
  have e : atI (xs.map enc) i = some (enc x) := by rw [atI_map]; unfold ix at hx; rw [hx]; rfl
  obtain ⟨u, h1, h2⟩ := atI_reps q e
  exact ⟨a, vs, i, u, rfl, rfl, .inl hs, h1, h x u hx hk h2⟩
theorem x_ixLI {xs : List Int} {i : Int} {v : V} {k : Int → Option ρ} {r : ρ} (hm : (ix xs i).bind k = some r) (q : Rep C.K X H (enc xs) v) (h : ∀ x, ix xs i = some x → k x = some r → Q (V.int x) H) : rIxL C.K v (.int i) H Q :=
  x_ixL hm q fun x u h1 h2 r => by rw [repI (x := x) r]; exact h x h1 h2
theorem x_ixLB {xs : List Bool} {i : Int} {v : V} {k : Bool → Option ρ} {r : ρ} (hm : (ix xs i).bind k = some r) (q : Rep C.K X H (enc xs) v) (h : ∀ x, ix xs i = some x → k x = some r → Q (V.bl x) H) : rIxL C.K v (.int i) H Q :=
  x_ixL hm q fun x u h1 h2 r => by rw [repB (x := x) r]; exact h x h1 h2
theorem x_ixLS {xs : List Str} {i : Int} {v : V} {k : Str → Option ρ} {r : ρ} (hm : (ix xs i).bind k = some r) (q : Rep C.K X H (enc xs) v) (h : ∀ x, ix xs i = some x → k x = some r → Q (V.str x) H) : rIxL C.K v (.int i) H Q :=
  x_ixL hm q fun x u h1 h2 r => by rw [repS (x := x) r]; exact h x h1 h2
theorem x_ixLN {xs : List Unit} {i : Int} {v : V} {k : Unit → Option ρ} {r : ρ} (hm : (ix xs i).bind k = some r) (q : Rep C.K X H (enc xs) v) (h : ∀ x, ix xs i = some x → k x = some r → Q V.non H) : rIxL C.K v (.int i) H Q :=
  x_ixL hm q fun x u h1 h2 r => by rw [repN (x := x) r]; exact h x h1 h2
/-- .. of a list that may be written -/
theorem x_ixM [Py α] {xs : List α} {i : Int} {j : Nat} {p : Addr} {k : α → Option ρ} {r : ρ} (L : Lo C X H σ Γ) (g : Γ[j]? = some (.mu p (ml xs))) (hm : (ix xs i).bind k = some r) (h : ∀ x u, ix xs i = some x → k x = some r → Rep C.K X H (enc x) u → Q u H) : rIxL C.K (.ref p) (.int i) H Q := by
  obtain ⟨x, hx, hk⟩ := ob hm
  obtain ⟨vs, hs, q⟩ := L.mrep g
  have e : atI (xs.map enc) i = some (enc x) := by rw [atI_map]; unfold ix at hx; rw [hx]; rfl
  obtain ⟨u, h1, h2⟩ := atI_reps q e
  exact ⟨p, vs, i, u, rfl, rfl, .inl (.inl hs), h1, h x u hx hk h2⟩
theorem x_ixMI {xs : List Int} {i : Int} {j : Nat} {p : Addr} {k : Int → Option ρ} {r : ρ} (L : Lo C X H σ Γ) (g : Γ[j]? = some (.mu p (ml xs))) (hm : (ix xs i).bind k = some r) (h : ∀ x, ix xs i = some x → k x = some r → Q (V.int x) H) : rIxL C.K (.ref p) (.int i) H Q :=
  x_ixM L g hm fun x u h1 h2 r => by rw [repI (x := x) r]; exact h x h1 h2
theorem x_ixMB {xs : List Bool} {i : Int} {j : Nat} {p : Addr} {k : Bool → Option ρ} {r : ρ} (L : Lo C X H σ Γ) (g : Γ[j]? = some (.mu p (ml xs))) (hm : (ix xs i).bind k = some r) (h : ∀ x, ix xs i = some x → k x = some r → Q (V.bl x) H) : rIxL C.K (.ref p) (.int i) H Q :=
  x_ixM L g hm fun x u h1 h2 r => by rw [repB (x := x) r]; exact h x h1 h2
theorem x_ixMS {xs : List Str} {i : Int} {j : Nat} {p : Addr} {k : Str → Option ρ} {r : ρ} (L : Lo C X H σ Γ) (g : Γ[j]? = some (.mu p (ml xs))) (hm : (ix xs i).bind k = some r) (h : ∀ x, ix xs i = some x → k x = some r → Q (V.str x) H) : rIxL C.K (.ref p) (.int i) H Q :=
  x_ixM L g hm fun x u h1 h2 r => by rw [repS (x := x) r]; exact h x h1 h2
theorem x_ixMN {xs : List Unit} {i : Int} {j : Nat} {p : Addr} {k : Unit → Option ρ} {r : ρ} (L : Lo C X H σ Γ) (g : Γ[j]? = some (.mu p (ml xs))) (hm : (ix xs i).bind k = some r) (h : ∀ x, ix xs i = some x → k x = some r → Q V.non H) : rIxL C.K (.ref p) (.int i) H Q :=
  x_ixM L g hm fun x u h1 h2 r => by rw [repN (x := x) r]; exact h x h1 h2
/-- .. of the script -/
theorem x_ixS {ns : List Int} {i : Int} {v : V} {k : Int → Option ρ} {r : ρ} (hm : (ix ns i).bind k = some r) (q : SqX C.K X H ns v) (h : ∀ x, ix ns i = some x → k x = some r → Q (.int x) H) : rIxL C.K v (.int i) H Q := by
  obtain ⟨x, hx, hk⟩ := ob hm
  obtain ⟨a, rfl, hs⟩ := q.sq
  have e : atI (ns.map V.int) i = some (.int x) := by rw [atI_map]; unfold ix at hx; rw [hx]; rfl
  exact ⟨a, _, i, _, rfl, rfl, hs, e, h x hx hk⟩
/-! ### displays -/
theorem x_tup {t : TA} (h : t σ H (KTup Q)) : tTup t σ H Q := h
theorem x_lst {t : TA} (h : t σ H (KLst Q)) : tLst t σ H Q := h
theorem same_upd {p : Addr} {o : HO} (h : H p = none) : Same H (upd H p o) := fun b u e => by rw [upd_ne (ne_of_none e h)]; exact e
theorem x_mkT {ds : List PyData} {vs : List V} (L : Lo C X H σ Γ) (q : Reps C.K X H ds vs) (hl : vs.length ≤ 16777216) (h : ∀ v H1, Lo C X H1 σ Γ → (∀ d u, Rep C.K X H d u → Rep C.K X H1 d u) → Rep C.K X H1 (.tuple ds) v → Q v H1) : KTup Q vs H := by
  refine ⟨by rw [line_eq]; exact hl, fun p hp => ?_⟩
  have s : Same H (upd H p (.tup vs)) := same_upd hp
  exact h _ _ (L.same s) (fun _ _ r => r.keep (.same s)) (.tup upd_same (q.keep (.same s)))
/-- a new list, told as data -/
theorem x_mkL {ds : List PyData} {vs : List V} (L : Lo C X H σ Γ) (q : Reps C.K X H ds vs) (hl : vs.length ≤ 16777216) (h : ∀ v H1, Lo C X H1 σ Γ → (∀ d u, Rep C.K X H d u → Rep C.K X H1 d u) → Rep C.K X H1 (.list ds) v → Q v H1) : KLst Q vs H := by
  refine ⟨by rw [line_eq]; exact hl, fun p hp => ?_⟩
  have s : Same H (upd H p (.lst vs)) := same_upd hp
  have r : RRep C.K X H (upd H p (.lst vs)) (.new (.lst ds)) (.ref p) := ⟨p, rfl, hp, vs, upd_same, (q.more hp).keep (.same s)⟩
  exact h _ _ (L.same s) (fun _ _ r => r.keep (.same s)) (r.imm L.xd)
/-- a new list of the body's own -/
theorem x_mkN {ds : List PyData} {vs : List V} (L : Lo C X H σ Γ) (q : Reps C.K X H ds vs) (hl : vs.length ≤ 16777216) (h : ∀ p X' H1, C.H0 p = none → ¬ C.X0 p → Lo C X' H1 σ (Γ ++ [.tmp p (.lst ds)]) → (∀ d u, Rep C.K X H d u → Rep C.K X' H1 d u) → Q (.ref p) H1) : KLst Q vs H := by
  refine ⟨by rw [line_eq]; exact hl, fun p hp => ?_⟩
  have s : Same H (upd H p (.lst vs)) := same_upd hp
  obtain ⟨L1, le, h0, hx⟩ := L.lay (o := .lst ds) hp s ⟨vs, upd_same, (q.more hp).keep (.same s)⟩
  exact h p _ _ h0 hx L1 le
/-- behind a call that tells a new object -/
theorem Lo.afterN {v : V} {o : MO} {ps : List (Addr × MO)} {P0 : List Addr} {H' : Hp} (L : Lo C X H σ Γ) (F : Fin C.K X H P0 ps (.new o) v H') (L' : Lo C X H' σ Γ') (kp : Keep X H H') (sub : ∀ p ∈ P0, p ∈ muts Γ) (hm : muts Γ' = muts Γ)
    (hat : ∀ (i : Nat) (s : Sl), Γ'[i]? = some s → (s.ad = none ∧ Γ[i]? = some s) ∨ (∃ p, s.ad = some p ∧ ∀ (q : Addr), H q = none → SlOk C.K (fun a => X a ∨ a = q) H' σ[i]? s)) :
    ∃ p, v = .ref p ∧ C.H0 p = none ∧ ¬ C.X0 p ∧ Lo C (fun a => X a ∨ a = p) H' σ (Γ' ++ [.tmp p o]) ∧ ∀ d u, Rep C.K X H d u → Rep C.K (fun a => X a ∨ a = p) H' d u := by
  obtain ⟨p, e, hn, r⟩ := F.res
  subst e
  have h0 : C.H0 p = none := by
    cases e : C.H0 p with
    | none => rfl
    | some o => exact (L.dom p (by rw [e]; exact fun z => nomatch z) hn).elim
  have kp' : Keep (fun a => X a ∨ a = p) H H' := kp.mono fun a h => .inl h
  have hm2 : muts (Γ' ++ [Sl.tmp p o]) = muts Γ' ++ [p] := by unfold muts; rw [List.filterMap_append]; rfl
  have hnm : p ∉ muts Γ' := fun h => L.xd p (L.mx p (hm ▸ h)) hn
  refine ⟨p, rfl, h0, fun z => L.xd p (L.m0 p z) hn, ⟨L.len, fun i t hi => ?_, ?_, fun q hq => ?_, fun a h => .inl (L.m0 a h), fun a h => ?_, L'.base, L'.dom, fun q hq => ?_, L.tf⟩, fun _ _ q => (q.more hn).keep kp'⟩
  · by_cases hlt : i < Γ'.length
    · rw [List.getElem?_append_left hlt] at hi
      rcases hat i t hi with ⟨h1, h2⟩ | ⟨q, h1, h2⟩
      · exact ((L.at_ i t h2).more hn).keep kp' fun q e => by rw [h1] at e; cases e
      · exact h2 p hn
    · rw [List.getElem?_append_right (by omega)] at hi
      have ht := List.mem_of_getElem? hi
      rw [List.mem_singleton] at ht
      subst ht
      exact r
  · rw [hm2]
    exact List.nodup_append.mpr ⟨L'.nd, by simp, fun a ha b hb => by
      rw [List.mem_singleton] at hb
      subst hb
      intro z
      exact hnm (z ▸ ha)⟩
  · rw [hm2, List.mem_append, List.mem_singleton] at hq
    exact hq.elim (fun z => .inl (L'.mx q z)) .inr
  · rcases h with h | h
    · exact L'.xd a h
    · subst h; exact r.nn
  · rw [hm2, List.mem_append, List.mem_singleton] at hq
    exact hq.elim (L'.own q) fun z => .inr (z ▸ h0)
theorem Lo.after0N {v : V} {o : MO} {ps : List (Addr × MO)} {H' : Hp} (L : Lo C X H σ Γ) (F : Fin C.K X H [] ps (.new o) v H') :
    ∃ p, v = .ref p ∧ C.H0 p = none ∧ ¬ C.X0 p ∧ ∃ X', Lo C X' H' σ (Γ ++ [.tmp p o]) ∧ ∀ d u, Rep C.K X H d u → Rep C.K X' H' d u := by
  have s : Same H H' := fun a o e => F.base a o e (by simp)
  have L' := (L.after0 F).1
  obtain ⟨p, a, b, c, d, e⟩ := L.afterN F L' (.same s) (by simp) rfl fun i t hi => by
    cases e : t.ad with
    | none => exact .inl ⟨rfl, hi⟩
    | some p =>
      refine .inr ⟨p, rfl, fun q hq => ((L.at_ i t hi).more hq).keep (.same s) fun p' e' => ?_⟩
      obtain ⟨o', r'⟩ := (L.at_ i t hi).mrep e'
      cases h : H p' with
      | none => exact (r'.nn h).elim
      | some u => exact s _ _ h
  exact ⟨p, a, b, c, _, d, e⟩
/-! ### tests -/
theorem x_test {t : TE} {Q : Bool → Hp → Prop} (h : t σ H (KB Q)) : tTest t σ H Q := h
theorem x_tB {t : TE} {Q : Bool → Hp → Prop} (h : t σ H (KB Q)) : tB t σ H Q := h
theorem x_kb {b : Bool} {Q : Bool → Hp → Prop} (h : Q b H) : KB Q (.bl b) H := ⟨b, rfl, h⟩
theorem x_not {t : TT} {Q : Bool → Hp → Prop} (h : t σ H (KNot Q)) : tNot t σ H Q := h
theorem x_kn {b : Bool} {Q : Bool → Hp → Prop} (h : Q (!b) H) : KNot Q b H := h
theorem x_notV {t : TE} (h : t σ H (KB (KNotV Q))) : tNotV t σ H Q := h
theorem x_knV {b : Bool} (h : Q (.bl (!b)) H) : KNotV Q b H := h
theorem x_and {t u : TT} {Q : Bool → Hp → Prop} (h : t σ H (KAnd u σ Q)) : tAnd t u σ H Q := h
theorem x_or {t u : TT} {Q : Bool → Hp → Prop} (h : t σ H (KOr u σ Q)) : tOr t u σ H Q := h
theorem x_andV {t u : TE} (h : t σ H (KB (KAndV u σ Q))) : tAndV t u σ H Q := h
theorem x_orV {t u : TE} (h : t σ H (KB (KOrV u σ Q))) : tOrV t u σ H Q := h
theorem x_ifE {t : TT} {ta tb : TE} (h : t σ H (KIfE ta tb σ Q)) : tIf t ta tb σ H Q := h
/-- a second part that can't fail and changes nothing -/
theorem x_andP {A B : Bool} {u : TT} {Q : Bool → Hp → Prop} (hu : ∀ Q' : Bool → Hp → Prop, Q' B H → u σ H Q') (h : Q (A && B) H) : KAnd u σ Q A H := by
  cases A with
  | true => exact hu Q h
  | false => exact h
theorem x_orP {A B : Bool} {u : TT} {Q : Bool → Hp → Prop} (hu : ∀ Q' : Bool → Hp → Prop, Q' B H → u σ H Q') (h : Q (A || B) H) : KOr u σ Q A H := by
  cases A with
  | false => exact hu Q h
  | true => exact h
theorem x_andVP {A B : Bool} {u : TE} (hu : ∀ Q' : VK, Q' (.bl B) H → u σ H Q') (h : Q (.bl (A && B)) H) : KAndV u σ Q A H := by
  cases A with
  | true => exact hu Q h
  | false => exact h
theorem x_orVP {A B : Bool} {u : TE} (hu : ∀ Q' : VK, Q' (.bl B) H → u σ H Q') (h : Q (.bl (A || B)) H) : KOrV u σ Q A H := by
  cases A with
  | false => exact hu Q h
  | true => exact h
/-- .. that may: it runs only then -/
theorem x_andB {A : Bool} {m : Option Bool} {k : Bool → Option ρ} {r : ρ} {u : TT} {Q : Bool → Hp → Prop} (L : Lo C X H σ Γ) (hm : (if A = true then m else some false).bind k = some r)
    (hu : ∀ b, m = some b → ∀ Q' : Bool → Hp → Prop, (∀ H2, Lo C X H2 σ Γ → Q' b H2) → u σ H Q') (h : ∀ b H2, k b = some r → Lo C X H2 σ Γ → Q b H2) : KAnd u σ Q A H := by
  cases A with
  | true =>
    obtain ⟨b, e, hk⟩ := ob hm
    exact hu b e Q fun H2 l => h b H2 hk l
  | false => exact h false H hm L
theorem x_orB {A : Bool} {m : Option Bool} {k : Bool → Option ρ} {r : ρ} {u : TT} {Q : Bool → Hp → Prop} (L : Lo C X H σ Γ) (hm : (if A = true then some true else m).bind k = some r)
    (hu : ∀ b, m = some b → ∀ Q' : Bool → Hp → Prop, (∀ H2, Lo C X H2 σ Γ → Q' b H2) → u σ H Q') (h : ∀ b H2, k b = some r → Lo C X H2 σ Γ → Q b H2) : KOr u σ Q A H := by
  cases A with
  | false =>
    obtain ⟨b, e, hk⟩ := ob hm
    exact hu b e Q fun H2 l => h b H2 hk l
  | true => exact h true H hm L
theorem x_andVB {A : Bool} {m : Option Bool} {k : Bool → Option ρ} {r : ρ} {u : TE} (L : Lo C X H σ Γ) (hm : (if A = true then m else some false).bind k = some r)
    (hu : ∀ b, m = some b → ∀ Q' : VK, (∀ H2, Lo C X H2 σ Γ → Q' (.bl b) H2) → u σ H Q') (h : ∀ b H2, k b = some r → Lo C X H2 σ Γ → Q (.bl b) H2) : KAndV u σ Q A H := by
  cases A with
  | true =>
    obtain ⟨b, e, hk⟩ := ob hm
    exact hu b e Q fun H2 l => h b H2 hk l
  | false => exact h false H hm L
theorem x_orVB {A : Bool} {m : Option Bool} {k : Bool → Option ρ} {r : ρ} {u : TE} (L : Lo C X H σ Γ) (hm : (if A = true then some true else m).bind k = some r)
    (hu : ∀ b, m = some b → ∀ Q' : VK, (∀ H2, Lo C X H2 σ Γ → Q' (.bl b) H2) → u σ H Q') (h : ∀ b H2, k b = some r → Lo C X H2 σ Γ → Q (.bl b) H2) : KOrV u σ Q A H := by
  cases A with
  | false =>
    obtain ⟨b, e, hk⟩ := ob hm
    exact hu b e Q fun H2 l => h b H2 hk l
  | true => exact h true H hm L
theorem x_lfT {B b : Bool} {Q' : Bool → Hp → Prop} (hm : some B = some b) (hQ : ∀ H2, Lo C X H2 σ Γ → Q' b H2) (L : Lo C X H σ Γ) : Q' B H := by cases hm; exact hQ _ L
theorem x_lfV {B b : Bool} {Q' : VK} (hm : some B = some b) (hQ : ∀ H2, Lo C X H2 σ Γ → Q' (.bl b) H2) (L : Lo C X H σ Γ) : Q' (.bl B) H := by cases hm; exact hQ _ L
/-! ### statements -/
section
variable {nx bk ct : L2.St → Hp → Prop} {rt : VK}
theorem x_seq {t u : TS} (h : t ⟨u ⟨nx, rt, bk, ct⟩, rt, bk, ct⟩ σ H) : tSeq t u ⟨nx, rt, bk, ct⟩ σ H := h
theorem x_next (h : nx σ H) : tNext ⟨nx, rt, bk, ct⟩ σ H := h
theorem x_cont (h : ct σ H) : tCont ⟨nx, rt, bk, ct⟩ σ H := h
theorem x_break (h : bk σ H) : tBreak ⟨nx, rt, bk, ct⟩ σ H := h
theorem x_asg {te : TE} {g : TG} (h : te σ H fun x H1 => g x σ H1 nx) : tAsg te g ⟨nx, rt, bk, ct⟩ σ H := h
theorem x_ret {te : TE} (h : te σ H rt) : tRet te ⟨nx, rt, bk, ct⟩ σ H := h
theorem x_retN (h : rt .non H) : tRetN ⟨nx, rt, bk, ct⟩ σ H := h
theorem x_drop {te : TE} (h : te σ H fun _ H1 => nx σ H1) : tDrop te ⟨nx, rt, bk, ct⟩ σ H := h
end
theorem x_ifS {c : TT} {t u : TS} {D : Ends} (h : c σ H (KIf t u D σ)) : tIfS c t u D σ H := h
/-- a branch ends the body: the rest stands in the other one -/
theorem x_if {t u : TS} {D : Ends} {c : Bool} {mA mB : Option ρ} {r : ρ} (hm : (if c = true then mA else mB) = some r) (hA : mA = some r → t D σ H) (hB : mB = some r → u D σ H) : KIf t u D σ c H := by
  cases c with
  | true => exact hA hm
  | false => exact hB hm
theorem x_ifX {t u : TE} {c : Bool} {mA mB : Option ρ} {r : ρ} (hm : (if c = true then mA else mB) = some r) (hA : mA = some r → t σ H Q) (hB : mB = some r → u σ H Q) : KIfE t u σ Q c H := by
  cases c with
  | true => exact hA hm
  | false => exact hB hm
theorem x_set {d : PyData} {i : Nat} {v : V} {N : L2.St → Hp → Prop} (L : Lo C X H σ Γ) (r : Rep C.K X H d v) (hi : i < C.n) (e : Γ.set i (.imm d) = Γ') (h : ∀ σ', Lo C X H σ' Γ' → N σ' H) : gName i v σ H N := by
  subst e
  exact h _ (L.set r hi)
/-- a new object gets a name -/
theorem x_setN {p : Addr} {o : MO} {i : Nat} {N : L2.St → Hp → Prop} (L : Lo C X H σ (Γ ++ [.tmp p o])) (hi : i < C.n) (hl : i < Γ.length) (e : Γ.set i (.mu p o) = Γ') (h : ∀ σ', Lo C X H σ' Γ' → N σ' H) : gName i (.ref p) σ H N := by
  subst e
  exact h _ (L.name hi hl)
/-- two names at once -/
theorem x_par {i j : Nat} {ta : TA} {nx bk ct : L2.St → Hp → Prop} {rt : VK} (h : ta σ H (KPar i j σ nx)) : tPar i j ta ⟨nx, rt, bk, ct⟩ σ H := h
theorem x_par2 {x y : PyData} {i j : Nat} {v w : V} {N : L2.St → Hp → Prop} (L : Lo C X H σ Γ) (r : Rep C.K X H x v) (q : Rep C.K X H y w) (hi : i < C.n) (hj : j < C.n) (e : (Γ.set i (.imm x)).set j (.imm y) = Γ') (h : ∀ σ', Lo C X H σ' Γ' → N σ' H) :
    KPar i j σ N [v, w] H := by
  subst e
  exact ⟨v, w, rfl, h _ ((L.set r hi).set q hj)⟩
def KPar3 (i j l : Nat) (σ : L2.St) (N : L2.St → Hp → Prop) : List V → Hp → Prop := fun vs H => ∃ u v w, vs = [u, v, w] ∧ N (((σ.set i (some u)).set j (some v)).set l (some w)) H
theorem x_par3 {i j l : Nat} {ta : TA} {nx bk ct : L2.St → Hp → Prop} {rt : VK} (h : ta σ H (KPar3 i j l σ nx)) : tPar3 i j l ta ⟨nx, rt, bk, ct⟩ σ H := h
theorem x_par3r {x y z : PyData} {i j l : Nat} {u v w : V} {N : L2.St → Hp → Prop} (L : Lo C X H σ Γ) (r : Rep C.K X H x u) (q : Rep C.K X H y v) (t : Rep C.K X H z w) (hi : i < C.n) (hj : j < C.n) (hl : l < C.n) (e : ((Γ.set i (.imm x)).set j (.imm y)).set l (.imm z) = Γ') (h : ∀ σ', Lo C X H σ' Γ' → N σ' H) :
    KPar3 i j l σ N [u, v, w] H := by
  subst e
  exact ⟨u, v, w, rfl, h _ (((L.set r hi).set q hj).set t hl)⟩
/-- a tuple is parted to names -/
theorem x_gTup {ds : List PyData} {v : V} {n : Nat} {t : TGs} {N : L2.St → Hp → Prop} (r : Rep C.K X H (.tuple ds) v) (hl : ds.length = n) (h : ∀ vs, Reps C.K X H ds vs → t vs σ H N) : gTup C.K n t v σ H N := by
  obtain ⟨a, vs, rfl, hs, q⟩ := rep_tup r
  exact ⟨a, vs, rfl, hs, q.length.trans hl, h vs q⟩
theorem x_gCons {d : PyData} {ds : List PyData} {vs : List V} {t : TG} {u : TGs} {N : L2.St → Hp → Prop} (q : Reps C.K X H (d :: ds) vs) (h : ∀ v r, Rep C.K X H d v → Reps C.K X H ds r → t v σ H fun σ' H' => u r σ' H' N) : gCons t u vs σ H N := by
  cases q with | cons r t => exact ⟨_, _, rfl, h _ _ r t⟩
theorem x_gNil {vs : List V} {N : L2.St → Hp → Prop} (q : Reps C.K X H [] vs) (h : N σ H) : gNil vs σ H N := by
  cases q; exact ⟨rfl, h⟩
/-- an item of a list is written -/
theorem x_gSub {to ti : TE} {t : TSet} {v : V} {N : L2.St → Hp → Prop} (h : to σ H fun o H1 => ti σ H1 fun i H2 => t o i v H2 (N σ)) : gSub to ti t v σ H N := h
def setI (xs : List α) (i : Int) (x : α) : Option (List α) := (ixN xs.length i).map fun j => xs.set j x
theorem x_setI [Py α] {xs : List α} {x : α} {i : Int} {j : Nat} {p : Addr} {v : V} {N : Hp → Prop} {k : List α → Option ρ} {r : ρ} (L : Lo C X H σ Γ) (g : Γ[j]? = some (.mu p (ml xs))) (hm : (setI xs i x).bind k = some r) (q : Rep C.K X H (enc x) v)
    (h : ∀ ys H1, setI xs i x = some ys → k ys = some r → Lo C X H1 σ (Γ.set j (.mu p (ml ys))) → N H1) : rSetL (.ref p) (.int i) v H N := by
  obtain ⟨ys, e, hk⟩ := ob hm
  have e' := e
  unfold setI at e'
  obtain ⟨vs, hs, rs⟩ := L.mrep g
  have hl : vs.length = xs.length := by rw [rs.length, List.length_map]
  cases hj : ixN xs.length i with
  | none => rw [hj] at e'; cases e'
  | some m =>
    rw [hj] at e'
    have e2 : xs.set m x = ys := Option.some.inj e'
    refine ⟨p, vs, i, m, rfl, rfl, hs, by rw [hl]; exact hj, ?_⟩
    have hX : X p := L.mx p (mem_muts.mpr ⟨j, _, g, rfl⟩)
    have kp : Keep X H (upd H p (.lst (vs.set m v))) := ⟨fun a u h n => by rw [upd_ne (fun z => n (by rw [z]; exact hX))]; exact h, fun a us h => by rw [upd_ne (fun z => by rw [z, hs] at h; cases h)]; exact h, fun a u w h => by rw [upd_ne (fun z => by rw [z, hs] at h; cases h)]; exact h⟩
    have := L.wrote (H' := upd H p (.lst (vs.set m v))) (o := ml ys) g rfl (fun a u h n => by rw [upd_ne n]; exact h) (fun a h => by
      by_cases z : a = p
      · rw [z, upd_same]; exact fun y => nomatch y
      · rw [upd_ne z]; exact h) ⟨_, upd_same, by rw [← e2, List.map_set]; exact (rs.set q m).keep kp⟩
    exact h ys _ e hk this.1
end
open Py (enc)

/-- how a loop's turn ends: the next one, out of the loop, out of the def -/
inductive Lp (τ ρ : Type) where
  | nxt (s : τ)
  | brk (s : τ)
  | ret (r : ρ)
def loopL {α τ ρ : Type} (f : α → τ → Option (Lp τ ρ)) : List α → τ → Option (Lp τ ρ)
  | [], s => some (.nxt s)
  | x :: xs, s => (f x s).bind fun o => match o with
    | .nxt s' => loopL f xs s'
    | .brk s' => some (.brk s')
    | .ret r => some (.ret r)
/-- a loop that is left by its end alone -/
def foldO {α τ : Type} (f : α → τ → Option τ) : List α → τ → Option τ
  | [], s => some s
  | x :: xs, s => (f x s).bind fun s' => foldO f xs s'
def loopW {τ ρ : Type} (f : τ → Option (Lp τ ρ)) : Nat → τ → Option (Lp τ ρ)
  | 0, _ => none
  | n + 1, s => (f s).bind fun o => match o with
    | .nxt s' => loopW f n s'
    | .brk s' => some (.brk s')
    | .ret r => some (.ret r)
/-- a while without a break or a return -/
def whileO {τ : Type} (c : τ → Bool) (f : τ → Option τ) : Nat → τ → Option τ
  | 0, _ => none
  | n + 1, s => if c s = true then (f s).bind fun s' => whileO c f n s' else some s
def rangeL (lo : Int) (n : Nat) : List Int := (List.range n).map fun (k : Nat) => lo + (k : Int)

/-- what a loop told -/
def Lp.out {τ ρ ρ' : Type} (o : Lp τ ρ) (j : ρ → Option ρ') (k : τ → Option ρ') : Option ρ' := match o with
  | .nxt s => k s
  | .brk s => k s
  | .ret r => j r
/-- the rest of a loop, of a comprehension, by name -/
def KForL (K : PySem.W.Frag) (g : TG) (tb : TS) (D : Ends) (σ : L2.St) (v : V) (H : Hp) : Prop := ∃ a, v = V.ref a ∧ (∃ xs, SqL K H a xs) ∧ ∃ W : Nat → Nat → L2.St → Hp → Prop, (∃ m, W 0 m σ H) ∧ ∀ i m σ H, W i m σ H →
      ((Itl K a).stop i H ∧ D.nx σ H) ∨ ((Itl K a).go i H ∧ ∃ N : L2.St → Hp → Prop, (∀ σ' H', N σ' H' → ∃ m', m' < m ∧ W (i + 1) m' σ' H') ∧ ∀ x H', (Itl K a).yld i H x H' → g x σ H' fun σ2 H2 => tb { D with nx := N, ct := N, bk := D.nx } σ2 H2)
def KForT (K : PySem.W.Frag) (g : TG) (tb : TS) (D : Ends) (σ : L2.St) (v : V) (H : Hp) : Prop := ∃ a, v = V.ref a ∧ (∃ xs, SqT K H a xs) ∧ ∃ W : Nat → Nat → L2.St → Hp → Prop, (∃ m, W 0 m σ H) ∧ ∀ i m σ H, W i m σ H →
      ((Itt K a).stop i H ∧ D.nx σ H) ∨ ((Itt K a).go i H ∧ ∃ N : L2.St → Hp → Prop, (∀ σ' H', N σ' H' → ∃ m', m' < m ∧ W (i + 1) m' σ' H') ∧ ∀ x H', (Itt K a).yld i H x H' → g x σ H' fun σ2 H2 => tb { D with nx := N, ct := N, bk := D.nx } σ2 H2)
def KForR (lo : Int) (n : Nat) (g : TG) (tb : TS) (D : Ends) (σ : L2.St) (H : Hp) : Prop := ∃ W : Nat → Nat → L2.St → Hp → Prop, (∃ m, W 0 m σ H) ∧ ∀ i m σ H, W i m σ H →
      ((Itr lo n).stop i H ∧ D.nx σ H) ∨ ((Itr lo n).go i H ∧ ∃ N : L2.St → Hp → Prop, (∀ σ' H', N σ' H' → ∃ m', m' < m ∧ W (i + 1) m' σ' H') ∧ ∀ x H', (Itr lo n).yld i H x H' → g x σ H' fun σ2 H2 => tb { D with nx := N, ct := N, bk := D.nx } σ2 H2)
def KWh (tb : TS) (D : Ends) (σ : L2.St) : Bool → Hp → Prop := fun b H => if b = true then tb D σ H else D.bk σ H
def KRng1 (R : Int → Nat → Hp → Prop) : List V → Hp → Prop := fun vs H => ∃ j : Int, vs = [.int j] ∧ -(2 ^ 62) ≤ j ∧ j < 2 ^ 62 ∧ R 0 j.toNat H
def KRng2 (R : Int → Nat → Hp → Prop) : List V → Hp → Prop := fun vs H => ∃ i j : Int, vs = [.int i, .int j] ∧ (-(2 ^ 62) ≤ i ∧ i < 2 ^ 62 ∧ -(2 ^ 62) ≤ j ∧ j < 2 ^ 62) ∧ R i (j - i).toNat H
theorem x_whIf {tb : TS} {nx bk ct : L2.St → Hp → Prop} {rt : VK} {σ : L2.St} {H : Hp} {ρ : Type} {c : Bool} {mA mB : Option ρ} {r : ρ} (hm : (if c = true then mA else mB) = some r) (hA : mA = some r → tb ⟨nx, rt, bk, ct⟩ σ H) (hB : mB = some r → bk σ H) : KWh tb ⟨nx, rt, bk, ct⟩ σ c H := by
  cases c with
  | true => exact hA hm
  | false => exact hB hm
section
variable {C : Cn} {X : Addr → Prop} {H : Hp} {σ : L2.St} {Γ Γ' : List Sl} {Q : VK} {α β τ ρ : Type}
theorem loop_drop {f : α → τ → Option (Lp τ ρ)} {xs : List α} {i : Nat} {x : α} {s : τ} {o : Lp τ ρ} (hx : xs[i]? = some x) (h : loopL f (xs.drop i) s = some o) :
    ∃ o1, f x s = some o1 ∧ (∀ s', o1 = .nxt s' → loopL f (xs.drop (i + 1)) s' = some o) ∧ (∀ s', o1 = .brk s' → o = .brk s') ∧ (∀ r, o1 = .ret r → o = .ret r) := by
  obtain ⟨hl, hx⟩ := List.getElem?_eq_some_iff.mp hx
  rw [List.drop_eq_getElem_cons hl, hx] at h
  obtain ⟨o1, h1, h2⟩ := ob h
  refine ⟨o1, h1, fun s' e => ?_, fun s' e => ?_, fun r e => ?_⟩
  · subst e; exact h2
  · subst e; exact (Option.some.inj h2).symm
  · subst e; exact (Option.some.inj h2).symm
/-- what a loop's body shows of one turn -/
def Body (C : Cn) (X : Addr → Prop) (G : τ → List Sl) (ps : ρ → List (Addr × MO)) (rs : ρ → Rs) (d : PyData) (s : τ) (o : Option (Lp τ ρ)) (g : TG) (tb : TS) : Prop :=
  ∀ (H : Hp) (σ : L2.St) (u : V) (nx : L2.St → Hp → Prop) (rt : VK) (bk ct : L2.St → Hp → Prop) (o1 : Lp τ ρ), o = some o1 → Lo ⟨C.K, X, H, muts (G s), C.n⟩ X H σ (G s) → (∀ a, C.H0 a ≠ none → H a ≠ none) → Rep C.K X H d u →
    (∀ s', o1 = .nxt s' → ∀ X' σ' H', Lo ⟨C.K, X, H, muts (G s), C.n⟩ X' H' σ' (G s') → nx σ' H') →
    (∀ s', o1 = .nxt s' → ∀ X' σ' H', Lo ⟨C.K, X, H, muts (G s), C.n⟩ X' H' σ' (G s') → ct σ' H') →
    (∀ s', o1 = .brk s' → ∀ X' σ' H', Lo ⟨C.K, X, H, muts (G s), C.n⟩ X' H' σ' (G s') → bk σ' H') →
    (∀ r, o1 = .ret r → ∀ v H', Fin C.K X H (muts (G s)) (ps r) (rs r) v H' → rt v H') → g u σ H fun σ2 H2 => tb ⟨nx, rt, bk, ct⟩ σ2 H2
theorem x_for [Py α] {xs : List α} {f : α → τ → Option (Lp τ ρ)} {G : τ → List Sl} {ps : ρ → List (Addr × MO)} {rs : ρ → Rs} {s0 : τ} {o : Lp τ ρ} {v : V} {g : TG} {tb : TS} {nx bk ct : L2.St → Hp → Prop} {rt : VK}
    (L : Lo C X H σ (G s0)) (hG : ∀ s s', muts (G s) = muts (G s')) (r : Rep C.K X H (enc xs) v) (hm : loopL f xs s0 = some o)
    (body : ∀ x s, Body C X G ps rs (enc x) s (f x s) g tb)
    (done : ∀ s, o = .nxt s → ∀ σ' H', Lo C X H' σ' (G s) → nx σ' H') (brk : ∀ s, o = .brk s → ∀ σ' H', Lo C X H' σ' (G s) → nx σ' H')
    (ret : ∀ q, o = .ret q → ∀ v H', Fin C.K C.X0 C.H0 C.P0 (ps q) (rs q) v H' → rt v H') :
    KForL C.K g tb ⟨nx, rt, bk, ct⟩ σ v H := by
  obtain ⟨a, vs, rfl, hna, hrd, hrs⟩ := rep_lst (ds := xs.map enc) r
  refine ⟨a, rfl, ⟨vs, .inl hrd⟩, for_list (K := C.K) (a := a) (xs := vs) (fun i σ' H' => ∃ s, Lo C X H' σ' (G s) ∧ Rep C.K X H' (enc xs) (.ref a) ∧ Rd H' a (.lst vs) ∧ loopL f (xs.drop i) s = some o)
    ⟨s0, L, r, hrd, hm⟩ (fun i σ' H' _ ⟨s, _, _, h, _⟩ => .inl h) ?_ ?_⟩
  · rintro i y σ' H' hy ⟨s, L', r', hd', hm'⟩
    obtain ⟨a', vs', e', _, hrd', hrs'⟩ := rep_lst (ds := xs.map enc) r'
    cases e'
    have ev : vs' = vs := by
      rcases hd' with h1 | ⟨_, h1⟩ <;> rcases hrd' with h2 | ⟨_, h2⟩ <;> rw [h1] at h2 <;> cases h2 <;> rfl
    subst ev
    obtain ⟨d, hd, rd⟩ := hrs'.get' hy
    rw [List.getElem?_map] at hd
    cases hx : xs[i]? with
    | none => rw [hx] at hd; cases hd
    | some x =>
      rw [hx] at hd
      cases hd
      obtain ⟨o1, h1, h2, h3, h4⟩ := loop_drop hx hm'
      refine body x s H' σ' y _ _ _ _ o1 h1 L'.enter L'.dom rd ?_ ?_ ?_ ?_
      · intro s' e X' σ'' H'' L''
        have k := L'.keep L''
        exact ⟨s', L'.leave L'' (hG _ _), r'.keep k, k.rd hna hrd', h2 s' e⟩
      · intro s' e X' σ'' H'' L''
        have k := L'.keep L''
        exact ⟨s', L'.leave L'' (hG _ _), r'.keep k, k.rd hna hrd', h2 s' e⟩
      · intro s' e X' σ'' H'' L''
        exact brk s' (h3 s' e) _ _ (L'.leave L'' (hG _ _))
      · intro q e v' H'' F
        exact ret q (h4 q e) v' H'' (F.leave L')
  · rintro σ' H' ⟨s, L', _, _, hm'⟩
    rw [hrs.length, List.length_map, List.drop_length] at hm'
    exact done s (Option.some.inj hm').symm _ _ L'
/-- .. over a tuple of such items -/
theorem x_forT [Py α] {xs : List α} {f : α → τ → Option (Lp τ ρ)} {G : τ → List Sl} {ps : ρ → List (Addr × MO)} {rs : ρ → Rs} {s0 : τ} {o : Lp τ ρ} {v : V} {g : TG} {tb : TS} {nx bk ct : L2.St → Hp → Prop} {rt : VK}
    (L : Lo C X H σ (G s0)) (hG : ∀ s s', muts (G s) = muts (G s')) (r : Rep C.K X H (.tuple (xs.map enc)) v) (hm : loopL f xs s0 = some o)
    (body : ∀ x s, Body C X G ps rs (enc x) s (f x s) g tb)
    (done : ∀ s, o = .nxt s → ∀ σ' H', Lo C X H' σ' (G s) → nx σ' H') (brk : ∀ s, o = .brk s → ∀ σ' H', Lo C X H' σ' (G s) → nx σ' H')
    (ret : ∀ q, o = .ret q → ∀ v H', Fin C.K C.X0 C.H0 C.P0 (ps q) (rs q) v H' → rt v H') :
    KForT C.K g tb ⟨nx, rt, bk, ct⟩ σ v H := by
  obtain ⟨a, vs, rfl, hrd, hrs⟩ := rep_tup r
  refine ⟨a, rfl, ⟨vs, hrd⟩, for_tup (K := C.K) (a := a) (xs := vs) (fun i σ' H' => ∃ s, Lo C X H' σ' (G s) ∧ SqT C.K H' a vs ∧ Reps C.K X H' (xs.map enc) vs ∧ loopL f (xs.drop i) s = some o)
    ⟨s0, L, hrd, hrs, hm⟩ (fun i σ' H' _ ⟨s, _, h, _⟩ => h) ?_ ?_⟩
  · rintro i y σ' H' hy ⟨s, L', hrd', hrs', hm'⟩
    obtain ⟨d, hd, rd⟩ := hrs'.get' hy
    rw [List.getElem?_map] at hd
    cases hx : xs[i]? with
    | none => rw [hx] at hd; cases hd
    | some x =>
      rw [hx] at hd
      cases hd
      obtain ⟨o1, h1, h2, h3, h4⟩ := loop_drop hx hm'
      refine body x s H' σ' y _ _ _ _ o1 h1 L'.enter L'.dom rd ?_ ?_ ?_ ?_
      · intro s' e X' σ'' H'' L''
        have k := L'.keep L''
        exact ⟨s', L'.leave L'' (hG _ _), k.sqT hrd', hrs'.keep k, h2 s' e⟩
      · intro s' e X' σ'' H'' L''
        have k := L'.keep L''
        exact ⟨s', L'.leave L'' (hG _ _), k.sqT hrd', hrs'.keep k, h2 s' e⟩
      · intro s' e X' σ'' H'' L''
        exact brk s' (h3 s' e) _ _ (L'.leave L'' (hG _ _))
      · intro q e v' H'' F
        exact ret q (h4 q e) v' H'' (F.leave L')
  · rintro σ' H' ⟨s, L', _, _, hm'⟩
    rw [hrs.length, List.length_map, List.drop_length] at hm'
    exact done s (Option.some.inj hm').symm _ _ L'
theorem rangeL_get {lo : Int} {n i : Nat} (h : i < n) : (rangeL lo n)[i]? = some (lo + (i : Int)) := by
  unfold rangeL
  rw [List.getElem?_map, List.getElem?_range h]
  rfl
/-- .. over a range -/
theorem x_forR {f : Int → τ → Option (Lp τ ρ)} {G : τ → List Sl} {ps : ρ → List (Addr × MO)} {rs : ρ → Rs} {s0 : τ} {o : Lp τ ρ} {lo : Int} {n : Nat} {g : TG} {tb : TS} {nx bk ct : L2.St → Hp → Prop} {rt : VK}
    (L : Lo C X H σ (G s0)) (hG : ∀ s s', muts (G s) = muts (G s')) (hm : loopL f (rangeL lo n) s0 = some o)
    (body : ∀ x s, Body C X G ps rs (enc x) s (f x s) g tb)
    (done : ∀ s, o = .nxt s → ∀ σ' H', Lo C X H' σ' (G s) → nx σ' H') (brk : ∀ s, o = .brk s → ∀ σ' H', Lo C X H' σ' (G s) → nx σ' H')
    (ret : ∀ q, o = .ret q → ∀ v H', Fin C.K C.X0 C.H0 C.P0 (ps q) (rs q) v H' → rt v H') :
    KForR lo n g tb ⟨nx, rt, bk, ct⟩ σ H := by
  refine for_range (fun i σ' H' => ∃ s, Lo C X H' σ' (G s) ∧ loopL f ((rangeL lo n).drop i) s = some o) ⟨s0, L, hm⟩ ?_ ?_
  · rintro i σ' H' hi ⟨s, L', hm'⟩
    obtain ⟨o1, h1, h2, h3, h4⟩ := loop_drop (rangeL_get hi) hm'
    refine body (lo + (i : Int)) s H' σ' _ _ _ _ _ o1 h1 L'.enter L'.dom (.int _) ?_ ?_ ?_ ?_
    · intro s' e X' σ'' H'' L''
      exact ⟨s', L'.leave L'' (hG _ _), h2 s' e⟩
    · intro s' e X' σ'' H'' L''
      exact ⟨s', L'.leave L'' (hG _ _), h2 s' e⟩
    · intro s' e X' σ'' H'' L''
      exact brk s' (h3 s' e) _ _ (L'.leave L'' (hG _ _))
    · intro q e v' H'' F
      exact ret q (h4 q e) v' H'' (F.leave L')
  · rintro σ' H' ⟨s, L', hm'⟩
    have hl : (rangeL lo n).length = n := by unfold rangeL; rw [List.length_map, List.length_range]
    have : (rangeL lo n).drop n = [] := List.drop_eq_nil_of_le (by omega)
    rw [this] at hm'
    exact done s (Option.some.inj hm').symm _ _ L'
/-- .. over the script -/
theorem x_forS {xs : List Int} {f : Int → τ → Option (Lp τ ρ)} {G : τ → List Sl} {ps : ρ → List (Addr × MO)} {rs : ρ → Rs} {s0 : τ} {o : Lp τ ρ} {v : V} {g : TG} {tb : TS} {nx bk ct : L2.St → Hp → Prop} {rt : VK}
    (L : Lo C X H σ (G s0)) (hG : ∀ s s', muts (G s) = muts (G s')) (r : SqX C.K X H xs v) (hm : loopL f xs s0 = some o)
    (body : ∀ x s, Body C X G ps rs (enc x) s (f x s) g tb)
    (done : ∀ s, o = .nxt s → ∀ σ' H', Lo C X H' σ' (G s) → nx σ' H') (brk : ∀ s, o = .brk s → ∀ σ' H', Lo C X H' σ' (G s) → nx σ' H')
    (ret : ∀ q, o = .ret q → ∀ v H', Fin C.K C.X0 C.H0 C.P0 (ps q) (rs q) v H' → rt v H') :
    KForL C.K g tb ⟨nx, rt, bk, ct⟩ σ v H := by
  obtain ⟨a, rfl, hs⟩ := r.sq
  refine ⟨a, rfl, ⟨_, hs⟩, for_list (K := C.K) (a := a) (xs := xs.map V.int) (fun i σ' H' => ∃ s, Lo C X H' σ' (G s) ∧ SqX C.K X H' xs (.ref a) ∧ loopL f (xs.drop i) s = some o)
    ⟨s0, L, r, hm⟩ (fun i σ' H' _ ⟨s, _, h, _⟩ => by obtain ⟨a', e, h⟩ := h.sq; cases e; exact h) ?_ ?_⟩
  · rintro i y σ' H' hy ⟨s, L', r', hm'⟩
    rw [List.getElem?_map] at hy
    cases hx : xs[i]? with
    | none => rw [hx] at hy; cases hy
    | some x =>
      rw [hx] at hy
      cases hy
      obtain ⟨o1, h1, h2, h3, h4⟩ := loop_drop hx hm'
      refine body x s H' σ' _ _ _ _ _ o1 h1 L'.enter L'.dom (.int _) ?_ ?_ ?_ ?_
      · intro s' e X' σ'' H'' L''
        exact ⟨s', L'.leave L'' (hG _ _), r'.keep (L'.keep L''), h2 s' e⟩
      · intro s' e X' σ'' H'' L''
        exact ⟨s', L'.leave L'' (hG _ _), r'.keep (L'.keep L''), h2 s' e⟩
      · intro s' e X' σ'' H'' L''
        exact brk s' (h3 s' e) _ _ (L'.leave L'' (hG _ _))
      · intro q e v' H'' F
        exact ret q (h4 q e) v' H'' (F.leave L')
  · rintro σ' H' ⟨s, L', _, hm'⟩
    rw [List.length_map, List.drop_length] at hm'
    exact done s (Option.some.inj hm').symm _ _ L'
/-- a while: f runs the test, too, and tells brk where it is not so -/
theorem x_while {f : τ → Option (Lp τ ρ)} {G : τ → List Sl} {ps : ρ → List (Addr × MO)} {rs : ρ → Rs} {s0 : τ} {o : Lp τ ρ} {n : Nat} {c : TT} {tb : TS} {nx bk ct : L2.St → Hp → Prop} {rt : VK}
    (L : Lo C X H σ (G s0)) (hG : ∀ s s', muts (G s) = muts (G s')) (hm : loopW f n s0 = some o)
    (body : ∀ s, ∀ (H : Hp) (σ : L2.St) (nx : L2.St → Hp → Prop) (rt : VK) (bk ct : L2.St → Hp → Prop) (o1 : Lp τ ρ), f s = some o1 → Lo ⟨C.K, X, H, muts (G s), C.n⟩ X H σ (G s) → (∀ a, C.H0 a ≠ none → H a ≠ none) →
      (∀ s', o1 = .nxt s' → ∀ X' σ' H', Lo ⟨C.K, X, H, muts (G s), C.n⟩ X' H' σ' (G s') → nx σ' H') →
      (∀ s', o1 = .nxt s' → ∀ X' σ' H', Lo ⟨C.K, X, H, muts (G s), C.n⟩ X' H' σ' (G s') → ct σ' H') →
      (∀ s', o1 = .brk s' → ∀ X' σ' H', Lo ⟨C.K, X, H, muts (G s), C.n⟩ X' H' σ' (G s') → bk σ' H') →
      (∀ r, o1 = .ret r → ∀ v H', Fin C.K X H (muts (G s)) (ps r) (rs r) v H' → rt v H') →
      ∀ Qc : Bool → Hp → Prop, (∀ b H1, KWh tb ⟨nx, rt, bk, ct⟩ σ b H1 → Qc b H1) → c σ H Qc)
    (done : ∀ s, o = .brk s → ∀ σ' H', Lo C X H' σ' (G s) → nx σ' H')
    (ret : ∀ q, o = .ret q → ∀ v H', Fin C.K C.X0 C.H0 C.P0 (ps q) (rs q) v H' → rt v H') : tWhile c tb ⟨nx, rt, bk, ct⟩ σ H := by
  refine ⟨fun m σ' H' => ∃ s, Lo C X H' σ' (G s) ∧ loopW f m s = some o, ⟨n, s0, L, hm⟩, ?_⟩
  rintro m σ' H' ⟨s, L', hm'⟩
  cases m with
  | zero => cases hm'
  | succ m =>
    obtain ⟨o1, h1, h2⟩ := ob hm'
    refine body s H' σ' (fun σ' H' => ∃ s, Lo C X H' σ' (G s) ∧ loopW f m s = some o) rt nx (fun σ' H' => ∃ s, Lo C X H' σ' (G s) ∧ loopW f m s = some o) o1 h1 L'.enter L'.dom ?_ ?_ ?_ ?_ _ ?_
    · intro s' e X' σ'' H'' L''
      subst e
      exact ⟨s', L'.leave L'' (hG _ _), h2⟩
    · intro s' e X' σ'' H'' L''
      subst e
      exact ⟨s', L'.leave L'' (hG _ _), h2⟩
    · intro s' e X' σ'' H'' L''
      subst e
      exact done s' (Option.some.inj h2).symm _ _ (L'.leave L'' (hG _ _))
    · intro q e v' H'' F
      subst e
      exact ret q (Option.some.inj h2).symm v' H'' (F.leave L')
    · intro b H1 q
      cases b with
      | true => exact ⟨fun σ' H' => ∃ s, Lo C X H' σ' (G s) ∧ loopW f m s = some o, fun σ1 H1 ⟨s1, L1, h⟩ => ⟨m, Nat.lt_succ_self _, s1, L1, h⟩, q⟩
      | false => exact q


/-! ### loops, with what stands behind them -/
def BodyO (C : Cn) (X : Addr → Prop) (G : τ → List Sl) (d : PyData) (s : τ) (o : Option τ) (g : TG) (tb : TS) : Prop :=
  ∀ (H : Hp) (σ : L2.St) (u : V) (nx : L2.St → Hp → Prop) (rt : VK) (bk ct : L2.St → Hp → Prop) (s1 : τ), o = some s1 → Lo ⟨C.K, X, H, muts (G s), C.n⟩ X H σ (G s) → (∀ a, C.H0 a ≠ none → H a ≠ none) → Rep C.K X H d u →
    (∀ X' σ' H', Lo ⟨C.K, X, H, muts (G s), C.n⟩ X' H' σ' (G s1) → nx σ' H') →
    (∀ X' σ' H', Lo ⟨C.K, X, H, muts (G s), C.n⟩ X' H' σ' (G s1) → ct σ' H') → g u σ H fun σ2 H2 => tb ⟨nx, rt, bk, ct⟩ σ2 H2
theorem foldO_loop {f : α → τ → Option τ} : ∀ {xs : List α} {s s' : τ}, foldO f xs s = some s' → loopL (ρ := Empty) (fun x s => (f x s).bind fun s => some (.nxt s)) xs s = some (.nxt s')
  | [], s, s', h => by cases h; rfl
  | x :: xs, s, s', h => by
    obtain ⟨t, h1, h2⟩ := ob h
    show ((f x s).bind fun s => some (Lp.nxt (ρ := Empty) s)).bind _ = _
    rw [h1]
    exact foldO_loop h2
theorem BodyO.body {G : τ → List Sl} {d : PyData} {s : τ} {o : Option τ} {g : TG} {tb : TS} (b : BodyO C X G d s o g tb) : Body (ρ := Empty) C X G (fun _ => []) (fun _ => .imm .none) d s (o.bind fun s => some (.nxt s)) g tb := by
  intro H σ u nx rt bk ct o1 hm L hd r hN hC hB hR
  obtain ⟨s1, h1, h2⟩ := ob hm
  cases h2
  exact b H σ u nx rt bk ct s1 h1 L hd r (hN s1 rfl) (hC s1 rfl)
theorem x_foL [Py α] {xs : List α} {f : α → τ → Option τ} {G : τ → List Sl} {s0 : τ} {v : V} {g : TG} {tb : TS} {nx bk ct : L2.St → Hp → Prop} {rt : VK} {k : τ → Option ρ} {res : ρ}
    (L : Lo C X H σ (G s0)) (hG : ∀ s s', muts (G s) = muts (G s')) (r : Rep C.K X H (enc xs) v) (hm : (foldO f xs s0).bind k = some res)
    (body : ∀ x s, BodyO C X G (enc x) s (f x s) g tb) (done : ∀ s σ' H', k s = some res → Lo C X H' σ' (G s) → nx σ' H') : KForL C.K g tb ⟨nx, rt, bk, ct⟩ σ v H := by
  obtain ⟨s1, h1, h2⟩ := ob hm
  exact x_for (ρ := Empty) (o := .nxt s1) (ps := fun _ => []) (rs := fun _ => .imm .none) L hG r (foldO_loop h1) (fun x s => (body x s).body) (fun s e σ' H' L' => by cases e; exact done _ _ _ h2 L') (fun s e => nomatch e) (fun q => nomatch q)
theorem x_flL [Py α] {xs : List α} {f : α → τ → Option (Lp τ ρ)} {G : τ → List Sl} {ps : ρ → List (Addr × MO)} {rs : ρ → Rs} {s0 : τ} {v : V} {g : TG} {tb : TS} {nx bk ct : L2.St → Hp → Prop} {rt : VK} {k : τ → Option β} {j : ρ → Option β} {res : β}
    (L : Lo C X H σ (G s0)) (hG : ∀ s s', muts (G s) = muts (G s')) (r : Rep C.K X H (enc xs) v) (hm : (loopL f xs s0).bind (fun o => o.out j k) = some res)
    (body : ∀ x s, Body C X G ps rs (enc x) s (f x s) g tb) (done : ∀ s σ' H', k s = some res → Lo C X H' σ' (G s) → nx σ' H')
    (ret : ∀ q v H', j q = some res → Fin C.K C.X0 C.H0 C.P0 (ps q) (rs q) v H' → rt v H') : KForL C.K g tb ⟨nx, rt, bk, ct⟩ σ v H := by
  obtain ⟨o, h1, h2⟩ := ob hm
  exact x_for L hG r h1 body (fun s e σ' H' L' => done _ _ _ (by rw [e] at h2; exact h2) L') (fun s e σ' H' L' => done _ _ _ (by rw [e] at h2; exact h2) L') (fun q e v H' F => ret _ _ _ (by rw [e] at h2; exact h2) F)
theorem x_foT [Py α] {xs : List α} {f : α → τ → Option τ} {G : τ → List Sl} {s0 : τ} {v : V} {g : TG} {tb : TS} {nx bk ct : L2.St → Hp → Prop} {rt : VK} {k : τ → Option ρ} {res : ρ}
    (L : Lo C X H σ (G s0)) (hG : ∀ s s', muts (G s) = muts (G s')) (r : Rep C.K X H (.tuple (xs.map enc)) v) (hm : (foldO f xs s0).bind k = some res)
    (body : ∀ x s, BodyO C X G (enc x) s (f x s) g tb) (done : ∀ s σ' H', k s = some res → Lo C X H' σ' (G s) → nx σ' H') : KForT C.K g tb ⟨nx, rt, bk, ct⟩ σ v H := by
  obtain ⟨s1, h1, h2⟩ := ob hm
  exact x_forT (ρ := Empty) (o := .nxt s1) (ps := fun _ => []) (rs := fun _ => .imm .none) L hG r (foldO_loop h1) (fun x s => (body x s).body) (fun s e σ' H' L' => by cases e; exact done _ _ _ h2 L') (fun s e => nomatch e) (fun q => nomatch q)
theorem x_flT [Py α] {xs : List α} {f : α → τ → Option (Lp τ ρ)} {G : τ → List Sl} {ps : ρ → List (Addr × MO)} {rs : ρ → Rs} {s0 : τ} {v : V} {g : TG} {tb : TS} {nx bk ct : L2.St → Hp → Prop} {rt : VK} {k : τ → Option β} {j : ρ → Option β} {res : β}
    (L : Lo C X H σ (G s0)) (hG : ∀ s s', muts (G s) = muts (G s')) (r : Rep C.K X H (.tuple (xs.map enc)) v) (hm : (loopL f xs s0).bind (fun o => o.out j k) = some res)
    (body : ∀ x s, Body C X G ps rs (enc x) s (f x s) g tb) (done : ∀ s σ' H', k s = some res → Lo C X H' σ' (G s) → nx σ' H')
    (ret : ∀ q v H', j q = some res → Fin C.K C.X0 C.H0 C.P0 (ps q) (rs q) v H' → rt v H') : KForT C.K g tb ⟨nx, rt, bk, ct⟩ σ v H := by
  obtain ⟨o, h1, h2⟩ := ob hm
  exact x_forT L hG r h1 body (fun s e σ' H' L' => done _ _ _ (by rw [e] at h2; exact h2) L') (fun s e σ' H' L' => done _ _ _ (by rw [e] at h2; exact h2) L') (fun q e v H' F => ret _ _ _ (by rw [e] at h2; exact h2) F)
theorem x_foS {xs : List Int} {f : Int → τ → Option τ} {G : τ → List Sl} {s0 : τ} {v : V} {g : TG} {tb : TS} {nx bk ct : L2.St → Hp → Prop} {rt : VK} {k : τ → Option ρ} {res : ρ}
    (L : Lo C X H σ (G s0)) (hG : ∀ s s', muts (G s) = muts (G s')) (r : SqX C.K X H xs v) (hm : (foldO f xs s0).bind k = some res)
    (body : ∀ x s, BodyO C X G (enc x) s (f x s) g tb) (done : ∀ s σ' H', k s = some res → Lo C X H' σ' (G s) → nx σ' H') : KForL C.K g tb ⟨nx, rt, bk, ct⟩ σ v H := by
  obtain ⟨s1, h1, h2⟩ := ob hm
  exact x_forS (ρ := Empty) (o := .nxt s1) (ps := fun _ => []) (rs := fun _ => .imm .none) L hG r (foldO_loop h1) (fun x s => (body x s).body) (fun s e σ' H' L' => by cases e; exact done _ _ _ h2 L') (fun s e => nomatch e) (fun q => nomatch q)
theorem x_flS {xs : List Int} {f : Int → τ → Option (Lp τ ρ)} {G : τ → List Sl} {ps : ρ → List (Addr × MO)} {rs : ρ → Rs} {s0 : τ} {v : V} {g : TG} {tb : TS} {nx bk ct : L2.St → Hp → Prop} {rt : VK} {k : τ → Option β} {j : ρ → Option β} {res : β}
    (L : Lo C X H σ (G s0)) (hG : ∀ s s', muts (G s) = muts (G s')) (r : SqX C.K X H xs v) (hm : (loopL f xs s0).bind (fun o => o.out j k) = some res)
    (body : ∀ x s, Body C X G ps rs (enc x) s (f x s) g tb) (done : ∀ s σ' H', k s = some res → Lo C X H' σ' (G s) → nx σ' H')
    (ret : ∀ q v H', j q = some res → Fin C.K C.X0 C.H0 C.P0 (ps q) (rs q) v H' → rt v H') : KForL C.K g tb ⟨nx, rt, bk, ct⟩ σ v H := by
  obtain ⟨o, h1, h2⟩ := ob hm
  exact x_forS L hG r h1 body (fun s e σ' H' L' => done _ _ _ (by rw [e] at h2; exact h2) L') (fun s e σ' H' L' => done _ _ _ (by rw [e] at h2; exact h2) L') (fun q e v H' F => ret _ _ _ (by rw [e] at h2; exact h2) F)
theorem x_foR {f : Int → τ → Option τ} {G : τ → List Sl} {s0 : τ} {lo : Int} {n : Nat} {g : TG} {tb : TS} {nx bk ct : L2.St → Hp → Prop} {rt : VK} {k : τ → Option ρ} {res : ρ}
    (L : Lo C X H σ (G s0)) (hG : ∀ s s', muts (G s) = muts (G s')) (hm : (foldO f (rangeL lo n) s0).bind k = some res)
    (body : ∀ x s, BodyO C X G (enc x) s (f x s) g tb) (done : ∀ s σ' H', k s = some res → Lo C X H' σ' (G s) → nx σ' H') : KForR lo n g tb ⟨nx, rt, bk, ct⟩ σ H := by
  obtain ⟨s1, h1, h2⟩ := ob hm
  exact x_forR (ρ := Empty) (o := .nxt s1) (ps := fun _ => []) (rs := fun _ => .imm .none) L hG (foldO_loop h1) (fun x s => (body x s).body) (fun s e σ' H' L' => by cases e; exact done _ _ _ h2 L') (fun s e => nomatch e) (fun q => nomatch q)
theorem x_flR {f : Int → τ → Option (Lp τ ρ)} {G : τ → List Sl} {ps : ρ → List (Addr × MO)} {rs : ρ → Rs} {s0 : τ} {lo : Int} {n : Nat} {g : TG} {tb : TS} {nx bk ct : L2.St → Hp → Prop} {rt : VK} {k : τ → Option β} {j : ρ → Option β} {res : β}
    (L : Lo C X H σ (G s0)) (hG : ∀ s s', muts (G s) = muts (G s')) (hm : (loopL f (rangeL lo n) s0).bind (fun o => o.out j k) = some res)
    (body : ∀ x s, Body C X G ps rs (enc x) s (f x s) g tb) (done : ∀ s σ' H', k s = some res → Lo C X H' σ' (G s) → nx σ' H')
    (ret : ∀ q v H', j q = some res → Fin C.K C.X0 C.H0 C.P0 (ps q) (rs q) v H' → rt v H') : KForR lo n g tb ⟨nx, rt, bk, ct⟩ σ H := by
  obtain ⟨o, h1, h2⟩ := ob hm
  exact x_forR L hG h1 body (fun s e σ' H' L' => done _ _ _ (by rw [e] at h2; exact h2) L') (fun s e σ' H' L' => done _ _ _ (by rw [e] at h2; exact h2) L') (fun q e v H' F => ret _ _ _ (by rw [e] at h2; exact h2) F)
def BodyW (C : Cn) (X : Addr → Prop) (G : τ → List Sl) (ps : ρ → List (Addr × MO)) (rs : ρ → Rs) (s : τ) (o : Option (Lp τ ρ)) (c : TT) (tb : TS) : Prop :=
  ∀ (H : Hp) (σ : L2.St) (nx : L2.St → Hp → Prop) (rt : VK) (bk ct : L2.St → Hp → Prop) (o1 : Lp τ ρ), o = some o1 → Lo ⟨C.K, X, H, muts (G s), C.n⟩ X H σ (G s) → (∀ a, C.H0 a ≠ none → H a ≠ none) →
    (∀ s', o1 = .nxt s' → ∀ X' σ' H', Lo ⟨C.K, X, H, muts (G s), C.n⟩ X' H' σ' (G s') → nx σ' H') →
    (∀ s', o1 = .nxt s' → ∀ X' σ' H', Lo ⟨C.K, X, H, muts (G s), C.n⟩ X' H' σ' (G s') → ct σ' H') →
    (∀ s', o1 = .brk s' → ∀ X' σ' H', Lo ⟨C.K, X, H, muts (G s), C.n⟩ X' H' σ' (G s') → bk σ' H') →
    (∀ r, o1 = .ret r → ∀ v H', Fin C.K X H (muts (G s)) (ps r) (rs r) v H' → rt v H') →
    ∀ Qc : Bool → Hp → Prop, (∀ b H1, KWh tb ⟨nx, rt, bk, ct⟩ σ b H1 → Qc b H1) → c σ H Qc
theorem x_wh {f : τ → Option (Lp τ ρ)} {G : τ → List Sl} {ps : ρ → List (Addr × MO)} {rs : ρ → Rs} {s0 : τ} {n : Nat} {c : TT} {tb : TS} {nx bk ct : L2.St → Hp → Prop} {rt : VK} {k : τ → Option β} {j : ρ → Option β} {res : β}
    (L : Lo C X H σ (G s0)) (hG : ∀ s s', muts (G s) = muts (G s')) (hm : (loopW f n s0).bind (fun o => o.out j k) = some res)
    (body : ∀ s, BodyW C X G ps rs s (f s) c tb) (done : ∀ s σ' H', k s = some res → Lo C X H' σ' (G s) → nx σ' H')
    (ret : ∀ q v H', j q = some res → Fin C.K C.X0 C.H0 C.P0 (ps q) (rs q) v H' → rt v H') : tWhile c tb ⟨nx, rt, bk, ct⟩ σ H := by
  obtain ⟨o, h1, h2⟩ := ob hm
  refine x_while L hG h1 body (fun s e σ' H' L' => done _ _ _ (by rw [e] at h2; exact h2) L') (fun q e v H' F => ret _ _ _ (by rw [e] at h2; exact h2) F)
/-- the heads of loops -/
theorem x_tforL {te : TE} {g : TG} {tb : TS} {D : Ends} {K : PySem.W.Frag} (h : te σ H (KForL K g tb D σ)) : tFor (iList K te) g tb D σ H := h
theorem x_tforT {te : TE} {g : TG} {tb : TS} {D : Ends} {K : PySem.W.Frag} (h : te σ H (KForT K g tb D σ)) : tFor (iTup K te) g tb D σ H := h
theorem x_tforR1 {ta : TA} {g : TG} {tb : TS} {D : Ends} (h : ta σ H (KRng1 fun lo n H => KForR lo n g tb D σ H)) : tFor (iRng1 ta) g tb D σ H := h
theorem x_tforR2 {ta : TA} {g : TG} {tb : TS} {D : Ends} (h : ta σ H (KRng2 fun lo n H => KForR lo n g tb D σ H)) : tFor (iRng2 ta) g tb D σ H := h
def rngOk (j : Int) : Option Unit := if -(2 ^ 62) ≤ j ∧ j < 2 ^ 62 then some () else none
theorem rng_ok {j : Int} {k : Unit → Option ρ} {r : ρ} (hm : (rngOk j).bind k = some r) : (-(2 ^ 62) ≤ j ∧ j < 2 ^ 62) ∧ k () = some r := by
  obtain ⟨_, e, hk⟩ := ob hm
  unfold rngOk at e
  split at e
  · exact ⟨by assumption, hk⟩
  · cases e
theorem x_r1 {j : Int} {k : Unit → Option ρ} {r : ρ} {R : Int → Nat → Hp → Prop} (hm : (rngOk j).bind k = some r) (h : k () = some r → R 0 j.toNat H) : KRng1 R [.int j] H := by
  obtain ⟨⟨a, b⟩, hk⟩ := rng_ok hm
  exact ⟨j, rfl, a, b, h hk⟩
theorem x_r1c {j : Int} {n : Nat} {R : Int → Nat → Hp → Prop} (hj : (-(2 ^ 62) ≤ j ∧ j < 2 ^ 62) ∧ j.toNat = n) (h : R 0 n H) : KRng1 R [.int j] H := ⟨j, rfl, hj.1.1, hj.1.2, by rw [hj.2]; exact h⟩
theorem x_r2 {i j : Int} {k : Unit → Option ρ} {r : ρ} {R : Int → Nat → Hp → Prop} (hm : ((rngOk i).bind fun _ => rngOk j).bind k = some r) (h : k () = some r → R i (j - i).toNat H) : KRng2 R [.int i, .int j] H := by
  obtain ⟨u, e, hk⟩ := ob hm
  obtain ⟨⟨a, b⟩, e2⟩ := rng_ok e
  obtain ⟨⟨c, d⟩, _⟩ := rng_ok (k := fun _ => some ()) (r := ()) (by rw [e2]; rfl)
  exact ⟨i, j, rfl, ⟨a, b, c, d⟩, h hk⟩
/-! ### comprehensions -/
def compL {α β τ : Type} (f : α → τ → Option (Option β × τ)) : List α → τ → Option (List β × τ)
  | [], s => some ([], s)
  | x :: xs, s => (f x s).bind fun r => (compL f xs r.2).bind fun q => some ((match r.1 with | some y => y :: q.1 | none => q.1), q.2)
def mapO {α β : Type} (f : α → Option β) : List α → Option (List β)
  | [] => some []
  | x :: xs => (f x).bind fun y => (mapO f xs).bind fun ys => some (y :: ys)
def filO {α β : Type} (f : α → Option (Option β)) : List α → Option (List β)
  | [] => some []
  | x :: xs => (f x).bind fun y => (filO f xs).bind fun ys => some (match y with | some z => z :: ys | none => ys)
def mapS {α β τ : Type} (f : α → τ → Option (β × τ)) : List α → τ → Option (List β × τ)
  | [], s => some ([], s)
  | x :: xs, s => (f x s).bind fun r => (mapS f xs r.2).bind fun q => some (r.1 :: q.1, q.2)
theorem mapO_comp {f : α → Option β} : ∀ {xs : List α} {ys : List β}, mapO f xs = some ys → compL (τ := Unit) (fun x s => (f x).bind fun y => some (some y, s)) xs () = some (ys, ())
  | [], ys, h => by cases h; rfl
  | x :: xs, ys, h => by
    obtain ⟨y, h1, h⟩ := ob h
    obtain ⟨zs, h2, h⟩ := ob h
    cases h
    show ((f x).bind fun y => some (some y, ())).bind _ = _
    rw [h1]
    show (compL (τ := Unit) (fun x s => (f x).bind fun y => some (some y, s)) xs ()).bind _ = _
    rw [mapO_comp h2]
    rfl
theorem filO_comp {f : α → Option (Option β)} : ∀ {xs : List α} {ys : List β}, filO f xs = some ys → compL (τ := Unit) (fun x s => (f x).bind fun y => some (y, s)) xs () = some (ys, ())
  | [], ys, h => by cases h; rfl
  | x :: xs, ys, h => by
    obtain ⟨y, h1, h⟩ := ob h
    obtain ⟨zs, h2, h⟩ := ob h
    cases h
    show ((f x).bind fun y => some (y, ())).bind _ = _
    rw [h1]
    show (compL (τ := Unit) (fun x s => (f x).bind fun y => some (y, s)) xs ()).bind _ = _
    rw [filO_comp h2]
    cases y <;> rfl
theorem mapS_comp {f : α → τ → Option (β × τ)} : ∀ {xs : List α} {s : τ} {q : List β × τ}, mapS f xs s = some q → compL (fun x s => (f x s).bind fun y => some (some y.1, y.2)) xs s = some q
  | [], s, q, h => by cases h; rfl
  | x :: xs, s, q, h => by
    obtain ⟨y, h1, h⟩ := ob h
    obtain ⟨zs, h2, h⟩ := ob h
    cases h
    show ((f x s).bind fun y => some (some y.1, y.2)).bind _ = _
    rw [h1]
    show (compL (fun x s => (f x s).bind fun y => some (some y.1, y.2)) xs y.2).bind _ = _
    rw [mapS_comp h2]
    rfl
/-- what is known behind a block of its own names -/
def Bk : List Sl → List Sl → List Sl → Prop
  | [], _, [] => True
  | s :: Γ, s2 :: Γ2, s' :: Γ' => ((s' = s ∧ s.ad = none) ∨ (∃ p o o', s = .mu p o ∧ s2 = .mu p o' ∧ s' = .mu p o') ∨ (∃ p o o', s = .tmp p o ∧ s2 = .tmp p o' ∧ s' = .tmp p o')) ∧ Bk Γ Γ2 Γ'
  | _, _, _ => False
theorem Bk.e {Γ2 : List Sl} : Bk [] Γ2 [] := trivial
theorem Bk.i {s s2 : Sl} {Γ Γ2 Γ' : List Sl} (e : s.ad = none) (h : Bk Γ Γ2 Γ') : Bk (s :: Γ) (s2 :: Γ2) (s :: Γ') := ⟨.inl ⟨rfl, e⟩, h⟩
theorem Bk.m {p : Addr} {o o' : MO} {Γ Γ2 Γ' : List Sl} (h : Bk Γ Γ2 Γ') : Bk (.mu p o :: Γ) (.mu p o' :: Γ2) (.mu p o' :: Γ') := ⟨.inr (.inl ⟨p, o, o', rfl, rfl, rfl⟩), h⟩
theorem Bk.t {p : Addr} {o o' : MO} {Γ Γ2 Γ' : List Sl} (h : Bk Γ Γ2 Γ') : Bk (.tmp p o :: Γ) (.tmp p o' :: Γ2) (.tmp p o' :: Γ') := ⟨.inr (.inr ⟨p, o, o', rfl, rfl, rfl⟩), h⟩
theorem Bk.get : ∀ {Γ Γ2 Γ' : List Sl}, Bk Γ Γ2 Γ' → ∀ {i : Nat} {s' : Sl}, Γ'[i]? = some s' → (Γ[i]? = some s' ∧ s'.ad = none) ∨ (∃ p o o', Γ[i]? = some (.mu p o) ∧ Γ2[i]? = some (.mu p o') ∧ s' = .mu p o') ∨ (∃ p o o', Γ[i]? = some (.tmp p o) ∧ Γ2[i]? = some (.tmp p o') ∧ s' = .tmp p o')
  | [], _, [], _, _, _, e => by simp at e
  | [], _, _ :: _, h, _, _, _ => h.elim
  | s :: Γ, [], Γ', h, _, _, _ => by cases Γ' <;> exact h.elim
  | s :: Γ, s2 :: Γ2, [], h, _, _, _ => h.elim
  | s :: Γ, s2 :: Γ2, s0 :: Γ', ⟨h, t⟩, 0, s', e => by
    simp at e; subst e
    rcases h with ⟨h, h2⟩ | ⟨p, o, o', h1, h2, h3⟩ | ⟨p, o, o', h1, h2, h3⟩
    · subst h; exact .inl ⟨rfl, h2⟩
    · subst h1 h2 h3; exact .inr (.inl ⟨p, o, o', rfl, rfl, rfl⟩)
    · subst h1 h2 h3; exact .inr (.inr ⟨p, o, o', rfl, rfl, rfl⟩)
  | s :: Γ, s2 :: Γ2, s0 :: Γ', ⟨h, t⟩, i + 1, s', e => by
    have := Bk.get t (i := i) (s' := s') (by simpa using e)
    simpa using this
theorem Bk.muts : ∀ {Γ Γ2 Γ' : List Sl}, Bk Γ Γ2 Γ' → muts Γ' = muts Γ
  | [], _, [], _ => rfl
  | [], _, _ :: _, h => h.elim
  | s :: Γ, [], Γ', h => by cases Γ' <;> exact h.elim
  | s :: Γ, s2 :: Γ2, [], h => h.elim
  | s :: Γ, s2 :: Γ2, s0 :: Γ', ⟨h, t⟩ => by
    have ih := Bk.muts t
    unfold Sc.muts at ih ⊢
    rw [List.filterMap_cons, List.filterMap_cons, ih]
    have : s0.ad = s.ad := by
      rcases h with ⟨h, h2⟩ | ⟨p, o, o', h1, h2, h3⟩ | ⟨p, o, o', h1, h2, h3⟩
      · rw [h]
      · rw [h1, h3]; rfl
      · rw [h1, h3]; rfl
    rw [this]
theorem Lo.back {X' : Addr → Prop} {H' : Hp} {σ2 : L2.St} {Γ2 : List Sl} (L : Lo C X H σ Γ) (M : Lo (C.at_ X H Γ) X' H' σ2 Γ2) (b : Bk Γ Γ2 Γ') : Lo C X H' σ Γ' := by
  have sub : ∀ a, X a → X' a := M.m0
  have hm := b.muts
  refine ⟨L.len, fun i s hi => ?_, by rw [hm]; exact L.nd, fun p hp => L.mx p (hm ▸ hp), L.m0, fun a h => M.xd a (sub a h), fun a o e n => M.base a o (L.base a o e n) (L.nown e n), fun a h => M.dom a (L.dom a h), fun p hp => L.own p (hm ▸ hp), L.tf⟩
  rcases b.get hi with ⟨h1, h2⟩ | ⟨p, o, o', h1, h2, h3⟩ | ⟨p, o, o', h1, h2, h3⟩
  · exact (L.at_ i s h1).keep (L.keep M) fun p e => by rw [h2] at e; cases e
  · subst h3
    exact ⟨(L.at_ i _ h1).1, (M.at_ i _ h2).2.anti sub⟩
  · subst h3
    exact MRep.anti sub (M.at_ i _ h2)
theorem Lo.xanti {Y : Addr → Prop} (L : Lo C X H σ Γ) (h : ∀ a, Y a → X a) (hm : ∀ p ∈ muts Γ, Y p) (h0 : ∀ a, C.X0 a → Y a) : Lo C Y H σ Γ :=
  ⟨L.len, fun i s hi => (L.at_ i s hi).anti h, L.nd, hm, h0, fun a z => L.xd a (h a z), L.base, L.dom, L.own, L.tf⟩
/-- the object at p, of no slot, is written -/
theorem Lo.wroteX {p : Addr} {o o' : HO} (L : Lo C X H σ Γ) (hX : X p) (hn : p ∉ muts Γ) (h : H p = some o) (h0 : C.H0 p = none) (nt : ∀ vs, o ≠ .tup vs) (nf : ∀ u w, o ≠ .frz u w) :
    Lo C X (upd H p o') σ Γ ∧ Keep X H (upd H p o') := by
  have kp : Keep X H (upd H p o') := ⟨fun a u e n => by rw [upd_ne (fun z => n (by rw [z]; exact hX))]; exact e, fun a vs e => by rw [upd_ne (fun z => by rw [z, h] at e; exact nt vs (Option.some.inj e))]; exact e, fun a u w e => by rw [upd_ne (fun z => by rw [z, h] at e; exact nf u w (Option.some.inj e))]; exact e⟩
  have hd : ∀ a, H a ≠ none → upd H p o' a ≠ none := fun a e => by
    by_cases z : a = p
    · rw [z, upd_same]; exact fun y => nomatch y
    · rw [upd_ne z]; exact e
  refine ⟨⟨L.len, fun i s hi => (L.at_ i s hi).keep kp fun q e => upd_ne fun z => hn ?_, L.nd, L.mx, L.m0, fun a z => hd a (L.xd a z), fun a u e n => ?_, fun a e => hd a (L.dom a e), L.own, L.tf⟩, kp⟩
  · subst z; exact mem_muts.mpr ⟨i, s, hi, e⟩
  · rw [upd_ne fun z => by rw [z, h0] at e; cases e]
    exact L.base a u e n
theorem comp_drop {f : α → τ → Option (Option β × τ)} {xs : List α} {i : Nat} {x : α} {s : τ} {q : List β × τ} (hx : xs[i]? = some x) (h : compL f (xs.drop i) s = some q) :
    ∃ r q', f x s = some r ∧ compL f (xs.drop (i + 1)) r.2 = some q' ∧ q = ((match r.1 with | some y => y :: q'.1 | none => q'.1), q'.2) := by
  obtain ⟨hl, hx⟩ := List.getElem?_eq_some_iff.mp hx
  rw [List.drop_eq_getElem_cons hl, hx] at h
  obtain ⟨r, h1, h2⟩ := ob h
  obtain ⟨q', h3, h4⟩ := ob h2
  exact ⟨r, q', h1, h3, (Option.some.inj h4).symm⟩
/-- the rest of a comprehension, by name -/
def KLcL (K : PySem.W.Frag) (g : TG) (tt : TT) (te : TE) (ws : List Nat) (σ : L2.St) (Q : VK) (v : V) (H : Hp) : Prop := ∃ a, v = V.ref a ∧ (∃ xs, SqL K H a xs) ∧ ∀ D, H D = none → ∃ W : Nat → Nat → Hp → Prop, (∃ m, W 0 m (upd H D (.lst []))) ∧ ∀ i m H, W i m H →
      ((Itl K a).stop i H ∧ Q (.ref D) H) ∨ ((Itl K a).go i H ∧ ∃ Nx : Hp → Prop, (∀ H', Nx H' → ∃ m', m' < m ∧ W (i + 1) m' H') ∧ ∀ x H', (Itl K a).yld i H x H' → g x (wipe σ ws) H' fun σ2 H2 => wipe σ2 ws = wipe σ ws ∧ tt σ2 H2 fun b H3 =>
        if b = true then te σ2 H3 fun y H4 => ∃ acc, H4 D = some (.lst acc) ∧ acc.length < sizeLine ∧ Nx (upd H4 D (.lst (acc ++ [y]))) else Nx H3)
def KLcT (K : PySem.W.Frag) (g : TG) (tt : TT) (te : TE) (ws : List Nat) (σ : L2.St) (Q : VK) (v : V) (H : Hp) : Prop := ∃ a, v = V.ref a ∧ (∃ xs, SqT K H a xs) ∧ ∀ D, H D = none → ∃ W : Nat → Nat → Hp → Prop, (∃ m, W 0 m (upd H D (.lst []))) ∧ ∀ i m H, W i m H →
      ((Itt K a).stop i H ∧ Q (.ref D) H) ∨ ((Itt K a).go i H ∧ ∃ Nx : Hp → Prop, (∀ H', Nx H' → ∃ m', m' < m ∧ W (i + 1) m' H') ∧ ∀ x H', (Itt K a).yld i H x H' → g x (wipe σ ws) H' fun σ2 H2 => wipe σ2 ws = wipe σ ws ∧ tt σ2 H2 fun b H3 =>
        if b = true then te σ2 H3 fun y H4 => ∃ acc, H4 D = some (.lst acc) ∧ acc.length < sizeLine ∧ Nx (upd H4 D (.lst (acc ++ [y]))) else Nx H3)
def KLcR (lo : Int) (n : Nat) (g : TG) (tt : TT) (te : TE) (ws : List Nat) (σ : L2.St) (Q : VK) (H : Hp) : Prop := ∀ D, H D = none → ∃ W : Nat → Nat → Hp → Prop, (∃ m, W 0 m (upd H D (.lst []))) ∧ ∀ i m H, W i m H →
      ((Itr lo n).stop i H ∧ Q (.ref D) H) ∨ ((Itr lo n).go i H ∧ ∃ Nx : Hp → Prop, (∀ H', Nx H' → ∃ m', m' < m ∧ W (i + 1) m' H') ∧ ∀ x H', (Itr lo n).yld i H x H' → g x (wipe σ ws) H' fun σ2 H2 => wipe σ2 ws = wipe σ ws ∧ tt σ2 H2 fun b H3 =>
        if b = true then te σ2 H3 fun y H4 => ∃ acc, H4 D = some (.lst acc) ∧ acc.length < sizeLine ∧ Nx (upd H4 D (.lst (acc ++ [y]))) else Nx H3)
theorem x_lcl {K : PySem.W.Frag} {tl te : TE} {g : TG} {tt : TT} {ws : List Nat} (h : tl σ H (KLcL K g tt te ws σ Q)) : tLc (iList K tl) g tt te ws σ H Q := h
theorem x_lct {K : PySem.W.Frag} {tl te : TE} {g : TG} {tt : TT} {ws : List Nat} (h : tl σ H (KLcT K g tt te ws σ Q)) : tLc (iTup K tl) g tt te ws σ H Q := h
theorem x_lcr1 {ta : TA} {te : TE} {g : TG} {tt : TT} {ws : List Nat} (h : ta σ H (KRng1 fun lo n H => KLcR lo n g tt te ws σ Q H)) : tLc (iRng1 ta) g tt te ws σ H Q := h
theorem x_lcr2 {ta : TA} {te : TE} {g : TG} {tt : TT} {ws : List Nat} (h : ta σ H (KRng2 fun lo n H => KLcR lo n g tt te ws σ Q H)) : tLc (iRng2 ta) g tt te ws σ H Q := h
/-- what a comprehension's block shows of one turn -/
def BodyC [Py β] (C : Cn) (X : Addr → Prop) (G : τ → List Sl) (d : PyData) (s : τ) (o : Option (Option β × τ)) (g : TG) (tt : TT) (te : TE) (vs : List Nat) : Prop :=
  ∀ (X : Addr → Prop) (H : Hp) (σ : L2.St) (u : V) (r : Option β × τ) (Qn : Hp → Prop) (Qy : VK), o = some r → Lo ⟨C.K, X, H, muts (G s), C.n⟩ X H σ (G s) → Rep C.K X H d u →
    (r.1 = none → ∀ H', Lo ⟨C.K, X, H, muts (G s), C.n⟩ X H' σ (G r.2) → Qn H') →
    (∀ y, r.1 = some y → ∀ v H', Lo ⟨C.K, X, H, muts (G s), C.n⟩ X H' σ (G r.2) → Rep C.K X H' (enc y) v → Qy v H') →
    g u (wipe σ vs) H fun σ2 H2 => wipe σ2 vs = wipe σ vs ∧ tt σ2 H2 fun b H3 => if b = true then te σ2 H3 Qy else Qn H3
theorem x_lcL0 [Py α] [Py β] {xs : List α} {f : α → τ → Option (Option β × τ)} {G : τ → List Sl} {s0 : τ} {q : List β × τ} {v : V} {g : TG} {tt : TT} {te : TE} {ws : List Nat}
    (L : Lo C X H σ (G s0)) (hG : ∀ s s', muts (G s) = muts (G s')) (r : Rep C.K X H (enc xs) v) (hm : compL f xs s0 = some q) (hl : xs.length ≤ 16777216)
    (body : ∀ x s, BodyC C X G (enc x) s (f x s) g tt te ws)
    (done : ∀ D H', H D = none → C.H0 D = none → ¬ C.X0 D → Lo C (fun a => X a ∨ a = D) H' σ (G q.2) → Keep X H H' → MRep C.K (fun a => X a ∨ a = D) H' D (ml q.1) → Q (.ref D) H') :
    KLcL C.K g tt te ws σ Q v H := by
  obtain ⟨a, us, rfl, hna, hrd, hrs⟩ := rep_lst (ds := xs.map enc) r
  refine ⟨a, rfl, ⟨us, .inl hrd⟩, fun D hD => ?_⟩
  have h0 : C.H0 D = none := by
    cases e : C.H0 D with
    | none => rfl
    | some o => exact (L.dom D (by rw [e]; exact fun z => nomatch z) hD).elim
  have hDm : ∀ s, D ∉ muts (G s) := fun s h => L.xd D (L.mx D (hG s s0 ▸ h)) hD
  have sm : Same H (upd H D (.lst [])) := same_upd hD
  have lay := L.lay (p := D) (o := .lst []) hD sm ⟨[], upd_same, .nil⟩
  have L1 : Lo C (fun a => X a ∨ a = D) (upd H D (.lst [])) σ (G s0) := by
    refine ⟨L.len, fun i s hi => ?_, L.nd, fun p hp => .inl (L.mx p hp), fun a h => .inl (L.m0 a h), lay.1.xd, lay.1.base, lay.1.dom, L.own, L.tf⟩
    refine lay.1.at_ i s ?_
    rw [List.getElem?_append_left (List.getElem?_eq_some_iff.mp hi).1]
    exact hi
  have hna' : ¬ (X a ∨ a = D) := fun h => h.elim hna fun e => by
    subst e
    exact rd_nn hrd hD
  refine lc_list (K := C.K) (a := a) (xs := us) (fun i H' => ∃ s ys acc q', Lo C (fun a => X a ∨ a = D) H' σ (G s) ∧ Reps C.K (fun a => X a ∨ a = D) H' (xs.map enc) us ∧ Rd H' a (.lst us) ∧ H' D = some (.lst acc) ∧ Reps C.K (fun a => X a ∨ a = D) H' (ys.map enc) acc ∧
      compL f (xs.drop i) s = some q' ∧ q = (ys ++ q'.1, q'.2) ∧ ys.length ≤ i ∧ Keep X H H' ∧ (∀ a, H a ≠ none → H' a ≠ none))
    ⟨s0, [], [], q, L1, (hrs.more hD).keep (.same sm), Keep.rd (.same sm) hna hrd, upd_same, .nil, hm, rfl, Nat.le_refl _, .same sm, fun a h => ?_⟩ (fun i H' _ ⟨s, ys, acc, q', _, _, h, _⟩ => .inl h) ?_ ?_
  · by_cases z : a = D
    · rw [z, upd_same]; exact fun y => nomatch y
    · rw [upd_ne z]; exact h
  · rintro i y H' hy ⟨s, ys, acc, q', L', hr', hd', hacc, hys, hq', eq, hyl, hk, hdm⟩
    obtain ⟨d, hd, rd⟩ := hr'.get' hy
    rw [List.getElem?_map] at hd
    cases hx : xs[i]? with
    | none => rw [hx] at hd; cases hd
    | some x =>
      rw [hx] at hd
      cases hd
      have hil : i < xs.length := (List.getElem?_eq_some_iff.mp hx).1
      obtain ⟨r1, q1, h1, h2, h3⟩ := comp_drop hx hq'
      refine body x s _ H' σ y r1 _ _ h1 L'.enter rd ?_ ?_
      · intro e H'' M
        have k := L'.keep M
        have kd : H'' D = some (.lst acc) := M.base D _ hacc (hDm s)
        refine ⟨r1.2, ys, acc, q1, L'.leave M (hG _ _), hr'.keep k, k.rd hna' hd', kd, hys.keep k, h2, ?_, Nat.le_succ_of_le hyl, ?_, fun a h => M.dom a (hdm a h)⟩
        · rw [eq, h3, e]
        · refine ⟨fun b o hb n => ?_, fun b vs hb => k.2.1 b vs (hk.2.1 b vs hb), fun b o u hb => k.2.2 b o u (hk.2.2 b o u hb)⟩
          have hbD : b ≠ D := fun z => by rw [z, hD] at hb; cases hb
          exact k.1 b o (hk.1 b o hb n) fun z => z.elim n hbD
      · intro yv e v H'' M rv
        have k := L'.keep M
        have kd : H'' D = some (.lst acc) := M.base D _ hacc (hDm s)
        have L2 := L'.leave M (hG _ _)
        obtain ⟨L3, k3⟩ := L2.wroteX (p := D) (o' := .lst (acc ++ [v])) (.inr rfl) (hDm _) kd h0 (fun _ z => nomatch z) (fun _ _ z => nomatch z)
        have k4 := k.trans k3
        have hal : acc.length = ys.length := by rw [hys.length, List.length_map]
        refine ⟨acc, kd, by rw [line_eq]; omega, r1.2, ys ++ [yv], acc ++ [v], q1, L3, hr'.keep k4, k4.rd hna' hd', upd_same, ?_, h2, ?_, ?_, ?_, ?_⟩
        · rw [List.map_append]
          exact (hys.keep k4).append (.cons (rv.keep k3) .nil)
        · rw [eq, h3, e]
          show (ys ++ yv :: q1.1, q1.2) = (ys ++ [yv] ++ q1.1, q1.2)
          rw [List.append_assoc]; rfl
        · rw [List.length_append]; exact Nat.succ_le_succ hyl
        · refine ⟨fun b o hb n => ?_, fun b vs hb => k4.2.1 b vs (hk.2.1 b vs hb), fun b o u hb => k4.2.2 b o u (hk.2.2 b o u hb)⟩
          have hbD : b ≠ D := fun z => by rw [z, hD] at hb; cases hb
          exact k4.1 b o (hk.1 b o hb n) fun z => z.elim n hbD
        · intro a h
          by_cases z : a = D
          · rw [z, upd_same]; exact fun y => nomatch y
          · rw [upd_ne z]; exact M.dom a (hdm a h)
  · rintro H' ⟨s, ys, acc, q', L', _, _, hacc, hys, hq', eq, _, hk, hdm⟩
    rw [hrs.length, List.length_map, List.drop_length] at hq'
    cases hq'
    rw [List.append_nil] at eq
    subst eq
    exact done D H' hD h0 (fun z => L.xd D (L.m0 D z) hD) L' hk ⟨acc, hacc, hys⟩
theorem x_lcT0 [Py α] [Py β] {xs : List α} {f : α → τ → Option (Option β × τ)} {G : τ → List Sl} {s0 : τ} {q : List β × τ} {v : V} {g : TG} {tt : TT} {te : TE} {ws : List Nat}
    (L : Lo C X H σ (G s0)) (hG : ∀ s s', muts (G s) = muts (G s')) (r : Rep C.K X H (.tuple (xs.map enc)) v) (hm : compL f xs s0 = some q) (hl : xs.length ≤ 16777216)
    (body : ∀ x s, BodyC C X G (enc x) s (f x s) g tt te ws)
    (done : ∀ D H', H D = none → C.H0 D = none → ¬ C.X0 D → Lo C (fun a => X a ∨ a = D) H' σ (G q.2) → Keep X H H' → MRep C.K (fun a => X a ∨ a = D) H' D (ml q.1) → Q (.ref D) H') :
    KLcT C.K g tt te ws σ Q v H := by
  obtain ⟨a, us, rfl, hrd, hrs⟩ := rep_tup r
  refine ⟨a, rfl, ⟨us, hrd⟩, fun D hD => ?_⟩
  have h0 : C.H0 D = none := by
    cases e : C.H0 D with
    | none => rfl
    | some o => exact (L.dom D (by rw [e]; exact fun z => nomatch z) hD).elim
  have hDm : ∀ s, D ∉ muts (G s) := fun s h => L.xd D (L.mx D (hG s s0 ▸ h)) hD
  have sm : Same H (upd H D (.lst [])) := same_upd hD
  have lay := L.lay (p := D) (o := .lst []) hD sm ⟨[], upd_same, .nil⟩
  have L1 : Lo C (fun a => X a ∨ a = D) (upd H D (.lst [])) σ (G s0) := by
    refine ⟨L.len, fun i s hi => ?_, L.nd, fun p hp => .inl (L.mx p hp), fun a h => .inl (L.m0 a h), lay.1.xd, lay.1.base, lay.1.dom, L.own, L.tf⟩
    refine lay.1.at_ i s ?_
    rw [List.getElem?_append_left (List.getElem?_eq_some_iff.mp hi).1]
    exact hi
  refine lc_tup (K := C.K) (a := a) (xs := us) (fun i H' => ∃ s ys acc q', Lo C (fun a => X a ∨ a = D) H' σ (G s) ∧ Reps C.K (fun a => X a ∨ a = D) H' (xs.map enc) us ∧ SqT C.K H' a us ∧ H' D = some (.lst acc) ∧ Reps C.K (fun a => X a ∨ a = D) H' (ys.map enc) acc ∧
      compL f (xs.drop i) s = some q' ∧ q = (ys ++ q'.1, q'.2) ∧ ys.length ≤ i ∧ Keep X H H' ∧ (∀ a, H a ≠ none → H' a ≠ none))
    ⟨s0, [], [], q, L1, (hrs.more hD).keep (.same sm), Keep.sqT (X := fun a => X a ∨ a = D) (.same sm) hrd, upd_same, .nil, hm, rfl, Nat.le_refl _, .same sm, fun a h => ?_⟩ (fun i H' _ ⟨s, ys, acc, q', _, _, h, _⟩ => h) ?_ ?_
  · by_cases z : a = D
    · rw [z, upd_same]; exact fun y => nomatch y
    · rw [upd_ne z]; exact h
  · rintro i y H' hy ⟨s, ys, acc, q', L', hr', hd', hacc, hys, hq', eq, hyl, hk, hdm⟩
    obtain ⟨d, hd, rd⟩ := hr'.get' hy
    rw [List.getElem?_map] at hd
    cases hx : xs[i]? with
    | none => rw [hx] at hd; cases hd
    | some x =>
      rw [hx] at hd
      cases hd
      have hil : i < xs.length := (List.getElem?_eq_some_iff.mp hx).1
      obtain ⟨r1, q1, h1, h2, h3⟩ := comp_drop hx hq'
      refine body x s _ H' σ y r1 _ _ h1 L'.enter rd ?_ ?_
      · intro e H'' M
        have k := L'.keep M
        have kd : H'' D = some (.lst acc) := M.base D _ hacc (hDm s)
        refine ⟨r1.2, ys, acc, q1, L'.leave M (hG _ _), hr'.keep k, k.sqT hd', kd, hys.keep k, h2, ?_, Nat.le_succ_of_le hyl, ?_, fun a h => M.dom a (hdm a h)⟩
        · rw [eq, h3, e]
        · refine ⟨fun b o hb n => ?_, fun b vs hb => k.2.1 b vs (hk.2.1 b vs hb), fun b o u hb => k.2.2 b o u (hk.2.2 b o u hb)⟩
          have hbD : b ≠ D := fun z => by rw [z, hD] at hb; cases hb
          exact k.1 b o (hk.1 b o hb n) fun z => z.elim n hbD
      · intro yv e v H'' M rv
        have k := L'.keep M
        have kd : H'' D = some (.lst acc) := M.base D _ hacc (hDm s)
        have L2 := L'.leave M (hG _ _)
        obtain ⟨L3, k3⟩ := L2.wroteX (p := D) (o' := .lst (acc ++ [v])) (.inr rfl) (hDm _) kd h0 (fun _ z => nomatch z) (fun _ _ z => nomatch z)
        have k4 := k.trans k3
        have hal : acc.length = ys.length := by rw [hys.length, List.length_map]
        refine ⟨acc, kd, by rw [line_eq]; omega, r1.2, ys ++ [yv], acc ++ [v], q1, L3, hr'.keep k4, k4.sqT hd', upd_same, ?_, h2, ?_, ?_, ?_, ?_⟩
        · rw [List.map_append]
          exact (hys.keep k4).append (.cons (rv.keep k3) .nil)
        · rw [eq, h3, e]
          show (ys ++ yv :: q1.1, q1.2) = (ys ++ [yv] ++ q1.1, q1.2)
          rw [List.append_assoc]; rfl
        · rw [List.length_append]; exact Nat.succ_le_succ hyl
        · refine ⟨fun b o hb n => ?_, fun b vs hb => k4.2.1 b vs (hk.2.1 b vs hb), fun b o u hb => k4.2.2 b o u (hk.2.2 b o u hb)⟩
          have hbD : b ≠ D := fun z => by rw [z, hD] at hb; cases hb
          exact k4.1 b o (hk.1 b o hb n) fun z => z.elim n hbD
        · intro a h
          by_cases z : a = D
          · rw [z, upd_same]; exact fun y => nomatch y
          · rw [upd_ne z]; exact M.dom a (hdm a h)
  · rintro H' ⟨s, ys, acc, q', L', _, _, hacc, hys, hq', eq, _, hk, hdm⟩
    rw [hrs.length, List.length_map, List.drop_length] at hq'
    cases hq'
    rw [List.append_nil] at eq
    subst eq
    exact done D H' hD h0 (fun z => L.xd D (L.m0 D z) hD) L' hk ⟨acc, hacc, hys⟩
theorem x_lcR0 [Py β] {lo : Int} {n : Nat} {f : Int → τ → Option (Option β × τ)} {G : τ → List Sl} {s0 : τ} {q : List β × τ} {g : TG} {tt : TT} {te : TE} {ws : List Nat}
    (L : Lo C X H σ (G s0)) (hG : ∀ s s', muts (G s) = muts (G s')) (hm : compL f (rangeL lo n) s0 = some q) (hl : n ≤ 16777216)
    (body : ∀ x s, BodyC C X G (enc x) s (f x s) g tt te ws)
    (done : ∀ D H', H D = none → C.H0 D = none → ¬ C.X0 D → Lo C (fun a => X a ∨ a = D) H' σ (G q.2) → Keep X H H' → MRep C.K (fun a => X a ∨ a = D) H' D (ml q.1) → Q (.ref D) H') :
    KLcR lo n g tt te ws σ Q H := by
  intro D hD
  have h0 : C.H0 D = none := by
    cases e : C.H0 D with
    | none => rfl
    | some o => exact (L.dom D (by rw [e]; exact fun z => nomatch z) hD).elim
  have hDm : ∀ s, D ∉ muts (G s) := fun s h => L.xd D (L.mx D (hG s s0 ▸ h)) hD
  have sm : Same H (upd H D (.lst [])) := same_upd hD
  have lay := L.lay (p := D) (o := .lst []) hD sm ⟨[], upd_same, .nil⟩
  have L1 : Lo C (fun a => X a ∨ a = D) (upd H D (.lst [])) σ (G s0) := by
    refine ⟨L.len, fun i s hi => ?_, L.nd, fun p hp => .inl (L.mx p hp), fun a h => .inl (L.m0 a h), lay.1.xd, lay.1.base, lay.1.dom, L.own, L.tf⟩
    refine lay.1.at_ i s ?_
    rw [List.getElem?_append_left (List.getElem?_eq_some_iff.mp hi).1]
    exact hi
  refine lc_range (lo := lo) (n := n) (fun i H' => ∃ s ys acc q', Lo C (fun a => X a ∨ a = D) H' σ (G s) ∧ H' D = some (.lst acc) ∧ Reps C.K (fun a => X a ∨ a = D) H' (ys.map enc) acc ∧
      compL f ((rangeL lo n).drop i) s = some q' ∧ q = (ys ++ q'.1, q'.2) ∧ ys.length ≤ i ∧ Keep X H H')
    ⟨s0, [], [], q, L1, upd_same, .nil, hm, rfl, Nat.le_refl _, .same sm⟩ ?_ ?_
  · rintro i H' hi ⟨s, ys, acc, q', L', hacc, hys, hq', eq, hyl, hk⟩
    obtain ⟨r1, q1, h1, h2, h3⟩ := comp_drop (rangeL_get hi) hq'
    refine body (lo + (i : Int)) s _ H' σ _ r1 _ _ h1 L'.enter (.int _) ?_ ?_
    · intro e H'' M
      have k := L'.keep M
      have kd : H'' D = some (.lst acc) := M.base D _ hacc (hDm s)
      refine ⟨r1.2, ys, acc, q1, L'.leave M (hG _ _), kd, hys.keep k, h2, ?_, Nat.le_succ_of_le hyl, ?_⟩
      · rw [eq, h3, e]
      · refine ⟨fun b o hb n => ?_, fun b vs hb => k.2.1 b vs (hk.2.1 b vs hb), fun b o u hb => k.2.2 b o u (hk.2.2 b o u hb)⟩
        have hbD : b ≠ D := fun z => by rw [z, hD] at hb; cases hb
        exact k.1 b o (hk.1 b o hb n) fun z => z.elim n hbD
    · intro yv e v H'' M rv
      have k := L'.keep M
      have kd : H'' D = some (.lst acc) := M.base D _ hacc (hDm s)
      have L2 := L'.leave M (hG _ _)
      obtain ⟨L3, k3⟩ := L2.wroteX (p := D) (o' := .lst (acc ++ [v])) (.inr rfl) (hDm _) kd h0 (fun _ z => nomatch z) (fun _ _ z => nomatch z)
      have k4 := k.trans k3
      have hal : acc.length = ys.length := by rw [hys.length, List.length_map]
      refine ⟨acc, kd, by rw [line_eq]; omega, r1.2, ys ++ [yv], acc ++ [v], q1, L3, upd_same, ?_, h2, ?_, ?_, ?_⟩
      · rw [List.map_append]
        exact (hys.keep k4).append (.cons (rv.keep k3) .nil)
      · rw [eq, h3, e]
        show (ys ++ yv :: q1.1, q1.2) = (ys ++ [yv] ++ q1.1, q1.2)
        rw [List.append_assoc]; rfl
      · rw [List.length_append]; exact Nat.succ_le_succ hyl
      · refine ⟨fun b o hb n => ?_, fun b vs hb => k4.2.1 b vs (hk.2.1 b vs hb), fun b o u hb => k4.2.2 b o u (hk.2.2 b o u hb)⟩
        have hbD : b ≠ D := fun z => by rw [z, hD] at hb; cases hb
        exact k4.1 b o (hk.1 b o hb n) fun z => z.elim n hbD
  · rintro H' ⟨s, ys, acc, q', L', hacc, hys, hq', eq, _, hk⟩
    have hl : (rangeL lo n).length = n := by unfold rangeL; rw [List.length_map, List.length_range]
    have : (rangeL lo n).drop n = [] := List.drop_eq_nil_of_le (by omega)
    rw [this] at hq'
    cases hq'
    rw [List.append_nil] at eq
    subst eq
    exact done D H' hD h0 (fun z => L.xd D (L.m0 D z) hD) L' hk ⟨acc, hacc, hys⟩
theorem Lo.addT {D : Addr} {o : MO} {H' : Hp} (L : Lo C X H σ Γ) (hD : H D = none) (h0 : C.H0 D = none) (M : Lo C (fun a => X a ∨ a = D) H' σ Γ') (hm : muts Γ' = muts Γ) (r : MRep C.K (fun a => X a ∨ a = D) H' D o) : Lo C (fun a => X a ∨ a = D) H' σ (Γ' ++ [.tmp D o]) := by
  have hm2 : muts (Γ' ++ [Sl.tmp D o]) = muts Γ' ++ [D] := by unfold muts; rw [List.filterMap_append]; rfl
  have hnm : D ∉ muts Γ' := fun h => L.xd D (L.mx D (hm ▸ h)) hD
  refine ⟨M.len, fun i t hi => ?_, ?_, fun q hq => ?_, M.m0, M.xd, M.base, M.dom, fun q hq => ?_, M.tf⟩
  · by_cases hlt : i < Γ'.length
    · rw [List.getElem?_append_left hlt] at hi
      exact M.at_ i t hi
    · rw [List.getElem?_append_right (by omega)] at hi
      have ht := List.mem_of_getElem? hi
      rw [List.mem_singleton] at ht
      subst ht
      exact r
  · rw [hm2]
    exact List.nodup_append.mpr ⟨M.nd, by simp, fun a ha b hb => by
      rw [List.mem_singleton] at hb
      subst hb
      intro z
      exact hnm (z ▸ ha)⟩
  · rw [hm2, List.mem_append, List.mem_singleton] at hq
    exact hq.elim (M.mx q) .inr
  · rw [hm2, List.mem_append, List.mem_singleton] at hq
    exact hq.elim (M.own q) fun z => .inr (z ▸ h0)
/-- a comprehension's new list, as data -/
theorem lc_data [Py β] {D : Addr} {ys : List β} {H' : Hp} (L : Lo C X H σ Γ) (hD : H D = none) (M : Lo C (fun a => X a ∨ a = D) H' σ Γ') (hm : muts Γ' = muts Γ) (k : Keep X H H') (r : MRep C.K (fun a => X a ∨ a = D) H' D (ml ys))
    (h : Lo C X H' σ Γ' → (∀ d u, Rep C.K X H d u → Rep C.K X H' d u) → Rep C.K X H' (enc ys) (.ref D) → Q (.ref D) H') : Q (.ref D) H' := by
  obtain ⟨vs, h1, h2⟩ := r
  exact h (M.xanti (fun _ h => .inl h) (fun p hp => L.mx p (hm ▸ hp)) L.m0) (fun _ _ q => q.keep k) (.lst (fun z => L.xd D z hD) (.inl h1) (h2.anti fun _ z => .inl z))
/-- .. as the body's own -/
theorem lc_own [Py β] {D : Addr} {ys : List β} {H' : Hp} (L : Lo C X H σ Γ) (hD : H D = none) (h0 : C.H0 D = none) (M : Lo C (fun a => X a ∨ a = D) H' σ Γ') (hm : muts Γ' = muts Γ) (k : Keep X H H') (r : MRep C.K (fun a => X a ∨ a = D) H' D (ml ys))
    (h : Lo C (fun a => X a ∨ a = D) H' σ (Γ' ++ [.tmp D (ml ys)]) → (∀ d u, Rep C.K X H d u → Rep C.K (fun a => X a ∨ a = D) H' d u) → Q (.ref D) H') : Q (.ref D) H' :=
  h (L.addT hD h0 M hm r) fun _ _ q => (q.more hD).keep (k.mono fun _ z => .inl z)
theorem x_lcL [Py α] [Py β] {xs : List α} {f : α → τ → Option (Option β × τ)} {v : V} {G : τ → List Sl} {s0 : τ} {q : List β × τ} {g : TG} {tt : TT} {te : TE} {ws : List Nat} (L : Lo C X H σ (G s0)) (hG : ∀ s s', muts (G s) = muts (G s')) (r : Rep C.K X H (enc xs) v) (hm : compL f xs s0 = some q) (hl : xs.length ≤ 16777216)
    (body : ∀ x s, BodyC C X G (enc x) s (f x s) g tt te ws) (h : ∀ D H', Lo C X H' σ (G q.2) → (∀ d u, Rep C.K X H d u → Rep C.K X H' d u) → Rep C.K X H' (enc q.1) (.ref D) → Q (.ref D) H') : KLcL C.K g tt te ws σ Q v H :=
  x_lcL0 L hG r hm hl body (fun D H' hD h0 hx M k m => lc_data L hD M (hG _ _) k m (h D H'))
theorem x_lcLN [Py α] [Py β] {xs : List α} {f : α → τ → Option (Option β × τ)} {v : V} {G : τ → List Sl} {s0 : τ} {q : List β × τ} {g : TG} {tt : TT} {te : TE} {ws : List Nat} (L : Lo C X H σ (G s0)) (hG : ∀ s s', muts (G s) = muts (G s')) (r : Rep C.K X H (enc xs) v) (hm : compL f xs s0 = some q) (hl : xs.length ≤ 16777216)
    (body : ∀ x s, BodyC C X G (enc x) s (f x s) g tt te ws) (h : ∀ D X' H', C.H0 D = none → ¬ C.X0 D → Lo C X' H' σ (G q.2 ++ [.tmp D (ml q.1)]) → (∀ d u, Rep C.K X H d u → Rep C.K X' H' d u) → Q (.ref D) H') : KLcL C.K g tt te ws σ Q v H :=
  x_lcL0 L hG r hm hl body (fun D H' hD h0 hx M k m => lc_own L hD h0 M (hG _ _) k m (h D _ H' h0 hx))
theorem x_lcT [Py α] [Py β] {xs : List α} {f : α → τ → Option (Option β × τ)} {v : V} {G : τ → List Sl} {s0 : τ} {q : List β × τ} {g : TG} {tt : TT} {te : TE} {ws : List Nat} (L : Lo C X H σ (G s0)) (hG : ∀ s s', muts (G s) = muts (G s')) (r : Rep C.K X H (.tuple (xs.map enc)) v) (hm : compL f xs s0 = some q) (hl : xs.length ≤ 16777216)
    (body : ∀ x s, BodyC C X G (enc x) s (f x s) g tt te ws) (h : ∀ D H', Lo C X H' σ (G q.2) → (∀ d u, Rep C.K X H d u → Rep C.K X H' d u) → Rep C.K X H' (enc q.1) (.ref D) → Q (.ref D) H') : KLcT C.K g tt te ws σ Q v H :=
  x_lcT0 L hG r hm hl body (fun D H' hD h0 hx M k m => lc_data L hD M (hG _ _) k m (h D H'))
theorem x_lcTN [Py α] [Py β] {xs : List α} {f : α → τ → Option (Option β × τ)} {v : V} {G : τ → List Sl} {s0 : τ} {q : List β × τ} {g : TG} {tt : TT} {te : TE} {ws : List Nat} (L : Lo C X H σ (G s0)) (hG : ∀ s s', muts (G s) = muts (G s')) (r : Rep C.K X H (.tuple (xs.map enc)) v) (hm : compL f xs s0 = some q) (hl : xs.length ≤ 16777216)
    (body : ∀ x s, BodyC C X G (enc x) s (f x s) g tt te ws) (h : ∀ D X' H', C.H0 D = none → ¬ C.X0 D → Lo C X' H' σ (G q.2 ++ [.tmp D (ml q.1)]) → (∀ d u, Rep C.K X H d u → Rep C.K X' H' d u) → Q (.ref D) H') : KLcT C.K g tt te ws σ Q v H :=
  x_lcT0 L hG r hm hl body (fun D H' hD h0 hx M k m => lc_own L hD h0 M (hG _ _) k m (h D _ H' h0 hx))
theorem x_lcR [Py β] {lo : Int} {n : Nat} {f : Int → τ → Option (Option β × τ)} {G : τ → List Sl} {s0 : τ} {q : List β × τ} {g : TG} {tt : TT} {te : TE} {ws : List Nat} (L : Lo C X H σ (G s0)) (hG : ∀ s s', muts (G s) = muts (G s')) (hm : compL f (rangeL lo n) s0 = some q) (hl : n ≤ 16777216)
    (body : ∀ x s, BodyC C X G (enc x) s (f x s) g tt te ws) (h : ∀ D H', Lo C X H' σ (G q.2) → (∀ d u, Rep C.K X H d u → Rep C.K X H' d u) → Rep C.K X H' (enc q.1) (.ref D) → Q (.ref D) H') : KLcR lo n g tt te ws σ Q H :=
  x_lcR0 L hG hm hl body (fun D H' hD h0 hx M k m => lc_data L hD M (hG _ _) k m (h D H'))
theorem x_lcRN [Py β] {lo : Int} {n : Nat} {f : Int → τ → Option (Option β × τ)} {G : τ → List Sl} {s0 : τ} {q : List β × τ} {g : TG} {tt : TT} {te : TE} {ws : List Nat} (L : Lo C X H σ (G s0)) (hG : ∀ s s', muts (G s) = muts (G s')) (hm : compL f (rangeL lo n) s0 = some q) (hl : n ≤ 16777216)
    (body : ∀ x s, BodyC C X G (enc x) s (f x s) g tt te ws) (h : ∀ D X' H', C.H0 D = none → ¬ C.X0 D → Lo C X' H' σ (G q.2 ++ [.tmp D (ml q.1)]) → (∀ d u, Rep C.K X H d u → Rep C.K X' H' d u) → Q (.ref D) H') : KLcR lo n g tt te ws σ Q H :=
  x_lcR0 L hG hm hl body (fun D H' hD h0 hx M k m => lc_own L hD h0 M (hG _ _) k m (h D _ H' h0 hx))
/-- one turn of a comprehension -/
def KCt (te : TE) (σ : L2.St) (Qy : VK) (Qn : Hp → Prop) : Bool → Hp → Prop := fun b H => if b = true then te σ H Qy else Qn H
theorem Lo.cset {i : Nat} {u : V} {d : PyData} (L : Lo C X H σ Γ) (r : Rep C.K X H d u) (hi : i < C.n) {σ0 : L2.St} (e : ∀ j, j ≠ i → σ0[j]? = σ[j]?) (el : σ0.length = σ.length) : Lo C X H (σ0.set i (some u)) (Γ.set i (.imm d)) := by
  have e2 : σ0.set i (some u) = σ.set i (some u) := by
    apply List.ext_getElem?
    intro j
    by_cases z : j = i
    · subst z; rw [List.getElem?_set, List.getElem?_set, el, if_pos rfl, if_pos rfl]
    · rw [List.getElem?_set_ne (Ne.symm z), List.getElem?_set_ne (Ne.symm z), e j z]
  rw [e2]; exact L.set r hi
theorem x_cName {i : Nat} {u : V} {d : PyData} {tt : TT} {te : TE} {Qy : VK} {Qn : Hp → Prop} (L : Lo C X H σ Γ) (r : Rep C.K X H d u) (hi : i < C.n) (e : Γ.set i (.imm d) = Γ') (h : ∀ σ2, Lo C X H σ2 Γ' → tt σ2 H (KCt te σ2 Qy Qn)) :
    gName i u (wipe σ [i]) H fun σ2 H2 => wipe σ2 [i] = wipe σ [i] ∧ tt σ2 H2 fun b H3 => if b = true then te σ2 H3 Qy else Qn H3 := by
  subst e
  refine ⟨?_, h _ (L.cset r hi (fun j z => ?_) ?_)⟩
  · show ((σ.set i none).set i (some u)).set i none = σ.set i none
    rw [List.set_set, List.set_set]
  · exact List.getElem?_set_ne (Ne.symm z)
  · exact List.length_set
theorem x_cTup {i j : Nat} {u : V} {d1 d2 : PyData} {tt : TT} {te : TE} {Qy : VK} {Qn : Hp → Prop} (L : Lo C X H σ Γ) (r : Rep C.K X H (.tuple [d1, d2]) u) (hi : i < C.n) (hj : j < C.n) (ne : i ≠ j) (e : (Γ.set i (.imm d1)).set j (.imm d2) = Γ') (h : ∀ σ2, Lo C X H σ2 Γ' → tt σ2 H (KCt te σ2 Qy Qn)) :
    gTup C.K 2 (gCons (gName i) (gCons (gName j) gNil)) u (wipe σ [i, j]) H fun σ2 H2 => wipe σ2 [i, j] = wipe σ [i, j] ∧ tt σ2 H2 fun b H3 => if b = true then te σ2 H3 Qy else Qn H3 := by
  subst e
  obtain ⟨a, vs, rfl, hs, q⟩ := rep_tup r
  cases q with
  | @cons _ _ v1 _ r1 q => cases q with
    | @cons _ _ v2 _ r2 q => cases q with
      | nil =>
        refine ⟨a, _, rfl, hs, rfl, v1, [v2], rfl, v2, [], rfl, rfl, ?_⟩
        have e3 : (((σ.set j none).set i none).set i (some v1)).set j (some v2) = (σ.set i (some v1)).set j (some v2) := by
          rw [List.set_set, List.set_comm none (some v1) ne.symm, List.set_set]
        refine ⟨?_, ?_⟩
        · show (((((σ.set j none).set i none).set i (some v1)).set j (some v2)).set j none).set i none = (σ.set j none).set i none
          rw [e3, List.set_set, List.set_comm _ _ ne.symm, List.set_set, List.set_comm _ _ ne]
        · have q := h _ ((L.set r1 hi).set r2 hj)
          rw [← e3] at q
          exact q
theorem x_yes {te : TE} {Qy : VK} {Qn : Hp → Prop} (h : te σ H Qy) : tYes σ H (KCt te σ Qy Qn) := h
theorem x_ct {te : TE} {Qy : VK} {Qn : Hp → Prop} {c : Bool} {mA mB : Option ρ} {r : ρ} (hm : (if c = true then mA else mB) = some r) (hA : mA = some r → te σ H Qy) (hB : mB = some r → Qn H) : KCt te σ Qy Qn c H := by
  cases c with
  | true => exact hA hm
  | false => exact hB hm
theorem x_cy [Py β] {X' : Addr → Prop} {σ2 : L2.St} {H' : Hp} {K : PySem.W.Frag} {n : Nat} {G : τ → List Sl} {s s' : τ} {Γ2 : List Sl} {y : β} {r : Option β × τ} {v : V} {Qy : VK} (er : r = (some y, s')) (hy : ∀ y, r.1 = some y → ∀ v H', Lo ⟨K, X, H, muts (G s), n⟩ X H' σ (G r.2) → Rep K X H' (enc y) v → Qy v H')
    (L : Lo ⟨K, X, H, muts (G s), n⟩ X H σ (G s)) (M : Lo ⟨K, X, H, muts (G s), n⟩ X' H' σ2 Γ2) (b : Bk (G s) Γ2 (G s')) (q : Rep K X' H' (enc y) v) : Qy v H' := by
  subst er
  exact hy y rfl v H' (L.back M b) (Rep.anti M.m0 q)
theorem x_cn [Py β] {X' : Addr → Prop} {σ2 : L2.St} {H' : Hp} {K : PySem.W.Frag} {n : Nat} {G : τ → List Sl} {s s' : τ} {Γ2 : List Sl} {r : Option β × τ} {Qn : Hp → Prop} (er : r = (none, s')) (hn : r.1 = none → ∀ H', Lo ⟨K, X, H, muts (G s), n⟩ X H' σ (G r.2) → Qn H')
    (L : Lo ⟨K, X, H, muts (G s), n⟩ X H σ (G s)) (M : Lo ⟨K, X, H, muts (G s), n⟩ X' H' σ2 Γ2) (b : Bk (G s) Γ2 (G s')) : Qn H' := by
  subst er
  exact hn rfl H' (L.back M b)
end
open Py (enc)

/-! ### equality of data -/
class PyE (α : Type) [Py α] [DecidableEq α] where
  d : Nat
  eqv : ∀ x y : α, PyData.eqv (enc x) (enc y) = decide (x = y)
  lay : ∀ x : α, PyData.canLay0 (enc x) = true
  dep : ∀ x : α, PyData.depth (enc x) ≤ d
instance : PyE Int := ⟨0, fun x y => by
  show PyData.eqv (.int x) (.int y) = _
  unfold PyData.eqv
  by_cases z : x = y <;> simp [z], fun _ => rfl, fun _ => Nat.le_refl _⟩
instance : PyE Bool := ⟨0, fun x y => by cases x <;> cases y <;> rfl, fun _ => rfl, fun _ => Nat.le_refl _⟩
section
variable {α β γ δ ε : Type} [Py α] [DecidableEq α] [Py β] [DecidableEq β] [Py γ] [DecidableEq γ] [Py δ] [DecidableEq δ] [Py ε] [DecidableEq ε]
theorem eqvAll_nil : PyData.eqvAll [] [] = true := by unfold PyData.eqvAll; rfl
theorem eqvAll_cons {x y : PyData} {xs ys : List PyData} : PyData.eqvAll (x :: xs) (y :: ys) = (PyData.eqv x y && PyData.eqvAll xs ys) := by rw [PyData.eqvAll]
theorem eqv_tup {xs ys : List PyData} : PyData.eqv (.tuple xs) (.tuple ys) = PyData.eqvAll xs ys := by rw [PyData.eqv]
theorem eqv_lst {xs ys : List PyData} : PyData.eqv (.list xs) (.list ys) = PyData.eqvAll xs ys := by rw [PyData.eqv]
theorem layAll_nil : PyData.canLayAll0 [] = true := by unfold PyData.canLayAll0; rfl
theorem layAll_cons {x : PyData} {xs : List PyData} : PyData.canLayAll0 (x :: xs) = (PyData.canLay0 x && PyData.canLayAll0 xs) := by rw [PyData.canLayAll0]
theorem lay_tup {xs : List PyData} : PyData.canLay0 (.tuple xs) = PyData.canLayAll0 xs := by rw [PyData.canLay0]
theorem lay_lst {xs : List PyData} : PyData.canLay0 (.list xs) = PyData.canLayAll0 xs := by rw [PyData.canLay0]
theorem depAll_nil : PyData.depthAll [] = 0 := by unfold PyData.depthAll; rfl
theorem depAll_cons {x : PyData} {xs : List PyData} : PyData.depthAll (x :: xs) = max (PyData.depth x) (PyData.depthAll xs) := by rw [PyData.depthAll]
theorem dep_tup {xs : List PyData} : PyData.depth (.tuple xs) = PyData.depthAll xs + 1 := by rw [PyData.depth]
theorem dep_lst {xs : List PyData} : PyData.depth (.list xs) = PyData.depthAll xs + 1 := by rw [PyData.depth]
instance [PyE α] [PyE β] : PyE (T2 α β) where
  d := max (PyE.d α) (PyE.d β) + 1
  eqv := fun ⟨a, b⟩ ⟨a', b'⟩ => by
    show PyData.eqv (.tuple [enc a, enc b]) (.tuple [enc a', enc b']) = _
    rw [eqv_tup, eqvAll_cons, eqvAll_cons, eqvAll_nil, PyE.eqv, PyE.eqv]
    by_cases h1 : a = a' <;> by_cases h2 : b = b' <;> simp [h1, h2]
  lay := fun ⟨a, b⟩ => by
    show PyData.canLay0 (.tuple [enc a, enc b]) = true
    rw [lay_tup, layAll_cons, layAll_cons, layAll_nil, PyE.lay, PyE.lay]; rfl
  dep := fun ⟨a, b⟩ => by
    show PyData.depth (.tuple [enc a, enc b]) ≤ _
    rw [dep_tup, depAll_cons, depAll_cons, depAll_nil]
    have := PyE.dep a
    have := PyE.dep b
    omega
instance [PyE α] [PyE β] [PyE γ] : PyE (T3 α β γ) where
  d := max (PyE.d α) (max (PyE.d β) (PyE.d γ)) + 1
  eqv := fun ⟨a, b, c⟩ ⟨a', b', c'⟩ => by
    show PyData.eqv (.tuple [enc a, enc b, enc c]) (.tuple [enc a', enc b', enc c']) = _
    rw [eqv_tup, eqvAll_cons, eqvAll_cons, eqvAll_cons, eqvAll_nil, PyE.eqv, PyE.eqv, PyE.eqv]
    by_cases h1 : a = a' <;> by_cases h2 : b = b' <;> by_cases h3 : c = c' <;> simp [h1, h2, h3]
  lay := fun ⟨a, b, c⟩ => by
    show PyData.canLay0 (.tuple [enc a, enc b, enc c]) = true
    rw [lay_tup, layAll_cons, layAll_cons, layAll_cons, layAll_nil, PyE.lay, PyE.lay, PyE.lay]; rfl
  dep := fun ⟨a, b, c⟩ => by
    show PyData.depth (.tuple [enc a, enc b, enc c]) ≤ _
    rw [dep_tup, depAll_cons, depAll_cons, depAll_cons, depAll_nil]
    have := PyE.dep a
    have := PyE.dep b
    have := PyE.dep c
    omega
instance [PyE α] [PyE β] [PyE γ] [PyE δ] : PyE (T4 α β γ δ) where
  d := max (PyE.d α) (max (PyE.d β) (max (PyE.d γ) (PyE.d δ))) + 1
  eqv := fun ⟨a, b, c, d⟩ ⟨a', b', c', d'⟩ => by
    show PyData.eqv (.tuple [enc a, enc b, enc c, enc d]) (.tuple [enc a', enc b', enc c', enc d']) = _
    rw [eqv_tup, eqvAll_cons, eqvAll_cons, eqvAll_cons, eqvAll_cons, eqvAll_nil, PyE.eqv, PyE.eqv, PyE.eqv, PyE.eqv]
    by_cases h1 : a = a' <;> by_cases h2 : b = b' <;> by_cases h3 : c = c' <;> by_cases h4 : d = d' <;> simp [h1, h2, h3, h4]
  lay := fun ⟨a, b, c, d⟩ => by
    show PyData.canLay0 (.tuple [enc a, enc b, enc c, enc d]) = true
    rw [lay_tup, layAll_cons, layAll_cons, layAll_cons, layAll_cons, layAll_nil, PyE.lay, PyE.lay, PyE.lay, PyE.lay]; rfl
  dep := fun ⟨a, b, c, d⟩ => by
    show PyData.depth (.tuple [enc a, enc b, enc c, enc d]) ≤ _
    rw [dep_tup, depAll_cons, depAll_cons, depAll_cons, depAll_cons, depAll_nil]
    have := PyE.dep a
    have := PyE.dep b
    have := PyE.dep c
    have := PyE.dep d
    omega
instance [PyE α] : PyE (List α) where
  d := PyE.d α + 1
  eqv := fun xs ys => by
    show PyData.eqv (.list (xs.map enc)) (.list (ys.map enc)) = _
    rw [eqv_lst]
    induction xs generalizing ys with
    | nil => cases ys with
      | nil => rw [List.map_nil, eqvAll_nil]; rfl
      | cons y ys => rw [List.map_nil, List.map_cons, PyData.eqvAll]; rfl
    | cons x xs ih => cases ys with
      | nil => rw [List.map_nil, List.map_cons, PyData.eqvAll]; rfl
      | cons y ys =>
        rw [List.map_cons, List.map_cons, eqvAll_cons, ih, PyE.eqv]
        by_cases h1 : x = y <;> by_cases h2 : xs = ys <;> simp [h1, h2]
  lay := fun xs => by
    show PyData.canLay0 (.list (xs.map enc)) = true
    rw [lay_lst]
    induction xs with
    | nil => rw [List.map_nil, layAll_nil]
    | cons x xs ih => rw [List.map_cons, layAll_cons, PyE.lay, ih]; rfl
  dep := fun xs => by
    show PyData.depth (.list (xs.map enc)) ≤ _
    rw [dep_lst]
    refine Nat.succ_le_succ ?_
    induction xs with
    | nil => rw [List.map_nil, depAll_nil]; exact Nat.zero_le _
    | cons x xs ih =>
      rw [List.map_cons, depAll_cons]
      have := PyE.dep x
      omega
theorem shaped_of [PyE α] (h : PyE.d α ≤ 64) (x : α) : SeqAt.shaped (enc x) = true := by
  unfold SeqAt.shaped
  have := PyE.dep x
  rw [PyE.lay, Bool.true_and]
  exact decide_eq_true (by omega)
end

section
variable {C : Cn} {X : Addr → Prop} {H : Hp} {σ : L2.St} {Γ Γ' : List Sl} {Q : VK} {α β γ δ ε ρ : Type}
/-! ### what a value stands for, in any shape -/
theorem Lo.dpM [Py α] {xs : List α} {i : Nat} {p : Addr} (L : Lo C X H σ Γ) (g : Γ[i]? = some (.mu p (ml xs))) : Dp C.K H (.ref p) (enc xs) := by
  obtain ⟨vs, hs, q⟩ := L.mrep g
  exact .lst (.inl (.inl hs)) (Reps.dp q)
theorem x_eqd [Py α] [DecidableEq α] [PyE α] {x y : α} {u v : V} (r : Dp C.K H u (enc x)) (q : Dp C.K H v (enc y)) (h64 : PyE.d α ≤ 64) (h : Q (.bl (decide (x = y))) H) : rEqD C.K u v H Q :=
  ⟨_, _, r, q, shaped_of h64 x, shaped_of h64 y, by rw [PyE.eqv]; exact h⟩
theorem x_ned [Py α] [DecidableEq α] [PyE α] {x y : α} {u v : V} (r : Dp C.K H u (enc x)) (q : Dp C.K H v (enc y)) (h64 : PyE.d α ≤ 64) (h : Q (.bl (!decide (x = y))) H) : rNeD C.K u v H Q :=
  ⟨_, _, r, q, shaped_of h64 x, shaped_of h64 y, by rw [PyE.eqv]; exact h⟩
/-- x in xs -/
def memB {α : Type} [DecidableEq α] (x : α) (xs : List α) : Bool := xs.any fun z => decide (z = x)
theorem any_eqv [Py α] [DecidableEq α] [PyE α] {x : α} {xs : List α} : ((xs.map enc).any fun z => PyData.eqv z (enc x)) = memB x xs := by
  unfold memB
  rw [List.any_map]
  congr 1
  funext z
  exact PyE.eqv z x
theorem x_ind [Py α] [DecidableEq α] [PyE α] {x : α} {ys : List α} {u v : V} (r : Dp C.K H u (enc x)) (q : Dp C.K H v (enc ys)) (h64 : PyE.d (List α) ≤ 64) (h : Q (.bl (memB x ys)) H) : rInD C.K u v H Q :=
  ⟨_, _, r, q, shaped_of (Nat.le_trans (Nat.le_succ _) h64) x, shaped_of h64 ys, by rw [any_eqv]; exact h⟩
theorem x_nind [Py α] [DecidableEq α] [PyE α] {x : α} {ys : List α} {u v : V} (r : Dp C.K H u (enc x)) (q : Dp C.K H v (enc ys)) (h64 : PyE.d (List α) ≤ 64) (h : Q (.bl (!memB x ys)) H) : rNotInD C.K u v H Q :=
  ⟨_, _, r, q, shaped_of (Nat.le_trans (Nat.le_succ _) h64) x, shaped_of h64 ys, by rw [any_eqv]; exact h⟩
/-! ### None -/
class NN (α : Type) [Py α] : Prop where
  ne : ∀ x : α, enc x ≠ PyData.none
instance : NN Int := ⟨fun _ z => nomatch z⟩
instance : NN Bool := ⟨fun _ z => nomatch z⟩
instance : NN Str := ⟨fun _ z => nomatch z⟩
instance {α : Type} [Py α] : NN (List α) := ⟨fun _ z => nomatch z⟩
instance {α : Type} [Py α] : NN (T1 α) := ⟨fun _ z => nomatch z⟩
instance {α β : Type} [Py α] [Py β] : NN (T2 α β) := ⟨fun _ z => nomatch z⟩
instance {α β γ : Type} [Py α] [Py β] [Py γ] : NN (T3 α β γ) := ⟨fun _ z => nomatch z⟩
instance {α β γ δ : Type} [Py α] [Py β] [Py γ] [Py δ] : NN (T4 α β γ δ) := ⟨fun _ z => nomatch z⟩
theorem rep_non {K : PySem.W.Frag} {d : PyData} {v : V} (r : Rep K X H d v) (ne : d ≠ .none) : v ≠ .non := by
  cases r <;> intro z <;> first | exact ne rfl | cases z
def rIsNX : R2 := fun x y H Q => y = .non ∧ Q (.bl (decide (x = .non))) H
def rNotNX : R2 := fun x y H Q => y = .non ∧ Q (.bl (!decide (x = .non))) H
theorem op_isNX {Xc : Cx} : OpR Xc (compareOp .Is) rIsNX := op_isN
theorem op_notNX {Xc : Cx} : OpR Xc (compareOp .IsNot) rNotNX := op_notN
theorem dec_none [Py α] [NN α] {K : PySem.W.Frag} {o : Option α} {v : V} (r : Rep K X H (enc o) v) : decide (v = V.non) = o.isNone := by
  cases o with
  | none => cases (show Rep K X H PyData.none v from r); rfl
  | some x => simp [rep_non (show Rep K X H (enc x) v from r) (NN.ne x)]
theorem x_isNO [Py α] [NN α] {o : Option α} {v : V} (r : Rep C.K X H (enc o) v) (h : Q (.bl o.isNone) H) : rIsNX v .non H Q := ⟨rfl, by rw [dec_none r]; exact h⟩
theorem x_notNO [Py α] [NN α] {o : Option α} {v : V} (r : Rep C.K X H (enc o) v) (h : Q (.bl (!o.isNone)) H) : rNotNX v .non H Q := ⟨rfl, by rw [dec_none r]; exact h⟩
theorem x_isNS {v : V} {b : Bool} (e : decide (v = V.non) = b) (h : Q (.bl b) H) : rIsNX v .non H Q := ⟨rfl, by rw [e]; exact h⟩
theorem x_notNS {v : V} {b : Bool} (e : decide (v = V.non) = b) (h : Q (.bl (!b)) H) : rNotNX v .non H Q := ⟨rfl, by rw [e]; exact h⟩
theorem x_isND [Py α] [NN α] {x : α} {v : V} (r : Rep C.K X H (enc x) v) (h : Q (.bl false) H) : rIsNX v .non H Q := ⟨rfl, by rw [show decide (v = V.non) = false from by simp [rep_non r (NN.ne x)]]; exact h⟩
theorem x_notND [Py α] [NN α] {x : α} {v : V} (r : Rep C.K X H (enc x) v) (h : Q (.bl (!false)) H) : rNotNX v .non H Q := ⟨rfl, by rw [show decide (v = V.non) = false from by simp [rep_non r (NN.ne x)]]; exact h⟩
/-- a value that is not None -/
theorem Lo.someS [Py α] {o : Option α} {x : α} {i : Nat} (L : Lo C X H σ Γ) (g : Γ[i]? = some (.imm (enc o))) (e : o = some x) (eΓ : Γ.set i (.imm (enc x)) = Γ') : Lo C X H σ Γ' := by
  subst eΓ
  have hil : i < Γ.length := (List.getElem?_eq_some_iff.mp g).1
  have : Γ.set i (.imm (enc x)) = Γ := by
    apply List.ext_getElem?
    intro j
    by_cases z : j = i
    · subst z; rw [List.getElem?_set_self hil, g, e]; rfl
    · rw [List.getElem?_set_ne (Ne.symm z)]
  rw [this]; exact L
instance [Py α] [NN α] [DecidableEq α] [PyE α] : PyE (Option α) where
  d := PyE.d α
  eqv := fun x y => by
    have hn : ∀ z : α, PyData.eqv .none (enc z) = false ∧ PyData.eqv (enc z) .none = false := fun z => by
      have := NN.ne z
      constructor
      · cases h : enc z <;> first | exact (this h).elim | (unfold PyData.eqv; rfl)
      · cases h : enc z <;> first | exact (this h).elim | (unfold PyData.eqv; rfl)
    cases x with
    | none => cases y with
      | none => show PyData.eqv .none .none = _; unfold PyData.eqv; rfl
      | some y => show PyData.eqv .none (enc y) = _; rw [(hn y).1]; rfl
    | some x => cases y with
      | none => show PyData.eqv (enc x) .none = _; rw [(hn x).2]; rfl
      | some y => show PyData.eqv (enc x) (enc y) = _; rw [PyE.eqv]; by_cases z : x = y <;> simp [z]
  lay := fun x => by
    cases x with
    | none => rfl
    | some x => exact PyE.lay x
  dep := fun x => by
    cases x with
    | none => exact Nat.zero_le _
    | some x => exact PyE.dep x
/-! ### built-ins -/
theorem x_cb {r : List V → Hp → VK → Prop} {t : TA} (h : t σ H fun vs H1 => r vs H1 Q) : tCB r t σ H Q := h
theorem x_call {sp : Sp} {E : XK} {t : TA} (h : t σ H fun vs H1 => sp (vs ++ []) H1 Q E) : tCall sp [] E t σ H Q := h
def rLenX (K : PySem.W.Frag) : List V → Hp → VK → Prop := fun xs H Q => ∃ p ys, xs = [.ref p] ∧ (SqL K H p ys ∨ SqT K H p ys) ∧ Q (.int ys.length) H
theorem call_lenX {Xc : Cx} : CallR Xc (.builtin "len") (rLenX Xc.K) := call_len_seq
def rAbsX : List V → Hp → VK → Prop := fun xs H Q => ∃ i, xs = [.int i] ∧ Q (.int (if i < 0 then -i else i)) H
theorem call_absX {Xc : Cx} : CallR Xc (.builtin "abs") rAbsX := call_abs
def rIntX : List V → Hp → VK → Prop := fun xs H Q => (∃ i, xs = [.int i] ∧ Q (.int i) H) ∨ ∃ k, xs = [.bl k] ∧ Q (.int (if k then 1 else 0)) H
theorem call_intX {Xc : Cx} : CallR Xc (.type "int") rIntX := call_int1
def rMaxX : List V → Hp → VK → Prop := fun xs H Q => ∃ i j, xs = [.int i, .int j] ∧ Q (.int (if j > i then j else i)) H
theorem call_maxX {Xc : Cx} (hc : Xc.calm = true) : CallR Xc (.builtin "max") rMaxX := call_max2 hc
def rMinX : List V → Hp → VK → Prop := fun xs H Q => ∃ i j, xs = [.int i, .int j] ∧ Q (.int (if j < i then j else i)) H
theorem call_minX {Xc : Cx} (hc : Xc.calm = true) : CallR Xc (.builtin "min") rMinX := call_min2 hc
def rListX (K : PySem.W.Frag) : List V → Hp → VK → Prop := fun xs H Q => ∃ p ys, xs = [.ref p] ∧ (SqL K H p ys ∨ SqT K H p ys) ∧ ∀ l, H l = none → Q (.ref l) (upd H l (.lst ys))
theorem call_listX {Xc : Cx} : CallR Xc (.type "list") (rListX Xc.K) := call_list_of
theorem x_lenL [Py α] {xs : List α} {v : V} (r : Rep C.K X H (enc xs) v) (h : Q (.int (xs.length : Int)) H) : rLenX C.K [v] H Q := by
  obtain ⟨a, vs, rfl, _, hs, q⟩ := rep_lst (ds := xs.map enc) r
  refine ⟨a, vs, rfl, .inl (.inl hs), ?_⟩
  rw [q.length, List.length_map]; exact h
theorem x_lenS {ns : List Int} {v : V} (r : SqX C.K X H ns v) (h : Q (.int (ns.length : Int)) H) : rLenX C.K [v] H Q := by
  obtain ⟨a, rfl, hs⟩ := r.sq
  refine ⟨a, _, rfl, .inl hs, ?_⟩
  rw [List.length_map]; exact h
theorem x_lenM [Py α] {xs : List α} {j : Nat} {p : Addr} (L : Lo C X H σ Γ) (g : Γ[j]? = some (.mu p (ml xs))) (h : Q (.int (xs.length : Int)) H) : rLenX C.K [.ref p] H Q := by
  obtain ⟨vs, hs, q⟩ := L.mrep g
  refine ⟨p, vs, rfl, .inl (.inl (.inl hs)), ?_⟩
  rw [q.length, List.length_map]; exact h
theorem x_lenT {ds : List PyData} {n : Int} {v : V} (r : Rep C.K X H (.tuple ds) v) (e : (ds.length : Int) = n) (h : Q (.int n) H) : rLenX C.K [v] H Q := by
  obtain ⟨a, vs, rfl, hs, q⟩ := rep_tup r
  refine ⟨a, vs, rfl, .inr hs, ?_⟩
  rw [q.length, e]; exact h
/-- a value's type -/
def tyName : PyData → String
  | .none => "NoneType"
  | .bool _ => "bool"
  | .int _ => "int"
  | .str _ => "str"
  | .list _ => "list"
  | .tuple _ => "tuple"
  | .dict _ => "dict"
theorem Rep.ty {d : PyData} {v : V} (r : Rep C.K X H d v) : TyX C.K H v (.type (tyName d)) := by
  cases r with
  | non => exact .base .non
  | bl b => exact .base (.bl b)
  | int i => exact .base (.int i)
  | str x => exact .base (.str x)
  | tup h q =>
    exact .base (.tup h)
  | lst n h q =>
    rcases h with h | ⟨o, h⟩
    · exact .base (.lst h)
    · exact .base (.frz h)
theorem x_isi {d : PyData} {v : V} {T : String} {b : Bool} (r : Rep C.K X H d v) (e : kitB (tyName d) T = some b) (h : Q (.bl b) H) : rIsi C.K [v, .ty T] H Q :=
  ⟨v, .ty T, _, .type T, b, rfl, .ty T, r.ty, kit_ty e, h⟩
theorem x_isiI {K : PySem.W.Frag} {x : Int} {T : String} {b : Bool} (e : kitB (tyName (PyData.int x)) T = some b) (h : Q (.bl b) H) : rIsi K [(V.int x), .ty T] H Q :=
  x_isi (C := ⟨K, fun _ => False, H, [], 0⟩) (X := fun _ => False) (d := (PyData.int x)) (.int _) e h
theorem x_isiB {K : PySem.W.Frag} {x : Bool} {T : String} {b : Bool} (e : kitB (tyName (PyData.bool x)) T = some b) (h : Q (.bl b) H) : rIsi K [(V.bl x), .ty T] H Q :=
  x_isi (C := ⟨K, fun _ => False, H, [], 0⟩) (X := fun _ => False) (d := (PyData.bool x)) (.bl _) e h
theorem x_isiS {K : PySem.W.Frag} {x : Str} {T : String} {b : Bool} (e : kitB (tyName (PyData.str x)) T = some b) (h : Q (.bl b) H) : rIsi K [(V.str x), .ty T] H Q :=
  x_isi (C := ⟨K, fun _ => False, H, [], 0⟩) (X := fun _ => False) (d := (PyData.str x)) (.str _) e h
theorem x_isiN {K : PySem.W.Frag} {x : Unit} {T : String} {b : Bool} (e : kitB (tyName PyData.none) T = some b) (h : Q (.bl b) H) : rIsi K [V.non, .ty T] H Q :=
  x_isi (C := ⟨K, fun _ => False, H, [], 0⟩) (X := fun _ => False) (d := PyData.none) .non e h
theorem x_isiM {i : Nat} {p : Addr} {ds : List PyData} {T : String} {b : Bool} (L : Lo C X H σ Γ) (g : Γ[i]? = some (.mu p (.lst ds))) (e : kitB "list" T = some b) (h : Q (.bl b) H) : rIsi C.K [.ref p, .ty T] H Q := by
  obtain ⟨vs, hs, q⟩ := L.mrep g
  exact ⟨.ref p, .ty T, _, .type T, b, rfl, .ty T, .base (.lst hs), kit_ty e, h⟩
theorem x_abs {a : Int} (h : Q (.int (iabs a)) H) : rAbsX [V.int a] H Q := ⟨a, rfl, h⟩
theorem x_intb {b : Bool} (h : Q (.int (b2 b)) H) : rIntX [V.bl b] H Q := .inr ⟨b, rfl, h⟩
theorem x_inti {a : Int} (h : Q (.int a) H) : rIntX [V.int a] H Q := .inl ⟨a, rfl, h⟩
def imax (a b : Int) : Int := if b > a then b else a
def imin (a b : Int) : Int := if b < a then b else a
theorem x_max {a b : Int} (h : Q (.int (imax a b)) H) : rMaxX [V.int a, V.int b] H Q := ⟨a, b, rfl, h⟩
theorem x_min {a b : Int} (h : Q (.int (imin a b)) H) : rMinX [V.int a, V.int b] H Q := ⟨a, b, rfl, h⟩
theorem x_all {bs : List Bool} {v : V} (r : Rep C.K X H (enc bs) v) (h : Q (.bl (bs.all id)) H) : rAll C.K [v] H Q := by
  obtain ⟨a, vs, rfl, _, hs, q⟩ := rep_lst (ds := bs.map enc) r
  have e := Reps.toBools q
  subst e
  exact ⟨a, bs, rfl, .inl hs, h⟩
theorem x_sum {ns : List Int} {v : V} (r : Rep C.K X H (enc ns) v) (h : Q (.int ns.sum) H) : rSum C.K [v] H Q := by
  obtain ⟨a, vs, rfl, _, hs, q⟩ := rep_lst (ds := ns.map enc) r
  have e := Reps.toInts q
  subst e
  exact ⟨a, ns, rfl, .inl hs, h⟩
theorem x_any {bs : List Bool} {v : V} (r : Rep C.K X H (enc bs) v) (h : Q (.bl (bs.any id)) H) : rAny C.K [v] H Q := by
  obtain ⟨a, vs, rfl, _, hs, q⟩ := rep_lst (ds := bs.map enc) r
  have e := Reps.toBools q
  subst e
  exact ⟨a, bs, rfl, .inl hs, h⟩
/-! ### slices, sums of lists -/
def slice {α : Type} (xs : List α) (lo hi : Option Int) : List α := (xs.drop (HT.sIx xs.length 0 lo)).take (HT.sIx xs.length xs.length hi - HT.sIx xs.length 0 lo)
def KPart (Q : Option Int → Hp → Prop) : VK := fun x H => ∃ i, x = .int i ∧ Q (some i) H
theorem x_sl {r : V → Option Int → Option Int → Hp → VK → Prop} {te : TE} {tl th : TO} (h : te σ H fun x H1 => tl σ H1 fun l H2 => th σ H2 fun u H3 => r x l u H3 Q) : tSl r te tl th σ H Q := h
theorem x_noP {Q : Option Int → Hp → Prop} (h : Q none H) : tNoPart σ H Q := h
theorem x_part {t : TE} {Q : Option Int → Hp → Prop} (h : t σ H (KPart Q)) : tPart t σ H Q := h
theorem x_partK {i : Int} {Q : Option Int → Hp → Prop} (h : Q (some i) H) : KPart Q (.int i) H := ⟨i, rfl, h⟩
theorem reps_slice {K : PySem.W.Frag} [Py α] {xs : List α} {vs : List V} {lo hi : Option Int} (q : Reps K X H (xs.map enc) vs) : Reps K X H ((slice xs lo hi).map enc) (cutV vs lo hi) := by
  have e : vs.length = xs.length := by rw [q.length, List.length_map]
  unfold slice cutV
  rw [e, List.map_take, List.map_drop]
  exact (q.drop _).take _
/-- a new list, told as data or as the body's own -/
theorem x_new {ds : List PyData} {vs : List V} (L : Lo C X H σ Γ) (q : Reps C.K X H ds vs) (h : ∀ v H1, Lo C X H1 σ Γ → (∀ d u, Rep C.K X H d u → Rep C.K X H1 d u) → Rep C.K X H1 (.list ds) v → Q v H1) : ∀ p, H p = none → Q (.ref p) (upd H p (.lst vs)) := fun p hp => by
  have s : Same H (upd H p (.lst vs)) := same_upd hp
  have r : RRep C.K X H (upd H p (.lst vs)) (.new (.lst ds)) (.ref p) := ⟨p, rfl, hp, vs, upd_same, (q.more hp).keep (.same s)⟩
  exact h _ _ (L.same s) (fun _ _ r => r.keep (.same s)) (r.imm L.xd)
theorem x_newN {ds : List PyData} {vs : List V} (L : Lo C X H σ Γ) (q : Reps C.K X H ds vs) (h : ∀ p X' H1, C.H0 p = none → ¬ C.X0 p → Lo C X' H1 σ (Γ ++ [.tmp p (.lst ds)]) → (∀ d u, Rep C.K X H d u → Rep C.K X' H1 d u) → Q (.ref p) H1) : ∀ p, H p = none → Q (.ref p) (upd H p (.lst vs)) := fun p hp => by
  have s : Same H (upd H p (.lst vs)) := same_upd hp
  obtain ⟨L1, le, h0, hx⟩ := L.lay (o := .lst ds) hp s ⟨vs, upd_same, (q.more hp).keep (.same s)⟩
  exact h p _ _ h0 hx L1 le
theorem x_slL [Py α] {xs : List α} {v : V} {lo hi : Option Int} (L : Lo C X H σ Γ) (r : Rep C.K X H (enc xs) v) (h : ∀ v H1, Lo C X H1 σ Γ → (∀ d u, Rep C.K X H d u → Rep C.K X H1 d u) → Rep C.K X H1 (enc (slice xs lo hi)) v → Q v H1) : rSlL C.K v lo hi H Q := by
  obtain ⟨a, vs, rfl, _, hs, q⟩ := rep_lst (ds := xs.map enc) r
  exact ⟨a, vs, rfl, .inl hs, x_new L (reps_slice q) h⟩
theorem x_slN [Py α] {xs : List α} {v : V} {lo hi : Option Int} (L : Lo C X H σ Γ) (r : Rep C.K X H (enc xs) v) (h : ∀ p X' H1, C.H0 p = none → ¬ C.X0 p → Lo C X' H1 σ (Γ ++ [.tmp p (ml (slice xs lo hi))]) → (∀ d u, Rep C.K X H d u → Rep C.K X' H1 d u) → Q (.ref p) H1) : rSlL C.K v lo hi H Q := by
  obtain ⟨a, vs, rfl, _, hs, q⟩ := rep_lst (ds := xs.map enc) r
  exact ⟨a, vs, rfl, .inl hs, x_newN L (reps_slice q) h⟩
theorem x_slM [Py α] {xs : List α} {i : Nat} {p : Addr} {lo hi : Option Int} (L : Lo C X H σ Γ) (g : Γ[i]? = some (.mu p (ml xs))) (h : ∀ v H1, Lo C X H1 σ Γ → (∀ d u, Rep C.K X H d u → Rep C.K X H1 d u) → Rep C.K X H1 (enc (slice xs lo hi)) v → Q v H1) : rSlL C.K (.ref p) lo hi H Q := by
  obtain ⟨vs, hs, q⟩ := L.mrep g
  exact ⟨p, vs, rfl, .inl (.inl hs), x_new L (reps_slice q) h⟩
theorem x_slMN [Py α] {xs : List α} {i : Nat} {p : Addr} {lo hi : Option Int} (L : Lo C X H σ Γ) (g : Γ[i]? = some (.mu p (ml xs))) (h : ∀ p X' H1, C.H0 p = none → ¬ C.X0 p → Lo C X' H1 σ (Γ ++ [.tmp p (ml (slice xs lo hi))]) → (∀ d u, Rep C.K X H d u → Rep C.K X' H1 d u) → Q (.ref p) H1) : rSlL C.K (.ref p) lo hi H Q := by
  obtain ⟨vs, hs, q⟩ := L.mrep g
  exact ⟨p, vs, rfl, .inl (.inl hs), x_newN L (reps_slice q) h⟩
theorem x_slS {ns : List Int} {v : V} {lo hi : Option Int} (L : Lo C X H σ Γ) (r : SqX C.K X H ns v) (h : ∀ v H1, Lo C X H1 σ Γ → (∀ d u, Rep C.K X H d u → Rep C.K X H1 d u) → Rep C.K X H1 (enc (slice ns lo hi)) v → Q v H1) : rSlL C.K v lo hi H Q := by
  obtain ⟨a, rfl, hs⟩ := r.sq
  refine ⟨a, _, rfl, hs, x_new L (reps_slice (xs := ns) ?_) h⟩
  exact Reps.ints
/-- a part of a tuple -/
theorem x_slT {ds es : List PyData} {v : V} {lo hi : Option Int} (n : Nat) (L : Lo C X H σ Γ) (r : Rep C.K X H (.tuple ds) v) (hn : ds.length = n) (e : (ds.drop (HT.sIx ds.length 0 lo)).take (HT.sIx ds.length ds.length hi - HT.sIx ds.length 0 lo) = es) (ne : ¬ (HT.sIx n 0 lo = 0 ∧ HT.sIx n n hi = n))
    (h : ∀ v H1, Lo C X H1 σ Γ → (∀ d u, Rep C.K X H d u → Rep C.K X H1 d u) → Rep C.K X H1 (.tuple es) v → Q v H1) : rSlT C.K v lo hi H Q := by
  obtain ⟨a, vs, rfl, hs, q⟩ := rep_tup r
  have e2 : vs.length = ds.length := q.length
  refine ⟨a, vs, rfl, hs, by rw [e2, hn]; exact ne, fun p hp => ?_⟩
  have s : Same H (upd H p (.tup (cutV vs lo hi))) := same_upd hp
  have q2 : Reps C.K X H es (cutV vs lo hi) := by
    rw [← e]
    unfold cutV
    rw [e2]
    exact (q.drop _).take _
  exact h _ _ (L.same s) (fun _ _ r => r.keep (.same s)) (.tup upd_same (q2.keep (.same s)))
/-- xs[::-1] -/
def KRev (K : PySem.W.Frag) (Q : VK) : VK := fun x H => ∃ a xs, x = .ref a ∧ SqL K H a xs ∧ ∀ p, H p = none → Q (.ref p) (upd H p (.lst xs.reverse))
theorem x_revL {K : PySem.W.Frag} {te : TE} (h : te σ H (KRev K Q)) : tRevL K te σ H Q := h
theorem x_revv [Py α] {xs : List α} {v : V} (L : Lo C X H σ Γ) (r : Rep C.K X H (enc xs) v) (h : ∀ v H1, Lo C X H1 σ Γ → (∀ d u, Rep C.K X H d u → Rep C.K X H1 d u) → Rep C.K X H1 (enc xs.reverse) v → Q v H1) : KRev C.K Q v H := by
  obtain ⟨a, vs, rfl, _, hs, q⟩ := rep_lst (ds := xs.map enc) r
  exact ⟨a, vs, rfl, .inl hs, x_new (ds := xs.reverse.map enc) L (by rw [List.map_reverse]; exact q.reverse) h⟩
theorem x_revN [Py α] {xs : List α} {v : V} (L : Lo C X H σ Γ) (r : Rep C.K X H (enc xs) v) (h : ∀ p X' H1, C.H0 p = none → ¬ C.X0 p → Lo C X' H1 σ (Γ ++ [.tmp p (ml xs.reverse)]) → (∀ d u, Rep C.K X H d u → Rep C.K X' H1 d u) → Q (.ref p) H1) : KRev C.K Q v H := by
  obtain ⟨a, vs, rfl, _, hs, q⟩ := rep_lst (ds := xs.map enc) r
  exact ⟨a, vs, rfl, .inl hs, x_newN (ds := xs.reverse.map enc) L (by rw [List.map_reverse]; exact q.reverse) h⟩
/-- list(xs) -/
theorem x_listL [Py α] {xs : List α} {v : V} (L : Lo C X H σ Γ) (r : Rep C.K X H (enc xs) v) (h : ∀ v H1, Lo C X H1 σ Γ → (∀ d u, Rep C.K X H d u → Rep C.K X H1 d u) → Rep C.K X H1 (enc xs) v → Q v H1) : rListX C.K [v] H Q := by
  obtain ⟨a, vs, rfl, _, hs, q⟩ := rep_lst (ds := xs.map enc) r
  exact ⟨a, vs, rfl, .inl (.inl hs), x_new L q h⟩
theorem x_listN [Py α] {xs : List α} {v : V} (L : Lo C X H σ Γ) (r : Rep C.K X H (enc xs) v) (h : ∀ p X' H1, C.H0 p = none → ¬ C.X0 p → Lo C X' H1 σ (Γ ++ [.tmp p (ml xs)]) → (∀ d u, Rep C.K X H d u → Rep C.K X' H1 d u) → Q (.ref p) H1) : rListX C.K [v] H Q := by
  obtain ⟨a, vs, rfl, _, hs, q⟩ := rep_lst (ds := xs.map enc) r
  exact ⟨a, vs, rfl, .inl (.inl hs), x_newN L q h⟩
theorem x_listM [Py α] {xs : List α} {i : Nat} {p : Addr} (L : Lo C X H σ Γ) (g : Γ[i]? = some (.mu p (ml xs))) (h : ∀ v H1, Lo C X H1 σ Γ → (∀ d u, Rep C.K X H d u → Rep C.K X H1 d u) → Rep C.K X H1 (enc xs) v → Q v H1) : rListX C.K [.ref p] H Q := by
  obtain ⟨vs, hs, q⟩ := L.mrep g
  exact ⟨p, vs, rfl, .inl (.inl (.inl hs)), x_new L q h⟩
def rCatR : R2 := fun x y H Q => ∃ l b xs zs, x = .ref l ∧ y = .ref b ∧ Rd H l (.lst xs) ∧ Rd H b (.lst zs) ∧ xs.length + zs.length ≤ sizeLine ∧ ∀ p, H p = none → Q (.ref p) (upd H p (.lst (xs ++ zs)))
theorem op_catR {Xc : Cx} : OpR Xc (binaryOp .Add) rCatR := by
  intro pins s σ H x y v u Q I rx ry h
  obtain ⟨l, b, xs, zs, rfl, rfl, hH, hB, hz, q⟩ := h
  cases rx
  cases ry
  obtain ⟨z, its, n, r, e⟩ := hH.ok I.hok
  obtain ⟨z2, its2, n2, r2, e2⟩ := hB.ok I.hok
  have hl := r.length
  have hl2 := r2.length
  refine PySem.P.add_list e e2 ?_ (by rw [List.size_toArray, List.size_toArray]; omega)
  have ea : its.toArray ++ its2.toArray = (its ++ its2).toArray := by simp
  rw [ea]
  exact ⟨.ref _, _, I.lnew (t' := s.toks) (r.append r2) (by rw [List.length_append]; omega), rfl, q _ I.fresh⟩
theorem len_ok {n : Nat} {k : Unit → Option ρ} {r : ρ} (hm : (lenOk n).bind k = some r) : n ≤ 16777216 ∧ k () = some r := by
  obtain ⟨_, e, hk⟩ := ob hm
  unfold lenOk at e
  split at e
  · exact ⟨by assumption, hk⟩
  · cases e
theorem lenOk_le {n : Nat} {u : Unit} (h : lenOk n = some u) : n ≤ 16777216 := by
  unfold lenOk at h
  split at h
  · assumption
  · cases h
theorem x_cat [Py α] {xs ys : List α} {u v : V} {k : Unit → Option ρ} {r : ρ} (L : Lo C X H σ Γ) (hm : (lenOk (xs.length + ys.length)).bind k = some r) (p : Rep C.K X H (enc xs) u) (q : Rep C.K X H (enc ys) v)
    (h : ∀ v H1, k () = some r → Lo C X H1 σ Γ → (∀ d u, Rep C.K X H d u → Rep C.K X H1 d u) → Rep C.K X H1 (enc (xs ++ ys)) v → Q v H1) : rCatR u v H Q := by
  obtain ⟨hl, hk⟩ := len_ok hm
  obtain ⟨a, vs, rfl, _, hs, q1⟩ := rep_lst (ds := xs.map enc) p
  obtain ⟨b, ws, rfl, _, ht, q2⟩ := rep_lst (ds := ys.map enc) q
  have q3 : Reps C.K X H ((xs ++ ys).map enc) (vs ++ ws) := by rw [List.map_append]; exact q1.append q2
  exact ⟨a, b, vs, ws, rfl, rfl, hs, ht, by rw [line_eq, q1.length, q2.length, List.length_map, List.length_map]; exact hl, x_new L q3 fun v H1 => h v H1 hk⟩
theorem x_catN [Py α] {xs ys : List α} {u v : V} {k : Unit → Option ρ} {r : ρ} (L : Lo C X H σ Γ) (hm : (lenOk (xs.length + ys.length)).bind k = some r) (p : Rep C.K X H (enc xs) u) (q : Rep C.K X H (enc ys) v)
    (h : ∀ p X' H1, k () = some r → C.H0 p = none → ¬ C.X0 p → Lo C X' H1 σ (Γ ++ [.tmp p (ml (xs ++ ys))]) → (∀ d u, Rep C.K X H d u → Rep C.K X' H1 d u) → Q (.ref p) H1) : rCatR u v H Q := by
  obtain ⟨hl, hk⟩ := len_ok hm
  obtain ⟨a, vs, rfl, _, hs, q1⟩ := rep_lst (ds := xs.map enc) p
  obtain ⟨b, ws, rfl, _, ht, q2⟩ := rep_lst (ds := ys.map enc) q
  have q3 : Reps C.K X H ((xs ++ ys).map enc) (vs ++ ws) := by rw [List.map_append]; exact q1.append q2
  exact ⟨a, b, vs, ws, rfl, rfl, hs, ht, by rw [line_eq, q1.length, q2.length, List.length_map, List.length_map]; exact hl, x_newN L q3 fun p X' H1 => h p X' H1 hk⟩
/-! ### methods of lists -/
theorem x_bm {T : String} {r : V → List V → Hp → VK → Prop} {to : TE} {t : TA} (h : to σ H fun x H1 => tyV C.K T x H1 ∧ t σ H1 fun xs H2 => r x xs H2 Q) : tBM C.K T r to t σ H Q := h
theorem x_bm0 {T : String} {r : V → List V → Hp → VK → Prop} {to : TE} (h : to σ H fun x H1 => tyV C.K T x H1 ∧ r x [] H1 Q) : tBM0 C.K T r to σ H Q := h
theorem x_tyM {i : Nat} {p : Addr} {ds : List PyData} {P : Prop} (L : Lo C X H σ Γ) (g : Γ[i]? = some (.mu p (.lst ds))) (h : P) : tyV C.K "list" (.ref p) H ∧ P := by
  obtain ⟨vs, hs, _⟩ := L.mrep g
  exact ⟨.inl ⟨rfl, vs, .inl (.inl hs)⟩, h⟩
/-- the list in a slot is written -/
theorem Lo.write (L : Lo C X H σ Γ) {i : Nat} {p : Addr} {ds es : List PyData} {vs ws : List V} (g : Γ[i]? = some (.mu p (.lst ds))) (hs : H p = some (.lst vs)) (q : Reps C.K X H es ws) :
    Lo C X (upd H p (.lst ws)) σ (Γ.set i (.mu p (.lst es))) ∧ (∀ d u, Rep C.K X H d u → Rep C.K X (upd H p (.lst ws)) d u) := by
  have hX : X p := L.mx p (mem_muts.mpr ⟨i, _, g, rfl⟩)
  have kp : Keep X H (upd H p (.lst ws)) := ⟨fun a u h n => by rw [upd_ne (fun z => n (by rw [z]; exact hX))]; exact h, fun a us h => by rw [upd_ne (fun z => by rw [z, hs] at h; cases h)]; exact h, fun a u w h => by rw [upd_ne (fun z => by rw [z, hs] at h; cases h)]; exact h⟩
  exact L.wrote (H' := upd H p (.lst ws)) (o := .lst es) g rfl (fun a u h n => by rw [upd_ne n]; exact h) (fun a h => by
      by_cases z : a = p
      · rw [z, upd_same]; exact fun y => nomatch y
      · rw [upd_ne z]; exact h) ⟨ws, upd_same, q.keep kp⟩
theorem x_append [Py α] {xs : List α} {x : α} {v : V} {i : Nat} {p : Addr} {k : Unit → Option ρ} {r : ρ} (L : Lo C X H σ Γ) (g : Γ[i]? = some (.mu p (ml xs))) (hm : (lenOk (xs.length + 1)).bind k = some r) (q : Rep C.K X H (enc x) v) (e : Γ.set i (.mu p (ml (xs ++ [x]))) = Γ')
    (h : ∀ H1, k () = some r → Lo C X H1 σ Γ' → (∀ d u, Rep C.K X H d u → Rep C.K X H1 d u) → Q .non H1) : rAppend (.ref p) [v] H Q := by
  subst e
  obtain ⟨hl, hk⟩ := len_ok hm
  obtain ⟨vs, hs, rs⟩ := L.mrep g
  have hlen : vs.length = xs.length := by rw [rs.length, List.length_map]
  obtain ⟨L1, le⟩ := L.write (es := (xs ++ [x]).map enc) (ws := vs ++ [v]) g hs (by rw [List.map_append]; exact rs.append (.cons q .nil))
  exact ⟨p, vs, v, rfl, rfl, hs, by rw [line_eq]; omega, h _ hk L1 le⟩
def rExtendR : V → List V → Hp → VK → Prop := fun x vs H Q => ∃ l b xs zs, x = .ref l ∧ vs = [.ref b] ∧ H l = some (.lst xs) ∧ Rd H b (.lst zs) ∧ xs.length + zs.length ≤ sizeLine ∧ Q .non (upd H l (.lst (xs ++ zs)))
theorem mt_extendR {Xc : Cx} : MtM Xc "list.extend" rExtendR := by
  intro pins s σ H x vs v us Q I rx rv h
  obtain ⟨l, b, xs, zs, rfl, rfl, hH, hB, hz, q⟩ := h
  cases rx
  obtain ⟨u, rfl, ru⟩ := rv.one
  cases ru
  obtain ⟨z, its, n, r, hl, e⟩ := I.lstM hH
  obtain ⟨z2, its2, n2, r2, e2⟩ := hB.ok I.hok
  have hl2 := r2.length
  have hsz : its.toArray.size + its2.toArray.size ≤ sizeLine := by rw [List.size_toArray, List.size_toArray]; omega
  have hlong : ¬ (!its.toArray.isEmpty && Builtin.List.listTooLong (its.toArray.size + its2.toArray.size)) = true := by
    rw [notLongL hsz, Bool.and_false]
    exact Bool.false_ne_true
  refine call_meets F.slot_list_extend ⟨_, e, rfl⟩ F.entry_list_extend (F.args_list_extend_2 _ _)
    (AutoSeq1.list_extend_list_list_0 l its.toArray n b its2.toArray n2 hlong (by rw [List.size_toArray]; omega) (by omega)) ⟨e, e2, ?_⟩
  refine ⟨.non, _, I.lset (its' := its ++ its2) hH e (by simp) (r.append r2) ?_, rfl, q⟩
  rw [List.length_append]
  omega
theorem x_extend [Py α] {xs ys : List α} {v : V} {i : Nat} {p : Addr} {k : Unit → Option ρ} {r : ρ} (L : Lo C X H σ Γ) (g : Γ[i]? = some (.mu p (ml xs))) (hm : (lenOk (xs.length + ys.length)).bind k = some r) (q : Rep C.K X H (enc ys) v) (e : Γ.set i (.mu p (ml (xs ++ ys))) = Γ')
    (h : ∀ H1, k () = some r → Lo C X H1 σ Γ' → (∀ d u, Rep C.K X H d u → Rep C.K X H1 d u) → Q .non H1) : rExtendR (.ref p) [v] H Q := by
  subst e
  obtain ⟨hl, hk⟩ := len_ok hm
  obtain ⟨vs, hs, rs⟩ := L.mrep g
  obtain ⟨b, ws, rfl, _, ht, q2⟩ := rep_lst (ds := ys.map enc) q
  obtain ⟨L1, le⟩ := L.write (es := (xs ++ ys).map enc) (ws := vs ++ ws) g hs (by rw [List.map_append]; exact rs.append q2)
  exact ⟨p, b, vs, ws, rfl, rfl, hs, ht, by rw [line_eq, rs.length, q2.length, List.length_map, List.length_map]; exact hl, h _ hk L1 le⟩
/-! ### what a call asks, and what stands behind it -/
theorem nd0 {Γa : List Sl} (e : muts Γa = []) : (muts Γa).Nodup := by rw [e]; exact List.nodup_nil
theorem nd1 {Γa : List Sl} {p : Addr} (e : muts Γa = [p]) : (muts Γa).Nodup := by rw [e]; simp
theorem Lo.cond0 (L : Lo C X H σ Γ) {Γa : List Sl} {vs : List V} (as : As C.K X H Γa vs) (e : muts Γa = []) : Cond C.K X H Γa vs := L.cond as (nd0 e) (by rw [e]; intro _ h; cases h)
theorem Lo.cond1 (L : Lo C X H σ Γ) {Γa : List Sl} {vs : List V} {i : Nat} {s : Sl} {p : Addr} (as : As C.K X H Γa vs) (e : muts Γa = [p]) (g : Γ[i]? = some s) (es : s.ad = some p) : Cond C.K X H Γa vs := L.cond as (nd1 e) (by
  rw [e]; intro q h
  rw [List.mem_singleton] at h
  subst h
  exact mem_muts.mpr ⟨i, s, g, es⟩)
theorem hp0 {K : PySem.W.Frag} : ∀ q ∈ ([] : List (Addr × MO)), MRep K X H q.1 q.2 := fun _ h => nomatch h
theorem hp1 {K : PySem.W.Frag} {p : Addr} {o : MO} (h : MRep K X H p o) : ∀ q ∈ [(p, o)], MRep K X H q.1 q.2 := fun q hq => by
  rw [List.mem_singleton] at hq
  subst hq
  exact h
theorem Lo.tmp (L : Lo C X H σ Γ) {i : Nat} {p : Addr} {o : MO} (e : Γ[i]? = some (.tmp p o)) : MRep C.K X H p o := L.at_ i _ e
/-- behind a call -/
theorem k0 {v : V} {H' : Hp} {rs : Rs} {ps : List (Addr × MO)} {G : Prop} (L : Lo C X H σ Γ) (F : Fin C.K X H [] ps rs v H') (h : Lo C X H' σ Γ → (∀ d u, Rep C.K X H d u → Rep C.K X H' d u) → G) : G := h (L.after0 F).1 (L.after0 F).2
theorem k0d {v : V} {H' : Hp} {d : PyData} {ps : List (Addr × MO)} {G : Prop} (L : Lo C X H σ Γ) (F : Fin C.K X H [] ps (.imm d) v H') (h : Lo C X H' σ Γ → (∀ d u, Rep C.K X H d u → Rep C.K X H' d u) → Rep C.K X H' d v → G) : G := h (L.after0 F).1 (L.after0 F).2 F.res
/-- .. that tells a new list, as data -/
theorem k0i {v : V} {H' : Hp} {ds : List PyData} {ps : List (Addr × MO)} {G : Prop} (L : Lo C X H σ Γ) (F : Fin C.K X H [] ps (.new (.lst ds)) v H') (h : Lo C X H' σ Γ → (∀ d u, Rep C.K X H d u → Rep C.K X H' d u) → Rep C.K X H' (.list ds) v → G) : G := h (L.after0 F).1 (L.after0 F).2 (RRep.imm F.res L.xd)
/-- .. as the body's own -/
theorem k0N {p : Addr} {H' : Hp} {o : MO} {ps : List (Addr × MO)} {P : Prop} (L : Lo C X H σ Γ) (F : Fin C.K X H [] ps (.new o) (.ref p) H') (h : ∀ X', C.H0 p = none → ¬ C.X0 p → Lo C X' H' σ (Γ ++ [.tmp p o]) → (∀ d u, Rep C.K X H d u → Rep C.K X' H' d u) → P) : P := by
  obtain ⟨p', e, a, b, X', c, d⟩ := L.after0N F
  cases e
  exact h X' a b c d
/-- .. that wrote the object of one slot -/
theorem k1 {v : V} {H' : Hp} {rs : Rs} {p : Addr} {o : MO} {s : Sl} {G : Prop} (L : Lo C X H σ Γ) (F : Fin C.K X H [p] [(p, o)] rs v H') {i : Nat} (e : Γ[i]? = some s) (es : s.ad = some p) (eΓ : Γ.set i (s.to o) = Γ') (h : Lo C X H' σ Γ' → (∀ d u, Rep C.K X H d u → Rep C.K X H' d u) → G) : G := by
  subst eΓ
  exact h (L.after1 F e es).1 (L.after1 F e es).2
theorem k1d {v : V} {H' : Hp} {d : PyData} {p : Addr} {o : MO} {s : Sl} {G : Prop} (L : Lo C X H σ Γ) (F : Fin C.K X H [p] [(p, o)] (.imm d) v H') {i : Nat} (e : Γ[i]? = some s) (es : s.ad = some p) (eΓ : Γ.set i (s.to o) = Γ') (h : Lo C X H' σ Γ' → (∀ d u, Rep C.K X H d u → Rep C.K X H' d u) → Rep C.K X H' d v → G) : G := by
  subst eΓ
  exact h (L.after1 F e es).1 (L.after1 F e es).2 F.res
theorem k1i {v : V} {H' : Hp} {ds : List PyData} {p : Addr} {o : MO} {s : Sl} {G : Prop} (L : Lo C X H σ Γ) (F : Fin C.K X H [p] [(p, o)] (.new (.lst ds)) v H') {i : Nat} (e : Γ[i]? = some s) (es : s.ad = some p) (eΓ : Γ.set i (s.to o) = Γ') (h : Lo C X H' σ Γ' → (∀ d u, Rep C.K X H d u → Rep C.K X H' d u) → Rep C.K X H' (.list ds) v → G) : G := by
  subst eΓ
  exact h (L.after1 F e es).1 (L.after1 F e es).2 (RRep.imm F.res L.xd)
/-- .. and tells a new one, the body's own -/
theorem ints_any {K : PySem.W.Frag} {X Y : Addr → Prop} : ∀ {xs : List Int} {vs : List V}, Reps K X H (xs.map enc) vs → Reps K Y H (xs.map enc) vs
  | [], _, .nil => .nil
  | _ :: _, _, .cons (.int i) t => .cons (.int i) (ints_any t)
theorem k1N {q : Addr} {H' : Hp} {o' : MO} {p : Addr} {xs : List Int} {s : Sl} {P : Prop} (L : Lo C X H σ Γ) (F : Fin C.K X H [p] [(p, ml xs)] (.new o') (.ref q) H') {i : Nat} (e : Γ[i]? = some s) (es : s.ad = some p) (eΓ : Γ.set i (s.to (ml xs)) = Γ') (h : ∀ X', C.H0 q = none → ¬ C.X0 q → Lo C X' H' σ (Γ' ++ [.tmp q o']) → (∀ d u, Rep C.K X H d u → Rep C.K X' H' d u) → P) : P := by
  subst eΓ
  have hpm : p ∈ muts Γ := mem_muts.mpr ⟨i, s, e, es⟩
  have hpx : X p := L.mx p hpm
  obtain ⟨o0, r0⟩ := L.mem hpm
  have kp : Keep X H H' := ⟨fun a u h n => F.base a u h fun z => n (by rw [List.mem_singleton] at z; exact z ▸ hpx), fun a vs h => F.base a _ h fun z => by rw [List.mem_singleton] at z; exact r0.ntup.1 _ (z ▸ h), fun a u w h => F.base a _ h fun z => by rw [List.mem_singleton] at z; exact r0.ntup.2 _ _ (z ▸ h)⟩
  have L' := (L.after1 F e es).1
  have hil : i < Γ.length := (List.getElem?_eq_some_iff.mp e).1
  obtain ⟨q', e', a, b, c, d⟩ := L.afterN F L' kp (by intro q hq; rw [List.mem_singleton] at hq; exact hq ▸ hpm) (muts_to e) fun j t hj => by
    have hs := L'.at_ j t hj
    by_cases z : j = i
    · subst z
      rw [List.getElem?_set_self hil] at hj
      cases hj
      have hp' : (s.to (ml xs)).ad = some p := by
        cases s with
        | unk => cases es
        | scr ns => cases es
        | ref a => cases es
        | imm d => cases es
        | fix _ _ => cases es
        | fixN _ _ => cases es
        | exv _ _ => cases es
        | lax _ _ => cases es
        | mu p' o1 => exact es
        | tmp p' o1 => exact es
      refine .inr ⟨p, hp', fun q hq => ?_⟩
      obtain ⟨vs, h1, h2⟩ := F.mu (p, ml xs) (by simp)
      have this : MRep C.K (fun a => X a ∨ a = q) H' p (ml xs) := ⟨vs, h1, ints_any h2⟩
      cases s with
      | unk => cases es
      | scr ns => cases es
      | ref a => cases es
      | imm d => cases es
      | fix _ _ => cases es
      | fixN _ _ => cases es
      | exv _ _ => cases es
      | lax _ _ => cases es
      | mu p' o1 => cases es; exact ⟨hs.1, this⟩
      | tmp p' o1 => cases es; exact this
    · rw [List.getElem?_set_ne (Ne.symm z)] at hj
      cases ea : t.ad with
      | none => exact .inl ⟨rfl, hj⟩
      | some p' =>
        refine .inr ⟨p', rfl, fun q hq => ((L.at_ j t hj).more hq).keep (kp.mono fun a h => .inl h) fun p'' e'' => ?_⟩
        rw [ea] at e''; cases e''
        obtain ⟨o', r'⟩ := (L.at_ j t hj).mrep ea
        have ne : p' ≠ p := fun y => z (ad_unique L.nd hj e (by rw [ea, y]) es)
        cases h : H p' with
        | none => exact (r'.nn h).elim
        | some u => exact F.base p' u h (by simpa using ne)
  cases e'
  exact h _ a b c d
/-- an object of the body's own is told -/
theorem Lo.finM {ps : List (Addr × MO)} {o : MO} {p : Addr} {i : Nat} (L : Lo C X H σ Γ) (hp : ∀ q ∈ ps, MRep C.K X H q.1 q.2) (e : Γ[i]? = some (.mu p o)) (hn : C.H0 p = none) : Fin C.K C.X0 C.H0 C.P0 ps (.new o) (.ref p) H :=
  L.finN hp hn (L.mx p (mem_muts.mpr ⟨i, _, e, rfl⟩)) (L.mrep e)
theorem Lo.finT {ps : List (Addr × MO)} {o : MO} {p : Addr} {i : Nat} (L : Lo C X H σ Γ) (hp : ∀ q ∈ ps, MRep C.K X H q.1 q.2) (e : Γ[i]? = some (.tmp p o)) (hn : C.H0 p = none) : Fin C.K C.X0 C.H0 C.P0 ps (.new o) (.ref p) H :=
  L.finN hp hn (L.mx p (mem_muts.mpr ⟨i, _, e, rfl⟩)) (L.tmp e)
/-! ### the ends of bodies, turns, branches -/
theorem x_fin {K : PySem.W.Frag} {H0 : Hp} {P0 : List Addr} {ps : ρ → List (Addr × MO)} {rs : ρ → Rs} {e r : ρ} {v : V} (hm : some e = some r) (kont : ∀ v H', Fin K X H0 P0 (ps r) (rs r) v H' → Q v H') (F : Fin K X H0 P0 (ps e) (rs e) v H) : Q v H := by
  cases hm; exact kont v H F
theorem x_finP {K : PySem.W.Frag} {H0 : Hp} {P0 : List Addr} {ps : ρ → List (Addr × MO)} {o : ρ → MO} {e r : ρ} {p : Addr} (hm : some e = some r) (kont : ∀ p H', Fin K X H0 P0 (ps r) (.new (o r)) (.ref p) H' → Q (.ref p) H') (F : Fin K X H0 P0 (ps e) (.new (o e)) (.ref p) H) : Q (.ref p) H := by
  cases hm; exact kont p H F
theorem x_finRP {K : PySem.W.Frag} {H0 : Hp} {P0 : List Addr} {ps : ρ → List (Addr × MO)} {o : ρ → MO} {e r : ρ} {v : V} (hm : some e = some r) (kont : ∀ p H', Fin K X H0 P0 (ps r) (.new (o r)) (.ref p) H' → Q (.ref p) H') (F : Fin K X H0 P0 (ps e) (.new (o e)) v H) : Q v H := by
  cases hm
  obtain ⟨p, rfl, _⟩ := F.res
  exact kont p H F
theorem x_finI {K : PySem.W.Frag} {H0 : Hp} {P0 : List Addr} {ps : ρ → List (Addr × MO)} {sc : ρ → Int} {r : ρ} (e : ρ) (hm : some e = some r) (kont : ∀ H', (fun x => Fin K X H0 P0 (ps r) (.imm (PyData.int x)) (V.int x) H') (sc r) → (fun x => Q (V.int x) H') (sc r)) (F : (fun x => Fin K X H0 P0 (ps e) (.imm (PyData.int x)) (V.int x) H) (sc e)) : (fun x => Q (V.int x) H) (sc e) := by
  cases hm; exact kont H F
theorem x_finRI {K : PySem.W.Frag} {H0 : Hp} {P0 : List Addr} {ps : ρ → List (Addr × MO)} {sc : ρ → Int} {e r : ρ} {v : V} (hm : some e = some r) (kont : ∀ H', (fun x => Fin K X H0 P0 (ps r) (.imm (PyData.int x)) (V.int x) H') (sc r) → (fun x => Q (V.int x) H') (sc r)) (F : Fin K X H0 P0 (ps e) (.imm ((fun x => (PyData.int x)) (sc e))) v H) : Q v H := by
  cases hm
  have q := repI (x := sc e) F.res
  subst q
  exact kont H F
theorem x_finB {K : PySem.W.Frag} {H0 : Hp} {P0 : List Addr} {ps : ρ → List (Addr × MO)} {sc : ρ → Bool} {r : ρ} (e : ρ) (hm : some e = some r) (kont : ∀ H', (fun x => Fin K X H0 P0 (ps r) (.imm (PyData.bool x)) (V.bl x) H') (sc r) → (fun x => Q (V.bl x) H') (sc r)) (F : (fun x => Fin K X H0 P0 (ps e) (.imm (PyData.bool x)) (V.bl x) H) (sc e)) : (fun x => Q (V.bl x) H) (sc e) := by
  cases hm; exact kont H F
theorem x_finRB {K : PySem.W.Frag} {H0 : Hp} {P0 : List Addr} {ps : ρ → List (Addr × MO)} {sc : ρ → Bool} {e r : ρ} {v : V} (hm : some e = some r) (kont : ∀ H', (fun x => Fin K X H0 P0 (ps r) (.imm (PyData.bool x)) (V.bl x) H') (sc r) → (fun x => Q (V.bl x) H') (sc r)) (F : Fin K X H0 P0 (ps e) (.imm ((fun x => (PyData.bool x)) (sc e))) v H) : Q v H := by
  cases hm
  have q := repB (x := sc e) F.res
  subst q
  exact kont H F
theorem x_finS {K : PySem.W.Frag} {H0 : Hp} {P0 : List Addr} {ps : ρ → List (Addr × MO)} {sc : ρ → Str} {r : ρ} (e : ρ) (hm : some e = some r) (kont : ∀ H', (fun x => Fin K X H0 P0 (ps r) (.imm (PyData.str x)) (V.str x) H') (sc r) → (fun x => Q (V.str x) H') (sc r)) (F : (fun x => Fin K X H0 P0 (ps e) (.imm (PyData.str x)) (V.str x) H) (sc e)) : (fun x => Q (V.str x) H) (sc e) := by
  cases hm; exact kont H F
theorem x_finRS {K : PySem.W.Frag} {H0 : Hp} {P0 : List Addr} {ps : ρ → List (Addr × MO)} {sc : ρ → Str} {e r : ρ} {v : V} (hm : some e = some r) (kont : ∀ H', (fun x => Fin K X H0 P0 (ps r) (.imm (PyData.str x)) (V.str x) H') (sc r) → (fun x => Q (V.str x) H') (sc r)) (F : Fin K X H0 P0 (ps e) (.imm ((fun x => (PyData.str x)) (sc e))) v H) : Q v H := by
  cases hm
  have q := repS (x := sc e) F.res
  subst q
  exact kont H F
theorem x_finN {K : PySem.W.Frag} {H0 : Hp} {P0 : List Addr} {ps : ρ → List (Addr × MO)} {sc : ρ → Unit} {r : ρ} (e : ρ) (hm : some e = some r) (kont : ∀ H', (fun x => Fin K X H0 P0 (ps r) (.imm PyData.none) V.non H') (sc r) → (fun x => Q V.non H') (sc r)) (F : (fun x => Fin K X H0 P0 (ps e) (.imm PyData.none) V.non H) (sc e)) : (fun x => Q V.non H) (sc e) := by
  cases hm; exact kont H F
theorem x_finRN {K : PySem.W.Frag} {H0 : Hp} {P0 : List Addr} {ps : ρ → List (Addr × MO)} {sc : ρ → Unit} {e r : ρ} {v : V} (hm : some e = some r) (kont : ∀ H', (fun x => Fin K X H0 P0 (ps r) (.imm PyData.none) V.non H') (sc r) → (fun x => Q V.non H') (sc r)) (F : Fin K X H0 P0 (ps e) (.imm ((fun x => PyData.none) (sc e))) v H) : Q v H := by
  cases hm
  have q := repN (x := sc e) F.res
  subst q
  exact kont H F
theorem x_leaf {τ : Type} {C' : Cn} {G : τ → List Sl} {e s : τ} {N : L2.St → Hp → Prop} (hm : some e = some s) (hN : ∀ X' σ' H', Lo C' X' H' σ' (G s) → N σ' H') (L : Lo C' X H σ (G e)) : N σ H := by
  cases hm; exact hN _ _ _ L
theorem x_leafN {τ : Type} {C' : Cn} {G : τ → List Sl} {e : τ} {o : Lp τ ρ} {N : L2.St → Hp → Prop} (hm : some (.nxt e) = some o) (hN : ∀ s, o = .nxt s → ∀ X' σ' H', Lo C' X' H' σ' (G s) → N σ' H') (L : Lo C' X H σ (G e)) : N σ H :=
  hN e (Option.some.inj hm).symm _ _ _ L
theorem x_leafB {τ : Type} {C' : Cn} {G : τ → List Sl} {e : τ} {o : Lp τ ρ} {N : L2.St → Hp → Prop} (hm : some (.brk e) = some o) (hN : ∀ s, o = .brk s → ∀ X' σ' H', Lo C' X' H' σ' (G s) → N σ' H') (L : Lo C' X H σ (G e)) : N σ H :=
  hN e (Option.some.inj hm).symm _ _ _ L
theorem x_leafR {τ : Type} {K : PySem.W.Frag} {H0 : Hp} {P0 : List Addr} {ps : ρ → List (Addr × MO)} {rs : ρ → Rs} {e : ρ} {o : Lp τ ρ} {v : V} {N : VK} (hm : some (.ret e) = some o) (hR : ∀ r, o = .ret r → ∀ v H', Fin K X H0 P0 (ps r) (rs r) v H' → N v H') (F : Fin K X H0 P0 (ps e) (rs e) v H) : N v H :=
  hR e (Option.some.inj hm).symm _ _ F
/-- branches that come together again -/
theorem x_join {τ : Type} {c : Bool} {mA mB : Option τ} {k : τ → Option ρ} {r : ρ} {G : τ → List Sl} {t u : TS} {nx bk ct : L2.St → Hp → Prop} {rt : VK} (L : Lo C X H σ Γ) (hm : (if c = true then mA else mB).bind k = some r)
    (hA : ∀ b, mA = some b → ∀ N : L2.St → Hp → Prop, (∀ X' σ' H', Lo C X' H' σ' (G b) → N σ' H') → t ⟨N, rt, bk, ct⟩ σ H)
    (hB : ∀ b, mB = some b → ∀ N : L2.St → Hp → Prop, (∀ X' σ' H', Lo C X' H' σ' (G b) → N σ' H') → u ⟨N, rt, bk, ct⟩ σ H)
    (h : ∀ b X' σ' H', k b = some r → Lo C X' H' σ' (G b) → nx σ' H') : KIf t u ⟨nx, rt, bk, ct⟩ σ c H := by
  cases c with
  | true =>
    obtain ⟨b, e, hk⟩ := ob hm
    exact hA b e nx fun X' σ' H' L => h b X' σ' H' hk L
  | false =>
    obtain ⟨b, e, hk⟩ := ob hm
    exact hB b e nx fun X' σ' H' L => h b X' σ' H' hk L
/-- a value is given a name of its own -/
theorem x_bset {d : α → PyData} {x0 : α} {i : Nat} {v : V} {k : α → Option ρ} {r : ρ} {N : L2.St → Hp → Prop} {Γf : α → List Sl} (hm : (some x0).bind k = some r) (L : Lo C X H σ Γ) (q : Rep C.K X H (d x0) v) (hi : i < C.n) (e : ∀ x, Γ.set i (.imm (d x)) = Γf x) (h : ∀ x σ', k x = some r → Lo C X H σ' (Γf x) → N σ' H) : gName i v σ H N :=
  h x0 _ hm (by rw [← e]; exact L.set q hi)
end
open Py (enc)
/-! ### defs that raise -/
theorem fn_or {P : Program} {w : World} {K : PySem.W.Frag} {mg : Str → Option Value} {base : Heap} {k : Nat} {f : Addr} {fd : FuncData} {ps : List Str} {sp1 sp2 : Sp} (F1 : FnOk P w K mg base (L2.CX P w) k f fd ps sp1) (F2 : FnOk P w K mg base CX0 k f fd ps sp2) :
    FnOk P w K mg base (L2.CX P w) k f fd ps (fun vs H Q E => sp1 vs H Q E ∨ sp2 vs H Q E) := by
  refine ⟨fun vs H Q E h => h.elim (F1.len vs H Q E) (F2.len vs H Q E), fun A outer s H args us vs Q E hr he hb hv hs => ?_⟩
  rcases hs with h | h
  · exact F1.run A outer s H args us vs Q E hr he hb hv h
  · refine codeAny_mono (F2.run A outer s H args us vs Q E hr he hb hv h) fun r s' q => ?_
    cases r with
    | ok r => cases r <;> first | exact q | exact (show False from q).elim
    | error e => exact (show False from q).elim
theorem Lo.same0 {C : Cn} {X : Addr → Prop} {H : Hp} {σ : L2.St} {Γ : List Sl} (L : Lo C X H σ Γ) (e : C.P0 = []) : Same C.H0 H := fun a o h => L.base a o h (by rw [e]; exact fun z => nomatch z)
section
variable {C : Cn} {X : Addr → Prop} {H : Hp} {σ : L2.St} {Γ Γ' : List Sl} {Q : VK} {α β ρ : Type}
theorem x_callS {sp : Sp} {E : L2.St → XK} {t : TA} (h : t σ H fun vs H1 => sp vs H1 Q (E σ)) : tCallS sp E t σ H Q := h
theorem x_either {S1 S2 : Prop} {A B : Option ρ} {m : Option Unit} {r : ρ} (hm : (if m.isSome = true then A else B) = some r) (h1 : m = some () → A = some r → S1) (h2 : B = some r → S2) : S1 ∨ S2 := by
  cases m with
  | some u => exact .inl (h1 rfl hm)
  | none => exact .inr (h2 hm)
theorem x_catch {K : PySem.W.Frag} {c : Value} {D : Addr} {i : Nat} {ts : Addr → Value → Option Addr → TS} {Wout : WX} {nx bk ct : L2.St → Hp → Prop} {rt : VK} (he : PySem.W.exmOne K (.ref D) c = some true)
    (h : ∀ a, H a = none → ts a (.ref D) none ⟨fun σ' H' => nx (σ'.set i none) H', rt, fun σ' H' => bk (σ'.set i none) H', fun σ' H' => ct (σ'.set i none) H'⟩ (σ.set i (some (.ref a))) H) : wAs K c i ts Wout ⟨nx, rt, bk, ct⟩ (.ref D) none σ H :=
  ⟨true, he, fun _ => h, fun z => nomatch z⟩
theorem x_catch0 {K : PySem.W.Frag} {c : Value} {D : Addr} {ts : Addr → Value → Option Addr → TS} {Wout : WX} {Ds : Ends} (he : PySem.W.exmOne K (.ref D) c = some true)
    (h : ∀ a, H a = none → ts a (.ref D) none Ds σ H) : wOnly K c ts Wout Ds (.ref D) none σ H :=
  ⟨true, he, fun _ => h, fun z => nomatch z⟩
theorem x_vr {i : Nat} {a : Addr} (L : Lo C X H σ Γ) (e : Γ[i]? = some (.ref a)) (h : Q (.ref a) H) : tVar i σ H Q := ⟨_, L.at_ i _ e, h⟩
/-- isinstance of the error that is handled -/
def rIsG (K : PySem.W.Frag) (cls : Value) (d : Option Addr) (a : Addr) : List V → Hp → VK → Prop := fun xs H Q => ∃ (D : Addr) (c : V) (cv : Value) (b : Bool), cls = .ref D ∧ d = none ∧ ExcC K D ∧ xs = [.ref a, c] ∧ (∀ u, RelV c u → u = cv) ∧ PySem.W.kitOne K (.ref D) cv = some b ∧ Q (.bl b) H
theorem call_isG {Xc : Cx} {a : Addr} {oe : Obj} {pn : List (Addr × Obj)} {cls : Value} {d : Option Addr} (hz : Zc cls d oe) (hf : ∃ vs, oe.data = .fields vs) : CallR (Xc.suite a ((a, oe) :: pn)) (.builtin "isinstance") (rIsG Xc.K cls d a) := by
  intro pins s σ H xs us Q I r h
  obtain ⟨D, c, cv, b, rfl, rfl, E, rfl, hc, k, q⟩ := h
  exact call_isE E hz hf pins s σ H _ us Q I r ⟨c, cv, b, rfl, hc, k, q⟩
def rIsGT (K : PySem.W.Frag) (cls : Value) (d : Option Addr) (a : Addr) : List V → Hp → VK → Prop := fun xs H Q => ∃ (D tp : Addr) (cs : List V) (ws : List Value) (b : Bool), cls = .ref D ∧ d = none ∧ ExcC K D ∧ xs = [.ref a, .ref tp] ∧ H tp = some (.tup cs) ∧ Paired ClsV cs ws ∧ PySem.W.kitAny K (.ref D) ws = some b ∧ Q (.bl b) H
theorem call_isGT {Xc : Cx} {a : Addr} {oe : Obj} {pn : List (Addr × Obj)} {cls : Value} {d : Option Addr} (hz : Zc cls d oe) (hf : ∃ vs, oe.data = .fields vs) : CallR (Xc.suite a ((a, oe) :: pn)) (.builtin "isinstance") (rIsGT Xc.K cls d a) := by
  intro pins s σ H xs us Q I r h
  obtain ⟨D, tp, cs, ws, b, rfl, rfl, Ex, rfl, hT, k, e, q⟩ := h
  cases r with
  | cons rx rr =>
    cases rr with
    | cons rt rr =>
      cases rr
      cases rx
      rename_i u2
      cases (show u2 = Value.ref tp from rt)
      obtain ⟨hget, _⟩ := I.pin (a, oe) (List.mem_append.mpr (.inl List.mem_cons_self))
      obtain ⟨vs, hv⟩ := hf
      have J : PySem.W.InstAt s.heap a oe D none := by
        obtain ⟨oc, od, oda, osl⟩ := oe
        obtain ⟨h1, h2⟩ := hz
        dsimp only at h1 h2 hv
        subst h1 h2 hv
        exact ⟨hget, rfl, rfl, trivial⟩
      obtain ⟨_, its, rv, o, h1, h2, n, h3⟩ := (show ObjOk _ _ H s.heap tp (.tup cs) from I.hok tp _ hT)
      have e3 := ClsV.all k rv
      subst e3
      obtain ⟨oc, od, dt, sl⟩ := o
      simp only at h2 h3
      subst h2 h3
      exact PySem.W.kia_tup (PySem.W.handS_kitx_exc Ex.hg Ex.hk Ex.hs Ex.hd Ex.ha Ex.hn Ex.ht Ex.hm) I.kIn J h1 e (fun z => nomatch z) fun tk => ⟨.bl b, H, I.kept (t' := tk) fun _ _ z => z, rfl, q⟩
theorem x_isG {K : PySem.W.Frag} {D a C2 : Addr} {b : Bool} (E : ExcC K D) (k : PySem.W.kitOne K (.ref D) (.ref C2) = some b) (h : Q (.bl b) H) : rIsG K (.ref D) none a [.ref a, .ref C2] H Q :=
  ⟨D, _, _, b, rfl, rfl, E, rfl, fun _ r => r, k, h⟩
theorem x_isGB {K : PySem.W.Frag} {D a : Addr} {T : String} {b : Bool} (E : ExcC K D) (k : PySem.W.kitOne K (.ref D) (.type T) = some b) (h : Q (.bl b) H) : rIsG K (.ref D) none a [.ref a, .ty T] H Q :=
  ⟨D, _, _, b, rfl, rfl, E, rfl, fun _ r => r, k, h⟩
theorem x_isGT {K : PySem.W.Frag} {D a tp : Addr} {cs : List V} {ws : List Value} {b : Bool} (E : ExcC K D) (hT : H tp = some (.tup cs)) (p : Paired ClsV cs ws) (k : PySem.W.kitAny K (.ref D) ws = some b) (h : Q (.bl b) H) : rIsGT K (.ref D) none a [.ref a, .ref tp] H Q :=
  ⟨D, tp, cs, ws, b, rfl, rfl, E, rfl, hT, p, k, h⟩
theorem kit_self {K : PySem.W.Frag} {D : Addr} : PySem.W.kitOne K (.ref D) (.ref D) = some true := by
  unfold PySem.W.kitOne
  rw [if_pos (beq_iff_eq.mpr rfl)]
theorem kit_ref {K : PySem.W.Frag} {D E : Addr} {b : Bool} (hne : (Value.ref D == Value.ref E) = false) (hd : PySem.W.hasDictIn K E = true) (ht : PySem.W.typeIn K (.ref E) = some (.type "type")) (hs : PySem.W.subIn K (.ref D) (.ref E) = some b) : PySem.W.kitOne K (.ref D) (.ref E) = some b := by
  obtain ⟨cd, hc, _⟩ := PySem.W.any_some hd
  have e2 : ((PySem.W.clsIn K E).isSome && PySem.W.typeIn K (.ref E) == some (.type "type")) = true := by rw [hc, ht] <;> rfl
  unfold PySem.W.kitOne
  rw [if_neg (by rw [hne]; exact Bool.false_ne_true)]
  show (if ((PySem.W.clsIn K E).isSome && PySem.W.typeIn K (.ref E) == some (.type "type")) = true then PySem.W.subIn K (.ref D) (.ref E) else none) = some b
  rw [if_pos e2]; exact hs
theorem kit_typ {K : PySem.W.Frag} {D : Addr} {T : String} {b : Bool} (hk : PySem.W.kitMeta T = true) (hs : PySem.W.subIn K (.ref D) (.type T) = some b) : PySem.W.kitOne K (.ref D) (.type T) = some b := by
  unfold PySem.W.kitOne
  rw [if_neg (by intro z; cases (beq_iff_eq.mp z))]
  show (if PySem.W.kitMeta T = true then PySem.W.subIn K (.ref D) (.type T) else none) = some b
  rw [if_pos hk]; exact hs
/-- a tuple of classes -/
theorem x_mkC {vs : List V} (L : Lo C X H σ Γ) (hl : vs.length ≤ 16777216) (h : ∀ p H1, Lo C X H1 σ Γ → H1 p = some (.tup vs) → Q (.ref p) H1) : KTup Q vs H := by
  refine ⟨by rw [line_eq]; exact hl, fun p hp => ?_⟩
  exact h p _ (L.same (same_upd hp)) upd_same
end
open Py (enc)
/-! ### tuples of ints: sets, order -/
class IT (α : Type) [Py α] where
  nums : α → List Int
  enc_eq : ∀ x, enc x = .tuple ((nums x).map .int)
  inj : ∀ x y, nums x = nums y → x = y
instance : IT (T2 Int Int) := ⟨fun x => [x.a, x.b], fun _ => rfl, fun x y h => by cases x; cases y; simp_all⟩
instance : IT (T3 Int Int Int) := ⟨fun x => [x.a, x.b, x.c], fun _ => rfl, fun x y h => by cases x; cases y; simp_all⟩
section
variable {K : PySem.W.Frag} {X : Addr → Prop} {H : Hp} {α : Type}
theorem rep_it [Py α] [IT α] {x : α} {v : V} (r : Rep K X H (enc x) v) : ∃ a, v = .ref a ∧ SqT K H a ((IT.nums x).map V.int) := by
  rw [IT.enc_eq] at r
  obtain ⟨a, vs, rfl, hs, q⟩ := rep_tup r
  rw [Reps.toInts q] at hs
  exact ⟨a, rfl, hs⟩
theorem reps_it [Py α] [IT α] : ∀ {xs : List α} {vs : List V}, Reps K X H (xs.map enc) vs → ∃ ks : List (Addr × List Int), vs = ks.map (fun p => V.ref p.1) ∧ ks.map (·.2) = xs.map IT.nums ∧ ∀ p ∈ ks, SqT K H p.1 (p.2.map V.int)
  | [], _, .nil => ⟨[], rfl, rfl, fun _ h => nomatch h⟩
  | x :: xs, _, .cons r t => by
    obtain ⟨a, rfl, hs⟩ := rep_it r
    obtain ⟨ks, rfl, h2, h3⟩ := reps_it t
    refine ⟨(a, IT.nums x) :: ks, rfl, by rw [List.map_cons, List.map_cons, h2], fun p hp => ?_⟩
    rcases List.mem_cons.mp hp with e | hp
    · subst e; exact hs
    · exact h3 p hp
end
/-- the distinct ones -/
def dset {α : Type} [DecidableEq α] : List α → List α
  | [] => []
  | x :: xs => if x ∈ dset xs then dset xs else x :: dset xs
theorem mem_dset {α : Type} [DecidableEq α] {x : α} : ∀ {xs : List α}, x ∈ dset xs ↔ x ∈ xs
  | [] => Iff.rfl
  | y :: xs => by
    unfold dset
    by_cases h : y ∈ dset xs
    · rw [if_pos h, List.mem_cons, mem_dset]
      exact ⟨.inr, fun z => z.elim (fun e => e ▸ mem_dset.mp h) id⟩
    · rw [if_neg h, List.mem_cons, List.mem_cons, mem_dset]
theorem nodup_dset {α : Type} [DecidableEq α] : ∀ {xs : List α}, (dset xs).Nodup
  | [] => List.nodup_nil
  | y :: xs => by
    unfold dset
    by_cases h : y ∈ dset xs
    · rw [if_pos h]; exact nodup_dset
    · rw [if_neg h]; exact List.nodup_cons.mpr ⟨h, nodup_dset⟩
theorem nodup_le {α : Type} [DecidableEq α] : ∀ {l m : List α}, l.Nodup → (∀ x ∈ l, x ∈ m) → l.length ≤ m.length
  | [], _, _, _ => Nat.zero_le _
  | x :: l, m, h, s => by
    obtain ⟨h1, h2⟩ := List.nodup_cons.mp h
    have hx := s x List.mem_cons_self
    have := nodup_le (l := l) (m := m.erase x) h2 fun y hy => (List.mem_erase_of_ne (fun e => by subst e; exact h1 hy)).mpr (s y (List.mem_cons_of_mem _ hy))
    rw [List.length_erase_of_mem hx] at this
    have hp := List.length_pos_of_mem hx
    rw [List.length_cons]; omega
theorem dset_map {α β : Type} [DecidableEq α] [DecidableEq β] {f : α → β} (hf : ∀ x y, f x = f y → x = y) : ∀ {xs : List α}, (dset (xs.map f)).length = (dset xs).length
  | [] => rfl
  | y :: xs => by
    rw [List.map_cons]
    unfold dset
    have e : f y ∈ dset (xs.map f) ↔ y ∈ dset xs := by
      rw [mem_dset, mem_dset, List.mem_map]
      exact ⟨fun ⟨z, h1, h2⟩ => hf _ _ h2 ▸ h1, fun h => ⟨y, h, rfl⟩⟩
    by_cases h : y ∈ dset xs
    · rw [if_pos h, if_pos (e.mpr h), dset_map hf]
    · rw [if_neg h, if_neg (fun z => h (e.mp z)), List.length_cons, List.length_cons, dset_map hf]
section
variable {X : Cx}
def tLenSetT (K : PySem.W.Frag) (ta : TE) : TE := fun σ H Q => ta σ H fun x H1 => ∃ (l : Addr) (ks : List (Addr × List Int)), x = V.ref l ∧ SqL K H1 l (ks.map fun p => V.ref p.1) ∧ (∀ p ∈ ks, SqT K H1 p.1 (p.2.map V.int)) ∧ ks.length < 64 ∧ Q (.int (dset (ks.map (·.2))).length) H1
theorem pe_lenSetT {a : Expr} {ta : TE} {p p2 q pos : Pos} (hc : X.calm = true) (hu : X.A.units + 64 < cLine) (hg : Gl X "len") (hm : X.mg "len" = none) (hg2 : Gl X "set") (hm2 : X.mg "set" = none) (ha : PE X a ta)
    (na : starEach [a] X.env = (false, eval a X.env) :: starEach [] X.env := by rfl) : PE X (.Call (.Name "len" p) [.Call (.Name "set" p2) [a] [] q] [] pos) (tLenSetT X.K ta) := by
  refine ⟨fun pins s σ H Q I h => ?_⟩
  refine Call_ (ld_blt I hg hm PySem.boot_len ?_)
  refine PyProof.Rows.callWith_builtin1 (PyProof.Rows.args_cons ?_ rfl) rfl rfl
  refine Call_ (ld_blt I hg2 hm2 PyProof.Rows.boot_set ?_)
  refine PyProof.Rows.callWith_type1 (PyProof.Rows.args_cons (thn (ha.run pins s σ H _ I h) fun v s1 ⟨x, H1, I1, r1, q1⟩ => PyProof.Rows.args_nil ?_) na) na rfl
  obtain ⟨l, ks, rfl, hq, hk, hf, q1⟩ := q1
  cases r1
  obtain ⟨its, rv, pl, hz⟩ := I1.list hq
  refine call_set_tups (P := X.prog) (w := X.w) ks (I1.ok.hd hc) pl.isList (by simpa using refs_of_vals rv) (fun p hp => I1.isT (hk p hp)) hf (by omega) fun h' tk L es ep t R g k => ?_
  refine PyProof.Rows.args_nil ?_
  obtain ⟨o, ho, hex, hd⟩ := R.ob
  have e1 : es.size = L.length := by
    have := congrArg List.length R.rows
    rw [Array.length_toList] at this
    rw [this]
    unfold rowsOf
    first | rw [List.length_map] | simp
  have hn : L.length = (dset (ks.map (·.2))).length := by
    refine Nat.le_antisymm ?_ ?_
    · have := nodup_le (m := dset (ks.map (·.2))) R.nd fun x hx => by
        obtain ⟨p, hp, e⟩ := List.mem_map.mp hx
        subst e
        exact mem_dset.mpr (List.mem_map.mpr ⟨p, List.mem_of_mem_take (g.sub p hp), rfl⟩)
      rwa [List.length_map] at this
    · have := nodup_le (m := L.map (·.2)) (nodup_dset (xs := ks.map (·.2))) fun x hx => by
        obtain ⟨p, hp, e⟩ := List.mem_map.mp (mem_dset.mp hx)
        subst e
        exact g.all p (by rw [List.take_length]; exact hp)
      rwa [List.length_map] at this
  have I2 : Inv X pins σ H1 { s1 with heap := h', toks := tk } := I1.kept fun b o e => k b o e
  have hf := R.few
  refine call_len_set ho hex hd (SetTR.fits (s := { s1 with heap := h', toks := tk }) R) (by rw [e1] <;> omega) ⟨.int (dset (ks.map (·.2))).length, H1, I2.tok _, ⟨_, by rw [e1, hn]⟩, q1⟩
end
def fewOk (n : Nat) : Option Unit := if n < 64 then some () else none
section
variable {C : Cn} {X : Addr → Prop} {H : Hp} {σ : L2.St} {Γ Γ' : List Sl} {Q : VK} {α β ρ : Type}
def KSet (K : PySem.W.Frag) (Q : VK) : VK := fun x H1 => ∃ (l : Addr) (ks : List (Addr × List Int)), x = V.ref l ∧ SqL K H1 l (ks.map fun p => V.ref p.1) ∧ (∀ p ∈ ks, SqT K H1 p.1 (p.2.map V.int)) ∧ ks.length < 64 ∧ Q (.int (dset (ks.map (·.2))).length) H1
theorem x_lenSet {K : PySem.W.Frag} {ta : TE} (h : ta σ H (KSet K Q)) : tLenSetT K ta σ H Q := h
theorem x_kset [Py α] [IT α] [DecidableEq α] {xs : List α} {v : V} {k : Unit → Option ρ} {r : ρ} (hm : (fewOk xs.length).bind k = some r) (q : Rep C.K X H (enc xs) v) (h : k () = some r → Q (.int (dset xs).length) H) : KSet C.K Q v H := by
  obtain ⟨_, e, hk⟩ := ob hm
  have h64 : xs.length < 64 := by
    unfold fewOk at e
    split at e
    · assumption
    · cases e
  obtain ⟨a, vs, rfl, _, hs, q⟩ := rep_lst (ds := xs.map enc) q
  obtain ⟨ks, rfl, h2, h3⟩ := reps_it q
  have hl : ks.length = xs.length := by
    have := congrArg List.length h2
    rwa [List.length_map, List.length_map] at this
  refine ⟨a, ks, rfl, .inl hs, h3, by rw [hl]; exact h64, ?_⟩
  rw [h2, dset_map IT.inj]
  exact h hk
/-! order of pairs -/
def ltP (p q : T2 Int Int) : Bool := decide (p.a < q.a) || (decide (p.a = q.a) && decide (p.b < q.b))
def leP (p q : T2 Int Int) : Bool := decide (p.a < q.a) || (decide (p.a = q.a) && decide (p.b ≤ q.b))
def maxP (p q : T2 Int Int) : T2 Int Int := if ltP p q = true then q else p
def minP (p q : T2 Int Int) : T2 Int Int := if ltP q p = true then q else p
theorem lexAt_le {a b c d : Int} : Ob.lexAt (fun j => decide ([a, b].getD j 0 = [c, d].getD j 0)) (fun j => decide ([a, b].getD j 0 ≤ [c, d].getD j 0)) (decide (([a, b] : List Int).length ≤ ([c, d] : List Int).length)) 0 (min ([a, b] : List Int).length ([c, d] : List Int).length) = leP ⟨a, b⟩ ⟨c, d⟩ := by
  show Ob.lexAt _ _ _ 0 2 = _
  rw [Ob.lexAt_succ, Ob.lexAt_succ, Ob.lexAt_zero]
  unfold leP
  simp only [List.getD_eq_getElem?_getD, List.getElem?_cons_zero, List.getElem?_cons_succ, Option.getD_some, decide_eq_true_eq, List.length_cons, List.length_nil]
  rcases Int.lt_trichotomy a c with z | z | z
  · have z1 : ¬ a = c := by omega
    have z2 : a ≤ c := by omega
    simp [z, z1, z2]
  · subst z
    by_cases y : b = d
    · subst y; simp
    · simp [y]
  · have z1 : ¬ a = c := by omega
    have z2 : ¬ a ≤ c := by omega
    have z3 : ¬ a < c := by omega
    simp [z1, z2, z3]
def rLeP (K : PySem.W.Frag) : R2 := rLeT K
theorem op_leP {Xc : Cx} (hu : Xc.A.units < cLine) : OpR Xc (compareOp .LtE) (rLeP Xc.K) := op_leT hu
theorem x_leP {p q : T2 Int Int} {u v : V} (r : Rep C.K X H (enc p) u) (s : Rep C.K X H (enc q) v) (h : Q (.bl (leP p q)) H) : rLeP C.K u v H Q := by
  obtain ⟨a, rfl, ha⟩ := rep_it r
  obtain ⟨b, rfl, hb⟩ := rep_it s
  refine ⟨a, b, [p.a, p.b], [q.a, q.b], rfl, rfl, ha, hb, ?_⟩
  rw [lexAt_le]
  exact h
end
/-! max, min of two pairs -/
section
variable {prog : Program} {w : World} {A : Around} {E : Value → Shared → Prop} {s : Shared}
open PySem.W in
theorem call_max_twoH {a b : Value} {Q : Value → Shared → Prop} (hh : A.handled = none) (bt : Nat → Nat → Bool)
    (hc : CmpIn prog w A.in1 .Gt s.heap (fun i v => #[a, b][i]? = some v) bt)
    (h : ∀ h' tk, (∀ c o, s.heap.get? c = some o → h'.get? c = some o) → Q (if bt 1 0 = true then b else a) { s with heap := h', toks := tk }) :
    wpAny (model prog w) A (call (.builtin "max") [a, b]) Q E s := by
  have hname : (toString "max" ++ toString ".loop" : String) = "max.loop" := by decide
  refine call_function_tree F.kind_max F.plain_max F.entry_max (F.args_max2 _ _) ?_
  show wpAny _ A.in1 (Builtin.Builtins.bindParams "max" ["key", "default"] 0 ⟨[], []⟩ >>= _) _ _ s
  refine wpAny_bind (wpAny_of_eq (show Builtin.Builtins.bindParams "max" ["key", "default"] 0 ⟨[], []⟩ = pure [none, none] from rfl) ?_)
  show wpAny _ A.in1 (newTuple [a, b] >>= _) _ _ s
  refine wpAny_bind (wpAny_newObj_type ?_)
  have hT : (s.heap.push { cls := .type "tuple", data := .seq #[a, b] }).IsTuple s.heap.objs.size #[a, b] := ⟨_, Heap.get?_push_size _ rfl, rfl, 0, rfl⟩
  refine wpAny_bind (iter_tupleW (s := { s with heap := s.heap.push { cls := .type "tuple", data := .seq #[a, b] } }) (by exact hh) hT fun s₂ e W st hfp hwr hold => ?_)
  refine wpAny_bind (wpAny_newObj_type ?_)
  have hSf : s₂.heap.objs.size ∉ _ := fun hm => Nat.lt_irrefl _ (hfp _ hm)
  rw [hname]
  have k0 : ∀ c o, s.heap.get? c = some o → s₂.heap.get? c = some o := fun c o e => hold c o (Heap.get?_push_of_some _ e)
  refine wpAny_pure ⟨plainId_quiet F.plain_max_loop _, codeAny_max_loop_firstH W s.heap (fun c o e => hwr c o (Heap.get?_push_of_some _ e)) bt hc s₂.heap.objs.size hSf (fresh_in k0) [] (show 0 < 2 by decide) (fun c o e => Heap.get?_push_of_some _ (k0 c o e)) (W.frame _ _ _ _ st (Nat.le_refl _) fun c _ o e => Heap.get?_push_of_some _ e) (Heap.get?_push_size _ rfl) fun v s' hP hm => ?_⟩
  have m := Moved.drop_new (tk := s₂.toks) hm (Nat.le_refl _)
  obtain ⟨h', tk, e', hk'⟩ := moved_old e rfl m
  subst e'
  have hv : v = if bt 1 0 = true then b else a := by
    have hP' : #[a, b][argBest bt 1]? = some v := hP
    have e1 : argBest bt 1 = if bt 1 0 = true then 1 else 0 := rfl
    rw [e1] at hP'
    by_cases z : bt 1 0 = true
    · rw [if_pos z] at hP' ⊢; simpa using hP'.symm
    · rw [if_neg z] at hP' ⊢; simpa using hP'.symm
  rw [hv]
  exact h h' tk fun c o e => hk' c o (Heap.get?_push_of_some _ e)
open PySem.W in
theorem call_min_twoH {a b : Value} {Q : Value → Shared → Prop} (hh : A.handled = none) (bt : Nat → Nat → Bool)
    (hc : CmpIn prog w A.in1 .Lt s.heap (fun i v => #[a, b][i]? = some v) bt)
    (h : ∀ h' tk, (∀ c o, s.heap.get? c = some o → h'.get? c = some o) → Q (if bt 1 0 = true then b else a) { s with heap := h', toks := tk }) :
    wpAny (model prog w) A (call (.builtin "min") [a, b]) Q E s := by
  have hname : (toString "min" ++ toString ".loop" : String) = "min.loop" := by decide
  refine call_function_tree F.kind_min F.plain_min F.entry_min (F.args_min2 _ _) ?_
  show wpAny _ A.in1 (Builtin.Builtins.bindParams "min" ["key", "default"] 0 ⟨[], []⟩ >>= _) _ _ s
  refine wpAny_bind (wpAny_of_eq (show Builtin.Builtins.bindParams "min" ["key", "default"] 0 ⟨[], []⟩ = pure [none, none] from rfl) ?_)
  show wpAny _ A.in1 (newTuple [a, b] >>= _) _ _ s
  refine wpAny_bind (wpAny_newObj_type ?_)
  have hT : (s.heap.push { cls := .type "tuple", data := .seq #[a, b] }).IsTuple s.heap.objs.size #[a, b] := ⟨_, Heap.get?_push_size _ rfl, rfl, 0, rfl⟩
  refine wpAny_bind (iter_tupleW (s := { s with heap := s.heap.push { cls := .type "tuple", data := .seq #[a, b] } }) (by exact hh) hT fun s₂ e W st hfp hwr hold => ?_)
  refine wpAny_bind (wpAny_newObj_type ?_)
  have hSf : s₂.heap.objs.size ∉ _ := fun hm => Nat.lt_irrefl _ (hfp _ hm)
  rw [hname]
  have k0 : ∀ c o, s.heap.get? c = some o → s₂.heap.get? c = some o := fun c o e => hold c o (Heap.get?_push_of_some _ e)
  refine wpAny_pure ⟨plainId_quiet F.plain_min_loop _, codeAny_min_loop_firstH W s.heap (fun c o e => hwr c o (Heap.get?_push_of_some _ e)) bt hc s₂.heap.objs.size hSf (fresh_in k0) [] (show 0 < 2 by decide) (fun c o e => Heap.get?_push_of_some _ (k0 c o e)) (W.frame _ _ _ _ st (Nat.le_refl _) fun c _ o e => Heap.get?_push_of_some _ e) (Heap.get?_push_size _ rfl) fun v s' hP hm => ?_⟩
  have m := Moved.drop_new (tk := s₂.toks) hm (Nat.le_refl _)
  obtain ⟨h', tk, e', hk'⟩ := moved_old e rfl m
  subst e'
  have hv : v = if bt 1 0 = true then b else a := by
    have hP' : #[a, b][argBest bt 1]? = some v := hP
    have e1 : argBest bt 1 = if bt 1 0 = true then 1 else 0 := rfl
    rw [e1] at hP'
    by_cases z : bt 1 0 = true
    · rw [if_pos z] at hP' ⊢; simpa using hP'.symm
    · rw [if_neg z] at hP' ⊢; simpa using hP'.symm
  rw [hv]
  exact h h' tk fun c o e => hk' c o (Heap.get?_push_of_some _ e)
end
theorem lexAt_lt {a b c d : Int} : Ob.lexAt (fun j => decide ([a, b].getD j 0 = [c, d].getD j 0)) (fun j => decide ([a, b].getD j 0 < [c, d].getD j 0)) (decide (2 < 2)) 0 (min 2 2) = ltP ⟨a, b⟩ ⟨c, d⟩ := by
  show Ob.lexAt _ _ _ 0 2 = _
  rw [Ob.lexAt_succ, Ob.lexAt_succ, Ob.lexAt_zero]
  unfold ltP
  simp only [List.getD_eq_getElem?_getD, List.getElem?_cons_zero, List.getElem?_cons_succ, Option.getD_some, decide_eq_true_eq]
  rcases Int.lt_trichotomy a c with z | z | z
  · have z1 : ¬ a = c := by omega
    simp [z, z1]
  · subst z
    by_cases y : b = d
    · subst y; simp
    · simp [y]
  · have z1 : ¬ a = c := by omega
    have z3 : ¬ a < c := by omega
    simp [z1, z3]
theorem lexAt_gt {a b c d : Int} : Ob.lexAt (fun j => decide ([a, b].getD j 0 = [c, d].getD j 0)) (fun j => decide ([c, d].getD j 0 < [a, b].getD j 0)) (decide (2 < 2)) 0 (min 2 2) = ltP ⟨c, d⟩ ⟨a, b⟩ := by
  show Ob.lexAt _ _ _ 0 2 = _
  rw [Ob.lexAt_succ, Ob.lexAt_succ, Ob.lexAt_zero]
  unfold ltP
  simp only [List.getD_eq_getElem?_getD, List.getElem?_cons_zero, List.getElem?_cons_succ, Option.getD_some, decide_eq_true_eq]
  rcases Int.lt_trichotomy c a with z | z | z
  · have z1 : ¬ a = c := by omega
    have z2 : ¬ c = a := by omega
    simp [z, z1]
  · subst z
    by_cases y : b = d
    · subst y; simp
    · have : ¬ d = b := fun e => y e.symm
      simp [y]
  · have z1 : ¬ a = c := by omega
    have z2 : ¬ c = a := by omega
    have z3 : ¬ c < a := by omega
    simp [z1, z2, z3]
section
variable {Xc : Cx}
open PySem.W in
theorem cmp_pair {A : Around} {s : Shared} {l1 l2 : Addr} {i1 i2 : List Value} {p q : T2 Int Int} (hu : A.units < cLine) (h1 : s.heap.IsTuple l1 i1.toArray) (h2 : s.heap.IsTuple l2 i2.toArray) (n1 : IntsAre i1 [p.a, p.b]) (n2 : IntsAre i2 [q.a, q.b]) :
    Ob.RcOp .Lt A s (.ref l1) (.ref l2) (ltP p q) ∧ Ob.RcOp .Gt A s (.ref l1) (.ref l2) (ltP q p) := by
  have at1 : ∀ j (h1 : j < i1.toArray.size), ∃ t, i1.toArray[j] = .int ([p.a, p.b].getD j 0) t := fun j h1 => PyProof.Rows.IntsAre.int_at n1 _ _ (by simp at h1; simp [h1])
  have at2 : ∀ j (h1 : j < i2.toArray.size), ∃ t, i2.toArray[j] = .int ([q.a, q.b].getD j 0) t := fun j h1 => PyProof.Rows.IntsAre.int_at n2 _ _ (by simp at h1; simp [h1])
  have e1 : i1.toArray.size = 2 := by rw [List.size_toArray]; exact n1.length
  have e2 : i2.toArray.size = 2 := by rw [List.size_toArray]; exact n2.length
  have he : ∀ j (h1 : j < i1.toArray.size) (h2 : j < i2.toArray.size), SeqAt.EqAt A.in1 s i1.toArray[j] i2.toArray[j] (decide ([p.a, p.b].getD j 0 = [q.a, q.b].getD j 0)) := fun j h1 h2 => by
    obtain ⟨t, et⟩ := at1 j h1
    obtain ⟨t', et'⟩ := at2 j h2
    rw [et, et']
    have z : ([p.a, p.b].getD j 0 == [q.a, q.b].getD j 0) = decide ([p.a, p.b].getD j 0 = [q.a, q.b].getD j 0) := by
      by_cases y : [p.a, p.b].getD j 0 = [q.a, q.b].getD j 0
      · rw [decide_eq_true y]; exact beq_iff_eq.mpr y
      · rw [decide_eq_false y]; exact beq_eq_false_iff_ne.mpr y
    rw [← z]
    exact SeqAt.EqAt.int_int _ _ _ _
  have R1 := Ob.RcOp.tuples_lt (r := fun j => decide ([p.a, p.b].getD j 0 < [q.a, q.b].getD j 0)) h1 h2 hu he fun j h1 h2 _ => by
    obtain ⟨t, et⟩ := at1 j h1
    obtain ⟨t', et'⟩ := at2 j h2
    rw [et, et']
    exact Ob.RcOp.lt_int _ _ _ _
  have R2 := Ob.RcOp.tuples_gt (r := fun j => decide ([q.a, q.b].getD j 0 < [p.a, p.b].getD j 0)) h1 h2 hu he fun j h1 h2 _ => by
    obtain ⟨t, et⟩ := at1 j h1
    obtain ⟨t', et'⟩ := at2 j h2
    rw [et, et']
    exact Ob.RcOp.gt_int _ _ _ _
  rw [e1, e2] at R1 R2
  rw [lexAt_lt] at R1
  rw [show decide (2 > 2) = decide (2 < 2) from rfl, lexAt_gt] at R2
  exact ⟨R1, R2⟩
def rMaxP (K : PySem.W.Frag) : List V → Hp → VK → Prop := fun xs H Q => ∃ (a b : Addr) (p q : T2 Int Int), xs = [.ref a, .ref b] ∧ SqT K H a [.int p.a, .int p.b] ∧ SqT K H b [.int q.a, .int q.b] ∧ Q (if ltP p q = true then .ref b else .ref a) H
open PySem.W in
theorem call_maxP (hu : Xc.A.units + 64 < cLine) (hc : Xc.calm = true) : CallR Xc (.builtin "max") (rMaxP Xc.K) := by
  intro pins s σ H xs us Q I r h
  obtain ⟨a, b, p, q, rfl, ha, hb, k⟩ := h
  obtain ⟨u, w', rfl, e1, e2⟩ := vals2 r
  cases (show u = Value.ref a from e1)
  cases (show w' = Value.ref b from e2)
  obtain ⟨i1, r1, t1, _⟩ := I.tuple ha
  obtain ⟨i2, r2, t2, _⟩ := I.tuple hb
  have n1 : IntsAre i1 [p.a, p.b] := Vals.ints (ns := [p.a, p.b]) r1
  have n2 : IntsAre i2 [q.a, q.b] := Vals.ints (ns := [q.a, q.b]) r2
  have up : ∀ {s' : Shared} {l : Addr} {its : Array Value}, (∀ c o, s.heap.get? c = some o → s'.heap.get? c = some o) → s.heap.IsTuple l its → s'.heap.IsTuple l its := fun hk ⟨o, ho, hc, n, hd⟩ => ⟨o, hk _ _ ho, hc, n, hd⟩
  have hu1 : (Xc.A.in1).units < cLine := by show Xc.A.units + 1 < cLine; omega
  refine call_max_twoH (I.ok.hd hc) (fun i j => if i = j then false else if i = 1 then ltP p q else ltP q p) (fun i j vi vj s' Q E hk hi hj hq => ?_) fun h' tk k' => ⟨_, H, I.kept k', ?_, k⟩
  · have at2 : ∀ {i v}, #[Value.ref a, Value.ref b][i]? = some v → (i = 0 ∧ v = .ref a) ∨ (i = 1 ∧ v = .ref b) := fun {i v} h => by
      match i with
      | 0 => exact .inl ⟨rfl, by simpa using h.symm⟩
      | 1 => exact .inr ⟨rfl, by simpa using h.symm⟩
      | n + 2 => simp at h
    have self : ∀ (x : T2 Int Int), ltP x x = false := fun x => by simp [ltP]
    rcases at2 hi with ⟨rfl, rfl⟩ | ⟨rfl, rfl⟩ <;> rcases at2 hj with ⟨rfl, rfl⟩ | ⟨rfl, rfl⟩
    · have := (cmp_pair (s := s') hu1 (up hk t1) (up hk t1) n1 n1).2
      rw [self] at this
      exact this Xc.prog Xc.w E Q hq
    · exact (cmp_pair (s := s') hu1 (up hk t1) (up hk t2) n1 n2).2 Xc.prog Xc.w E Q hq
    · exact (cmp_pair (s := s') hu1 (up hk t2) (up hk t1) n2 n1).2 Xc.prog Xc.w E Q hq
    · have := (cmp_pair (s := s') hu1 (up hk t2) (up hk t2) n2 n2).2
      rw [self] at this
      exact this Xc.prog Xc.w E Q hq
  · show RelV _ (if ltP p q = true then Value.ref b else Value.ref a)
    split <;> rfl
theorem x_maxP {C : Cn} {X : Addr → Prop} {H : Hp} {Q : VK} {p q : T2 Int Int} {u v : V} (r : Rep C.K X H (enc p) u) (t : Rep C.K X H (enc q) v) (h : ∀ w, Rep C.K X H (enc (maxP p q)) w → Q w H) : rMaxP C.K [u, v] H Q := by
  obtain ⟨a, ea, ha⟩ := rep_it r
  obtain ⟨b, eb, hb⟩ := rep_it t
  subst ea eb
  refine ⟨a, b, p, q, rfl, ha, hb, h _ ?_⟩
  unfold maxP
  by_cases z : ltP p q = true
  · rw [if_pos z, if_pos z]; exact t
  · rw [if_neg z, if_neg z]; exact r
def rMinP (K : PySem.W.Frag) : List V → Hp → VK → Prop := fun xs H Q => ∃ (a b : Addr) (p q : T2 Int Int), xs = [.ref a, .ref b] ∧ SqT K H a [.int p.a, .int p.b] ∧ SqT K H b [.int q.a, .int q.b] ∧ Q (if ltP q p = true then .ref b else .ref a) H
open PySem.W in
theorem call_minP (hu : Xc.A.units + 64 < cLine) (hc : Xc.calm = true) : CallR Xc (.builtin "min") (rMinP Xc.K) := by
  intro pins s σ H xs us Q I r h
  obtain ⟨a, b, p, q, rfl, ha, hb, k⟩ := h
  obtain ⟨u, w', rfl, e1, e2⟩ := vals2 r
  cases (show u = Value.ref a from e1)
  cases (show w' = Value.ref b from e2)
  obtain ⟨i1, r1, t1, _⟩ := I.tuple ha
  obtain ⟨i2, r2, t2, _⟩ := I.tuple hb
  have n1 : IntsAre i1 [p.a, p.b] := Vals.ints (ns := [p.a, p.b]) r1
  have n2 : IntsAre i2 [q.a, q.b] := Vals.ints (ns := [q.a, q.b]) r2
  have up : ∀ {s' : Shared} {l : Addr} {its : Array Value}, (∀ c o, s.heap.get? c = some o → s'.heap.get? c = some o) → s.heap.IsTuple l its → s'.heap.IsTuple l its := fun hk ⟨o, ho, hc, n, hd⟩ => ⟨o, hk _ _ ho, hc, n, hd⟩
  have hu1 : (Xc.A.in1).units < cLine := by show Xc.A.units + 1 < cLine; omega
  refine call_min_twoH (I.ok.hd hc) (fun i j => if i = j then false else if i = 1 then ltP q p else ltP p q) (fun i j vi vj s' Q E hk hi hj hq => ?_) fun h' tk k' => ⟨_, H, I.kept k', ?_, k⟩
  · have at2 : ∀ {i v}, #[Value.ref a, Value.ref b][i]? = some v → (i = 0 ∧ v = .ref a) ∨ (i = 1 ∧ v = .ref b) := fun {i v} h => by
      match i with
      | 0 => exact .inl ⟨rfl, by simpa using h.symm⟩
      | 1 => exact .inr ⟨rfl, by simpa using h.symm⟩
      | n + 2 => simp at h
    have self : ∀ (x : T2 Int Int), ltP x x = false := fun x => by simp [ltP]
    rcases at2 hi with ⟨rfl, rfl⟩ | ⟨rfl, rfl⟩ <;> rcases at2 hj with ⟨rfl, rfl⟩ | ⟨rfl, rfl⟩
    · have := (cmp_pair (s := s') hu1 (up hk t1) (up hk t1) n1 n1).1
      rw [self] at this
      exact this Xc.prog Xc.w E Q hq
    · exact (cmp_pair (s := s') hu1 (up hk t1) (up hk t2) n1 n2).1 Xc.prog Xc.w E Q hq
    · exact (cmp_pair (s := s') hu1 (up hk t2) (up hk t1) n2 n1).1 Xc.prog Xc.w E Q hq
    · have := (cmp_pair (s := s') hu1 (up hk t2) (up hk t2) n2 n2).1
      rw [self] at this
      exact this Xc.prog Xc.w E Q hq
  · show RelV _ (if ltP q p = true then Value.ref b else Value.ref a)
    split <;> rfl
theorem x_minP {C : Cn} {X : Addr → Prop} {H : Hp} {Q : VK} {p q : T2 Int Int} {u v : V} (r : Rep C.K X H (enc p) u) (t : Rep C.K X H (enc q) v) (h : ∀ w, Rep C.K X H (enc (minP p q)) w → Q w H) : rMinP C.K [u, v] H Q := by
  obtain ⟨a, ea, ha⟩ := rep_it r
  obtain ⟨b, eb, hb⟩ := rep_it t
  subst ea eb
  refine ⟨a, b, p, q, rfl, ha, hb, h _ ?_⟩
  unfold minP
  by_cases z : ltP q p = true
  · rw [if_pos z, if_pos z]; exact t
  · rw [if_neg z, if_neg z]; exact r
/-! ### is of bools -/
def rIsBX : R2 := fun x y H Q => ∃ a b : Bool, x = .bl a ∧ y = .bl b ∧ Q (.bl (decide (a = b))) H
def rNotBX : R2 := fun x y H Q => ∃ a b : Bool, x = .bl a ∧ y = .bl b ∧ Q (.bl (!decide (a = b))) H
theorem op_isBX : OpR Xc (compareOp .Is) rIsBX := op_isBl
theorem op_notBX : OpR Xc (compareOp .IsNot) rNotBX := op_notBl
theorem x_isBX {H : Hp} {Q : VK} {a b : Bool} (h : Q (.bl (decide (a = b))) H) : rIsBX (.bl a) (.bl b) H Q := ⟨a, b, rfl, rfl, h⟩
theorem x_notBX {H : Hp} {Q : VK} {a b : Bool} (h : Q (.bl (!decide (a = b))) H) : rNotBX (.bl a) (.bl b) H Q := ⟨a, b, rfl, rfl, h⟩
end
theorem pi_listK {K : PySem.W.Frag} {X : Cx} {tg l : Expr} {tl : TE} (hK : X.K = K) (hl : PE X l tl) : PI X tg l (iList K tl) := by subst hK; exact pi_list hl
theorem pi_tupK {K : PySem.W.Frag} {X : Cx} {tg l : Expr} {tl : TE} (hK : X.K = K) (hl : PE X l tl) : PI X tg l (iTup K tl) := by subst hK; exact pi_tup hl
theorem lookup_relabel_fc {env : Env} : ∀ {names : List (Str × NameKind)} {x : Str}, names.lookup x = some .cell ∨ names.lookup x = some .free →
    (names.map fun (n, k) => if (k == NameKind.free && env.scope.kind == .function && env.kindOf n == some .cell) then (n, NameKind.cell) else (n, k)).lookup x = some .cell ∨ (names.map fun (n, k) => if (k == NameKind.free && env.scope.kind == .function && env.kindOf n == some .cell) then (n, NameKind.cell) else (n, k)).lookup x = some .free
  | [], _, h => by simp at h
  | (n, k) :: r, x, h => by
    have ih := @lookup_relabel_fc env r x
    show List.lookup x ((if (k == NameKind.free && env.scope.kind == .function && env.kindOf n == some .cell) = true then (n, NameKind.cell) else (n, k)) :: _) = _ ∨ List.lookup x ((if (k == NameKind.free && env.scope.kind == .function && env.kindOf n == some .cell) = true then (n, NameKind.cell) else (n, k)) :: _) = _
    cases hx : x == n with
    | true =>
      simp only [List.lookup_cons, hx] at h
      by_cases hc : (k == NameKind.free && env.scope.kind == .function && env.kindOf n == some .cell) = true
      · rw [if_pos hc]; left; simp [List.lookup_cons, hx]
      · rw [if_neg hc]; simp only [List.lookup_cons, hx]; exact h
    | false =>
      simp only [List.lookup_cons, hx] at h
      by_cases hc : (k == NameKind.free && env.scope.kind == .function && env.kindOf n == some .cell) = true
      · rw [if_pos hc]; simp only [List.lookup_cons, hx]; exact ih h
      · rw [if_neg hc]; simp only [List.lookup_cons, hx]; exact ih h
theorem blkOk_in {N : List Str} {scope0 scope : Scope} {own : List (Str × Nat)} {cl : List (Str × Addr)} {C : Addr} {env : Env} (h : blkC N scope0 scope own = true) : BlkOk N (compEnvC scope0 cl C env).scope scope own := by
  have b := blkOk_by h
  exact ⟨b.kind, b.uniq, b.ix, fun y hy e => lookup_relabel_fc (b.free y hy e), b.own⟩
/-! ### chains of two comparisons -/
section
variable {C : Cn} {X : Addr → Prop} {H : Hp} {σ : L2.St} {Γ Γ' : List Sl} {Q : VK} {α β ρ : Type}
def KCh (tc : TE) (r' : R2) (σ : L2.St) (y : V) (Q : VK) : VK := fun z H3 => ∃ k, z = .bl k ∧ (if k = true then tc σ H3 fun w' H4 => r' y w' H4 Q else Q (.bl false) H3)
theorem x_chain {r r' : R2} {ta tb tc : TE} (h : ta σ H fun x H1 => tb σ H1 fun y H2 => r x y H2 (KCh tc r' σ y Q)) : tChain r r' ta tb tc σ H Q := h
theorem x_chP {A B : Bool} {tc : TE} {r' : R2} {y : V} (hu : ∀ Q' : VK, Q' (.bl B) H → tc σ H fun w H4 => r' y w H4 Q') (h : Q (.bl (A && B)) H) : KCh tc r' σ y Q (.bl A) H := by
  refine ⟨A, rfl, ?_⟩
  cases A with
  | true => exact hu Q h
  | false => exact h
/-! ### xs.reverse() -/
theorem x_reverse [Py α] {xs : List α} {i : Nat} {p : Addr} (L : Lo C X H σ Γ) (g : Γ[i]? = some (.mu p (ml xs))) (e : Γ.set i (.mu p (ml xs.reverse)) = Γ')
    (h : ∀ H1, Lo C X H1 σ Γ' → (∀ d u, Rep C.K X H d u → Rep C.K X H1 d u) → Q .non H1) : rReverse (.ref p) [] H Q := by
  subst e
  obtain ⟨vs, hs, rs⟩ := L.mrep g
  obtain ⟨L1, le⟩ := L.write (es := xs.reverse.map enc) (ws := vs.reverse) g hs (by rw [List.map_reverse]; exact rs.reverse)
  exact ⟨p, vs, rfl, rfl, hs, h _ L1 le⟩
/-! ### a list of the body's own is lent to a call that keeps nothing of it -/
abbrev X0 : Addr → Prop := fun _ => False
theorem Rep.x0 {K : PySem.W.Frag} {d : PyData} {v : V} (r : Rep K X H d v) : Rep K X0 H d v := r.anti fun _ h => h.elim
theorem SqX.x0 {K : PySem.W.Frag} {ns : List Int} {v : V} (r : SqX K X H ns v) : SqX K X0 H ns v := r.anti fun _ h => h.elim
theorem Lo.lend (L : Lo C X H σ Γ) {i : Nat} {p : Addr} {ds : List PyData} (e : Γ[i]? = some (.mu p (.lst ds))) : Rep C.K X0 H (.list ds) (.ref p) := by
  obtain ⟨vs, h1, h2⟩ := L.mrep e
  exact .lst (fun h => h) (.inl h1) (h2.anti fun _ h => h.elim)
theorem Lo.condL (L : Lo C X H σ Γ) {Γa : List Sl} {vs : List V} (as : As C.K X0 H Γa vs) (e : muts Γa = []) : Cond C.K X0 H Γa vs := ⟨as, nd0 e, (by rw [e]; intro _ h; cases h), fun _ h => h.elim⟩
/-- data without a list in it -/
class Flat (α : Type) [Py α] : Prop where
  up : ∀ {K : PySem.W.Frag} {X Y : Addr → Prop} {H : Hp} {x : α} {v : V}, Rep K X H (enc x) v → Rep K Y H (enc x) v
instance : Flat Int := ⟨fun r => by cases r; exact .int _⟩
instance : Flat Bool := ⟨fun r => by cases r; exact .bl _⟩
instance : Flat Str := ⟨fun r => by cases r; exact .str _⟩
instance {α β : Type} [Py α] [Py β] [Flat α] [Flat β] : Flat (T2 α β) := ⟨fun r => by
  cases r with | tup h q =>
    cases q with | cons a q => cases q with | cons b q => cases q; exact .tup h (.cons (Flat.up a) (.cons (Flat.up b) .nil))⟩
instance {α β γ : Type} [Py α] [Py β] [Py γ] [Flat α] [Flat β] [Flat γ] : Flat (T3 α β γ) := ⟨fun r => by
  cases r with | tup h q =>
    cases q with | cons a q => cases q with | cons b q => cases q with | cons c q => cases q; exact .tup h (.cons (Flat.up a) (.cons (Flat.up b) (.cons (Flat.up c) .nil)))⟩
theorem k0L {v : V} {H' : Hp} {rs : Rs} {ps : List (Addr × MO)} {G : Prop} (L : Lo C X H σ Γ) (F : Fin C.K X0 H [] ps rs v H') (h : Lo C X H' σ Γ → (∀ d u, Rep C.K X H d u → Rep C.K X H' d u) → G) : G := by
  have s : Same H H' := fun a o e => F.base a o e (by simp)
  exact h (L.same s) fun _ _ r => r.keep (.same s)
theorem k0Ld [Py α] [Flat α] {v : V} {H' : Hp} {x : α} {ps : List (Addr × MO)} {G : Prop} (L : Lo C X H σ Γ) (F : Fin C.K X0 H [] ps (.imm (enc x)) v H') (h : Lo C X H' σ Γ → (∀ d u, Rep C.K X H d u → Rep C.K X H' d u) → Rep C.K X H' (enc x) v → G) : G := by
  have s : Same H H' := fun a o e => F.base a o e (by simp)
  exact h (L.same s) (fun _ _ r => r.keep (.same s)) (Flat.up (show Rep C.K X0 H' (enc x) v from F.res))
end
/-! ### for x in [p, q, ..]: x.clear(), of lists of the body's own; a list parted -/
section
variable {C : Cn} {X : Addr → Prop} {H : Hp} {σ : L2.St} {Γ Γ' : List Sl} {Q : VK} {α : Type}
theorem x_clear {i : Nat} {p : Addr} {ds : List PyData} (L : Lo C X H σ Γ) (g : Γ[i]? = some (.mu p (.lst ds))) (e : Γ.set i (.mu p (.lst [])) = Γ')
    (h : ∀ H1, Lo C X H1 σ Γ' → (∀ d u, Rep C.K X H d u → Rep C.K X H1 d u) → Q .non H1) : rClear (.ref p) [] H Q := by
  subst e
  obtain ⟨vs, hs, rs⟩ := L.mrep g
  obtain ⟨L1, le⟩ := L.write (es := []) (ws := []) g hs .nil
  exact ⟨p, vs, rfl, rfl, hs, h _ L1 le⟩
theorem x_clr1 {i j : Nat} {p : Addr} {ds : List PyData} {N bk ct : L2.St → Hp → Prop} {rt : VK} (L : Lo C X H σ Γ) (hj : j < C.n) (g : Γ[i]? = some (.mu p (.lst ds))) (gj : Γ[j]? = some .unk) (e : Γ.set i (.mu p (.lst [])) = Γ')
    (h : ∀ σ' H', Lo C X H' σ' Γ' → N σ' H') : gName j (.ref p) σ H fun σ2 H2 => tDrop (tBM0 C.K "list" rClear (tVar j)) ⟨N, rt, bk, ct⟩ σ2 H2 := by
  have L1 : Lo C X H (σ.set j (some (.ref p))) Γ := by
    have := L.setS (i := j) (v := some (.ref p)) (s := .unk) rfl trivial hj
    rwa [show Γ.set j .unk = Γ from List.ext_getElem? fun k => by
      rw [List.getElem?_set]
      split
      · next z =>
        subst z
        have := (List.getElem?_eq_some_iff.mp gj).1
        rw [if_pos this, gj]
      · rfl] at this
  show tDrop (tBM0 C.K "list" rClear (tVar j)) ⟨N, rt, bk, ct⟩ (σ.set j (some (.ref p))) H
  refine x_drop (x_bm0 ?_)
  refine ⟨.ref p, ?_, ?_⟩
  · have hl : j < σ.length := by rw [L.len]; exact hj
    rw [List.getElem?_set_self hl]
  · exact x_tyM L1 g (x_clear L1 g e fun H1 L2 _ => h _ _ L2)
theorem x_refs {ps : List Addr} {G : Nat → List Sl} {g : TG} {tb : TS} {nx bk ct : L2.St → Hp → Prop} {rt : VK} (L : Lo C X H σ (G 0)) (hl : ps.length ≤ 16777216) (hG : ∀ k, k < ps.length → muts (G (k + 1)) = muts (G k))
    (body : ∀ k p, ps[k]? = some p → ∀ (H : Hp) (σ : L2.St) (N : L2.St → Hp → Prop), Lo ⟨C.K, X, H, muts (G k), C.n⟩ X H σ (G k) → (∀ X' σ' H', Lo ⟨C.K, X, H, muts (G k), C.n⟩ X' H' σ' (G (k + 1)) → N σ' H') → g (.ref p) σ H fun σ2 H2 => tb ⟨N, rt, nx, N⟩ σ2 H2)
    (done : ∀ σ' H', Lo C X H' σ' (G ps.length) → nx σ' H') : KLst (KForL C.K g tb ⟨nx, rt, bk, ct⟩ σ) (ps.map V.ref) H := by
  refine ⟨by rw [line_eq, List.length_map]; exact hl, fun a ha => ?_⟩
  have s : Same H (upd H a (.lst (ps.map V.ref))) := same_upd ha
  have na : ¬ X a := fun h => L.xd a h ha
  refine ⟨a, rfl, ⟨_, .inl (.inl upd_same)⟩, for_list (K := C.K) (a := a) (xs := ps.map V.ref) (fun i σ' H' => i ≤ ps.length ∧ Lo C X H' σ' (G i) ∧ Rd H' a (.lst (ps.map V.ref))) ⟨Nat.zero_le _, L.same s, .inl upd_same⟩ (fun i σ' H' _ h => .inl h.2.2) ?_ ?_⟩
  · rintro i y σ' H' hy ⟨hi, L', rd⟩
    rw [List.getElem?_map] at hy
    cases hp : ps[i]? with
    | none => rw [hp] at hy; cases hy
    | some p =>
      rw [hp] at hy
      cases hy
      have hk := (List.getElem?_eq_some_iff.mp hp).1
      refine body i p hp H' σ' _ L'.enter fun X' σ'' H'' L'' => ?_
      exact ⟨hk, L'.leave L'' (hG i hk), (L'.keep L'').rd na rd⟩
  · rintro σ' H' ⟨_, L', _⟩
    rw [List.length_map] at L'
    exact done _ _ L'
def un2 {α : Type} : List α → Option (T2 α α)
  | [a, b] => some ⟨a, b⟩
  | _ => none
def un3 {α : Type} : List α → Option (T3 α α α)
  | [a, b, c] => some ⟨a, b, c⟩
  | _ => none
def un4 {α : Type} : List α → Option (T4 α α α α)
  | [a, b, c, d] => some ⟨a, b, c, d⟩
  | _ => none
theorem un2_eq {xs : List α} {q : T2 α α} (h : un2 xs = some q) : xs = [q.a, q.b] := by
  unfold un2 at h
  split at h
  · cases h; rfl
  · cases h
theorem un3_eq {xs : List α} {q : T3 α α α} (h : un3 xs = some q) : xs = [q.a, q.b, q.c] := by
  unfold un3 at h
  split at h
  · cases h; rfl
  · cases h
theorem un4_eq {xs : List α} {q : T4 α α α α} (h : un4 xs = some q) : xs = [q.a, q.b, q.c, q.d] := by
  unfold un4 at h
  split at h
  · cases h; rfl
  · cases h
theorem x_gLst [Py α] {xs ys : List α} {v : V} {n : Nat} {t : TGs} {N : L2.St → Hp → Prop} (r : Rep C.K X H (enc xs) v) (e : xs = ys) (hl : ys.length = n) (h : ∀ vs, Reps C.K X H (ys.map enc) vs → t vs σ H N) : gLst C.K n t v σ H N := by
  subst e
  obtain ⟨a, vs, e, _, rd, q⟩ := rep_lst (ds := xs.map enc) r
  exact ⟨a, vs, e, .inl rd, by rw [q.length, List.length_map]; exact hl, h vs q⟩
end
theorem b2_small (c : Bool) : -(2 ^ 64) < b2 c ∧ b2 c < 2 ^ 64 := by cases c <;> decide
/-! ### data of new lists alone: told lists may be cleared -/
section
variable {C : Cn} {X : Addr → Prop} {H : Hp} {σ : L2.St} {Γ Γ' : List Sl} {Q : VK} {α β τ : Type}
theorem Lo.resl {s s' : Sl} (L : Lo C X H σ Γ) {i : Nat} (g : Γ[i]? = some s) (e : s'.ad = s.ad) (h : ∀ v, SlOk C.K X H v s → SlOk C.K X H v s') : Lo C X H σ (Γ.set i s') := by
  have hil : i < Γ.length := (List.getElem?_eq_some_iff.mp g).1
  have hm : muts (Γ.set i s') = muts Γ := by
    clear L h
    induction Γ generalizing i with
    | nil => simp at hil
    | cons t Γ ih => cases i with
      | zero =>
        simp at g; subst g
        show List.filterMap _ _ = List.filterMap _ _
        rw [List.set_cons_zero, List.filterMap_cons, List.filterMap_cons, e]
      | succ i =>
        have := ih (i := i) (by simpa using g) (by simpa using hil)
        unfold muts at this ⊢
        rw [List.set_cons_succ, List.filterMap_cons, List.filterMap_cons, this]
  refine ⟨L.len, fun j t hj => ?_, by rw [hm]; exact L.nd, fun p hp => L.mx p (hm ▸ hp), L.m0, L.xd, L.base, L.dom, fun p hp => L.own p (hm ▸ hp), L.tf⟩
  by_cases z : j = i
  · subst z
    rw [List.getElem?_set_self hil] at hj
    cases hj
    exact h _ (L.at_ j s g)
  · rw [List.getElem?_set_ne (Ne.symm z)] at hj
    exact L.at_ j t hj
mutual
theorem Rep.old {K : PySem.W.Frag} {Z : Addr → Prop} (hz : ∀ a, ¬ Z a → H a = none) : ∀ {d : PyData} {v : V}, Rep K X H d v → Rep K (fun b => X b ∨ ¬ Z b) H d v
  | _, _, .non => .non
  | _, _, .bl b => .bl b
  | _, _, .int i => .int i
  | _, _, .str x => .str x
  | _, _, .tup q r => .tup q (Reps.old hz r)
  | _, _, .lst n q r => .lst (fun z => z.elim n fun y => rd_nn q (hz _ y)) q (Reps.old hz r)
theorem Reps.old {K : PySem.W.Frag} {Z : Addr → Prop} (hz : ∀ a, ¬ Z a → H a = none) : ∀ {d : List PyData} {v : List V}, Reps K X H d v → Reps K (fun b => X b ∨ ¬ Z b) H d v
  | _, _, .nil => .nil
  | _, _, .cons r t => .cons (Rep.old hz r) (Reps.old hz t)
end
/-- the lists of now and those still to come -/
theorem Lo.mark (L : Lo C X H σ Γ) : ∃ Z : Addr → Prop, (∀ a, Z a ↔ H a = none) ∧ ∀ a, Z a → C.H0 a = none := by
  refine ⟨fun a => H a = none, fun _ => Iff.rfl, fun a h => ?_⟩
  cases e : C.H0 a with
  | none => rfl
  | some o => exact (L.dom a (by rw [e]; exact fun z => nomatch z) h).elim
theorem Lo.fix {Z : Addr → Prop} (L : Lo C X H σ Γ) (hz : ∀ a, Z a ↔ H a = none) {i : Nat} {d : PyData} (g : Γ[i]? = some (.imm d)) : Lo C X H σ (Γ.set i (.fix (fun b => ¬ Z b) d)) :=
  L.resl g rfl fun v ⟨u, e, r⟩ => ⟨u, e, r.old fun a y => (hz a).mp (Classical.not_not.mp y)⟩
theorem Lo.unfix {Z : Addr → Prop} (L : Lo C X H σ Γ) {i : Nat} {d : PyData} (g : Γ[i]? = some (.fix Z d)) : Lo C X H σ (Γ.set i (.imm d)) :=
  L.resl g rfl fun v ⟨u, e, r⟩ => ⟨u, e, r.anti fun _ => .inl⟩
theorem Lo.unZ {Z : Addr → Prop} {p : Addr} {ds : List PyData} (L : Lo C X H σ Γ) {i : Nat} (g : Γ[i]? = some (.mu p (.lstZ Z ds))) : Lo C X H σ (Γ.set i (.mu p (.lst ds))) :=
  L.resl g rfl fun v ⟨e, vs, h, r⟩ => ⟨e, vs, h, r.anti fun _ => .inl⟩
theorem x_vfx {i : Nat} {d : PyData} {Z : Addr → Prop} (L : Lo C X H σ Γ) (e : Γ[i]? = some (.fix Z d)) (h : ∀ v, Rep C.K X H d v → Q v H) : tVar i σ H Q := by
  obtain ⟨u, e1, r⟩ := L.at_ i _ e
  exact ⟨u, e1, h u (r.anti fun _ => .inl)⟩
/-- a slot that does not mind when a new list is written -/
def OldS (Z : Addr → Prop) : Sl → Prop
  | .unk => True
  | .ref _ => True
  | .scr _ => False
  | .imm d => ∀ (K : PySem.W.Frag) (X : Addr → Prop) (H : Hp) (u : V), Rep K X H d u → Rep K (fun _ => True) H d u
  | .fix Z' _ => ∀ a, Z' a → ¬ Z a
  | .mu _ (.lst ds) => ∀ (K : PySem.W.Frag) (X : Addr → Prop) (H : Hp) (us : List V), Reps K X H ds us → Reps K (fun _ => True) H ds us
  | .mu _ .any => True
  | .fixN Z' _ => ∀ a, Z' a → ¬ Z a
  | .exv Z' _ => ∀ a, Z a → Z' a
  | _ => False
theorem OldS.dat [Py α] [Flat α] {Z : Addr → Prop} {x : α} : OldS Z (.imm (enc x)) := fun _ _ _ _ r => Flat.up r
theorem OldS.I {Z : Addr → Prop} {x : Int} : OldS Z (.imm (.int x)) := OldS.dat (x := x)
theorem OldS.B {Z : Addr → Prop} {x : Bool} : OldS Z (.imm (.bool x)) := OldS.dat (x := x)
theorem OldS.S {Z : Addr → Prop} {x : Str} : OldS Z (.imm (.str x)) := OldS.dat (x := x)
theorem Reps.flat [Py α] [Flat α] {K : PySem.W.Frag} {Y : Addr → Prop} : ∀ {xs : List α} {us : List V}, Reps K X H (xs.map enc) us → Reps K Y H (xs.map enc) us
  | [], _, .nil => .nil
  | _ :: _, _, .cons r t => .cons (Flat.up r) (Reps.flat t)
theorem OldS.lst [Py α] [Flat α] {Z : Addr → Prop} {p : Addr} {xs : List α} : OldS Z (.mu p (.lst (xs.map enc))) := fun _ _ _ _ r => r.flat
mutual
theorem Rep.unl {K : PySem.W.Frag} {Z : Addr → Prop} {b : Addr} (hb : ∀ a, Z a → a ≠ b) : ∀ {d : PyData} {v : V}, Rep K (NewX X Z H) H d v → Rep K (fun a => NewX X Z H a ∨ a = b) H d v
  | _, _, .non => .non
  | _, _, .bl b => .bl b
  | _, _, .int i => .int i
  | _, _, .str x => .str x
  | _, _, .tup q r => .tup q (Reps.unl hb r)
  | _, _, .lst n q r => .lst (fun z => z.elim n fun y => hb _ (Classical.not_not.mp fun h => n (.inr (.inl h))) y) q (Reps.unl hb r)
theorem Reps.unl {K : PySem.W.Frag} {Z : Addr → Prop} {b : Addr} (hb : ∀ a, Z a → a ≠ b) : ∀ {d : List PyData} {v : List V}, Reps K (NewX X Z H) H d v → Reps K (fun a => NewX X Z H a ∨ a = b) H d v
  | _, _, .nil => .nil
  | _, _, .cons r t => .cons (Rep.unl hb r) (Reps.unl hb t)
end
theorem keepAll {b : Addr} {us : List V} {o : HO} (h : H b = some (.lst us)) : Keep (fun a => a = b) H (upd H b o) :=
  ⟨fun a u e n => by rw [upd_ne n]; exact e, fun a vs e => by rw [upd_ne (fun z => by rw [z, h] at e; cases e)]; exact e, fun a u w e => by rw [upd_ne (fun z => by rw [z, h] at e; cases e)]; exact e⟩
theorem Lo.clrZ {Z : Addr → Prop} {b : Addr} {us : List V} (L : Lo C X H σ Γ) (h0 : C.H0 b = none) (nb : ¬ X b) (zb : Z b) (h : H b = some (.lst us)) (old : ∀ s ∈ Γ, OldS Z s) : Lo C X (upd H b (.lst [])) σ Γ := by
  have k := keepAll (o := .lst []) h
  have hd : ∀ a, H a ≠ none → upd H b (.lst []) a ≠ none := fun a e => by
    by_cases z : a = b
    · rw [z, upd_same]; exact fun y => nomatch y
    · rw [upd_ne z]; exact e
  refine ⟨L.len, fun i s hi => ?_, L.nd, L.mx, L.m0, fun a z => hd a (L.xd a z), fun a u e n => ?_, fun a e => hd a (L.dom a e), L.own, L.tf⟩
  · have hs := L.at_ i s hi
    have ho := old s (List.mem_of_getElem? hi)
    have hx : ∀ p, s.ad = some p → p ≠ b := fun p e z => nb (z ▸ L.mx p (mem_muts.mpr ⟨i, s, hi, e⟩))
    cases s with
    | unk => trivial
    | ref a => exact hs
    | scr ns => exact ho.elim
    | imm d =>
      obtain ⟨u, e, r⟩ := hs
      exact ⟨u, e, ((ho _ _ _ _ r).keep (k.mono fun _ _ => trivial)).anti fun _ _ => trivial⟩
    | fixN Z' d =>
      obtain ⟨u, e, r⟩ := hs
      have r1 : Rep C.K (fun a => NewX X Z' H a ∨ a = b) H d u := r.unl fun a z y => ho a z (y ▸ zb)
      exact ⟨u, e, (r1.keep (k.mono fun _ z => .inr z)).anti fun a z => z.elim (fun z => .inl (.inl z)) fun z => z.elim (fun z => .inl (.inr (.inl z))) fun ⟨o, w, z⟩ => by
        by_cases y : a = b
        · exact .inr y
        · rw [upd_ne y] at z
          exact .inl (.inr (.inr ⟨o, w, z⟩))⟩
    | exv Z' R =>
      obtain ⟨u, e, x, r⟩ := hs
      exact ⟨u, e, x, x.clr (ho b zb) h r⟩
    | lax i j => exact ho.elim
    | fix Z' d =>
      obtain ⟨u, e, r⟩ := hs
      exact ⟨u, e, r.keep (k.mono fun a z => .inr fun y => ho a y (z ▸ zb))⟩
    | mu p o =>
      obtain ⟨e, r⟩ := hs
      refine ⟨e, ?_⟩
      have hp : upd H b (.lst []) p = H p := upd_ne (hx p rfl)
      cases o with
      | lst ds =>
        obtain ⟨vs, hv, r⟩ := r
        exact ⟨vs, hp.trans hv, ((ho _ _ _ _ r).keep (k.mono fun _ _ => trivial)).anti fun _ _ => trivial⟩
      | lstZ _ _ => exact ho.elim
      | dct _ => exact ho.elim
      | ex _ => exact ho.elim
      | any =>
        obtain ⟨vs, hv⟩ := r
        exact ⟨vs, hp.trans hv⟩
    | tmp p o => exact ho.elim
  · rw [upd_ne fun z => by rw [z, h0] at e; cases e]
    exact L.base a u e n
theorem atI_zero {x : α} {xs : List α} : atI (x :: xs) 0 = some x := by
  unfold atI ixN
  simp
/-- for x in xs: x[0].clear(), of a told list of new ones -/
theorem x_dclrs [Py α] [Py β] {γ : Type} [Py γ] {zs : List (T3 (List α) β γ)} {Z : Addr → Prop} {i j : Nat} {p : Addr} {nx bk ct : L2.St → Hp → Prop} {rt : VK} (L : Lo C X H σ Γ) (hZ : ∀ a, Z a → C.H0 a = none) (hj : j < C.n)
    (g : Γ[i]? = some (.mu p (.lstZ Z (zs.map enc)))) (gj : Γ[j]? = some .unk) (old : ∀ s ∈ Γ.set i (.mu p .any), OldS Z s) (e : Γ.set i (.mu p .any) = Γ') (done : ∀ σ' H', Lo C X H' σ' Γ' → nx σ' H') :
    KForL C.K (gName j) (tDrop (tBM0 C.K "list" rClear (tOp (rIxT C.K) (tVar j) (tC (.int 0))))) ⟨nx, rt, bk, ct⟩ σ (.ref p) H := by
  subst e
  have hil : i < Γ.length := (List.getElem?_eq_some_iff.mp g).1
  have ne : i ≠ j := fun z => by subst z; rw [g] at gj; cases gj
  obtain ⟨_, vs, hv, rv⟩ := L.at_ i _ g
  have Xp : X p := L.mx p (mem_muts.mpr ⟨i, _, g, rfl⟩)
  have L1 : Lo C X H σ (Γ.set i (.mu p .any)) := L.resl g rfl fun v ⟨e, vs, h, _⟩ => ⟨e, vs, h⟩
  have gj1 : (Γ.set i (Sl.mu p .any))[j]? = some .unk := by rw [List.getElem?_set_ne ne]; exact gj
  have pieces : ∀ (zs : List (T3 (List α) β γ)) (vs : List V), Reps C.K (NewX X Z H) H (zs.map enc) vs → ∀ y ∈ vs, ∃ a b rest us, y = .ref a ∧ SqT C.K H a (.ref b :: rest) ∧ ¬ X b ∧ Z b ∧ H b = some (.lst us) := by
    intro zs
    induction zs with
    | nil => intro vs r y hy; cases r; cases hy
    | cons z zs ih =>
      intro vs r y hy
      cases r with
      | cons r t =>
        rcases List.mem_cons.mp hy with e | hy
        · subst e
          obtain ⟨a, ws, rfl, hs, q⟩ := rep_tup (ds := [enc z.a, enc z.b, enc z.c]) r
          cases q with
          | cons q1 q2 =>
            obtain ⟨b, us, rfl, nb, rd, _⟩ := rep_lst (ds := z.a.map enc) q1
            refine ⟨a, b, _, us, rfl, hs, fun h => nb (.inl h), Classical.not_not.mp fun h => nb (.inr (.inl h)), ?_⟩
            rcases rd with rd | ⟨o, rd⟩
            · exact rd
            · exact (nb (.inr (.inr ⟨_, _, rd⟩))).elim
        · exact ih _ t y hy
  refine ⟨p, rfl, ⟨vs, .inl (.inl hv)⟩, for_list (K := C.K) (a := p) (xs := vs) (fun k σ' H' => Lo C X H' σ' (Γ.set i (.mu p .any)) ∧ H' p = some (.lst vs) ∧ ∀ y ∈ vs, ∃ a b rest us, y = .ref a ∧ SqT C.K H' a (.ref b :: rest) ∧ ¬ X b ∧ Z b ∧ H' b = some (.lst us))
    ⟨L1, hv, pieces zs vs rv⟩ (fun k σ' H' _ h => .inl (.inl h.2.1)) ?_ fun σ' H' h => done _ _ h.1⟩
  rintro k y σ' H' hy ⟨L', hp, hpc⟩
  obtain ⟨a, b, rest, us, rfl, hs, nb, zb, rd⟩ := hpc y (List.mem_of_getElem? hy)
  have L2 : Lo C X H' (σ'.set j (some (.ref a))) (Γ.set i (.mu p .any)) := by
    have := L'.setS (i := j) (v := some (.ref a)) (s := .unk) rfl trivial hj
    rwa [show (Γ.set i (Sl.mu p .any)).set j .unk = Γ.set i (Sl.mu p .any) from List.ext_getElem? fun k => by
      rw [List.getElem?_set]
      split
      · next z =>
        subst z
        have := (List.getElem?_eq_some_iff.mp gj1).1
        rw [if_pos this, gj1]
      · rfl] at this
  have hl : j < σ'.length := by rw [L'.len]; exact hj
  refine x_drop (x_bm0 ?_)
  refine ⟨.ref a, by rw [List.getElem?_set_self hl], ?_⟩
  refine ⟨a, .ref b :: rest, 0, .ref b, rfl, rfl, hs, atI_zero, ?_⟩
  refine ⟨.inl ⟨rfl, us, .inl (.inl rd)⟩, ?_⟩
  refine ⟨b, us, rfl, rfl, rd, ?_⟩
  have kk := keepAll (o := .lst []) rd
  refine ⟨L2.clrZ (hZ b zb) nb zb rd old, ?_, fun y hy => ?_⟩
  · rw [upd_ne (show p ≠ b from fun z => nb (z ▸ Xp))]; exact hp
  · obtain ⟨a2, b2, rest2, us2, e2, hs2, nb2, zb2, rd2⟩ := hpc y hy
    by_cases z : b2 = b
    · exact ⟨a2, b2, rest2, [], e2, kk.sqT hs2, nb2, zb2, by rw [z, upd_same]⟩
    · exact ⟨a2, b2, rest2, us2, e2, kk.sqT hs2, nb2, zb2, by rw [upd_ne z]; exact rd2⟩
end
/-! ### a comprehension that tells new lists alone -/
section
variable {C : Cn} {X : Addr → Prop} {H H' : Hp} {σ : L2.St} {Γ Γ' : List Sl} {Q : VK} {α β τ ρ : Type}
def BodyCZ [Py β] (Z : Addr → Prop) (C : Cn) (X : Addr → Prop) (G : τ → List Sl) (d : PyData) (s : τ) (o : Option (Option β × τ)) (g : TG) (tt : TT) (te : TE) (vs : List Nat) : Prop :=
  ∀ (X : Addr → Prop) (H : Hp) (σ : L2.St) (u : V) (r : Option β × τ) (Qn : Hp → Prop) (Qy : VK), o = some r → Lo ⟨C.K, X, H, muts (G s), C.n⟩ X H σ (G s) → Rep C.K X H d u → (∀ a, ¬ Z a → H a ≠ none) →
    (r.1 = none → ∀ H', Lo ⟨C.K, X, H, muts (G s), C.n⟩ X H' σ (G r.2) → Qn H') →
    (∀ y, r.1 = some y → ∀ v H', Lo ⟨C.K, X, H, muts (G s), C.n⟩ X H' σ (G r.2) → Rep C.K (NewX X Z H') H' (enc y) v → Qy v H') →
    g u (wipe σ vs) H fun σ2 H2 => wipe σ2 vs = wipe σ vs ∧ tt σ2 H2 fun b H3 => if b = true then te σ2 H3 Qy else Qn H3
theorem x_lcL0Z {Z : Addr → Prop} [Py α] [Py β] {xs : List α} {f : α → τ → Option (Option β × τ)} {G : τ → List Sl} {s0 : τ} {q : List β × τ} {v : V} {g : TG} {tt : TT} {te : TE} {ws : List Nat}
    (L : Lo C X H σ (G s0)) (hG : ∀ s s', muts (G s) = muts (G s')) (r : Rep C.K X H (enc xs) v) (hm : compL f xs s0 = some q) (hl : xs.length ≤ 16777216)
    (hz : ∀ a, ¬ Z a → H a ≠ none) (body : ∀ x s, BodyCZ Z C X G (enc x) s (f x s) g tt te ws)
    (done : ∀ D H', H D = none → C.H0 D = none → ¬ C.X0 D → Lo C (fun a => X a ∨ a = D) H' σ (G q.2) → Keep X H H' → MRep C.K (fun a => X a ∨ a = D) H' D (.lstZ Z (q.1.map enc)) → Q (.ref D) H') :
    KLcL C.K g tt te ws σ Q v H := by
  obtain ⟨a, us, rfl, hna, hrd, hrs⟩ := rep_lst (ds := xs.map enc) r
  refine ⟨a, rfl, ⟨us, .inl hrd⟩, fun D hD => ?_⟩
  have h0 : C.H0 D = none := by
    cases e : C.H0 D with
    | none => rfl
    | some o => exact (L.dom D (by rw [e]; exact fun z => nomatch z) hD).elim
  have hDm : ∀ s, D ∉ muts (G s) := fun s h => L.xd D (L.mx D (hG s s0 ▸ h)) hD
  have sm : Same H (upd H D (.lst [])) := same_upd hD
  have lay := L.lay (p := D) (o := .lst []) hD sm ⟨[], upd_same, .nil⟩
  have L1 : Lo C (fun a => X a ∨ a = D) (upd H D (.lst [])) σ (G s0) := by
    refine ⟨L.len, fun i s hi => ?_, L.nd, fun p hp => .inl (L.mx p hp), fun a h => .inl (L.m0 a h), lay.1.xd, lay.1.base, lay.1.dom, L.own, L.tf⟩
    refine lay.1.at_ i s ?_
    rw [List.getElem?_append_left (List.getElem?_eq_some_iff.mp hi).1]
    exact hi
  have hna' : ¬ (X a ∨ a = D) := fun h => h.elim hna fun e => by
    subst e
    exact rd_nn hrd hD
  refine lc_list (K := C.K) (a := a) (xs := us) (fun i H' => ∃ s ys acc q', Lo C (fun a => X a ∨ a = D) H' σ (G s) ∧ Reps C.K (fun a => X a ∨ a = D) H' (xs.map enc) us ∧ Rd H' a (.lst us) ∧ H' D = some (.lst acc) ∧ Reps C.K (NewX (fun a => X a ∨ a = D) Z H') H' (ys.map enc) acc ∧
      compL f (xs.drop i) s = some q' ∧ q = (ys ++ q'.1, q'.2) ∧ ys.length ≤ i ∧ Keep X H H' ∧ (∀ a, H a ≠ none → H' a ≠ none))
    ⟨s0, [], [], q, L1, (hrs.more hD).keep (.same sm), Keep.rd (.same sm) hna hrd, upd_same, .nil, hm, rfl, Nat.le_refl _, .same sm, fun a h => ?_⟩ (fun i H' _ ⟨s, ys, acc, q', _, _, h, _⟩ => .inl h) ?_ ?_
  · by_cases z : a = D
    · rw [z, upd_same]; exact fun y => nomatch y
    · rw [upd_ne z]; exact h
  · rintro i y H' hy ⟨s, ys, acc, q', L', hr', hd', hacc, hys, hq', eq, hyl, hk, hdm⟩
    obtain ⟨d, hd, rd⟩ := hr'.get' hy
    rw [List.getElem?_map] at hd
    cases hx : xs[i]? with
    | none => rw [hx] at hd; cases hd
    | some x =>
      rw [hx] at hd
      cases hd
      have hil : i < xs.length := (List.getElem?_eq_some_iff.mp hx).1
      obtain ⟨r1, q1, h1, h2, h3⟩ := comp_drop hx hq'
      refine body x s _ H' σ y r1 _ _ h1 L'.enter rd (fun a z => hdm a (hz a z)) ?_ ?_
      · intro e H'' M
        have k := L'.keep M
        have kd : H'' D = some (.lst acc) := M.base D _ hacc (hDm s)
        refine ⟨r1.2, ys, acc, q1, L'.leave M (hG _ _), hr'.keep k, k.rd hna' hd', kd, hys.keepF k, h2, ?_, Nat.le_succ_of_le hyl, ?_, fun a h => M.dom a (hdm a h)⟩
        · rw [eq, h3, e]
        · refine ⟨fun b o hb n => ?_, fun b vs hb => k.2.1 b vs (hk.2.1 b vs hb), fun b o u hb => k.2.2 b o u (hk.2.2 b o u hb)⟩
          have hbD : b ≠ D := fun z => by rw [z, hD] at hb; cases hb
          exact k.1 b o (hk.1 b o hb n) fun z => z.elim n hbD
      · intro yv e v H'' M rv
        have k := L'.keep M
        have kd : H'' D = some (.lst acc) := M.base D _ hacc (hDm s)
        have L2 := L'.leave M (hG _ _)
        obtain ⟨L3, k3⟩ := L2.wroteX (p := D) (o' := .lst (acc ++ [v])) (.inr rfl) (hDm _) kd h0 (fun _ z => nomatch z) (fun _ _ z => nomatch z)
        have k4 := k.trans k3
        have hal : acc.length = ys.length := by rw [hys.length, List.length_map]
        refine ⟨acc, kd, by rw [line_eq]; omega, r1.2, ys ++ [yv], acc ++ [v], q1, L3, hr'.keep k4, k4.rd hna' hd', upd_same, ?_, h2, ?_, ?_, ?_, ?_⟩
        · rw [List.map_append]
          exact (hys.keepF k4).append (.cons (rv.keepF k3) .nil)
        · rw [eq, h3, e]
          show (ys ++ yv :: q1.1, q1.2) = (ys ++ [yv] ++ q1.1, q1.2)
          rw [List.append_assoc]; rfl
        · rw [List.length_append]; exact Nat.succ_le_succ hyl
        · refine ⟨fun b o hb n => ?_, fun b vs hb => k4.2.1 b vs (hk.2.1 b vs hb), fun b o u hb => k4.2.2 b o u (hk.2.2 b o u hb)⟩
          have hbD : b ≠ D := fun z => by rw [z, hD] at hb; cases hb
          exact k4.1 b o (hk.1 b o hb n) fun z => z.elim n hbD
        · intro a h
          by_cases z : a = D
          · rw [z, upd_same]; exact fun y => nomatch y
          · rw [upd_ne z]; exact M.dom a (hdm a h)
  · rintro H' ⟨s, ys, acc, q', L', _, _, hacc, hys, hq', eq, _, hk, hdm⟩
    rw [hrs.length, List.length_map, List.drop_length] at hq'
    cases hq'
    rw [List.append_nil] at eq
    subst eq
    exact done D H' hD h0 (fun z => L.xd D (L.m0 D z) hD) L' hk ⟨acc, hacc, hys⟩

theorem x_lcLZ [Py α] [Py β] {Z : Addr → Prop} {xs : List α} {f : α → τ → Option (Option β × τ)} {v : V} {G : τ → List Sl} {s0 : τ} {q : List β × τ} {g : TG} {tt : TT} {te : TE} {ws : List Nat} (hz : ∀ a, ¬ Z a → H a ≠ none) (L : Lo C X H σ (G s0)) (hG : ∀ s s', muts (G s) = muts (G s')) (r : Rep C.K X H (enc xs) v) (hm : compL f xs s0 = some q) (hl : xs.length ≤ 16777216)
    (body : ∀ x s, BodyCZ Z C X G (enc x) s (f x s) g tt te ws) (h : ∀ D H', Lo C X H' σ (G q.2) → (∀ d u, Rep C.K X H d u → Rep C.K X H' d u) → Rep C.K (NewX X Z H') H' (enc q.1) (.ref D) → Q (.ref D) H') : KLcL C.K g tt te ws σ Q v H :=
  x_lcL0Z L hG r hm hl hz body (fun D H' hD h0 hx M k m => by
    obtain ⟨vs, h1, h2⟩ := m
    exact h D H' (M.xanti (fun _ h => .inl h) (fun p hp => L.mx p (hG q.2 s0 ▸ hp)) L.m0) (fun _ _ q => q.keep k)
      (.lst (fun z => z.elim (fun z => L.xd D z hD) fun z => z.elim (fun z => hz D z hD) fun ⟨_, _, z⟩ => by rw [h1] at z; cases z) (.inl h1) (h2.anti fun _ z => z.imp .inl id)))
theorem x_lcLNZ [Py α] [Py β] {Z : Addr → Prop} {xs : List α} {f : α → τ → Option (Option β × τ)} {v : V} {G : τ → List Sl} {s0 : τ} {q : List β × τ} {g : TG} {tt : TT} {te : TE} {ws : List Nat} (hz : ∀ a, ¬ Z a → H a ≠ none) (L : Lo C X H σ (G s0)) (hG : ∀ s s', muts (G s) = muts (G s')) (r : Rep C.K X H (enc xs) v) (hm : compL f xs s0 = some q) (hl : xs.length ≤ 16777216)
    (body : ∀ x s, BodyCZ Z C X G (enc x) s (f x s) g tt te ws) (h : ∀ D X' H', C.H0 D = none → ¬ C.X0 D → Lo C X' H' σ (G q.2 ++ [.tmp D (.lstZ Z (q.1.map enc))]) → (∀ d u, Rep C.K X H d u → Rep C.K X' H' d u) → Q (.ref D) H') : KLcL C.K g tt te ws σ Q v H :=
  x_lcL0Z L hG r hm hl hz body (fun D H' hD h0 hx M k m => h D _ H' h0 hx (L.addT hD h0 M (hG _ _) m) fun _ _ q => (q.more hD).keep (k.mono fun _ z => .inl z))
theorem x_cyZ [Py β] {Z X' : Addr → Prop} {σ2 : L2.St} {H' : Hp} {K : PySem.W.Frag} {n : Nat} {G : τ → List Sl} {s s' : τ} {Γ2 : List Sl} {y : β} {r : Option β × τ} {v : V} {Qy : VK} (er : r = (some y, s')) (hy : ∀ y, r.1 = some y → ∀ v H', Lo ⟨K, X, H, muts (G s), n⟩ X H' σ (G r.2) → Rep K (NewX X Z H') H' (enc y) v → Qy v H')
    (L : Lo ⟨K, X, H, muts (G s), n⟩ X H σ (G s)) (M : Lo ⟨K, X, H, muts (G s), n⟩ X' H' σ2 Γ2) (b : Bk (G s) Γ2 (G s')) (q : Rep K (NewX X' Z H') H' (enc y) v) : Qy v H' := by
  subst er
  exact hy y rfl v H' (L.back M b) (q.anti fun a z => z.imp (M.m0 a) id)
theorem x_mkTZ {Y : Hp → Addr → Prop} {ds : List PyData} {vs : List V} (L : Lo C X H σ Γ) (q : Reps C.K (Y H) H ds vs) (hk : ∀ H1, Same H H1 → Reps C.K (Y H) H ds vs → Reps C.K (Y H1) H1 ds vs) (hl : vs.length ≤ 16777216) (h : ∀ v H1, Lo C X H1 σ Γ → (∀ d u, Rep C.K X H d u → Rep C.K X H1 d u) → Rep C.K (Y H1) H1 (.tuple ds) v → Q v H1) : KTup Q vs H := by
  refine ⟨by rw [line_eq]; exact hl, fun p hp => ?_⟩
  have s : Same H (upd H p (.tup vs)) := same_upd hp
  exact h _ _ (L.same s) (fun _ _ r => r.keep (.same s)) (.tup upd_same (hk _ s q))
theorem x_mkTN {Z : Addr → Prop} {ds : List PyData} {vs : List V} (L : Lo C X H σ Γ) (q : Reps C.K (NewX X Z H) H ds vs) (hl : vs.length ≤ 16777216) (h : ∀ v H1, Lo C X H1 σ Γ → (∀ d u, Rep C.K X H d u → Rep C.K X H1 d u) → Rep C.K (NewX X Z H1) H1 (.tuple ds) v → Q v H1) : KTup Q vs H :=
  x_mkTZ (Y := NewX X Z) L q (fun _ s r => r.keepF (.same s)) hl h
theorem x_cTup3 {i j l : Nat} {u : V} {d1 d2 d3 : PyData} {tt : TT} {te : TE} {Qy : VK} {Qn : Hp → Prop} (L : Lo C X H σ Γ) (r : Rep C.K X H (.tuple [d1, d2, d3]) u) (hi : i < C.n) (hj : j < C.n) (hl : l < C.n) (n1 : i ≠ j) (n2 : i ≠ l) (n3 : j ≠ l) (e : ((Γ.set i (.imm d1)).set j (.imm d2)).set l (.imm d3) = Γ') (h : ∀ σ2, Lo C X H σ2 Γ' → tt σ2 H (KCt te σ2 Qy Qn)) :
    gTup C.K 3 (gCons (gName i) (gCons (gName j) (gCons (gName l) gNil))) u (wipe σ [i, j, l]) H fun σ2 H2 => wipe σ2 [i, j, l] = wipe σ [i, j, l] ∧ tt σ2 H2 fun b H3 => if b = true then te σ2 H3 Qy else Qn H3 := by
  subst e
  obtain ⟨a, vs, rfl, hs, q⟩ := rep_tup r
  cases q with
  | @cons _ _ v1 _ r1 q => cases q with
    | @cons _ _ v2 _ r2 q => cases q with
      | @cons _ _ v3 _ r3 q => cases q with
        | nil =>
          refine ⟨a, _, rfl, hs, rfl, v1, [v2, v3], rfl, v2, [v3], rfl, v3, [], rfl, rfl, ?_⟩
          have w : ∀ (τ : L2.St), wipe τ [i, j, l] = ((τ.set l none).set j none).set i none := fun _ => rfl
          have e3 : (((wipe σ [i, j, l]).set i (some v1)).set j (some v2)).set l (some v3) = ((σ.set i (some v1)).set j (some v2)).set l (some v3) := by
            rw [w]
            apply List.ext_getElem?
            intro k
            simp only [List.getElem?_set, List.length_set]
            repeat' split
            all_goals first | rfl | omega
          refine ⟨?_, ?_⟩
          · rw [e3, w, w]
            apply List.ext_getElem?
            intro k
            simp only [List.getElem?_set, List.length_set]
            repeat' split
            all_goals first | rfl | omega
          · have q := h _ (((L.set r1 hi).set r2 hj).set r3 hl)
            rw [← e3] at q
            exact q
theorem k0NZ {Z : Addr → Prop} {p : Addr} {H' : Hp} {ds : List PyData} {ps : List (Addr × MO)} {P : Prop} (hz : ∀ a, Z a ↔ H a = none) (L : Lo C X H σ Γ) (F : Fin C.K X H [] ps (.new (.lstZ (fun a => H a = none) ds)) (.ref p) H') (h : ∀ X', C.H0 p = none → ¬ C.X0 p → Lo C X' H' σ (Γ ++ [.tmp p (.lstZ Z ds)]) → (∀ d u, Rep C.K X H d u → Rep C.K X' H' d u) → P) : P := by
  have e : Z = fun a => H a = none := funext fun a => propext (hz a)
  subst e
  exact k0N L F h
theorem k0iZ {v : V} {H' : Hp} {ds : List PyData} {ps : List (Addr × MO)} {G : Prop} {Z : Addr → Prop} (L : Lo C X H σ Γ) (F : Fin C.K X H [] ps (.new (.lstZ Z ds)) v H') (h : Lo C X H' σ Γ → (∀ d u, Rep C.K X H d u → Rep C.K X H' d u) → Rep C.K X H' (.list ds) v → G) : G :=
  k0i L ⟨F.base, F.dom, F.mu, (by
    obtain ⟨p, e, hp, vs, h1, h2⟩ := F.res
    exact ⟨p, e, hp, vs, h1, h2.anti fun _ => .inl⟩ : RRep C.K X H H' (.new (.lst ds)) v)⟩ h
/-- a list of the body's own is lent to a call that tells new lists alone -/
theorem k0LZ {v : V} {H' : Hp} {ds : List PyData} {ps : List (Addr × MO)} {G : Prop} (L : Lo C X H σ Γ) (F : Fin C.K X0 H [] ps (.new (.lstZ (fun a => H a = none) ds)) v H') (h : Lo C X H' σ Γ → (∀ d u, Rep C.K X H d u → Rep C.K X H' d u) → Rep C.K X H' (.list ds) v → G) : G := by
  have s : Same H H' := fun a o e => F.base a o e (by simp)
  obtain ⟨p, rfl, hp, vs, h1, h2⟩ := F.res
  refine h (L.same s) (fun _ _ r => r.keep (.same s)) (.lst (fun z => L.xd p z hp) (.inl h1) (h2.anti fun a z => .inr (.inl (L.xd a z))))
end

/-! ### xs[::h], h a sign -/
def tStep (K : PySem.W.Frag) (te ts : TE) : TE := fun σ H Q => te σ H fun x H1 => tPart ts σ H1 fun o H2 => ∃ a xs i, x = .ref a ∧ o = some i ∧ SqL K H2 a xs ∧ (i = 1 ∨ i = -1) ∧ ∀ p, H2 p = none → Q (.ref p) (upd H2 p (.lst (if i = 1 then xs else xs.reverse)))
theorem pe_step {X : Cx} {e f : Expr} {te ts : TE} {p3 pos : Pos} (he : PE X e te) (hf : PE X f ts) : PE X (.Subscript e (.Slice none none (some f) p3) pos) (tStep X.K te ts) := by
  refine ⟨fun pins s σ H Q I h => ?_⟩
  refine Subscript_ (thn (he.run pins s σ H _ I h) fun v s1 ⟨x, H1, I1, r1, q1⟩ => ?_)
  refine wpAny_Slice (thn (po_none.run pins s1 σ H1 (fun o H2 => o = none ∧ H2 = H1) I1 ⟨rfl, rfl⟩) fun vl s2 ⟨l, H2, I2, pl, el, e2⟩ => ?_)
  subst el e2
  refine thn (po_none.run pins s2 σ H2 (fun o H3 => o = none ∧ H3 = H2) I2 ⟨rfl, rfl⟩) fun vu s3 ⟨u, H3, I3, pu, eu, e3⟩ => ?_
  subst eu e3
  refine thn ((po_some hf).run pins s3 σ H3 (fun o H4 => ∃ a xs i, x = .ref a ∧ o = some i ∧ SqL X.K H4 a xs ∧ (i = 1 ∨ i = -1) ∧ ∀ p, H4 p = none → Q (.ref p) (upd H4 p (.lst (if i = 1 then xs else xs.reverse)))) I3 q1) fun vs s4 ⟨o, H4, I4, ps, a, xs, i, ex, eo, hx, hi, q⟩ => ?_
  subst ex eo
  cases r1
  have I5 : Inv X pins σ H4 { s4 with heap := s4.heap.push { cls := .type "slice", data := .fields #[vl, vu, vs] } } := I4.kept (t' := s4.toks) fun b ob q => Heap.get?_push_of_some _ q
  obtain ⟨its, r, ht, hz⟩ := I5.list hx
  have hlen := r.length
  show wpAny (model X.prog X.w) X.A (subscriptTail e (.Slice none none (some f) p3) (.ref a) (.ref s4.heap.objs.size)) (EP X pins σ Q) X.xe { s4 with heap := s4.heap.push { cls := .type "slice", data := .fields #[vl, vu, vs] } }
  refine tail_any (ops := [.ref a, .ref s4.heap.objs.size]) ht.isList.typeIs (PySem.slot_list_getitem.lookup) ?_ (by with_unfolding_all rfl)
  refine wpAny_getItem_list_slice ht.isList (Heap.IsSliceOf.new _ vl vu vs) pl pu ps (by rcases hi with e | e <;> subst e <;> decide) ?_ (by rw [List.size_toArray]; omega)
  rcases hi with e | e
  · subst e
    rw [show slicePick its.toArray none none (some 1) = its.toArray from slicePick_all its.toArray]
    rw [if_pos rfl] at q
    refine ⟨.ref _, _, I5.laid (t' := s4.toks) (o := .lst xs) (fun b ob q => Heap.get?_push_of_some _ q) (Nat.le_refl _) ?_, rfl, q _ (I5.hok.fresh (Nat.le_refl _))⟩
    exact ⟨hz, _, 0, r, Heap.get?_push_size _ rfl⟩
  · subst e
    rw [PySem.W.krv_pick]
    rw [if_neg (by decide)] at q
    refine ⟨.ref _, _, I5.laid (t' := s4.toks) (o := .lst xs.reverse) (fun b ob q => Heap.get?_push_of_some _ q) (Nat.le_refl _) ?_, rfl, q _ (I5.hok.fresh (Nat.le_refl _))⟩
    exact ⟨by rw [List.length_reverse]; exact hz, _, 0, r.reverse, Heap.get?_push_size _ rfl⟩
/-- .. of data: a new list -/
def stepG {α : Type} (xs : List α) (i : Int) : Option (List α) := if i = 1 then some xs else if i = -1 then some xs.reverse else none
section
variable {C : Cn} {X : Addr → Prop} {H : Hp} {σ : L2.St} {Γ Γ' : List Sl} {Q : VK} {α ρ : Type}
theorem x_step {te ts : TE} (h : te σ H fun x H1 => ts σ H1 fun y H2 => ∃ i, y = .int i ∧ (∃ a xs j, x = .ref a ∧ some i = some j ∧ SqL C.K H2 a xs ∧ (j = 1 ∨ j = -1) ∧ ∀ p, H2 p = none → Q (.ref p) (upd H2 p (.lst (if j = 1 then xs else xs.reverse))))) : tStep C.K te ts σ H Q := h
theorem x_stepL [Py α] {xs : List α} {i : Int} {v : V} {k : List α → Option ρ} {res : ρ} (L : Lo C X H σ Γ) (hm : (stepG xs i).bind k = some res) (r : Rep C.K X H (enc xs) v)
    (h : ∀ ys w H1, k ys = some res → Lo C X H1 σ Γ → (∀ d u, Rep C.K X H d u → Rep C.K X H1 d u) → Rep C.K X H1 (enc ys) w → Q w H1) :
    ∃ i', V.int i = .int i' ∧ (∃ a xs j, v = .ref a ∧ some i' = some j ∧ SqL C.K H a xs ∧ (j = 1 ∨ j = -1) ∧ ∀ p, H p = none → Q (.ref p) (upd H p (.lst (if j = 1 then xs else xs.reverse)))) := by
  obtain ⟨ys, hy, hk⟩ := ob hm
  obtain ⟨a, us, rfl, na, rd, q⟩ := rep_lst (ds := xs.map enc) r
  have hi : i = 1 ∨ i = -1 := by
    unfold stepG at hy
    split at hy
    · exact .inl (by assumption)
    · split at hy
      · exact .inr (by assumption)
      · cases hy
  refine ⟨i, rfl, a, us, i, rfl, rfl, .inl rd, hi, fun p hp => ?_⟩
  have fin : ∀ (zs : List α) (ws : List V), Reps C.K X H (zs.map enc) ws → ys = zs → Q (.ref p) (upd H p (.lst ws)) := fun zs ws rz e => by
    subst e
    have s : Same H (upd H p (.lst ws)) := same_upd hp
    have rr : RRep C.K X H (upd H p (.lst ws)) (.new (.lst (ys.map enc))) (.ref p) := ⟨p, rfl, hp, ws, upd_same, (rz.more hp).keep (.same s)⟩
    exact h ys _ _ hk (L.same s) (fun _ _ r => r.keep (.same s)) (rr.imm L.xd)
  rcases hi with e | e
  · subst e
    rw [if_pos rfl]
    refine fin xs us q ?_
    unfold stepG at hy
    rw [if_pos rfl] at hy
    exact (Option.some.inj hy).symm
  · subst e
    rw [if_neg (by decide)]
    refine fin xs.reverse us.reverse (by rw [List.map_reverse]; exact q.reverse) ?_
    unfold stepG at hy
    rw [if_neg (by decide), if_pos rfl] at hy
    exact (Option.some.inj hy).symm
/-- a list of which nothing is known any more -/
theorem x_tyA {i : Nat} {p : Addr} {P : Prop} (L : Lo C X H σ Γ) (g : Γ[i]? = some (.mu p .any)) (h : P) : tyV C.K "list" (.ref p) H ∧ P := by
  obtain ⟨vs, hs⟩ := L.mrep g
  exact ⟨.inl ⟨rfl, vs, .inl (.inl hs)⟩, h⟩
theorem x_clearA {i : Nat} {p : Addr} (L : Lo C X H σ Γ) (g : Γ[i]? = some (.mu p .any)) (e : Γ.set i (.mu p (.lst [])) = Γ')
    (h : ∀ H1, Lo C X H1 σ Γ' → (∀ d u, Rep C.K X H d u → Rep C.K X H1 d u) → Q .non H1) : rClear (.ref p) [] H Q := by
  subst e
  obtain ⟨vs, hs⟩ := L.mrep g
  have hX : X p := L.mx p (mem_muts.mpr ⟨i, _, g, rfl⟩)
  have kp : Keep X H (upd H p (.lst [])) := ⟨fun a u h n => by rw [upd_ne (fun z => n (by rw [z]; exact hX))]; exact h, fun a us h => by rw [upd_ne (fun z => by rw [z, hs] at h; cases h)]; exact h, fun a u w h => by rw [upd_ne (fun z => by rw [z, hs] at h; cases h)]; exact h⟩
  obtain ⟨L1, le⟩ := L.wrote (H' := upd H p (.lst [])) (o := .lst []) g rfl (fun a u h n => by rw [upd_ne n]; exact h) (fun a h => by
      by_cases z : a = p
      · rw [z, upd_same]; exact fun y => nomatch y
      · rw [upd_ne z]; exact h) ⟨[], upd_same, .nil⟩
  exact ⟨p, vs, rfl, rfl, hs, h _ L1 le⟩
end
/-! ### a told tuple of new lists -/
section
variable {C : Cn} {X : Addr → Prop} {H : Hp} {σ : L2.St} {Γ Γ' : List Sl} {Q : VK} {α β τ : Type}
theorem Lo.unfixN {Z : Addr → Prop} (L : Lo C X H σ Γ) {i : Nat} {d : PyData} (g : Γ[i]? = some (.fixN Z d)) : Lo C X H σ (Γ.set i (.imm d)) :=
  L.resl g rfl fun v ⟨u, e, r⟩ => ⟨u, e, r.anti fun _ => .inl⟩
theorem x_vfn {i : Nat} {d : PyData} {Z : Addr → Prop} (L : Lo C X H σ Γ) (e : Γ[i]? = some (.fixN Z d)) (h : ∀ v, Rep C.K X H d v → Q v H) : tVar i σ H Q := by
  obtain ⟨u, e1, r⟩ := L.at_ i _ e
  exact ⟨u, e1, h u (r.anti fun _ => .inl)⟩
theorem x_setZ {Z : Addr → Prop} {d : PyData} {i : Nat} {v : V} {N : L2.St → Hp → Prop} (L : Lo C X H σ Γ) (r : Rep C.K (NewX X Z H) H d v) (hi : i < C.n) (e : Γ.set i (.fixN Z d) = Γ') (h : ∀ σ', Lo C X H σ' Γ' → N σ' H) : gName i v σ H N := by
  subst e
  exact h _ (L.setS (i := i) (v := some v) (s := .fixN Z d) rfl ⟨v, rfl, r⟩ hi)
theorem x_mkTS {ds : List PyData} {vs : List V} (L : Lo C X H σ Γ) (q : Reps C.K X H ds vs) (hl : vs.length ≤ 16777216) (h : ∀ v H1, Same H H1 → Lo C X H1 σ Γ → (∀ d u, Rep C.K X H d u → Rep C.K X H1 d u) → Rep C.K X H1 (.tuple ds) v → Q v H1) : KTup Q vs H := by
  refine ⟨by rw [line_eq]; exact hl, fun p hp => ?_⟩
  have s : Same H (upd H p (.tup vs)) := same_upd hp
  exact h _ _ s (L.same s) (fun _ _ r => r.keep (.same s)) (.tup upd_same (q.keep (.same s)))
theorem x_listZ [Py α] [Flat α] {Z : Addr → Prop} {xs : List α} {v : V} (hz : ∀ a, ¬ Z a → H a ≠ none) (L : Lo C X H σ Γ) (r : Rep C.K X H (enc xs) v) (h : ∀ v H1, Lo C X H1 σ Γ → (∀ d u, Rep C.K X H d u → Rep C.K X H1 d u) → Rep C.K (NewX X Z H1) H1 (enc xs) v → Q v H1) : rListX C.K [v] H Q := by
  obtain ⟨a, vs, rfl, _, hs, q⟩ := rep_lst (ds := xs.map enc) r
  refine ⟨a, vs, rfl, .inl (.inl hs), fun p hp => ?_⟩
  have s : Same H (upd H p (.lst vs)) := same_upd hp
  refine h _ _ (L.same s) (fun _ _ r => r.keep (.same s)) (.lst (fun z => z.elim (fun z => L.xd p z hp) fun z => z.elim (fun z => hz p z hp) fun ⟨_, _, z⟩ => by rw [upd_same] at z; cases z) (.inl upd_same) ?_)
  exact (q.keep (.same s)).flat
theorem k0dN {v : V} {H' : Hp} {d : PyData} {ps : List (Addr × MO)} {P : Prop} {Z : Addr → Prop} (hz : ∀ a, Z a ↔ H a = none) (L : Lo C X H σ Γ) (F : Fin C.K X H [] ps (.immN (fun a => H a = none) d) v H') (h : Lo C X H' σ Γ → (∀ d u, Rep C.K X H d u → Rep C.K X H' d u) → Rep C.K (NewX X Z H') H' d v → P) : P := by
  have e : Z = fun a => H a = none := funext fun a => propext (hz a)
  subst e
  have s : Same H H' := fun a o e => F.base a o e (by simp)
  exact h (L.same s) (fun _ _ r => r.keep (.same s)) F.res
/-- x[0].clear() -/
theorem x_dclr1 [Py α] [Py β] {γ : Type} [Py γ] {z : T3 (List α) β γ} {Z : Addr → Prop} {i : Nat} {nx bk ct : L2.St → Hp → Prop} {rt : VK} (L : Lo C X H σ Γ) (hZ : ∀ a, Z a → C.H0 a = none)
    (g : Γ[i]? = some (.fixN Z (enc z))) (old : ∀ s ∈ Γ.set i .unk, OldS Z s) (e : Γ.set i .unk = Γ') (done : ∀ H', Lo C X H' σ Γ' → nx σ H') :
    tDrop (tBM0 C.K "list" rClear (tOp (rIxT C.K) (tVar i) (tC (.int 0)))) ⟨nx, rt, bk, ct⟩ σ H := by
  subst e
  have L1 : Lo C X H σ (Γ.set i .unk) := L.resl g rfl fun _ _ => trivial
  obtain ⟨u, eu, r⟩ := L.at_ i _ g
  obtain ⟨a, ws, rfl, hs, q⟩ := rep_tup (ds := [enc z.a, enc z.b, enc z.c]) r
  cases q with
  | cons q1 q2 =>
    obtain ⟨b, us, rfl, nb, rd, _⟩ := rep_lst (ds := z.a.map enc) q1
    have rd' : H b = some (.lst us) := by
      rcases rd with rd | ⟨o, rd⟩
      · exact rd
      · exact (nb (.inr (.inr ⟨_, _, rd⟩))).elim
    have zb : Z b := Classical.not_not.mp fun h => nb (.inr (.inl h))
    refine x_drop (x_bm0 ?_)
    refine ⟨.ref a, eu, ?_⟩
    refine ⟨a, .ref b :: _, 0, .ref b, rfl, rfl, hs, atI_zero, ?_⟩
    refine ⟨.inl ⟨rfl, us, .inl (.inl rd')⟩, ?_⟩
    exact ⟨b, us, rfl, rfl, rd', done _ (L1.clrZ (hZ b zb) (fun h => nb (.inl h)) zb rd' old)⟩
end
/-! ### texts -/
structure Ch where
  c : Nat
  deriving DecidableEq
def chS (x : Ch) : Str := ⟨#[x.c]⟩
instance : Py Ch := ⟨fun x => .str (chS x)⟩
def chs (x : Str) : List Ch := x.cps.toList.map Ch.mk
def strI (i : Int) : Option Str := if i.natAbs.log2 < 1920 then some (Str.ofString (toString i)) else none
def intT (a : Str) : Option Int := if a.length ≤ 640 then PySem.intText? a else none
def ixS (z : Str) (i : Int) : Option Str := (lenOk z.length).bind fun _ => (atI z.cps.toList i).map fun c => (⟨#[c]⟩ : Str)
def partS (a b : Str) : T3 Str Str Str := ⟨(Txt.partition a b).1, (Txt.partition a b).2.1, (Txt.partition a b).2.2⟩
def inS (x : Ch) (z : Str) : Bool := decide (x.c ∈ z.cps.toList)
def rAddS : R2 := fun x y H Q => ∃ i j, x = .str i ∧ y = .str j ∧ i.length + j.length ≤ sizeLine ∧ Q (.str (i ++ j)) H
theorem op_addSX {Xc : Cx} : OpR Xc (binaryOp .Add) rAddS := op_add_str
def rStrI : List V → Hp → VK → Prop := fun xs H Q => ∃ i : Int, xs = [.int i] ∧ i.natAbs.log2 < 1920 ∧ Q (.str (toString i)) H
theorem call_strX {Xc : Cx} : CallR Xc (.type "str") rStrI := call_str_int
def rIntT : List V → Hp → VK → Prop := fun xs H Q => ∃ a n, xs = [.str a] ∧ PySem.intText? a = some n ∧ a.length ≤ 640 ∧ Q (.int n) H
theorem call_intT {Xc : Cx} : CallR Xc (.type "int") rIntT := call_int_str
def rLenStr (K : PySem.W.Frag) : List V → Hp → VK → Prop := fun xs H Q => ∃ x n, xs = [x] ∧ LenV K x H n ∧ Q (.int n) H
theorem call_lenStr {Xc : Cx} : CallR Xc (.builtin "len") (rLenStr Xc.K) := call_len
def rPart : V → List V → Hp → VK → Prop := fun x xs H Q => ∃ a b, x = .str a ∧ xs = [.str b] ∧ (b.length == 0) = false ∧ a.length ≤ sizeLine ∧
    ∀ p, H p = none → Q (.ref p) (upd H p (.tup [.str (Txt.partition a b).1, .str (Txt.partition a b).2.1, .str (Txt.partition a b).2.2]))
def rSplit : V → List V → Hp → VK → Prop := fun x xs H Q => ∃ a b, x = .str a ∧ xs = [.str b] ∧ (b.length == 0) = false ∧ a.length + 2 ≤ sizeLine ∧ rNewStrs (Txt.split a b) H Q
theorem mt_splitX {Xc : Cx} : MtR Xc "str.split" rSplit := mt_split
def rJoin (K : PySem.W.Frag) : V → List V → Hp → VK → Prop := fun x xs H Q => ∃ a p, ∃ ys : List Str, x = .str a ∧ xs = [.ref p] ∧ (SqL K H p (ys.map V.str) ∨ SqT K H p (ys.map V.str)) ∧
    (ys.map (·.length)).sum + ys.length * a.length ≤ 16777216 ∧ Q (.str (Txt.join a ys)) H
theorem mt_joinX {Xc : Cx} : MtR Xc "str.join" (rJoin Xc.K) := mt_join
theorem mt_part {Xc : Cx} : MtR Xc "str.partition" rPart := mt_partition
def rStarts : V → List V → Hp → VK → Prop := fun x xs H Q => ∃ a b, x = .str a ∧ xs = [.str b] ∧ Q (.bl (Txt.startswith a b)) H
theorem mt_starts {Xc : Cx} : MtR Xc "str.startswith" rStarts := mt_startswith
def KForY (g : TG) (tb : TS) (D : Ends) (σ : L2.St) (v : V) (H : Hp) : Prop := ∃ x, v = V.str x ∧ ∃ W : Nat → Nat → L2.St → Hp → Prop, (∃ m, W 0 m σ H) ∧ ∀ i m σ H, W i m σ H →
      ((Its x).stop i H ∧ D.nx σ H) ∨ ((Its x).go i H ∧ ∃ N : L2.St → Hp → Prop, (∀ σ' H', N σ' H' → ∃ m', m' < m ∧ W (i + 1) m' σ' H') ∧ ∀ x' H', (Its x).yld i H x' H' → g x' σ H' fun σ2 H2 => tb { D with nx := N, ct := N, bk := D.nx } σ2 H2)
section
variable {C : Cn} {X : Addr → Prop} {H : Hp} {σ : L2.St} {Γ Γ' : List Sl} {Q : VK} {α β τ ρ : Type}
theorem x_strI {i : Int} {k : Str → Option ρ} {r : ρ} (hm : (strI i).bind k = some r) (h : ∀ z, k z = some r → Q (.str z) H) : rStrI [V.int i] H Q := by
  obtain ⟨z, hz, hk⟩ := ob hm
  unfold strI at hz
  split at hz
  · cases hz; exact ⟨i, rfl, by assumption, h _ hk⟩
  · cases hz
theorem x_intT {a : Str} {k : Int → Option ρ} {r : ρ} (hm : (intT a).bind k = some r) (h : ∀ z, k z = some r → Q (.int z) H) : rIntT [V.str a] H Q := by
  obtain ⟨z, hz, hk⟩ := ob hm
  unfold intT at hz
  split at hz
  · exact ⟨a, z, rfl, hz, by assumption, h _ hk⟩
  · cases hz
theorem x_addS {a b : Str} {k : Unit → Option ρ} {r : ρ} (hm : (lenOk (a.length + b.length)).bind k = some r) (h : k () = some r → Q (.str (a ++ b)) H) : rAddS (.str a) (.str b) H Q := by
  obtain ⟨_, hz, hk⟩ := ob hm
  exact ⟨a, b, rfl, rfl, by rw [line_eq]; exact lenOk_le hz, h hk⟩
theorem x_ixStr {z : Str} {i : Int} {k : Str → Option ρ} {r : ρ} (hm : (ixS z i).bind k = some r) (h : ∀ y, k y = some r → Q (.str y) H) : rIxS (.str z) (.int i) H Q := by
  obtain ⟨y, hy, hk⟩ := ob hm
  obtain ⟨_, hl, hy⟩ := ob hy
  cases e : atI z.cps.toList i with
  | none => rw [e] at hy; cases hy
  | some c =>
    rw [e] at hy
    cases hy
    exact ⟨z, i, c, rfl, rfl, by rw [line_eq]; exact lenOk_le hl, e, h _ hk⟩
theorem x_slStr {z : Str} {lo hi : Option Int} {k : Unit → Option ρ} {r : ρ} (hm : (lenOk z.length).bind k = some r) (h : k () = some r → Q (.str (cutS z lo hi)) H) : rSlS (.str z) lo hi H Q := by
  obtain ⟨_, hz, hk⟩ := ob hm
  exact ⟨z, rfl, by rw [line_eq]; exact lenOk_le hz, h hk⟩
theorem x_lenStr {K : PySem.W.Frag} {z : Str} {k : Unit → Option ρ} {r : ρ} (hm : (lenOk z.length).bind k = some r) (h : k () = some r → Q (.int (z.length : Int)) H) : rLenStr K [V.str z] H Q := by
  obtain ⟨_, hz, hk⟩ := ob hm
  exact ⟨_, z.length, rfl, ⟨by rw [line_eq]; exact lenOk_le hz, rfl⟩, h hk⟩
theorem x_m1 {r : V → List V → Hp → VK → Prop} {to te : TE} (h : to σ H fun x H1 => (∃ a, x = .str a) ∧ te σ H1 fun y H2 => r x [y] H2 Q) : tM1 r to te σ H Q := h
theorem x_isS {a : Str} {P : Prop} (h : P) : (∃ b, V.str a = .str b) ∧ P := ⟨⟨a, rfl⟩, h⟩
theorem x_partition {a b : Str} {k : Unit → Option ρ} {r : ρ} (L : Lo C X H σ Γ) (hm : (lenOk a.length).bind k = some r) (hb : (b.length == 0) = false)
    (h : ∀ v H1, k () = some r → Lo C X H1 σ Γ → (∀ d u, Rep C.K X H d u → Rep C.K X H1 d u) → Rep C.K X H1 (enc (partS a b)) v → Q v H1) :
    rPart (.str a) [.str b] H Q := by
  obtain ⟨_, hz, hk⟩ := ob hm
  refine ⟨a, b, rfl, rfl, hb, by rw [line_eq]; exact lenOk_le hz, fun p hp => ?_⟩
  have s : Same H (upd H p (.tup [.str (Txt.partition a b).1, .str (Txt.partition a b).2.1, .str (Txt.partition a b).2.2])) := same_upd hp
  exact h _ _ hk (L.same s) (fun _ _ r => r.keep (.same s)) (.tup upd_same (.cons (.str _) (.cons (.str _) (.cons (.str _) .nil))))
theorem reps_strs {K : PySem.W.Frag} {X : Addr → Prop} {H : Hp} : ∀ ys : List Str, Reps K X H (ys.map enc) (ys.map V.str)
  | [] => .nil
  | y :: ys => .cons (.str y) (reps_strs ys)
theorem x_split {a b : Str} {k : Unit → Option ρ} {r : ρ} (L : Lo C X H σ Γ) (hm : (lenOk (a.length + 2)).bind k = some r) (hb : (b.length == 0) = false)
    (h : ∀ v H1, k () = some r → Lo C X H1 σ Γ → (∀ d u, Rep C.K X H d u → Rep C.K X H1 d u) → Rep C.K X H1 (enc (Txt.split a b)) v → Q v H1) :
    rSplit (.str a) [.str b] H Q := by
  obtain ⟨_, hz, hk⟩ := ob hm
  refine ⟨a, b, rfl, rfl, hb, by rw [line_eq]; exact lenOk_le hz, fun p hp => ?_⟩
  have s : Same H (upd H p (.lst ((Txt.split a b).map V.str))) := same_upd hp
  exact h _ _ hk (L.same s) (fun _ _ r => r.keep (.same s)) (.lst (fun x => L.xd p x hp) (.inl upd_same) (reps_strs _))
theorem dps_strs {K : PySem.W.Frag} {H : Hp} : ∀ {ys : List Str} {vs : List V}, DpAll K H vs (ys.map enc) → vs = ys.map V.str
  | [], _, .nil => rfl
  | y :: ys, _, .cons h t => by
    cases h with
    | str => rw [dps_strs t]; rfl
def joinN (a : Str) (ys : List Str) : Nat := (ys.map (·.length)).sum + ys.length * a.length
theorem x_joinT {K : PySem.W.Frag} {a : Str} {ys : List Str} {v : V} {k : Unit → Option ρ} {r : ρ} (hm : (lenOk (joinN a ys)).bind k = some r) (q : Dp K H v (enc ys)) (h : k () = some r → Q (.str (Txt.join a ys)) H) :
    rJoin K (.str a) [v] H Q := by
  obtain ⟨_, hz, hk⟩ := ob hm
  have q : Dp K H v (.list (ys.map enc)) := q
  cases q with
  | lst s t => exact ⟨a, _, ys, rfl, rfl, .inl (dps_strs t ▸ s), lenOk_le hz, h hk⟩
theorem x_starts {a b : Str} (h : Q (.bl (Txt.startswith a b)) H) : rStarts (.str a) [.str b] H Q := ⟨a, b, rfl, rfl, h⟩
theorem x_inS {x : Ch} {z : Str} (h : Q (.bl (inS x z)) H) : rInS (.str (chS x)) (.str z) H Q := ⟨x.c, z, rfl, rfl, h⟩
theorem x_ninS {x : Ch} {z : Str} (h : Q (.bl (!inS x z)) H) : rNotInS (.str (chS x)) (.str z) H Q := ⟨x.c, z, rfl, rfl, h⟩
theorem x_tforY {te : TE} {g : TG} {tb : TS} {D : Ends} (h : te σ H (KForY g tb D σ)) : tFor (iStr te) g tb D σ H := h
theorem for_chs {x : Str} {g : TG} {tb : TS} {D : Ends} {σ : L2.St} {H : Hp} (Pv : Nat → L2.St → Hp → Prop) (h0 : Pv 0 σ H)
    (hs : ∀ i c σ H, x.cps[i]? = some c → Pv i σ H → g (.str ⟨#[c]⟩) σ H fun σ2 H2 => tb { D with nx := Pv (i + 1), ct := Pv (i + 1), bk := D.nx } σ2 H2) (hd : ∀ σ H, Pv x.cps.size σ H → D.nx σ H) :
    ∃ W : Nat → Nat → L2.St → Hp → Prop, (∃ m, W 0 m σ H) ∧ ∀ i m σ H, W i m σ H →
      ((Its x).stop i H ∧ D.nx σ H) ∨ ((Its x).go i H ∧ ∃ N : L2.St → Hp → Prop, (∀ σ' H', N σ' H' → ∃ m', m' < m ∧ W (i + 1) m' σ' H') ∧ ∀ x' H', (Its x).yld i H x' H' → g x' σ H' fun σ2 H2 => tb { D with nx := N, ct := N, bk := D.nx } σ2 H2) := by
  refine ⟨fun i m σ H => m = x.cps.size - i ∧ i ≤ x.cps.size ∧ Pv i σ H, ⟨x.cps.size, by simp, Nat.zero_le _, h0⟩, ?_⟩
  rintro i m σ H ⟨rfl, hi, p⟩
  by_cases hlt : i < x.cps.size
  · refine .inr ⟨hlt, Pv (i + 1), fun σ' H' p' => ⟨x.cps.size - (i + 1), by omega, rfl, hlt, p'⟩, ?_⟩
    rintro v H' ⟨rfl, c, hc, rfl⟩
    exact hs i c σ _ hc p
  · have : i = x.cps.size := by omega
    subst this
    exact .inl ⟨Nat.le_refl _, hd σ H p⟩
theorem x_forY {x : Str} {f : Ch → τ → Option (Lp τ ρ)} {G : τ → List Sl} {ps : ρ → List (Addr × MO)} {rs : ρ → Rs} {s0 : τ} {o : Lp τ ρ} {g : TG} {tb : TS} {nx bk ct : L2.St → Hp → Prop} {rt : VK}
    (L : Lo C X H σ (G s0)) (hG : ∀ s s', muts (G s) = muts (G s')) (hm : loopL f (chs x) s0 = some o)
    (body : ∀ x s, Body C X G ps rs (enc x) s (f x s) g tb)
    (done : ∀ s, o = .nxt s → ∀ σ' H', Lo C X H' σ' (G s) → nx σ' H') (brk : ∀ s, o = .brk s → ∀ σ' H', Lo C X H' σ' (G s) → nx σ' H')
    (ret : ∀ q, o = .ret q → ∀ v H', Fin C.K C.X0 C.H0 C.P0 (ps q) (rs q) v H' → rt v H') :
    KForY g tb ⟨nx, rt, bk, ct⟩ σ (.str x) H := by
  have hlen : (chs x).length = x.cps.size := by unfold chs; rw [List.length_map, Array.length_toList]
  refine ⟨x, rfl, for_chs (fun i σ' H' => ∃ s, Lo C X H' σ' (G s) ∧ loopL f ((chs x).drop i) s = some o) ⟨s0, L, hm⟩ ?_ ?_⟩
  · rintro i c σ' H' hc ⟨s, L', hm'⟩
    have hx : (chs x)[i]? = some ⟨c⟩ := by unfold chs; rw [List.getElem?_map, Array.getElem?_toList, hc]; rfl
    obtain ⟨o1, h1, h2, h3, h4⟩ := loop_drop hx hm'
    refine body ⟨c⟩ s H' σ' _ _ _ _ _ o1 h1 L'.enter L'.dom (.str _) ?_ ?_ ?_ ?_
    · intro s' e X' σ'' H'' L''
      exact ⟨s', L'.leave L'' (hG _ _), h2 s' e⟩
    · intro s' e X' σ'' H'' L''
      exact ⟨s', L'.leave L'' (hG _ _), h2 s' e⟩
    · intro s' e X' σ'' H'' L''
      exact brk s' (h3 s' e) _ _ (L'.leave L'' (hG _ _))
    · intro q e v' H'' F
      exact ret q (h4 q e) v' H'' (F.leave L')
  · rintro σ' H' ⟨s, L', hm'⟩
    have : (chs x).drop x.cps.size = [] := List.drop_eq_nil_of_le (by omega)
    rw [this] at hm'
    exact done s (Option.some.inj hm').symm _ _ L'
theorem x_foY {x : Str} {f : Ch → τ → Option τ} {G : τ → List Sl} {s0 : τ} {g : TG} {tb : TS} {nx bk ct : L2.St → Hp → Prop} {rt : VK} {k : τ → Option ρ} {res : ρ}
    (L : Lo C X H σ (G s0)) (hG : ∀ s s', muts (G s) = muts (G s')) (hm : (foldO f (chs x) s0).bind k = some res)
    (body : ∀ x s, BodyO C X G (enc x) s (f x s) g tb) (done : ∀ s σ' H', k s = some res → Lo C X H' σ' (G s) → nx σ' H') : KForY g tb ⟨nx, rt, bk, ct⟩ σ (.str x) H := by
  obtain ⟨s1, h1, h2⟩ := ob hm
  exact x_forY (ρ := Empty) (o := .nxt s1) (ps := fun _ => []) (rs := fun _ => .imm .none) L hG (foldO_loop h1) (fun x s => (body x s).body) (fun s e σ' H' L' => by cases e; exact done _ _ _ h2 L') (fun s e => nomatch e) (fun q => nomatch q)
end
/-! ### dicts with pairs of ints as keys -/
def kq (k : T2 Int Int) : List L2.Key := [.inl k.a, .inl k.b]
theorem kq_inj {k l : T2 Int Int} (h : kq k = kq l) : k = l := by
  obtain ⟨a, b⟩ := k
  obtain ⟨c, d⟩ := l
  unfold kq at h
  simp at h
  rw [h.1, h.2]
abbrev md {β : Type} [Py β] (kvs : List (T2 Int Int × β)) : MO := .dct (kvs.map fun e => (kq e.1, enc e.2))
def dgetM {β : Type} (kvs : List (T2 Int Int × β)) (k : T2 Int Int) : Option β := (kvs.find? fun kv => decide (kv.1 = k)).map (·.2)
def dputM {β : Type} (kvs : List (T2 Int Int × β)) (k : T2 Int Int) (v : β) : List (T2 Int Int × β) :=
  if (kvs.any fun kv => decide (kv.1 = k)) = true then kvs.map (fun kv => if kv.1 = k then (kv.1, v) else kv) else kvs ++ [(k, v)]
def lt2P (x y : T2 Int Int) : Bool := SrtO.lexB (x.a, x.b) (y.a, y.b)
def sortP (xs : List (T2 Int Int)) : List (T2 Int Int) := xs.mergeSort fun x y => !lt2P y x
section
variable {C : Cn} {X : Addr → Prop} {H : Hp} {σ : L2.St} {Γ Γ' : List Sl} {Q : VK} {α β ρ : Type}
theorem dreps_get [Py β] {K : PySem.W.Frag} {k : T2 Int Int} : ∀ {kvs : List (T2 Int Int × β)} {ws : List (List L2.Key × V)}, DReps K X H (kvs.map fun e => (kq e.1, enc e.2)) ws →
    (∃ b v, dgetM kvs k = some b ∧ valV ws (kq k) = some v ∧ Rep K X H (enc b) v) ∨ (dgetM kvs k = none ∧ valV ws (kq k) = none)
  | [], _, .nil => .inr ⟨rfl, rfl⟩
  | (l, c) :: kvs, _, .cons (v := v) (kvs := ws) r t => by
    by_cases z : l = k
    · subst z
      exact .inl ⟨c, v, by simp [dgetM], valV_pos rfl, r⟩
    · have h1 : dgetM ((l, c) :: kvs) k = dgetM kvs k := by simp [dgetM, List.find?_cons, z]
      have h2 : valV ((kq l, v) :: ws) (kq k) = valV ws (kq k) := valV_neg fun e => z (kq_inj e)
      rw [h1, h2]
      exact dreps_get t
theorem dreps_any [Py β] {K : PySem.W.Frag} {k : T2 Int Int} : ∀ {kvs : List (T2 Int Int × β)} {ws : List (List L2.Key × V)}, DReps K X H (kvs.map fun e => (kq e.1, enc e.2)) ws → (ws.any fun kv => decide (kv.1 = kq k)) = (kvs.any fun kv => decide (kv.1 = k))
  | [], _, .nil => rfl
  | (l, c) :: kvs, _, .cons (v := v) (kvs := ws) r t => by
    rw [List.any_cons, List.any_cons, dreps_any t]
    congr 1
    by_cases z : l = k
    · subst z; simp
    · rw [decide_eq_false (show ¬ (kq l, v).1 = kq k from fun e => z (kq_inj e)), decide_eq_false z]
theorem dreps_map [Py β] {K : PySem.W.Frag} {k : T2 Int Int} {b : β} {v : V} (rv : Rep K X H (enc b) v) : ∀ {kvs : List (T2 Int Int × β)} {ws : List (List L2.Key × V)}, DReps K X H (kvs.map fun e => (kq e.1, enc e.2)) ws →
    DReps K X H ((kvs.map (fun kv => if kv.1 = k then (kv.1, b) else kv)).map fun e => (kq e.1, enc e.2)) (ws.map fun kv => if kv.1 = kq k then (kv.1, v) else kv)
  | [], _, .nil => .nil
  | (l, c) :: kvs, _, .cons (v := u) (kvs := ws) r t => by
    rw [List.map_cons, List.map_cons, List.map_cons]
    by_cases z : l = k
    · subst z
      rw [if_pos rfl, if_pos rfl]
      exact .cons rv (dreps_map rv t)
    · rw [if_neg z, if_neg (show ¬ (kq l, u).1 = kq k from fun e => z (kq_inj e))]
      exact .cons r (dreps_map rv t)
theorem dreps_snoc {K : PySem.W.Frag} {k : List L2.Key} {d : PyData} {v : V} (rv : Rep K X H d v) : ∀ {es : List (List L2.Key × PyData)} {ws : List (List L2.Key × V)}, DReps K X H es ws → DReps K X H (es ++ [(k, d)]) (ws ++ [(k, v)])
  | _, _, .nil => .cons rv .nil
  | _, _, .cons r t => .cons r (dreps_snoc rv t)
theorem dreps_put [Py β] {K : PySem.W.Frag} {k : T2 Int Int} {b : β} {v : V} {kvs : List (T2 Int Int × β)} {ws : List (List L2.Key × V)} (h : DReps K X H (kvs.map fun e => (kq e.1, enc e.2)) ws) (rv : Rep K X H (enc b) v) :
    DReps K X H ((dputM kvs k b).map fun e => (kq e.1, enc e.2)) (putK ws (kq k) v) := by
  unfold dputM putK
  rw [dreps_any h]
  by_cases z : (kvs.any fun kv => decide (kv.1 = k)) = true
  · rw [if_pos z, if_pos z]; exact dreps_map rv h
  · rw [if_neg z, if_neg z, List.map_append]; exact dreps_snoc rv h
theorem dreps_len [Py β] {K : PySem.W.Frag} : ∀ {kvs : List (T2 Int Int × β)} {ws : List (List L2.Key × V)}, DReps K X H (kvs.map fun e => (kq e.1, enc e.2)) ws → ws.length = kvs.length
  | [], _, .nil => rfl
  | _ :: _, _, .cons _ t => congrArg (· + 1) (dreps_len t)
theorem key_rep {K : PySem.W.Frag} {k : T2 Int Int} {y : V} (r : Rep K X H (enc k) y) : ∃ b, y = .ref b ∧ H b = some (.tup ((kq k).map kV)) := by
  obtain ⟨a, vs, rfl, h, q⟩ := rep_tupS (ds := [.int k.a, .int k.b]) r
  cases q with
  | cons q1 q => cases q with
    | cons q2 q => cases q; cases q1; cases q2; exact ⟨a, rfl, h⟩
theorem x_dnew [Py β] (L : Lo C X H σ Γ) (h : ∀ p X' H1, C.H0 p = none → ¬ C.X0 p → Lo C X' H1 σ (Γ ++ [.tmp p (md ([] : List (T2 Int Int × β)))]) → (∀ d u, Rep C.K X H d u → Rep C.K X' H1 d u) → Q (.ref p) H1) : tDNewT σ H Q := fun p hp => by
  have s : Same H (upd H p (.dT [])) := same_upd hp
  obtain ⟨L1, le, h0, hx⟩ := L.lay (o := .dct []) hp s ⟨[], upd_same, .nil⟩
  exact h p _ _ h0 hx L1 le
theorem room1 {k : Nat} {A : Around} (r : Room k A) : A.units + 1 < cLine := by have := r.un; omega
def KDg (x : V) (Q : VK) : VK := fun y H2 => ∃ a v, x = .ref a ∧ DGet H2 a y (some v) ∧ Q v H2
def KG2 (a : Addr) (y : V) (Q : VK) : VK := fun z H3 => ∃ o, DGet H3 a y o ∧ Q (o.getD z) H3
theorem x_dg {td ty : TE} (h : td σ H fun x H1 => ty σ H1 (KDg x Q)) : tDGet td ty σ H Q := h
theorem x_dgetv [Py β] {kvs : List (T2 Int Int × β)} {k : T2 Int Int} {i : Nat} {p : Addr} {y : V} {kk : β → Option ρ} {r : ρ} (L : Lo C X H σ Γ) (g : Γ[i]? = some (.mu p (md kvs))) (hm : (dgetM kvs k).bind kk = some r) (ry : Rep C.K X H (enc k) y)
    (h : ∀ b v, kk b = some r → Rep C.K X H (enc b) v → Q v H) : KDg (.ref p) Q y H := by
  obtain ⟨b, hb, hk⟩ := ob hm
  obtain ⟨ws, hw, rw_⟩ := L.mrep g
  obtain ⟨c, rfl, hc⟩ := key_rep ry
  rcases dreps_get (k := k) rw_ with ⟨b', v, e1, e2, rv⟩ | ⟨e1, _⟩
  · rw [hb] at e1; cases e1
    exact ⟨p, v, rfl, by rw [← e2]; exact DGet.t hw hc, h b v hk rv⟩
  · rw [hb] at e1; cases e1
theorem x_dgetvI {kvs : List (T2 Int Int × Int)} {k : T2 Int Int} {i : Nat} {p : Addr} {y : V} {kk : Int → Option ρ} {r : ρ} (L : Lo C X H σ Γ) (g : Γ[i]? = some (.mu p (md kvs))) (hm : (dgetM kvs k).bind kk = some r) (ry : Rep C.K X H (enc k) y)
    (h : ∀ b, kk b = some r → Q (.int b) H) : KDg (.ref p) Q y H :=
  x_dgetv L g hm ry fun b v hk rv => by
    cases (show Rep C.K X H (.int b) v from rv)
    exact h b hk
theorem x_dg2 {td ty tx : TE} (h : td σ H fun x H1 => ∃ a, x = .ref a ∧ IsD H1 a ∧ ty σ H1 fun y H2 => tx σ H2 (KG2 a y Q)) : tDGet2 td ty tx σ H Q := h
theorem x_isD {i : Nat} {p : Addr} {es : List (List L2.Key × PyData)} {P : Addr → Prop} (L : Lo C X H σ Γ) (g : Γ[i]? = some (.mu p (.dct es))) (h : P p) : ∃ a, V.ref p = .ref a ∧ IsD H a ∧ P a := by
  obtain ⟨ws, hw, _⟩ := L.mrep g
  exact ⟨p, rfl, .inr ⟨ws, .inl hw⟩, h⟩
theorem x_dget2I {kvs : List (T2 Int Int × Int)} {k : T2 Int Int} {d : Int} {i : Nat} {p : Addr} {y : V} (L : Lo C X H σ Γ) (g : Γ[i]? = some (.mu p (md kvs))) (ry : Rep C.K X H (enc k) y)
    (h : Q (.int ((dgetM kvs k).getD d)) H) : KG2 p y Q (.int d) H := by
  obtain ⟨ws, hw, rw_⟩ := L.mrep g
  obtain ⟨c, rfl, hc⟩ := key_rep ry
  rcases dreps_get (k := k) rw_ with ⟨b, v, e1, e2, rv⟩ | ⟨e1, e2⟩
  · rw [e1] at h
    cases (show Rep C.K X H (.int b) v from rv)
    exact ⟨_, DGet.t hw hc, by rw [e2]; exact h⟩
  · rw [e1] at h
    exact ⟨_, DGet.t hw hc, by rw [e2]; exact h⟩
def Lax (K : PySem.W.Frag) (q : T2 Int Int) (v : V) (H : Hp) : Prop := ∃ a, v = .ref a ∧ SqT K H a [.int q.a, .int q.b]
theorem Rep.lax {K : PySem.W.Frag} {q : T2 Int Int} {v : V} (r : Rep K X H (enc q) v) : Lax K q v H := by
  obtain ⟨a, vs, rfl, h, w⟩ := rep_tup (ds := [.int q.a, .int q.b]) r
  cases w with
  | cons q1 w => cases w with
    | cons q2 w => cases w; cases q1; cases q2; exact ⟨a, rfl, h⟩
theorem x_dget2L {kvs : List (T2 Int Int × T2 Int Int)} {k d : T2 Int Int} {i : Nat} {p : Addr} {y z : V} (L : Lo C X H σ Γ) (g : Γ[i]? = some (.mu p (md kvs))) (ry : Rep C.K X H (enc k) y) (rz : Lax C.K d z H)
    (h : ∀ v, Lax C.K ((dgetM kvs k).getD d) v H → Q v H) : KG2 p y Q z H := by
  obtain ⟨ws, hw, rw_⟩ := L.mrep g
  obtain ⟨c, rfl, hc⟩ := key_rep ry
  rcases dreps_get (k := k) rw_ with ⟨b, v, e1, e2, rv⟩ | ⟨e1, e2⟩
  · rw [e1] at h
    exact ⟨_, DGet.t hw hc, by rw [e2]; exact h v rv.lax⟩
  · rw [e1] at h
    exact ⟨_, DGet.t hw hc, by rw [e2]; exact h z rz⟩
/-- a pair of ints of a caller, also a constant -/
theorem As.lx {K : PySem.W.Frag} {q : T2 Int Int} {v : V} {Γ : List Sl} {vs : List V} (r : Lax K q v H) (t : As K X H Γ vs) : As K X H (.lax q.a q.b :: Γ) (v :: vs) := by
  obtain ⟨a, rfl, h⟩ := r
  exact ⟨_, vs, rfl, ⟨a, rfl, h⟩, t⟩
theorem x_vlx {i : Nat} {x y : Int} (L : Lo C X H σ Γ) (e : Γ[i]? = some (.lax x y)) (h : ∀ v, Lax C.K ⟨x, y⟩ v H → Q v H) : tVar i σ H Q := by
  obtain ⟨a, e1, r⟩ := L.at_ i _ e
  exact ⟨.ref a, e1, h _ ⟨a, rfl, r⟩⟩
theorem x_ixLx {q : T2 Int Int} {v : V} {i : Int} {n : Int} (r : Lax C.K q v H) (e : atI [q.a, q.b] i = some n) (h : Q (.int n) H) : rIxT C.K v (.int i) H Q := by
  obtain ⟨a, rfl, hs⟩ := r
  exact ⟨a, _, i, .int n, rfl, rfl, hs, by rw [show ([V.int q.a, V.int q.b] : List V) = [q.a, q.b].map V.int from rfl, atI_map, e]; rfl, h⟩
theorem x_dputS {td ty tv : TE} {nx bk ct : L2.St → Hp → Prop} {rt : VK} (h : tv σ H fun v H1 => td σ H1 fun x H2 => ty σ H2 fun y H3 => ∃ a H4, x = .ref a ∧ DPut H3 a y v H4 ∧ nx σ H4) : sDPut td ty tv ⟨nx, rt, bk, ct⟩ σ H := h
theorem x_dput [Py β] {kvs : List (T2 Int Int × β)} {k : T2 Int Int} {b : β} {i : Nat} {p : Addr} {y v : V} {kk : Unit → Option ρ} {r : ρ} {P : Hp → Prop} (L : Lo C X H σ Γ) (g : Γ[i]? = some (.mu p (md kvs))) (hm : (lenOk (kvs.length + 1)).bind kk = some r) (ry : Rep C.K X H (enc k) y) (rv : Rep C.K X H (enc b) v)
    (e : Γ.set i (.mu p (md (dputM kvs k b))) = Γ') (h : ∀ H1, kk () = some r → Lo C X H1 σ Γ' → (∀ d u, Rep C.K X H d u → Rep C.K X H1 d u) → P H1) : ∃ a H4, V.ref p = .ref a ∧ DPut H a y v H4 ∧ P H4 := by
  subst e
  obtain ⟨_, hl, hk⟩ := ob hm
  obtain ⟨ws, hw, rw_⟩ := L.mrep g
  obtain ⟨c, rfl, hc⟩ := key_rep ry
  have hX : X p := L.mx p (mem_muts.mpr ⟨i, _, g, rfl⟩)
  have kp : ∀ o, Keep X H (upd H p o) := fun o => ⟨fun a u h n => by rw [upd_ne (fun z => n (by rw [z]; exact hX))]; exact h, fun a us h => by rw [upd_ne (fun z => by rw [z, hw] at h; cases h)]; exact h, fun a u w h => by rw [upd_ne (fun z => by rw [z, hw] at h; cases h)]; exact h⟩
  obtain ⟨L1, le⟩ := L.wrote (H' := upd H p (.dT (putK ws (kq k) v))) (o := md (dputM kvs k b)) g rfl (fun a u h n => by rw [upd_ne n]; exact h) (fun a h => by
      by_cases z : a = p
      · rw [z, upd_same]; exact fun y => nomatch y
      · rw [upd_ne z]; exact h) ⟨_, upd_same, (dreps_put rw_ rv).keep (kp _)⟩
  exact ⟨p, _, rfl, DPut.t hw hc (by rw [dreps_len rw_, line_eq]; have := lenOk_le hl; omega), h _ hk L1 le⟩
end
end Sc
namespace ScD
open PySem PySem.W PySem.Calls PyProof.Rows PyProof.V PySem.Spec
section
variable {prog : Program} {w : World} {A : Around} {E : Value → Shared → Prop} {s : Shared} {T : String} {r d : Addr} {n : Nat} {P : Nat → Value → Prop} {OK : Heap → Prop}
theorem collectK {R : List Value → Shared → Prop} (K : KdlSrc prog w T r d n P OK) (hh : A.handled = none) (hok : OK s.heap) (hn : n ≤ sizeLine)
    (h : ∀ (h' : Heap) (tk : Nat) (acc : Array Value), (∀ b o, s.heap.get? b = some o → h'.get? b = some o) → s.heap.objs.size < h'.objs.size → ItemsOf P acc n → R acc.toList { s with heap := h', toks := tk }) :
    wpAny (model prog w) A (collect (.ref r)) R E s := by
  have hlt := K.there _ hok
  unfold collect
  refine wpAny_bind (wpAny_runValue (codeAny_builtin entry_proto_collect' ?_))
  rw [Around.under_plainId PySem.F.plain_proto_collect _]
  show wpAny _ A.in1 (newList [] >>= fun l => again (.builtin "list.__iadd__" ⟨[l, .ref r], []⟩)) _ _ s
  refine wpAny_bind (wpAny_newObj_type ?_)
  refine wpAny_pure ⟨plainId_quiet PySem.F.plain_list_iadd _, codeAny_builtin entry_list_iadd' ?_⟩
  rw [Around.under_plainId PySem.F.plain_list_iadd _]
  have hS₁ : (s.heap.push { cls := .type "list", data := .seq ([] : List Value).toArray }).get? s.heap.objs.size = some { cls := .type "list", data := .seq #[] } := Heap.get?_push_size _ rfl
  show wpAny _ A.in1 (Builtin.List.listExtendWith (.ref s.heap.objs.size) (.ref r) (.ref s.heap.objs.size)) _ _ _
  have key := kdl_extend (A := A) (s := { s with heap := s.heap.push { cls := .type "list", data := .seq ([] : List Value).toArray } })
    (R := fun (q : Result) (s' : Shared) => ∃ (h' : Heap) (tk : Nat) (acc' : Array Value) (c' : Nat), q = .ok (.ret (.ref s.heap.objs.size)) ∧ s' = { s with heap := h', toks := tk } ∧
      (∀ b o, s.heap.get? b = some o → h'.get? b = some o) ∧ h'.get? s.heap.objs.size = some { cls := .type "list", dict := none, data := .seq acc' c', slots := #[] } ∧ ItemsOf P acc' n)
    K hh (K.keep _ _ hok fun b _ o e => Heap.get?_push_of_some _ e) s.heap.objs.size (Nat.ne_of_gt hlt.1) (Nat.ne_of_gt hlt.2) (.ref s.heap.objs.size) 0 hS₁
    (fun h' tk acc' c' hk hS' hacc => ⟨h', tk, acc', c', rfl, rfl, fun b o e => hk b o (Nat.ne_of_lt (Heap.lt_size e)) (Heap.get?_push_of_some _ e), hS', hacc⟩) hn
  refine wpAny_mono key (fun fin s' x => ?_) fun e s' x => ?_
  · cases fin with
    | done f =>
      obtain ⟨h', tk, acc', c', e, rfl, hk, hS', hacc⟩ := x
      cases e
      show wpAny _ A (load s.heap.objs.size >>= _) _ _ _
      refine wpAny_bind (wpAny_load hS' ?_)
      refine wpAny_pure ?_
      show R acc'.toList _
      exact h h' tk acc' hk (Heap.lt_size hS') hacc
    | again c₁ =>
      refine ⟨x.1, codeAny_mono x.2 fun q s₂ y => ?_⟩
      obtain ⟨h', tk, acc', c', rfl, rfl, hk, hS', hacc⟩ := y
      show wpAny _ A (load s.heap.objs.size >>= _) _ _ _
      refine wpAny_bind (wpAny_load hS' ?_)
      refine wpAny_pure ?_
      show R acc'.toList _
      exact h h' tk acc' hk (Heap.lt_size hS') hacc
  · obtain ⟨_, _, _, _, e', _⟩ := x
    cases e'
open SrtO in
theorem sortedK {vs : List Value} {k : Value → Int × Int} {Q : Value → Shared → Prop} (K : KdlSrc prog w T r d n P OK) (hh : A.handled = none) (hok : OK s.heap) (hn : n ≤ sizeLine)
    (hv : ∀ acc : Array Value, ItemsOf P acc n → acc.toList = vs) (hl : vs.length = n) (hp : ∀ v ∈ vs, Srt.IsPair s.heap v (k v).1 (k v).2)
    (h : ∀ (h' : Heap) (tk : Nat) (d' : Addr) (out : List Value), Srtd (fun v u => lexB (k v) (k u)) out → Stb (fun v u => lexB (k v) (k u)) out vs → (∀ b o, s.heap.get? b = some o → h'.get? b = some o) → s.heap.objs.size ≤ d' → (∃ n, h'.get? d' = some (seqObj "list" out.toArray n)) → Q (.ref d') { s with heap := h', toks := tk }) :
    wpAny (model prog w) A (call (.builtin "sorted") [.ref r]) Q E s := by
  refine Calls.call_function_entry kind_sorted plain_sorted entry_sorted (args_sorted1 _) ?_
  unfold Builtin.«sorted»
  refine wpAny_bind (m := checkCount "sorted" 1 1 _) (wpAny_pure ?_)
  refine wpAny_bind (collectK (A := A.in1) K hh hok hn fun h' tk acc hk hlt hacc => ?_)
  rw [hv acc hacc]
  refine wpAny_bind (wpAny_newList ?_ (by rw [hl]; exact hn))
  have hoL : (h'.push (seqObj "list" vs.toArray 0)).get? h'.objs.size = some (seqObj "list" vs.toArray 0) := Heap.get?_push_size _ rfl
  have kk : ∀ b o, s.heap.get? b = some o → b ≠ h'.objs.size ∧ (h'.push (seqObj "list" vs.toArray 0)).get? b = some o := fun b o e => ⟨Nat.ne_of_lt (Nat.lt_trans (Heap.lt_size e) hlt), Heap.get?_push_of_some _ (hk b o e)⟩
  show wpAny _ _ _ _ _ { s with heap := h'.push (seqObj "list" vs.toArray 0), toks := tk }
  refine wpAny_bind (wpAny_holding (wpAny_call_entry slot_list_sort ⟨_, hoL, rfl⟩ entry_list_sort (list_sort_ord (swo_lex k) hoL (by rw [hl]; exact hn) (fun h2 => ?_) fun out hs hb => ⟨_, rfl, ?_⟩) (args_list_sort _)))
  · refine pairs_sortableO (by omega) (fun v hm => (hp v hm).keeps fun b o e _ => (kk b o e).2) fun o e => ?_
    have e' : some o = some (seqObj "list" vs.toArray 0) := e.symm.trans hoL
    cases e'
    intro c
    exact absurd (Value.type.inj c) (by decide)
  · refine wpAny_pure ⟨_, rfl, h _ _ _ out hs hb (fun b o e => ?_) (Nat.le_of_lt hlt) ?_⟩
    · have hb : b < h'.objs.size := Nat.lt_trans (Heap.lt_size e) hlt
      rw [sortedHeap_old (Nat.ne_of_lt hb) (by rw [size_push']; exact Nat.lt_succ_of_lt hb)]
      exact Heap.get?_push_of_some _ (hk b o e)
    · exact sortedHeap_at hoL
end
end ScD
namespace Sc
open PySem PySem.Spec PyProof.Rows L2
open Py (enc)
def rSortedDT : List V → Hp → VK → Prop := fun vs H Q => ∃ (d : Addr) (kvs : List (List L2.Key × V)) (k : V → Int × Int), vs = [V.ref d] ∧ H d = some (.dT kvs) ∧
  (∀ bs, IsKeys H kvs bs → ∀ b ∈ bs, H b = some (.tup [.int (k (.ref b)).1, .int (k (.ref b)).2])) ∧
  ∀ (bs : List Addr) (ys : List V) p, IsKeys H kvs bs → SrtO.Srtd (L2.ltP k) ys → SrtO.Stb (L2.ltP k) ys (bs.map V.ref) → H p = none → Q (.ref p) (upd H p (.lst ys))
theorem cr_sortedDT {X : Cx} (hc : X.calm = true) : CallR X (.builtin "sorted") rSortedDT := by
  intro pins s σ H vs us Q I r h
  obtain ⟨d, kvs, k, rfl, hd, hk, q⟩ := h
  obtain ⟨u, rfl, rx⟩ := r.one
  cases rx
  obtain ⟨z, hs, ks, pr, o, es, ep, ho, hx, hdt, he, hn⟩ := (show ObjOk X.prog X.w H s.heap d (.dT kvs) from I.hok _ _ hd)
  have l1 : es.size = ks.length := size_of_entries he
  have l2 : kvs.length = ks.length := Paired.length pr
  have ik := isKeys_of pr
  have hkk := hk _ ik
  refine ScD.sortedK (vs := (ks.map fun x => x.2.1).map Value.ref) (k := fun u => k (backV u)) (kdl_raw hs hx hdt) (I.ok.hd hc) ho (by omega) (fun acc' it => ?_) (by rw [List.length_map, List.length_map]; exact l1.symm) (fun v hv => ?_) fun h' tk d' out h1 h2 kp hd' hn' => ?_
  · have ea : acc'.toList = ks.map fun x => Value.ref x.2.1 := by
      have hl : acc'.toList.length = ks.length := by rw [Array.length_toList, it.1]; exact l1
      apply List.ext_getElem?
      intro j
      rw [List.getElem?_map]
      cases hj : acc'.toList[j]? with
      | none =>
        have h1 := List.getElem?_eq_none_iff.mp hj
        rw [List.getElem?_eq_none (by omega)]
        all_goals rfl
      | some v =>
        obtain ⟨en, hen, hv⟩ := it.2 j v (by rw [← Array.getElem?_toList]; exact hj)
        have qe := entry_at he j
        rw [hen] at qe
        cases hb : ks[j]? with
        | none =>
          rw [hb] at qe
          exact nomatch (show some en = none from qe)
        | some b =>
          rw [hb] at qe
          have e2 : en = entryOfKey (tupleKind (mixKind X.prog X.w)) b := Option.some.inj qe
          rw [hv, e2]
          all_goals rfl
    rw [ea, List.map_map]; all_goals rfl
  · obtain ⟨b, hb, rfl⟩ := List.mem_map.mp hv
    obtain ⟨_, its2, r2, o, ho, hc, n, hd⟩ := I.hok _ _ (hkk b hb)
    obtain ⟨u1, u2, rfl, ri, rj⟩ := vals2 r2
    obtain ⟨t1, rfl⟩ := ri
    obtain ⟨t2, rfl⟩ := rj
    exact ⟨b, o, t1, t2, n, rfl, ho, hc, hd⟩
  · have h3 : ∀ u ∈ out, ∃ a, u = Value.ref a := fun u hu => by
      have := h2.perm.mem_iff.mp hu
      obtain ⟨b, _, rfl⟩ := List.mem_map.mp this
      exact ⟨b, rfl⟩
    obtain ⟨n, hn'⟩ := hn'
    have hb : SrtO.Stb (L2.ltP k) (out.map backV) ((ks.map fun x => x.2.1).map V.ref) := by
      have := SrtO.Stb.map (L2.ltP_swo k) backV h2
      rw [List.map_map] at this
      exact this
    refine ⟨.ref d', upd H d' (.lst (out.map backV)), I.laid (t' := tk) kp hd' ⟨?_, out, n, vals_back h3, hn'⟩, rfl, q _ _ d' ik (SrtO.srtd_map h1) hb (I.hok.fresh hd')⟩
    rw [hb.len, List.length_map, List.length_map]
    omega
section
variable {C : Cn} {X : Addr → Prop} {H : Hp} {σ : L2.St} {Γ Γ' : List Sl} {Q : VK} {α β ρ : Type}
theorem lt2P_swo : SrtO.Swo lt2P := by
  refine ⟨fun x y h => ?_, fun x y z h1 h2 => ?_⟩
  · have a := SrtO.lexB_iff.mp h
    refine SrtO.lexB_no.mpr ?_
    simp only at a ⊢
    omega
  · have a := SrtO.lexB_no.mp h1
    have b := SrtO.lexB_no.mp h2
    refine SrtO.lexB_no.mpr ?_
    simp only at a b ⊢
    omega
theorem lt2P_eq {x y : T2 Int Int} (h : SrtO.eqv lt2P x y = true) : x = y := by
  obtain ⟨h1, h2⟩ := SrtO.eqv_iff.mp h
  have a := SrtO.lexB_no.mp h1
  have b := SrtO.lexB_no.mp h2
  obtain ⟨p, q⟩ := x
  obtain ⟨r, s⟩ := y
  simp only at a b
  have : p = r := by omega
  have : q = s := by omega
  subst_vars; rfl
theorem filt_rep {x : T2 Int Int} (l : List (T2 Int Int)) : l.filter (SrtO.eqv lt2P x) = List.replicate (l.filter (SrtO.eqv lt2P x)).length x :=
  List.eq_replicate_of_mem fun y hy => (lt2P_eq (List.mem_filter.mp hy).2).symm
theorem stb_perm {l m : List (T2 Int Int)} (h : l.Perm m) : SrtO.Stb lt2P l m := ⟨h, fun x => by
  rw [filt_rep l, filt_rep m, (h.filter _).length_eq]⟩
theorem sortP_perm (xs : List (T2 Int Int)) : (sortP xs).Perm xs := List.mergeSort_perm _ _
theorem sortP_srtd (xs : List (T2 Int Int)) : SrtO.Srtd lt2P (sortP xs) := by
  have := List.pairwise_mergeSort (le := fun x y => !lt2P y x) (fun x y z h1 h2 => by
    simp only [Bool.not_eq_true'] at *
    exact lt2P_swo.tr x y z h1 h2) (fun x y => by
    cases e : lt2P y x with
    | false => rfl
    | true => rw [lt2P_swo.asym y x e]; rfl) xs
  exact this.imp fun h => by simpa using h
def kOf (H : Hp) : V → Int × Int
  | .ref b => match H b with
    | some (.tup [.int i, .int j]) => (i, j)
    | _ => (0, 0)
  | _ => (0, 0)
theorem kOf_at {b : Addr} {q : T2 Int Int} (h : H b = some (.tup ((kq q).map kV))) : kOf H (.ref b) = (q.a, q.b) := by
  have h' : H b = some (.tup [.int q.a, .int q.b]) := h
  unfold kOf
  simp only [h']
theorem keys_of [Py β] {K : PySem.W.Frag} : ∀ {kvs : List (T2 Int Int × β)} {ws : List (List L2.Key × V)} {bs : List Addr}, DReps K X H (kvs.map fun e => (kq e.1, enc e.2)) ws → IsKeys H ws bs →
    (∀ b ∈ bs, H b = some (.tup [.int (kOf H (.ref b)).1, .int (kOf H (.ref b)).2])) ∧ bs.map (fun b => (⟨(kOf H (.ref b)).1, (kOf H (.ref b)).2⟩ : T2 Int Int)) = kvs.map (·.1)
  | [], _, _, .nil, .nil => ⟨(fun _ h => nomatch h), rfl⟩
  | (q, c) :: kvs, _, _, .cons r t, .cons (l₂ := bs) (b := b) hb u => by
    obtain ⟨h1, h2⟩ := keys_of t u
    have e := kOf_at hb
    refine ⟨fun x hx => ?_, ?_⟩
    · rcases List.mem_cons.mp hx with z | hx
      · subst z; rw [e]; exact hb
      · exact h1 x hx
    · rw [List.map_cons, List.map_cons, h2, e]
theorem reps_keys {K : PySem.W.Frag} : ∀ {ys : List V}, (∀ y ∈ ys, ∃ b, y = .ref b ∧ H b = some (.tup [.int (kOf H y).1, .int (kOf H y).2])) → Reps K X H ((ys.map fun y => (⟨(kOf H y).1, (kOf H y).2⟩ : T2 Int Int)).map enc) ys
  | [], _ => .nil
  | y :: ys, h => by
    obtain ⟨b, e, hb⟩ := h y List.mem_cons_self
    refine .cons ?_ (reps_keys fun z hz => h z (List.mem_cons_of_mem _ hz))
    rw [e] at hb ⊢
    exact .tup hb (.cons (.int _) (.cons (.int _) .nil))
theorem x_sortedD [Py β] {kvs : List (T2 Int Int × β)} {i : Nat} {p : Addr} (L : Lo C X H σ Γ) (g : Γ[i]? = some (.mu p (md kvs))) (h : ∀ v H1, Lo C X H1 σ Γ → (∀ d u, Rep C.K X H d u → Rep C.K X H1 d u) → Rep C.K X H1 (enc (sortP (kvs.map (·.1)))) v → Q v H1) : rSortedDT [.ref p] H Q := by
  obtain ⟨ws, hw, rw_⟩ := L.mrep g
  refine ⟨p, ws, kOf H, rfl, hw, fun bs ib b hb => (keys_of rw_ ib).1 b hb, fun bs ys q ib hs hb hq => ?_⟩
  obtain ⟨k1, k2⟩ := keys_of rw_ ib
  have es : ys.map (fun y => (⟨(kOf H y).1, (kOf H y).2⟩ : T2 Int Int)) = sortP (kvs.map (·.1)) := by
    refine SrtO.stb_uniq lt2P_swo (SrtO.srtd_map (lt := lt2P) (f := fun y => (⟨(kOf H y).1, (kOf H y).2⟩ : T2 Int Int)) hs) (sortP_srtd _) (stb_perm ?_)
    refine ((hb.perm.map _).trans ?_).trans (sortP_perm _).symm
    rw [List.map_map, ← k2]
    exact List.Perm.refl _
  have s : Same H (upd H q (.lst ys)) := same_upd hq
  have rp : Reps C.K X H ((sortP (kvs.map (·.1))).map enc) ys := by
    rw [← es]
    refine reps_keys fun y hy => ?_
    obtain ⟨b, hb', rfl⟩ := List.mem_map.mp (hb.perm.mem_iff.mp hy)
    exact ⟨b, rfl, k1 b hb'⟩
  have rr : RRep C.K X H (upd H q (.lst ys)) (.new (.lst ((sortP (kvs.map (·.1))).map enc))) (.ref q) := ⟨q, rfl, hq, ys, upd_same, (rp.more hq).keep (.same s)⟩
  exact h _ _ (L.same s) (fun _ _ r => r.keep (.same s)) (rr.imm L.xd)
end
/-! ### name -= e; range downwards; an item of a tuple at a place that is reckoned; a list of the body's own walked over -/
section
variable {C : Cn} {X : Addr → Prop} {H : Hp} {σ : L2.St} {Γ Γ' : List Sl} {Q : VK} {α β τ ρ : Type}
theorem x_aug {i : Nat} {te : TE} {f : Int → Int → Int} {x : Int} {nx bk ct : L2.St → Hp → Prop} {rt : VK} (L : Lo C X H σ Γ) (e : Γ[i]? = some (.imm (.int x))) (h : te σ H fun y H1 => ipI f (.int x) y H1 fun z H2 => nx (σ.set i (some z)) H2) : tAug i te (ipI f) ⟨nx, rt, bk, ct⟩ σ H := by
  obtain ⟨u, e1, r⟩ := L.at_ i _ e
  cases r
  exact ⟨_, e1, h⟩
theorem x_augI {f : Int → Int → Int} {x y : Int} {Q : V → Hp → Prop} (h : Q (.int (f x y)) H) : ipI f (.int x) (.int y) H Q := ⟨x, y, rfl, rfl, h⟩
theorem x_augS {i : Nat} {z : Int} {nx : L2.St → Hp → Prop} (L : Lo C X H σ Γ) (hi : i < C.n) (e : Γ.set i (.imm (.int z)) = Γ') (h : ∀ σ', Lo C X H σ' Γ' → nx σ' H) : nx (σ.set i (some (.int z))) H := by
  subst e
  exact h _ (L.set (.int z) hi)
theorem x_ixTv [Py α] {xs : List α} {i : Int} {v : V} {k : α → Option ρ} {r : ρ} (q : Rep C.K X H (.tuple (xs.map enc)) v) (hm : (ix xs i).bind k = some r) (h : ∀ x u, k x = some r → Rep C.K X H (enc x) u → Q u H) : rIxT C.K v (.int i) H Q := by
  obtain ⟨x, hx, hk⟩ := ob hm
  refine x_ixT q ?_ fun u ru => h x u hk ru
  rw [atI_map]
  unfold ix at hx
  rw [hx]; rfl
end
structure T6 (α β γ δ ε ζ : Type) where
  a : α
  b : β
  c : γ
  d : δ
  e : ε
  f : ζ
  deriving DecidableEq
instance {α β γ δ ε ζ : Type} [Py α] [Py β] [Py γ] [Py δ] [Py ε] [Py ζ] : Py (T6 α β γ δ ε ζ) := ⟨fun x => .tuple [enc x.a, enc x.b, enc x.c, enc x.d, enc x.e, enc x.f]⟩
def downL (lo : Int) (n : Nat) : List Int := (List.range n).map fun (k : Nat) => lo + (k : Int) * -1
def KForC (lo c : Int) (n : Nat) (g : TG) (tb : TS) (D : Ends) (σ : L2.St) (H : Hp) : Prop := ∃ W : Nat → Nat → L2.St → Hp → Prop, (∃ m, W 0 m σ H) ∧ ∀ i m σ H, W i m σ H →
      ((Itc lo c n).stop i H ∧ D.nx σ H) ∨ ((Itc lo c n).go i H ∧ ∃ N : L2.St → Hp → Prop, (∀ σ' H', N σ' H' → ∃ m', m' < m ∧ W (i + 1) m' σ' H') ∧ ∀ x' H', (Itc lo c n).yld i H x' H' → g x' σ H' fun σ2 H2 => tb { D with nx := N, ct := N, bk := D.nx } σ2 H2)
def KRng3 (R : Int → Int → Nat → Hp → Prop) : List V → Hp → Prop := fun vs H => ∃ (i j c : Int) (n : Nat), vs = [.int i, .int j, .int c] ∧ RgC i j c n ∧ R i c n H
section
variable {C : Cn} {X : Addr → Prop} {H : Hp} {σ : L2.St} {Γ Γ' : List Sl} {Q : VK} {α β τ ρ : Type}
theorem x_tforR3 {ta : TA} {g : TG} {tb : TS} {D : Ends} (h : ta σ H (KRng3 fun lo c n H => KForC lo c n g tb D σ H)) : tFor (iRng3 ta) g tb D σ H := h
theorem x_r3 {a b : Int} {R : Int → Int → Nat → Hp → Prop} {k : Unit → Option ρ} {r : ρ} (hm : ((rngOk a).bind fun _ => rngOk b).bind k = some r) (h : k () = some r → R a (-1) (a - b).toNat H) : KRng3 R [.int a, .int b, .int (-1)] H := by
  obtain ⟨_, h0, hk⟩ := ob hm
  obtain ⟨_, h1, h2⟩ := ob h0
  have a1 : -(2 ^ 62) ≤ a ∧ a < 2 ^ 62 := by
    unfold rngOk at h1
    split at h1
    · omega
    · cases h1
  have a2 : -(2 ^ 62) ≤ b ∧ b < 2 ^ 62 := by
    unfold rngOk at h2
    split at h2
    · omega
    · cases h2
  exact ⟨a, b, -1, _, rfl, RgC.neg a1.1 a1.2 a2.1 a2.2, h hk⟩
theorem x_forD {f : Int → τ → Option (Lp τ ρ)} {G : τ → List Sl} {ps : ρ → List (Addr × MO)} {rs : ρ → Rs} {s0 : τ} {o : Lp τ ρ} {lo : Int} {n : Nat} {g : TG} {tb : TS} {nx bk ct : L2.St → Hp → Prop} {rt : VK}
    (L : Lo C X H σ (G s0)) (hG : ∀ s s', muts (G s) = muts (G s')) (hm : loopL f (downL lo n) s0 = some o)
    (body : ∀ x s, Body C X G ps rs (enc x) s (f x s) g tb)
    (done : ∀ s, o = .nxt s → ∀ σ' H', Lo C X H' σ' (G s) → nx σ' H') (brk : ∀ s, o = .brk s → ∀ σ' H', Lo C X H' σ' (G s) → nx σ' H')
    (ret : ∀ q, o = .ret q → ∀ v H', Fin C.K C.X0 C.H0 C.P0 (ps q) (rs q) v H' → rt v H') :
    KForC lo (-1) n g tb ⟨nx, rt, bk, ct⟩ σ H := by
  have hlen : (downL lo n).length = n := by unfold downL; rw [List.length_map, List.length_range]
  refine ⟨fun i m σ' H' => m = n - i ∧ i ≤ n ∧ ∃ s, Lo C X H' σ' (G s) ∧ loopL f ((downL lo n).drop i) s = some o, ⟨n, by simp, Nat.zero_le _, s0, L, hm⟩, ?_⟩
  rintro i m σ' H' ⟨rfl, hi, s, L', hm'⟩
  by_cases hlt : i < n
  · refine .inr ⟨hlt, fun σ'' H'' => i + 1 ≤ n ∧ ∃ s, Lo C X H'' σ'' (G s) ∧ loopL f ((downL lo n).drop (i + 1)) s = some o, fun σ'' H'' p' => ⟨n - (i + 1), by omega, rfl, p'⟩, ?_⟩
    rintro v H2 ⟨rfl, rfl⟩
    have hx : (downL lo n)[i]? = some (lo + (i : Int) * -1) := by
      unfold downL
      rw [List.getElem?_map, List.getElem?_range hlt]; rfl
    obtain ⟨o1, h1, h2, h3, h4⟩ := loop_drop hx hm'
    refine body _ s _ σ' _ _ _ _ _ o1 h1 L'.enter L'.dom (.int _) ?_ ?_ ?_ ?_
    · intro s' e X' σ'' H'' L''
      exact ⟨hlt, s', L'.leave L'' (hG _ _), h2 s' e⟩
    · intro s' e X' σ'' H'' L''
      exact ⟨hlt, s', L'.leave L'' (hG _ _), h2 s' e⟩
    · intro s' e X' σ'' H'' L''
      exact brk s' (h3 s' e) _ _ (L'.leave L'' (hG _ _))
    · intro q e v' H'' F
      exact ret q (h4 q e) v' H'' (F.leave L')
  · have : i = n := by omega
    subst this
    rw [List.drop_eq_nil_of_le (by omega)] at hm'
    exact .inl ⟨Nat.le_refl _, done s (Option.some.inj hm').symm _ _ L'⟩
theorem x_foD {f : Int → τ → Option τ} {G : τ → List Sl} {s0 : τ} {lo : Int} {n : Nat} {g : TG} {tb : TS} {nx bk ct : L2.St → Hp → Prop} {rt : VK} {k : τ → Option ρ} {res : ρ}
    (L : Lo C X H σ (G s0)) (hG : ∀ s s', muts (G s) = muts (G s')) (hm : (foldO f (downL lo n) s0).bind k = some res)
    (body : ∀ x s, BodyO C X G (enc x) s (f x s) g tb) (done : ∀ s σ' H', k s = some res → Lo C X H' σ' (G s) → nx σ' H') : KForC lo (-1) n g tb ⟨nx, rt, bk, ct⟩ σ H := by
  obtain ⟨s1, h1, h2⟩ := ob hm
  exact x_forD (ρ := Empty) (o := .nxt s1) (ps := fun _ => []) (rs := fun _ => .imm .none) L hG (foldO_loop h1) (fun x s => (body x s).body) (fun s e σ' H' L' => by cases e; exact done _ _ _ h2 L') (fun s e => nomatch e) (fun q => nomatch q)
/-! a list of the body's own is walked over, and stays -/
theorem muts_set {s s' : Sl} {p : Addr} (e1 : s.ad = none) (e2 : s'.ad = some p) : ∀ {Γ : List Sl} {i : Nat}, Γ[i]? = some s → (muts (Γ.set i s')).Perm (p :: muts Γ)
  | [], _, h => by simp at h
  | t :: Γ, 0, h => by
    simp at h; subst h
    show (List.filterMap _ _).Perm (p :: List.filterMap _ _)
    rw [List.set_cons_zero, List.filterMap_cons, List.filterMap_cons, e1, e2]
  | t :: Γ, i + 1, h => by
    have ih := muts_set e1 e2 (Γ := Γ) (i := i) (by simpa using h)
    unfold muts at ih ⊢
    rw [List.set_cons_succ, List.filterMap_cons, List.filterMap_cons]
    cases t.ad with
    | none => exact ih
    | some q => exact (ih.cons q).trans (List.Perm.swap p q _)
theorem set_back {i : Nat} {s s' : Sl} {Γ : List Sl} (h : Γ[i]? = some s) : (Γ.set i s').set i s = Γ := by
  rw [List.set_set]
  exact List.ext_getElem? fun k => by
    rw [List.getElem?_set]
    split
    · next z =>
      subst z
      rw [if_pos (List.getElem?_eq_some_iff.mp h).1, h]
    · rfl
theorem Lo.unmu {i : Nat} {p : Addr} {o : MO} (L : Lo C X H σ Γ) (g : Γ[i]? = some (.mu p o)) : Lo C X H σ (Γ.set i (.ref p)) ∧ p ∉ muts (Γ.set i (.ref p)) := by
  have hil := (List.getElem?_eq_some_iff.mp g).1
  have hp := muts_set (s := .ref p) (s' := .mu p o) (p := p) rfl rfl (Γ := Γ.set i (.ref p)) (i := i) (by rw [List.getElem?_set_self hil])
  rw [set_back g] at hp
  have nd := hp.nodup_iff.mp L.nd
  obtain ⟨n1, n2⟩ := List.nodup_cons.mp nd
  refine ⟨⟨L.len, fun j t hj => ?_, n2, fun q hq => L.mx q (hp.mem_iff.mpr (List.mem_cons_of_mem _ hq)), L.m0, L.xd, L.base, L.dom, fun q hq => L.own q (hp.mem_iff.mpr (List.mem_cons_of_mem _ hq)), L.tf⟩, n1⟩
  by_cases z : j = i
  · subst z
    rw [List.getElem?_set_self hil] at hj
    cases hj
    exact (L.at_ j _ g).1
  · rw [List.getElem?_set_ne (Ne.symm z)] at hj
    exact L.at_ j t hj
theorem Lo.remu {i : Nat} {p : Addr} {o : MO} (L : Lo C X H σ Γ) (g : Γ[i]? = some (.ref p)) (n : p ∉ muts Γ) (hx : X p) (ho : p ∈ C.P0 ∨ C.H0 p = none) (r : MRep C.K X H p o) : Lo C X H σ (Γ.set i (.mu p o)) := by
  have hil := (List.getElem?_eq_some_iff.mp g).1
  have hp := muts_set (s := .ref p) (s' := .mu p o) (p := p) rfl rfl g
  refine ⟨L.len, fun j t hj => ?_, hp.nodup_iff.mpr (List.nodup_cons.mpr ⟨n, L.nd⟩), fun q hq => ?_, L.m0, L.xd, L.base, L.dom, fun q hq => ?_, L.tf⟩
  · by_cases z : j = i
    · subst z
      rw [List.getElem?_set_self hil] at hj
      cases hj
      exact ⟨L.at_ j _ g, r⟩
    · rw [List.getElem?_set_ne (Ne.symm z)] at hj
      exact L.at_ j t hj
  · rcases List.mem_cons.mp (hp.mem_iff.mp hq) with z | z
    · rw [z]; exact hx
    · exact L.mx q z
  · rcases List.mem_cons.mp (hp.mem_iff.mp hq) with z | z
    · rw [z]; exact ho
    · exact L.own q z
theorem x_forM [Py α] {xs : List α} {f : α → τ → Option (Lp τ ρ)} {G : τ → List Sl} {ps : ρ → List (Addr × MO)} {rs : ρ → Rs} {s0 : τ} {o : Lp τ ρ} {i : Nat} {p : Addr} {g : TG} {tb : TS} {nx bk ct : L2.St → Hp → Prop} {rt : VK}
    (L : Lo C X H σ Γ) (g0 : Γ[i]? = some (.mu p (ml xs))) (e0 : Γ.set i (.ref p) = G s0) (hG : ∀ s s', muts (G s) = muts (G s')) (gG : ∀ s, (G s)[i]? = some (.ref p)) (hm : loopL f xs s0 = some o)
    (body : ∀ x s, Body C X G ps rs (enc x) s (f x s) g tb)
    (done : ∀ s, o = .nxt s → ∀ σ' H', Lo C X H' σ' ((G s).set i (.mu p (ml xs))) → nx σ' H') (brk : ∀ s, o = .brk s → ∀ σ' H', Lo C X H' σ' ((G s).set i (.mu p (ml xs))) → nx σ' H')
    (ret : ∀ q, o = .ret q → ∀ v H', Fin C.K C.X0 C.H0 C.P0 (ps q) (rs q) v H' → rt v H') :
    KForL C.K g tb ⟨nx, rt, bk, ct⟩ σ (.ref p) H := by
  obtain ⟨L1, np⟩ := L.unmu g0
  rw [e0] at L1 np
  obtain ⟨vs, hv, hr⟩ := L.mrep g0
  have hx : X p := L.mx p (mem_muts.mpr ⟨i, _, g0, rfl⟩)
  have ho := L.own p (mem_muts.mpr ⟨i, _, g0, rfl⟩)
  have back : ∀ s σ' H', Lo C X H' σ' (G s) → H' p = some (.lst vs) → Reps C.K X H' (xs.map enc) vs → Lo C X H' σ' ((G s).set i (.mu p (ml xs))) := fun s σ' H' M h1 h2 => M.remu (gG s) (by rw [hG s s0]; exact np) hx ho ⟨vs, h1, h2⟩
  refine ⟨p, rfl, ⟨vs, .inl (.inl hv)⟩, for_list (K := C.K) (a := p) (xs := vs) (fun i σ' H' => ∃ s, Lo C X H' σ' (G s) ∧ Reps C.K X H' (xs.map enc) vs ∧ H' p = some (.lst vs) ∧ loopL f (xs.drop i) s = some o)
    ⟨s0, L1, hr, hv, hm⟩ (fun i σ' H' _ ⟨s, _, _, h, _⟩ => .inl (.inl h)) ?_ ?_⟩
  · rintro j y σ' H' hy ⟨s, L', r', hd', hm'⟩
    obtain ⟨d, hd, rd⟩ := r'.get' hy
    rw [List.getElem?_map] at hd
    cases hx : xs[j]? with
    | none => rw [hx] at hd; cases hd
    | some x =>
      rw [hx] at hd
      cases hd
      obtain ⟨o1, h1, h2, h3, h4⟩ := loop_drop hx hm'
      have st : ∀ {X' : Addr → Prop} {σ'' : L2.St} {H'' : Hp} {s' : τ}, Lo (C.at_ X H' (G s)) X' H'' σ'' (G s') → H'' p = some (.lst vs) := fun M => M.base p _ hd' (by show p ∉ muts (G s); rw [hG s s0]; exact np)
      refine body x s H' σ' y _ _ _ _ o1 h1 L'.enter L'.dom rd ?_ ?_ ?_ ?_
      · intro s' e X' σ'' H'' L''
        exact ⟨s', L'.leave L'' (hG _ _), r'.keep (L'.keep L''), st L'', h2 s' e⟩
      · intro s' e X' σ'' H'' L''
        exact ⟨s', L'.leave L'' (hG _ _), r'.keep (L'.keep L''), st L'', h2 s' e⟩
      · intro s' e X' σ'' H'' L''
        exact brk s' (h3 s' e) _ _ (back _ _ _ (L'.leave L'' (hG _ _)) (st L'') (r'.keep (L'.keep L'')))
      · intro q e v' H'' F
        exact ret q (h4 q e) v' H'' (F.leave L')
  · rintro σ' H' ⟨s, L', r', hd', hm'⟩
    rw [r'.length, List.length_map, List.drop_length] at hm'
    exact done s (Option.some.inj hm').symm _ _ (back _ _ _ L' hd' r')
theorem x_flM [Py α] {xs : List α} {f : α → τ → Option (Lp τ ρ)} {G : τ → List Sl} {ps : ρ → List (Addr × MO)} {rs : ρ → Rs} {s0 : τ} {i : Nat} {p : Addr} {g : TG} {tb : TS} {nx bk ct : L2.St → Hp → Prop} {rt : VK} {k : τ → Option β} {j : ρ → Option β} {res : β}
    (L : Lo C X H σ Γ) (g0 : Γ[i]? = some (.mu p (ml xs))) (e0 : Γ.set i (.ref p) = G s0) (hG : ∀ s s', muts (G s) = muts (G s')) (gG : ∀ s, (G s)[i]? = some (.ref p)) (hm : (loopL f xs s0).bind (fun o => o.out j k) = some res)
    (body : ∀ x s, Body C X G ps rs (enc x) s (f x s) g tb) (done : ∀ s σ' H', k s = some res → Lo C X H' σ' ((G s).set i (.mu p (ml xs))) → nx σ' H')
    (ret : ∀ q v H', j q = some res → Fin C.K C.X0 C.H0 C.P0 (ps q) (rs q) v H' → rt v H') : KForL C.K g tb ⟨nx, rt, bk, ct⟩ σ (.ref p) H := by
  obtain ⟨o, h1, h2⟩ := ob hm
  exact x_forM L g0 e0 hG gG h1 body (fun s e σ' H' L' => done _ _ _ (by rw [e] at h2; exact h2) L') (fun s e σ' H' L' => done _ _ _ (by rw [e] at h2; exact h2) L') (fun q e v H' F => ret _ _ _ (by rw [e] at h2; exact h2) F)
end
theorem Lax.dp {K : PySem.W.Frag} {q : T2 Int Int} {v : V} {H : Hp} (r : Lax K q v H) : Dp K H v (enc q) := by
  obtain ⟨a, rfl, h⟩ := r
  exact .tup h (.cons (.int _) (.cons (.int _) .nil))
/-! ### and, or: the second half may write -/
section
variable {C : Cn} {X : Addr → Prop} {H : Hp} {σ : L2.St} {Γ Γ' : List Sl} {Q : VK} {τ ρ : Type}
theorem x_andVG {A : Bool} {m : Option (Bool × τ)} {k : Bool × τ → Option ρ} {r : ρ} {u : TE} {G : τ → List Sl} {s0 : τ} (L : Lo C X H σ (G s0)) (hm : (if A = true then m else some (false, s0)).bind k = some r)
    (hu : ∀ b, m = some b → ∀ Q' : VK, (∀ X2 H2, Lo C X2 H2 σ (G b.2) → Q' (.bl b.1) H2) → u σ H Q') (h : ∀ b X2 H2, k b = some r → Lo C X2 H2 σ (G b.2) → Q (.bl b.1) H2) : KAndV u σ Q A H := by
  cases A with
  | true =>
    obtain ⟨b, e, hk⟩ := ob hm
    exact hu b e Q fun X2 H2 l => h b X2 H2 hk l
  | false => exact h (false, s0) X H hm L
theorem x_orVG {A : Bool} {m : Option (Bool × τ)} {k : Bool × τ → Option ρ} {r : ρ} {u : TE} {G : τ → List Sl} {s0 : τ} (L : Lo C X H σ (G s0)) (hm : (if A = true then some (true, s0) else m).bind k = some r)
    (hu : ∀ b, m = some b → ∀ Q' : VK, (∀ X2 H2, Lo C X2 H2 σ (G b.2) → Q' (.bl b.1) H2) → u σ H Q') (h : ∀ b X2 H2, k b = some r → Lo C X2 H2 σ (G b.2) → Q (.bl b.1) H2) : KOrV u σ Q A H := by
  cases A with
  | false =>
    obtain ⟨b, e, hk⟩ := ob hm
    exact hu b e Q fun X2 H2 l => h b X2 H2 hk l
  | true => exact h (true, s0) X H hm L
theorem x_andG {A : Bool} {m : Option (Bool × τ)} {k : Bool × τ → Option ρ} {r : ρ} {u : TT} {Q : Bool → Hp → Prop} {G : τ → List Sl} {s0 : τ} (L : Lo C X H σ (G s0)) (hm : (if A = true then m else some (false, s0)).bind k = some r)
    (hu : ∀ b, m = some b → ∀ Q' : Bool → Hp → Prop, (∀ X2 H2, Lo C X2 H2 σ (G b.2) → Q' b.1 H2) → u σ H Q') (h : ∀ b X2 H2, k b = some r → Lo C X2 H2 σ (G b.2) → Q b.1 H2) : KAnd u σ Q A H := by
  cases A with
  | true =>
    obtain ⟨b, e, hk⟩ := ob hm
    exact hu b e Q fun X2 H2 l => h b X2 H2 hk l
  | false => exact h (false, s0) X H hm L
theorem x_orG {A : Bool} {m : Option (Bool × τ)} {k : Bool × τ → Option ρ} {r : ρ} {u : TT} {Q : Bool → Hp → Prop} {G : τ → List Sl} {s0 : τ} (L : Lo C X H σ (G s0)) (hm : (if A = true then some (true, s0) else m).bind k = some r)
    (hu : ∀ b, m = some b → ∀ Q' : Bool → Hp → Prop, (∀ X2 H2, Lo C X2 H2 σ (G b.2) → Q' b.1 H2) → u σ H Q') (h : ∀ b X2 H2, k b = some r → Lo C X2 H2 σ (G b.2) → Q b.1 H2) : KOr u σ Q A H := by
  cases A with
  | false =>
    obtain ⟨b, e, hk⟩ := ob hm
    exact hu b e Q fun X2 H2 l => h b X2 H2 hk l
  | true => exact h (true, s0) X H hm L
theorem x_lfTG {G : τ → List Sl} {B : Bool} {e : τ} {b : Bool × τ} {Q' : Bool → Hp → Prop} (hm : some (B, e) = some b) (hQ : ∀ X2 H2, Lo C X2 H2 σ (G b.2) → Q' b.1 H2) (L : Lo C X H σ (G e)) : Q' B H := by cases hm; exact hQ _ _ L
theorem x_lfVG {G : τ → List Sl} {B : Bool} {e : τ} {b : Bool × τ} {Q' : VK} (hm : some (B, e) = some b) (hQ : ∀ X2 H2, Lo C X2 H2 σ (G b.2) → Q' (.bl b.1) H2) (L : Lo C X H σ (G e)) : Q' (.bl B) H := by cases hm; exact hQ _ _ L
end
/-! ### dict(a list of pairs), keys tuples -/
def mergeT (kvs : List (List L2.Key × V)) (ps : List (List L2.Key × V)) : List (List L2.Key × V) := ps.foldl (fun a p => putK a p.1 p.2) kvs
def rDictPT (K : PySem.W.Frag) : List V → Hp → VK → Prop := fun xs H Q => ∃ (a : Addr) (ps : List Addr) (kvs : List (List L2.Key × Addr × V)), xs = [.ref a] ∧ SqL K H a (ps.map V.ref) ∧ Paired (fun p (kv : List L2.Key × Addr × V) => SqT K H p [V.ref kv.2.1, kv.2.2] ∧ H kv.2.1 = some (.tup (kv.1.map kV))) ps kvs ∧
    ∀ p, H p = none → Q (.ref p) (upd H p (.dT (mergeT [] (kvs.map fun kv => (kv.1, kv.2.2)))))
section
variable {X : Cx}
theorem pairsT_of {pins : List (Addr × Obj)} {σ : L2.St} {H : Hp} {s : Shared} (I : Inv X pins σ H s) : ∀ {ps : List Addr} {kvs : List (List L2.Key × Addr × V)}, Paired (fun p (kv : List L2.Key × Addr × V) => SqT X.K H p [V.ref kv.2.1, kv.2.2] ∧ H kv.2.1 = some (.tup (kv.1.map kV))) ps kvs →
    ∃ xs : List (List L2.Key × Addr × Value), KT H (kvs.map fun kv => (kv.1, kv.2.2)) xs ∧ xs.length = ps.length ∧ ∀ (j : Nat) (q : List L2.Key × Addr × Value), xs[j]? = some q → ∃ b, ps[j]? = some b ∧ IsTup s.heap b #[Value.ref q.2.1, q.2.2]
  | _, _, .nil => ⟨[], .nil, rfl, fun j q e => by simp at e⟩
  | _, _, .cons (a := p) (b := kv) h t => by
    obtain ⟨xs, r, hl, hp⟩ := pairsT_of I t
    obtain ⟨its, rv, ht, _⟩ := I.tuple h.1
    obtain ⟨u, y, ei, ru, ry⟩ := vals2 rv
    subst ei
    obtain rfl : u = Value.ref kv.2.1 := ru
    refine ⟨(kv.1, kv.2.1, y) :: xs, .cons ⟨rfl, h.2, ry⟩ r, by rw [List.length_cons, List.length_cons, hl], fun j q e => ?_⟩
    cases j with
    | zero =>
      have e' : (kv.1, kv.2.1, y) = q := Option.some.inj e
      subst e'
      exact ⟨p, rfl, ht⟩
    | succ j =>
      obtain ⟨b, e1, e2⟩ := hp j q (by simpa using e)
      exact ⟨b, by simpa using e1, e2⟩
theorem KT_merge {H : Hp} : ∀ {ps : List (List L2.Key × V)} {xs : List (List L2.Key × Addr × Value)} {kvs : List (List L2.Key × V)} {ys : List (List L2.Key × Addr × Value)}, KT H ps xs → KT H kvs ys → KT H (mergeT kvs ps) (storedAllH ys xs)
  | _, _, _, _, .nil, r => r
  | _, _, _, _, .cons (a := p) (b := x) h t, r => by
    show KT H (mergeT (putK _ p.1 p.2) _) (storedAllH (storedH _ x.1 x.2.1 x.2.2) _)
    refine KT_merge t ?_
    rw [← h.1]
    exact r.put p.1 h.2.1 h.2.2
theorem KT_all {P : Program} {w : World} {H : Hp} {h : Heap} (ok : HOk P w H h) : ∀ {l : List (List L2.Key × V)} {m : List (List L2.Key × Addr × Value)}, KT H l m → ∀ x ∈ m, (tupleKind (mixKind P w)).is h x.1 x.2.1
  | _, _, .nil, x, hx => nomatch hx
  | _, _, .cons (b := q) hq t, x, hx => by
    rcases List.mem_cons.mp hx with e | hx
    · subst e
      exact key_of ok (by rw [← hq.1]; exact hq.2.1)
    · exact KT_all ok t x hx
theorem mergeT_len : ∀ (ps kvs : List (List L2.Key × V)), (mergeT kvs ps).length ≤ kvs.length + ps.length
  | [], kvs => Nat.le_refl _
  | p :: ps, kvs => by
    have h1 := mergeT_len ps (putK kvs p.1 p.2)
    have h2 : (putK kvs p.1 p.2).length ≤ kvs.length + 1 := by
      unfold putK
      split
      · rw [List.length_map]; omega
      · simp
    show (mergeT (putK kvs p.1 p.2) ps).length ≤ _
    rw [List.length_cons]; omega
theorem cr_dictPT (hcalm : X.calm = true) (hu : X.A.units + 64 < cLine) : CallR X (.type "dict") (rDictPT X.K) := by
  intro pins s σ H xs us Q I r q
  obtain ⟨a, ps, kvs, ex, hq, hp, q⟩ := q
  subst ex
  obtain ⟨u, eu, rx⟩ := vals1 r
  subst eu
  cases rx
  obtain ⟨its, rv, pl, hz⟩ := I.list hq
  have ei := refs_at rv
  subst ei
  rw [List.length_map] at hz
  obtain ⟨ks, rel, hl, hpr⟩ := pairsT_of I hp
  obtain ⟨prs, hprd⟩ : ∃ prs : List (Value × Value), prs = ks.map fun k => (Value.ref k.2.1, k.2.2) := ⟨_, rfl⟩
  have hpl : prs.length = ks.length := by simp [hprd]
  have hprs : ∀ (j : Nat) (k v : Value), prs[j]? = some (k, v) → ∃ q : List L2.Key × Addr × Value, ks[j]? = some q ∧ k = Value.ref q.2.1 ∧ v = q.2.2 := fun j k v e => by
    rw [hprd, List.getElem?_map] at e
    obtain ⟨q, e1, e2⟩ := Option.map_eq_some_iff.mp e
    cases e2
    exact ⟨q, e1, rfl, rfl⟩
  have stay := (tupleKind_stays (prog := X.prog) (w := X.w) (knd := mixKind X.prog X.w))
  refine call_dict_pairsH (knd := tupleKind (mixKind X.prog X.w)) (ps := ks) (PairArg.list a (ps.map Value.ref).toArray (fun j => ps.getD j 0) prs) (I.ok.hd hcalm) ?hu ⟨pl, ?ok⟩ ⟨by rw [hpl], fun i key v e => ?hv⟩ ?st ?sz fun h' tk hd' hk => ?_
  case hu => show X.A.units + 1 + 1 < cLine; omega
  case ok =>
    refine ⟨by simp [hpl, hl], fun j k v e => ?_⟩
    obtain ⟨q', e1, e2, e3⟩ := hprs j k v e
    obtain ⟨b, e4, e5⟩ := hpr j q' e1
    subst e2; subst e3
    refine ⟨by simp [e4], .inl ?_⟩
    show s.heap.IsTuple (ps.getD j 0) _
    rw [List.getD_eq_getElem?_getD, e4]
    exact e5
  case hv =>
    obtain ⟨q', e1, e2, e3⟩ := hprs i key v e
    exact ⟨q'.1, q'.2.1, by rw [e1, e3], e2⟩
  case st =>
    intro h1 hk x hx
    exact stay.stays (fun b o vs n e _ => hk b o (Nat.ne_of_lt (Heap.lt_size e)) (fun z => nomatch z) e) (KT_all I.hok rel x hx)
  case sz => rw [hpl, hl]; exact hz
  have hm : (s.heap.objs.size == sysModules) = false := beq_eq_false_iff_ne.mpr (Nat.ne_of_gt I.big)
  have hlen : (mergeT [] (kvs.map fun kv => (kv.1, kv.2.2))).length ≤ sizeLine := by
    refine Nat.le_trans (mergeT_len _ _) ?_
    have : (kvs.map fun kv => (kv.1, kv.2.2)).length = ks.length := Paired.length rel
    rw [List.length_nil, Nat.zero_add, this, hl]
    exact hz
  obtain ⟨o, es, ep, d1, d2, d3, d4, _, d5⟩ := hd'
  exact ⟨.ref s.heap.objs.size, upd H s.heap.objs.size (.dT (mergeT [] (kvs.map fun kv => (kv.1, kv.2.2)))), I.laid (t' := tk) (fun b o e => hk b o (fun z => nomatch z) e) (Nat.le_refl _) (show ObjOk X.prog X.w _ _ _ (.dT _) from ⟨hlen, hm, storedAllH [] ks, KT_merge (rel.keeps fun b ys e => by rw [upd_ne fun z => by rw [z, I.hok.fresh (Nat.le_refl _)] at e; cases e]; exact e) .nil, o, es, ep, d1, d2, d3, d4, d5⟩), rfl, q _ (I.hok.fresh (Nat.le_refl _))⟩
end
def dictM {β : Type} (ps : List (T2 (T2 Int Int) β)) : List (T2 Int Int × β) := ps.foldl (fun kvs p => dputM kvs p.a p.b) []
section
variable {C : Cn} {X : Addr → Prop} {H : Hp} {σ : L2.St} {Γ Γ' : List Sl} {Q : VK} {α β τ ρ : Type}
theorem dreps_merge [Py β] {K : PySem.W.Frag} : ∀ {ps : List (T2 (T2 Int Int) β)} {kvs : List (T2 Int Int × β)} {ws us : List (List L2.Key × V)}, DReps K X H (kvs.map fun e => (kq e.1, enc e.2)) ws → DReps K X H (ps.map fun p => (kq p.a, enc p.b)) us →
    DReps K X H ((ps.foldl (fun kvs p => dputM kvs p.a p.b) kvs).map fun e => (kq e.1, enc e.2)) (mergeT ws us)
  | [], _, _, _, r, .nil => r
  | p :: ps, _, _, _, r, .cons (v := v) h t => by
    show DReps K X H ((ps.foldl (fun kvs p => dputM kvs p.a p.b) (dputM _ p.a p.b)).map _) (mergeT (putK _ (kq p.a) v) _)
    exact dreps_merge (dreps_put r h) t
theorem pairs_rep [Py β] {K : PySem.W.Frag} : ∀ {ps : List (T2 (T2 Int Int) β)} {vs : List V}, Reps K X H (ps.map enc) vs →
    ∃ (as : List Addr) (kvs : List (List L2.Key × Addr × V)), vs = as.map V.ref ∧ Paired (fun p (kv : List L2.Key × Addr × V) => SqT K H p [V.ref kv.2.1, kv.2.2] ∧ H kv.2.1 = some (.tup (kv.1.map kV))) as kvs ∧ DReps K X H (ps.map fun p => (kq p.a, enc p.b)) (kvs.map fun kv => (kv.1, kv.2.2))
  | [], _, .nil => ⟨[], [], rfl, .nil, .nil⟩
  | p :: ps, _, .cons r t => by
    obtain ⟨as, kvs, e, h1, h2⟩ := pairs_rep t
    obtain ⟨a, us, rfl, h, q⟩ := rep_tupS (ds := [enc p.a, enc p.b]) r
    cases q with
    | cons q1 q => cases q with
      | cons q2 q =>
        cases q
        obtain ⟨b, rfl, hb⟩ := key_rep q1
        exact ⟨a :: as, (kq p.a, b, _) :: kvs, by rw [e]; rfl, .cons ⟨.inl (.inl h), hb⟩ h1, .cons q2 h2⟩
theorem x_dictP [Py β] {ps : List (T2 (T2 Int Int) β)} {v : V} (L : Lo C X H σ Γ) (r : Rep C.K X H (enc ps) v) (h : ∀ p X' H1, C.H0 p = none → ¬ C.X0 p → Lo C X' H1 σ (Γ ++ [.tmp p (md (dictM ps))]) → (∀ d u, Rep C.K X H d u → Rep C.K X' H1 d u) → Q (.ref p) H1) : rDictPT C.K [v] H Q := by
  obtain ⟨a, vs, rfl, _, hs, q⟩ := rep_lst (ds := ps.map enc) r
  obtain ⟨as, kvs, e, h1, h2⟩ := pairs_rep q
  refine ⟨a, as, kvs, rfl, .inl (by rw [← e]; exact hs), h1, fun p hp => ?_⟩
  have s : Same H (upd H p (.dT (mergeT [] (kvs.map fun kv => (kv.1, kv.2.2))))) := same_upd hp
  obtain ⟨L1, le, h0, hx⟩ := L.lay (o := md (dictM ps)) hp s ⟨_, upd_same, ((dreps_merge (kvs := []) .nil h2).more hp).keep (.same s)⟩
  exact h p _ _ h0 hx L1 le
def rListDT : List V → Hp → VK → Prop := fun xs H Q => ∃ d kvs, xs = [V.ref d] ∧ Rd H d (.dT kvs) ∧ ∀ p bs, H p = none → IsKeys H kvs bs → Q (.ref p) (upd H p (.lst (bs.map V.ref)))
theorem call_listDT {Xc : Cx} (hc : Xc.calm = true) : CallR Xc (.type "list") rListDT := call_list_dT hc
theorem x_listD [Py β] {kvs : List (T2 Int Int × β)} {i : Nat} {p : Addr} (L : Lo C X H σ Γ) (g : Γ[i]? = some (.mu p (md kvs))) (h : ∀ v H1, Lo C X H1 σ Γ → (∀ d u, Rep C.K X H d u → Rep C.K X H1 d u) → Rep C.K X H1 (enc (kvs.map (·.1))) v → Q v H1) : rListDT [.ref p] H Q := by
  obtain ⟨ws, hw, rw_⟩ := L.mrep g
  refine ⟨p, ws, rfl, .inl hw, fun q bs hq ib => ?_⟩
  obtain ⟨k1, k2⟩ := keys_of rw_ ib
  have s : Same H (upd H q (.lst (bs.map V.ref))) := same_upd hq
  have rp : Reps C.K X H ((kvs.map (·.1)).map enc) (bs.map V.ref) := by
    have := reps_keys (K := C.K) (X := X) (H := H) (ys := bs.map V.ref) fun y hy => by
      obtain ⟨b, hb', rfl⟩ := List.mem_map.mp hy
      exact ⟨b, rfl, k1 b hb'⟩
    rw [List.map_map (l := bs)] at this
    rw [← k2]
    exact this
  have rr : RRep C.K X H (upd H q (.lst (bs.map V.ref))) (.new (.lst ((kvs.map (·.1)).map enc))) (.ref q) := ⟨q, rfl, hq, _, upd_same, (rp.more hq).keep (.same s)⟩
  exact h _ _ (L.same s) (fun _ _ r => r.keep (.same s)) (rr.imm L.xd)
theorem keys_rep {K : PySem.W.Frag} : ∀ {xs : List (T2 Int Int)} {vs : List V}, Reps K X H (xs.map enc) vs → (∀ y ∈ vs, ∃ b, y = .ref b ∧ H b = some (.tup [.int (kOf H y).1, .int (kOf H y).2])) ∧ vs.map (fun y => (⟨(kOf H y).1, (kOf H y).2⟩ : T2 Int Int)) = xs
  | [], _, .nil => ⟨fun _ h => (nomatch h), rfl⟩
  | x :: xs, _, .cons r t => by
    obtain ⟨h1, h2⟩ := keys_rep t
    obtain ⟨b, rfl, hb⟩ := key_rep r
    have e := kOf_at (q := x) hb
    refine ⟨fun y hy => ?_, ?_⟩
    · rcases List.mem_cons.mp hy with z | hy
      · subst z; exact ⟨b, rfl, by rw [e]; exact hb⟩
      · exact h1 y hy
    · rw [List.map_cons, h2, e]
theorem x_sortedL {xs : List (T2 Int Int)} {v : V} (L : Lo C X H σ Γ) (r : Rep C.K X H (enc xs) v) (h : ∀ v H1, Lo C X H1 σ Γ → (∀ d u, Rep C.K X H d u → Rep C.K X H1 d u) → Rep C.K X H1 (enc (sortP xs)) v → Q v H1) : rSortedPO C.K [v] H Q := by
  obtain ⟨a, vs, rfl, _, hs, q⟩ := rep_lst (ds := xs.map enc) r
  obtain ⟨k1, k2⟩ := keys_rep q
  refine ⟨a, vs, kOf H, rfl, .inl hs, fun x hx => ?_, fun ys q hs hb hq => ?_⟩
  · obtain ⟨b, e, hb⟩ := k1 x hx
    exact ⟨b, e, hb⟩
  have es : ys.map (fun y => (⟨(kOf H y).1, (kOf H y).2⟩ : T2 Int Int)) = sortP xs := by
    refine SrtO.stb_uniq lt2P_swo (SrtO.srtd_map (lt := lt2P) (f := fun y => (⟨(kOf H y).1, (kOf H y).2⟩ : T2 Int Int)) hs) (sortP_srtd _) (stb_perm ?_)
    refine ((hb.perm.map _).trans ?_).trans (sortP_perm _).symm
    rw [k2]
  have s : Same H (upd H q (.lst ys)) := same_upd hq
  have rp : Reps C.K X H ((sortP xs).map enc) ys := by
    rw [← es]
    exact reps_keys fun y hy => k1 y (hb.perm.mem_iff.mp hy)
  have rr : RRep C.K X H (upd H q (.lst ys)) (.new (.lst ((sortP xs).map enc))) (.ref q) := ⟨q, rfl, hq, ys, upd_same, (rp.more hq).keep (.same s)⟩
  exact h _ _ (L.same s) (fun _ _ r => r.keep (.same s)) (rr.imm L.xd)
end
/-! ### what forbids tells -/
inductive Fb where
  | non
  | area (p q : T2 Int Int)
  | mark (d p q : T2 Int Int)
  deriving DecidableEq
instance : Py Fb := ⟨fun x => match x with
  | .non => .none
  | .area p q => .tuple [.str "area", enc p, enc q]
  | .mark d p q => .tuple [.str "mark", enc d, enc p, enc q]⟩
instance : PyE Fb where
  d := PyE.d (T2 Int Int) + 1
  eqv := fun x y => by
    cases x <;> cases y
    case non.non => rfl
    case area.area p q p' q' =>
      show PyData.eqv (.tuple [.str "area", enc p, enc q]) (.tuple [.str "area", enc p', enc q']) = _
      rw [eqv_tup, eqvAll_cons, eqvAll_cons, eqvAll_cons, eqvAll_nil, PyE.eqv, PyE.eqv]
      by_cases h1 : p = p' <;> by_cases h2 : q = q' <;> simp [h1, h2, PyData.eqv]
    case mark.mark d p q d' p' q' =>
      show PyData.eqv (.tuple [.str "mark", enc d, enc p, enc q]) (.tuple [.str "mark", enc d', enc p', enc q']) = _
      rw [eqv_tup, eqvAll_cons, eqvAll_cons, eqvAll_cons, eqvAll_cons, eqvAll_nil, PyE.eqv, PyE.eqv, PyE.eqv]
      by_cases h0 : d = d' <;> by_cases h1 : p = p' <;> by_cases h2 : q = q' <;> simp [h0, h1, h2, PyData.eqv]
    case area.mark p q d' p' q' =>
      show PyData.eqv (.tuple [.str "area", enc p, enc q]) (.tuple [.str "mark", enc d', enc p', enc q']) = _
      rw [eqv_tup, eqvAll_cons]
      unfold PyData.eqv
      rw [show ((Str.ofString "area" == Str.ofString "mark") = false) from by decide +kernel]; rfl
    case mark.area p q d' p' q' =>
      show PyData.eqv (.tuple [.str "mark", enc p, enc q, enc d']) (.tuple [.str "area", enc p', enc q']) = _
      rw [eqv_tup, eqvAll_cons]
      unfold PyData.eqv
      rw [show ((Str.ofString "mark" == Str.ofString "area") = false) from by decide +kernel]; rfl
    all_goals (first | (show PyData.eqv .none (.tuple _) = _; unfold PyData.eqv; simp) | (show PyData.eqv (.tuple _) .none = _; unfold PyData.eqv; simp))
  lay := fun x => by
    cases x
    · rfl
    · rename_i p q
      show PyData.canLay0 (.tuple [.str "area", enc p, enc q]) = true
      rw [lay_tup, layAll_cons, layAll_cons, layAll_cons, layAll_nil, PyE.lay, PyE.lay, show PyData.canLay0 (.str "area") = true by decide +kernel]; rfl
    · rename_i d p q
      show PyData.canLay0 (.tuple [.str "mark", enc d, enc p, enc q]) = true
      rw [lay_tup, layAll_cons, layAll_cons, layAll_cons, layAll_cons, layAll_nil, PyE.lay, PyE.lay, PyE.lay, show PyData.canLay0 (.str "mark") = true by decide +kernel]; rfl
  dep := fun x => by
    cases x
    · exact Nat.zero_le _
    · rename_i p q
      show PyData.depth (.tuple [.str "area", enc p, enc q]) ≤ _
      rw [dep_tup, depAll_cons, depAll_cons, depAll_cons, depAll_nil]
      have := PyE.dep p
      have := PyE.dep q
      have : PyData.depth (.str "area") = 0 := rfl
      omega
    · rename_i d p q
      show PyData.depth (.tuple [.str "mark", enc d, enc p, enc q]) ≤ _
      rw [dep_tup, depAll_cons, depAll_cons, depAll_cons, depAll_cons, depAll_nil]
      have := PyE.dep p
      have := PyE.dep q
      have := PyE.dep d
      have : PyData.depth (.str "mark") = 0 := rfl
      omega
def FbR (K : PySem.W.Frag) (f : Fb) (v : V) (H : Hp) : Prop := match f with
  | .non => v = .non
  | .area p q => ∃ a b c, v = .ref a ∧ H a = some (.tup [.str "area", b, c]) ∧ Lax K p b H ∧ Lax K q c H
  | .mark d p q => ∃ a x b c, v = .ref a ∧ H a = some (.tup [.str "mark", x, b, c]) ∧ Lax K d x H ∧ Lax K p b H ∧ Lax K q c H
theorem Lax.same {K : PySem.W.Frag} {q : T2 Int Int} {v : V} {H H' : Hp} (s : Same H H') (r : Lax K q v H) : Lax K q v H' := by
  obtain ⟨a, e, h⟩ := r
  refine ⟨a, e, ?_⟩
  rcases h with (h | ⟨o, h⟩) | h
  · exact .inl (.inl (s _ _ h))
  · exact .inl (.inr ⟨o, s _ _ h⟩)
  · exact .inr h
theorem FbR.same {K : PySem.W.Frag} {f : Fb} {v : V} {H H' : Hp} (s : Same H H') (r : FbR K f v H) : FbR K f v H' := by
  cases f with
  | non => exact r
  | area p q =>
    obtain ⟨a, b, c, e, h, l1, l2⟩ := r
    exact ⟨a, b, c, e, s _ _ h, l1.same s, l2.same s⟩
  | mark d p q =>
    obtain ⟨a, x, b, c, e, h, l0, l1, l2⟩ := r
    exact ⟨a, x, b, c, e, s _ _ h, l0.same s, l1.same s, l2.same s⟩
theorem FbR.dp {K : PySem.W.Frag} {f : Fb} {v : V} {H : Hp} (r : FbR K f v H) : Dp K H v (enc f) := by
  cases f with
  | non =>
    obtain rfl : v = .non := r
    exact .non
  | area p q =>
    obtain ⟨a, b, c, rfl, h, l1, l2⟩ := r
    exact .tup (.inl (.inl h)) (.cons (.str _) (.cons l1.dp (.cons l2.dp .nil)))
  | mark d p q =>
    obtain ⟨a, x, b, c, rfl, h, l0, l1, l2⟩ := r
    exact .tup (.inl (.inl h)) (.cons (.str _) (.cons l0.dp (.cons l1.dp (.cons l2.dp .nil))))
theorem FbR.mkA {K : PySem.W.Frag} {p q : T2 Int Int} {a : Addr} {b c : V} {H : Hp} (h : H a = some (.tup [.str "area", b, c])) (l1 : Lax K p b H) (l2 : Lax K q c H) : FbR K (.area p q) (.ref a) H := ⟨a, b, c, rfl, h, l1, l2⟩
theorem FbR.mkM {K : PySem.W.Frag} {d p q : T2 Int Int} {a : Addr} {x b c : V} {H : Hp} (h : H a = some (.tup [.str "mark", x, b, c])) (l0 : Lax K d x H) (l1 : Lax K p b H) (l2 : Lax K q c H) : FbR K (.mark d p q) (.ref a) H := ⟨a, x, b, c, rfl, h, l0, l1, l2⟩
section
variable {C : Cn} {X : Addr → Prop} {H : Hp} {σ : L2.St} {Γ Γ' : List Sl} {Q : VK}
theorem x_mkTR {vs : List V} (L : Lo C X H σ Γ) (hl : vs.length ≤ 16777216) (h : ∀ p H1, Same H H1 → Lo C X H1 σ Γ → H1 p = some (.tup vs) → Q (.ref p) H1) : KTup Q vs H := by
  refine ⟨by rw [line_eq]; exact hl, fun p hp => ?_⟩
  have s : Same H (upd H p (.tup vs)) := same_upd hp
  exact h p _ s (L.same s) upd_same
theorem k0R {v : V} {H' : Hp} {R : V → Hp → Prop} {ps : List (Addr × MO)} {G : Prop} (L : Lo C X H σ Γ) (F : Fin C.K X H [] ps (.raw R) v H') (h : Lo C X H' σ Γ → (∀ d u, Rep C.K X H d u → Rep C.K X H' d u) → R v H' → G) : G := h (L.after0 F).1 (L.after0 F).2 F.res
end
section
variable {H : Hp} {Q : VK} {α : Type}
theorem x_eqdK {K : PySem.W.Frag} [Py α] [DecidableEq α] [PyE α] {x y : α} {u v : V} (r : Dp K H u (enc x)) (q : Dp K H v (enc y)) (h64 : PyE.d α ≤ 64) (h : Q (.bl (decide (x = y))) H) : rEqD K u v H Q :=
  x_eqd (C := ⟨K, fun _ => False, H, [], 0⟩) r q h64 h
theorem x_nedK {K : PySem.W.Frag} [Py α] [DecidableEq α] [PyE α] {x y : α} {u v : V} (r : Dp K H u (enc x)) (q : Dp K H v (enc y)) (h64 : PyE.d α ≤ 64) (h : Q (.bl (!decide (x = y))) H) : rNeD K u v H Q :=
  x_ned (C := ⟨K, fun _ => False, H, [], 0⟩) r q h64 h
end
/-! ### for .. in zip(xs, ys); xs.insert(i, x); range by two -/
def zipO {α β : Type} (xs : List α) (ys : List β) : Option (List (T2 α β)) := some (List.zipWith T2.mk xs ys)
def insO {α : Type} (xs : List α) (i : Int) (y : α) : Option (List α) := if 0 ≤ i ∧ i < 2 ^ 62 ∧ xs.length + 1 ≤ 16777216 then some (xs.take i.toNat ++ [y] ++ xs.drop i.toNat) else none
def twoL (lo : Int) (n : Nat) : List Int := (List.range n).map fun (k : Nat) => lo + (k : Int) * 2
def KForZ (K : PySem.W.Frag) (g : TG) (tb : TS) (D : Ends) (σ : L2.St) : List V → Hp → Prop := fun vs H => ∃ a b xs ys, vs = [.ref a, .ref b] ∧ SqL K H a xs ∧ SqL K H b ys ∧ ∃ W : Nat → Nat → L2.St → Hp → Prop, (∃ m, W 0 m σ H) ∧ ∀ i m σ H, W i m σ H →
      ((Itz K a b).stop i H ∧ D.nx σ H) ∨ ((Itz K a b).go i H ∧ ∃ N : L2.St → Hp → Prop, (∀ σ' H', N σ' H' → ∃ m', m' < m ∧ W (i + 1) m' σ' H') ∧ ∀ v H', (Itz K a b).yld i H v H' → g v σ H' fun σ2 H2 => tb { D with nx := N, ct := N, bk := D.nx } σ2 H2)
section
variable {C : Cn} {X : Addr → Prop} {H : Hp} {σ : L2.St} {Γ Γ' : List Sl} {Q : VK} {α β τ ρ : Type}
theorem x_tforZ {ta : TA} {g : TG} {tb : TS} {D : Ends} {K : PySem.W.Frag} (h : ta σ H (KForZ K g tb D σ)) : tFor (iZip K ta) g tb D σ H := h
def KLcZ (K : PySem.W.Frag) (g : TG) (tt : TT) (te : TE) (ws : List Nat) (σ : L2.St) (Q : VK) : List V → Hp → Prop := fun vs H => ∃ a b xs ys, vs = [.ref a, .ref b] ∧ SqL K H a xs ∧ SqL K H b ys ∧ ∀ D, H D = none → ∃ W : Nat → Nat → Hp → Prop, (∃ m, W 0 m (upd H D (.lst []))) ∧ ∀ i m H, W i m H →
      ((Itz K a b).stop i H ∧ Q (.ref D) H) ∨ ((Itz K a b).go i H ∧ ∃ Nx : Hp → Prop, (∀ H', Nx H' → ∃ m', m' < m ∧ W (i + 1) m' H') ∧ ∀ x H', (Itz K a b).yld i H x H' → g x (wipe σ ws) H' fun σ2 H2 => wipe σ2 ws = wipe σ ws ∧ tt σ2 H2 fun b H3 =>
        if b = true then te σ2 H3 fun y H4 => ∃ acc, H4 D = some (.lst acc) ∧ acc.length < sizeLine ∧ Nx (upd H4 D (.lst (acc ++ [y]))) else Nx H3)
theorem x_lcz {K : PySem.W.Frag} {ta : TA} {te : TE} {g : TG} {tt : TT} {ws : List Nat} (h : ta σ H (KLcZ K g tt te ws σ Q)) : tLc (iZip K ta) g tt te ws σ H Q := h
theorem x_lcZ {γ : Type} [Py α] [Py β] [Py γ] {xs : List α} {ys : List β} {zs : List (T2 α β)} {f : T2 α β → τ → Option (Option γ × τ)} {G : τ → List Sl} {s0 : τ} {q : List γ × τ} {u v : V} {g : TG} {tt : TT} {te : TE} {ws : List Nat}
    (hz : zipO xs ys = some zs) (L : Lo C X H σ (G s0)) (hG : ∀ s s', muts (G s) = muts (G s')) (r : Rep C.K X H (enc xs) u) (r2 : Rep C.K X H (enc ys) v) (hm : compL f zs s0 = some q) (hl : zs.length ≤ 16777216)
    (body : ∀ x s, BodyC C X G (enc x) s (f x s) g tt te ws)
    (h : ∀ D H', Lo C X H' σ (G q.2) → (∀ d u, Rep C.K X H d u → Rep C.K X H' d u) → Rep C.K X H' (enc q.1) (.ref D) → Q (.ref D) H') : KLcZ C.K g tt te ws σ Q [u, v] H := by
  obtain ⟨a, us, rfl, hna, hrd, hrs⟩ := rep_lst (ds := xs.map enc) r
  obtain ⟨b, us2, rfl, hnb, hrb, hrt⟩ := rep_lst (ds := ys.map enc) r2
  have hz2 : zs = List.zipWith T2.mk xs ys := (Option.some.inj hz).symm
  subst hz2
  have e1 : us.length = xs.length := by rw [hrs.length, List.length_map]
  have e2 : us2.length = ys.length := by rw [hrt.length, List.length_map]
  have hlz : (List.zipWith T2.mk xs ys).length = min xs.length ys.length := List.length_zipWith
  refine ⟨a, b, us, us2, rfl, .inl hrd, .inl hrb, fun D hD => ?_⟩
  have h0 : C.H0 D = none := by
    cases e : C.H0 D with
    | none => rfl
    | some o => exact (L.dom D (by rw [e]; exact fun z => nomatch z) hD).elim
  have hDm : ∀ s, D ∉ muts (G s) := fun s h => L.xd D (L.mx D (hG s s0 ▸ h)) hD
  have sm : Same H (upd H D (.lst [])) := same_upd hD
  have lay := L.lay (p := D) (o := .lst []) hD sm ⟨[], upd_same, .nil⟩
  have L1 : Lo C (fun a => X a ∨ a = D) (upd H D (.lst [])) σ (G s0) := by
    refine ⟨L.len, fun i s hi => ?_, L.nd, fun p hp => .inl (L.mx p hp), fun a h => .inl (L.m0 a h), lay.1.xd, lay.1.base, lay.1.dom, L.own, L.tf⟩
    refine lay.1.at_ i s ?_
    rw [List.getElem?_append_left (List.getElem?_eq_some_iff.mp hi).1]
    exact hi
  have fresh : ∀ {c : Addr} {ws : List V}, ¬ X c → Rd H c (.lst ws) → ¬ (X c ∨ c = D) := fun hn hr h => h.elim hn fun e => by
    subst e
    exact rd_nn hr hD
  have hna' := fresh hna hrd
  have hnb' := fresh hnb hrb
  refine lc_it (walk_zip (K := C.K) (a := a) (b := b) (xs := us) (ys := us2) (n := min us.length us2.length) rfl) (fun i H' => ∃ s zs' acc q', Lo C (fun a => X a ∨ a = D) H' σ (G s) ∧ Reps C.K (fun a => X a ∨ a = D) H' (xs.map enc) us ∧ Reps C.K (fun a => X a ∨ a = D) H' (ys.map enc) us2 ∧ Rd H' a (.lst us) ∧ Rd H' b (.lst us2) ∧ H' D = some (.lst acc) ∧ Reps C.K (fun a => X a ∨ a = D) H' (zs'.map enc) acc ∧
      compL f ((List.zipWith T2.mk xs ys).drop i) s = some q' ∧ q = (zs' ++ q'.1, q'.2) ∧ zs'.length ≤ i ∧ Keep X H H' ∧ (∀ a, H a ≠ none → H' a ≠ none))
    ⟨s0, [], [], q, L1, (hrs.more hD).keep (.same sm), (hrt.more hD).keep (.same sm), Keep.rd (.same sm) hna hrd, Keep.rd (.same sm) hnb hrb, upd_same, .nil, hm, rfl, Nat.le_refl _, .same sm, fun a h => ?_⟩ (fun i H' _ ⟨s, zs', acc, q', _, _, _, h, h', _⟩ => ⟨.inl h, .inl h'⟩) ?_ ?_
  · by_cases z : a = D
    · rw [z, upd_same]; exact fun y => nomatch y
    · rw [upd_ne z]; exact h
  · rintro i w H' Hn hi ⟨s, zs', acc, q', L', hr', ht', hd', hd2', hacc, hys, hq', eq, hyl, hk, hdm⟩ ⟨T, y, y2, rfl, hT, rfl, hy, hw⟩
    obtain ⟨d, hd, rd⟩ := hr'.get' hy
    obtain ⟨d2, hd2, rd2⟩ := ht'.get' hw
    rw [List.getElem?_map] at hd hd2
    cases hx : xs[i]? with
    | none => rw [hx] at hd; cases hd
    | some x =>
    cases hx' : ys[i]? with
    | none => rw [hx'] at hd2; cases hd2
    | some x' =>
      rw [hx] at hd
      rw [hx'] at hd2
      cases hd
      cases hd2
      have hzi : (List.zipWith T2.mk xs ys)[i]? = some (T2.mk x x') := by rw [List.getElem?_zipWith, hx, hx']
      have hil : i < xs.length := (List.getElem?_eq_some_iff.mp hx).1
      have TD : T ≠ D := fun z => by rw [z, hacc] at hT; cases hT
      have sT : Same H' (upd H' T (.tup [y, y2])) := same_upd hT
      have LT := L'.same sT
      have rT : Rep C.K (fun a => X a ∨ a = D) (upd H' T (.tup [y, y2])) (enc (T2.mk x x')) (.ref T) := .tup upd_same (.cons (rd.keep (.same sT)) (.cons (rd2.keep (.same sT)) .nil))
      have rT1 := hr'.keep (.same sT)
      have rT2 := ht'.keep (.same sT)
      have kd : ∀ {c : Addr} {ws : List V}, Rd H' c (.lst ws) → Rd (upd H' T (.tup [y, y2])) c (.lst ws) := fun h => h.elim (fun h => .inl (sT _ _ h)) fun ⟨o, h⟩ => .inr ⟨o, sT _ _ h⟩
      have haccT := sT _ _ hacc
      have hysT := hys.keep (.same sT)
      have kT : Keep X H (upd H' T (.tup [y, y2])) := hk.trans (.same sT)
      have dT : ∀ a, H a ≠ none → (upd H' T (.tup [y, y2])) a ≠ none := fun a h e => by
        have := hdm a h
        cases e2 : H' a with
        | none => exact this e2
        | some o => rw [sT _ _ e2] at e; cases e
      obtain ⟨r1, q1, h1, h2, h3⟩ := comp_drop hzi hq'
      refine body (T2.mk x x') s _ _ σ _ r1 _ _ h1 LT.enter rT ?_ ?_
      · intro e H'' M
        have k := LT.keep M
        have kd2 : H'' D = some (.lst acc) := M.base D _ haccT (hDm s)
        refine ⟨r1.2, zs', acc, q1, LT.leave M (hG _ _), rT1.keep k, rT2.keep k, k.rd hna' (kd hd'), k.rd hnb' (kd hd2'), kd2, hysT.keep k, h2, ?_, Nat.le_succ_of_le hyl, ?_, fun a h => M.dom a (dT a h)⟩
        · rw [eq, h3, e]
        · refine ⟨fun b o hb n => ?_, fun b vs hb => k.2.1 b vs (kT.2.1 b vs hb), fun b o u hb => k.2.2 b o u (kT.2.2 b o u hb)⟩
          have hbD : b ≠ D := fun z => by rw [z, hD] at hb; cases hb
          exact k.1 b o (kT.1 b o hb n) fun z => z.elim n hbD
      · intro yv e v H'' M rv
        have k := LT.keep M
        have kd2 : H'' D = some (.lst acc) := M.base D _ haccT (hDm s)
        have L2 := LT.leave M (hG _ _)
        obtain ⟨L3, k3⟩ := L2.wroteX (p := D) (o' := .lst (acc ++ [v])) (.inr rfl) (hDm _) kd2 h0 (fun _ z => nomatch z) (fun _ _ z => nomatch z)
        have k4 := k.trans k3
        have hal : acc.length = zs'.length := by rw [hys.length, List.length_map]
        refine ⟨acc, kd2, by rw [line_eq]; omega, r1.2, zs' ++ [yv], acc ++ [v], q1, L3, rT1.keep k4, rT2.keep k4, k4.rd hna' (kd hd'), k4.rd hnb' (kd hd2'), upd_same, ?_, h2, ?_, ?_, ?_, ?_⟩
        · rw [List.map_append]
          exact (hysT.keep k4).append (.cons (rv.keep k3) .nil)
        · rw [eq, h3, e]
          show (zs' ++ yv :: q1.1, q1.2) = (zs' ++ [yv] ++ q1.1, q1.2)
          rw [List.append_assoc]; rfl
        · rw [List.length_append]; exact Nat.succ_le_succ hyl
        · refine ⟨fun b o hb n => ?_, fun b vs hb => k4.2.1 b vs (kT.2.1 b vs hb), fun b o u hb => k4.2.2 b o u (kT.2.2 b o u hb)⟩
          have hbD : b ≠ D := fun z => by rw [z, hD] at hb; cases hb
          exact k4.1 b o (kT.1 b o hb n) fun z => z.elim n hbD
        · intro a h
          by_cases z : a = D
          · rw [z, upd_same]; exact fun y => nomatch y
          · rw [upd_ne z]; exact M.dom a (dT a h)
  · rintro H' ⟨s, zs', acc, q', L', _, _, _, _, hacc, hys, hq', eq, _, hk, hdm⟩
    rw [List.drop_eq_nil_of_le (by omega)] at hq'
    cases hq'
    rw [List.append_nil] at eq
    subst eq
    exact lc_data L hD L' (hG _ _) hk ⟨acc, hacc, hys⟩ (h D H')
theorem for_zipM {K : PySem.W.Frag} {a b : Addr} {xs ys : List V} {g : TG} {tb : TS} {D : Ends} {σ : L2.St} {H : Hp} (Pv : Nat → L2.St → Hp → Prop) (h0 : Pv 0 σ H) (hq : ∀ i σ H, Pv i σ H → SqL K H a xs ∧ SqL K H b ys)
    (hs : ∀ (i : Nat) (x y : V) (T : Addr) (σ : L2.St) (H : Hp), xs[i]? = some x → ys[i]? = some y → Pv i σ H → H T = none → g (.ref T) σ (upd H T (.tup [x, y])) fun σ2 H2 => tb { D with nx := Pv (i + 1), ct := Pv (i + 1), bk := D.nx } σ2 H2) (hd : ∀ σ H, Pv (min xs.length ys.length) σ H → D.nx σ H) :
    ∃ W : Nat → Nat → L2.St → Hp → Prop, (∃ m, W 0 m σ H) ∧ ∀ i m σ H, W i m σ H →
      ((Itz K a b).stop i H ∧ D.nx σ H) ∨ ((Itz K a b).go i H ∧ ∃ N : L2.St → Hp → Prop, (∀ σ' H', N σ' H' → ∃ m', m' < m ∧ W (i + 1) m' σ' H') ∧ ∀ v H', (Itz K a b).yld i H v H' → g v σ H' fun σ2 H2 => tb { D with nx := N, ct := N, bk := D.nx } σ2 H2) := by
  refine ⟨fun i m σ H => m = min xs.length ys.length - i ∧ i ≤ min xs.length ys.length ∧ Pv i σ H, ⟨min xs.length ys.length, rfl, Nat.zero_le _, h0⟩, ?_⟩
  rintro i m σ H ⟨rfl, hi, p⟩
  obtain ⟨qx, qy⟩ := hq i σ H p
  by_cases hlt : i < min xs.length ys.length
  · have h1 : i < xs.length := by omega
    have h2 : i < ys.length := by omega
    refine .inr ⟨⟨xs, ys, _, _, qx, qy, List.getElem?_eq_getElem h1, List.getElem?_eq_getElem h2⟩, Pv (i + 1), fun σ' H' p' => ⟨min xs.length ys.length - (i + 1), by omega, rfl, hlt, p'⟩, fun v H' y => ?_⟩
    obtain ⟨T, x', y', rfl, hT, rfl, f1, f2⟩ := y
    exact hs i x' y' T σ H (f1 xs qx) (f2 ys qy) p hT
  · have e : i = min xs.length ys.length := by omega
    subst e
    exact .inl ⟨⟨xs, ys, qx, qy, by omega⟩, hd σ H p⟩
theorem x_flZ [Py α] [Py β] {xs : List α} {ys : List β} {f : T2 α β → τ → Option (Lp τ ρ)} {G : τ → List Sl} {ps : ρ → List (Addr × MO)} {rs : ρ → Rs} {s0 : τ} {u v : V} {g : TG} {tb : TS} {nx bk ct : L2.St → Hp → Prop} {rt : VK} {zs : List (T2 α β)} {δ : Type} {k : τ → Option δ} {j : ρ → Option δ} {res : δ}
    (hz : zipO xs ys = some zs) (L : Lo C X H σ (G s0)) (hG : ∀ s s', muts (G s) = muts (G s')) (r : Rep C.K X H (enc xs) u) (q : Rep C.K X H (enc ys) v) (hm : (loopL f zs s0).bind (fun o => o.out j k) = some res)
    (body : ∀ x s, Body C X G ps rs (enc x) s (f x s) g tb) (done : ∀ s σ' H', k s = some res → Lo C X H' σ' (G s) → nx σ' H')
    (ret : ∀ q v H', j q = some res → Fin C.K C.X0 C.H0 C.P0 (ps q) (rs q) v H' → rt v H') : KForZ C.K g tb ⟨nx, rt, bk, ct⟩ σ [u, v] H := by
  obtain ⟨o, h1, h2⟩ := ob hm
  obtain ⟨a, vs, rfl, hna, hrd, hrs⟩ := rep_lst (ds := xs.map enc) r
  obtain ⟨b, us, rfl, hnb, hrb, hrt⟩ := rep_lst (ds := ys.map enc) q
  have hz2 : zs = List.zipWith T2.mk xs ys := (Option.some.inj hz).symm
  subst hz2
  have e1 : vs.length = xs.length := by rw [hrs.length, List.length_map]
  have e2 : us.length = ys.length := by rw [hrt.length, List.length_map]
  have hlz : (List.zipWith T2.mk xs ys).length = min xs.length ys.length := List.length_zipWith
  refine ⟨a, b, vs, us, rfl, .inl hrd, .inl hrb, for_zipM (K := C.K) (a := a) (b := b) (xs := vs) (ys := us) (fun i σ' H' => ∃ s, Lo C X H' σ' (G s) ∧ Reps C.K X H' (xs.map enc) vs ∧ Reps C.K X H' (ys.map enc) us ∧ Rd H' a (.lst vs) ∧ Rd H' b (.lst us) ∧ loopL f ((List.zipWith T2.mk xs ys).drop i) s = some o)
    ⟨s0, L, hrs, hrt, hrd, hrb, h1⟩ (fun i σ' H' ⟨s, _, _, _, h, h', _⟩ => ⟨.inl h, .inl h'⟩) ?_ ?_⟩
  · rintro i y w T σ' H' hy hw ⟨s, L', r', q', hd, hd', hm''⟩ hT
    obtain ⟨d, hd1, rd⟩ := r'.get' hy
    obtain ⟨d', hd2, rd'⟩ := q'.get' hw
    rw [List.getElem?_map] at hd1 hd2
    cases hx : xs[i]? with
    | none => rw [hx] at hd1; cases hd1
    | some x =>
    cases hx' : ys[i]? with
    | none => rw [hx'] at hd2; cases hd2
    | some x' =>
      rw [hx] at hd1
      rw [hx'] at hd2
      cases hd1
      cases hd2
      have hzi : (List.zipWith T2.mk xs ys)[i]? = some (T2.mk x x') := by rw [List.getElem?_zipWith, hx, hx']
      obtain ⟨o1, g1, g2, g3, g4⟩ := loop_drop hzi hm''
      have sT : Same H' (upd H' T (.tup [y, w])) := same_upd hT
      have LT := L'.same sT
      have rT : Rep C.K X (upd H' T (.tup [y, w])) (enc (T2.mk x x')) (.ref T) := .tup upd_same (.cons (rd.keep (.same sT)) (.cons (rd'.keep (.same sT)) .nil))
      have rT1 := r'.keep (.same sT)
      have rT2 := q'.keep (.same sT)
      have kd : ∀ {c : Addr} {ws : List V}, Rd H' c (.lst ws) → Rd (upd H' T (.tup [y, w])) c (.lst ws) := fun h => h.elim (fun h => .inl (sT _ _ h)) fun ⟨o, h⟩ => .inr ⟨o, sT _ _ h⟩
      refine body (T2.mk x x') s _ σ' _ _ _ _ _ o1 g1 LT.enter LT.dom rT ?_ ?_ ?_ ?_
      · intro s' e X' σ'' H'' L''
        have k := LT.keep L''
        exact ⟨s', LT.leave L'' (hG _ _), rT1.keep k, rT2.keep k, k.rd hna (kd hd), k.rd hnb (kd hd'), g2 s' e⟩
      · intro s' e X' σ'' H'' L''
        have k := LT.keep L''
        exact ⟨s', LT.leave L'' (hG _ _), rT1.keep k, rT2.keep k, k.rd hna (kd hd), k.rd hnb (kd hd'), g2 s' e⟩
      · intro s' e X' σ'' H'' L''
        exact done _ _ _ (by rw [g3 s' e] at h2; exact h2) (LT.leave L'' (hG _ _))
      · intro q e v' H'' F
        exact ret q v' H'' (by rw [g4 q e] at h2; exact h2) (F.leave LT)
  · rintro σ' H' ⟨s, L', _, _, _, _, hm''⟩
    rw [List.drop_eq_nil_of_le (by omega)] at hm''
    have e : o = .nxt s := (Option.some.inj hm'').symm
    exact done _ _ _ (by rw [e] at h2; exact h2) L'
theorem x_foZ [Py α] [Py β] {xs : List α} {ys : List β} {f : T2 α β → τ → Option τ} {G : τ → List Sl} {s0 : τ} {u v : V} {g : TG} {tb : TS} {nx bk ct : L2.St → Hp → Prop} {rt : VK} {zs : List (T2 α β)} {k : τ → Option ρ} {res : ρ}
    (hz : zipO xs ys = some zs) (L : Lo C X H σ (G s0)) (hG : ∀ s s', muts (G s) = muts (G s')) (r : Rep C.K X H (enc xs) u) (q : Rep C.K X H (enc ys) v) (hm : (foldO f zs s0).bind k = some res)
    (body : ∀ x s, BodyO C X G (enc x) s (f x s) g tb) (done : ∀ s σ' H', k s = some res → Lo C X H' σ' (G s) → nx σ' H') : KForZ C.K g tb ⟨nx, rt, bk, ct⟩ σ [u, v] H := by
  obtain ⟨s1, h1, h2⟩ := ob hm
  obtain ⟨a, vs, rfl, hna, hrd, hrs⟩ := rep_lst (ds := xs.map enc) r
  obtain ⟨b, us, rfl, hnb, hrb, hrt⟩ := rep_lst (ds := ys.map enc) q
  have hz2 : zs = List.zipWith T2.mk xs ys := (Option.some.inj hz).symm
  subst hz2
  have e1 : vs.length = xs.length := by rw [hrs.length, List.length_map]
  have e2 : us.length = ys.length := by rw [hrt.length, List.length_map]
  have hlz : (List.zipWith T2.mk xs ys).length = min xs.length ys.length := List.length_zipWith
  have hm' := foldO_loop h1
  refine ⟨a, b, vs, us, rfl, .inl hrd, .inl hrb, for_zipM (K := C.K) (a := a) (b := b) (xs := vs) (ys := us) (fun i σ' H' => ∃ s, Lo C X H' σ' (G s) ∧ Reps C.K X H' (xs.map enc) vs ∧ Reps C.K X H' (ys.map enc) us ∧ Rd H' a (.lst vs) ∧ Rd H' b (.lst us) ∧ loopL (ρ := Empty) (fun x s => (f x s).bind fun s' => some (.nxt s')) ((List.zipWith T2.mk xs ys).drop i) s = some (.nxt s1))
    ⟨s0, L, hrs, hrt, hrd, hrb, hm'⟩ (fun i σ' H' ⟨s, _, _, _, h, h', _⟩ => ⟨.inl h, .inl h'⟩) ?_ ?_⟩
  · rintro i y w T σ' H' hy hw ⟨s, L', r', q', hd, hd', hm''⟩ hT
    obtain ⟨d, hd1, rd⟩ := r'.get' hy
    obtain ⟨d', hd2, rd'⟩ := q'.get' hw
    rw [List.getElem?_map] at hd1 hd2
    cases hx : xs[i]? with
    | none => rw [hx] at hd1; cases hd1
    | some x =>
    cases hx' : ys[i]? with
    | none => rw [hx'] at hd2; cases hd2
    | some x' =>
      rw [hx] at hd1
      rw [hx'] at hd2
      cases hd1
      cases hd2
      have hzi : (List.zipWith T2.mk xs ys)[i]? = some (T2.mk x x') := by rw [List.getElem?_zipWith, hx, hx']
      obtain ⟨o1, g1, g2, g3, g4⟩ := loop_drop hzi hm''
      have sT : Same H' (upd H' T (.tup [y, w])) := same_upd hT
      have LT := L'.same sT
      have rT : Rep C.K X (upd H' T (.tup [y, w])) (enc (T2.mk x x')) (.ref T) := .tup upd_same (.cons (rd.keep (.same sT)) (.cons (rd'.keep (.same sT)) .nil))
      have rT1 := r'.keep (.same sT)
      have rT2 := q'.keep (.same sT)
      have kd : ∀ {c : Addr} {ws : List V}, Rd H' c (.lst ws) → Rd (upd H' T (.tup [y, w])) c (.lst ws) := fun h => h.elim (fun h => .inl (sT _ _ h)) fun ⟨o, h⟩ => .inr ⟨o, sT _ _ h⟩
      refine (body (T2.mk x x') s).body _ σ' _ _ _ _ _ o1 g1 LT.enter LT.dom rT ?_ ?_ ?_ ?_
      · intro s' e X' σ'' H'' L''
        have k := LT.keep L''
        exact ⟨s', LT.leave L'' (hG _ _), rT1.keep k, rT2.keep k, k.rd hna (kd hd), k.rd hnb (kd hd'), g2 s' e⟩
      · intro s' e X' σ'' H'' L''
        have k := LT.keep L''
        exact ⟨s', LT.leave L'' (hG _ _), rT1.keep k, rT2.keep k, k.rd hna (kd hd), k.rd hnb (kd hd'), g2 s' e⟩
      · intro s' e
        have := g3 s' e
        cases this
      · intro q e
        exact q.elim
  · rintro σ' H' ⟨s, L', _, _, _, _, hm''⟩
    rw [List.drop_eq_nil_of_le (by omega)] at hm''
    have e : s = s1 := by
      have : (some (Lp.nxt s) : Option (Lp τ Empty)) = some (.nxt s1) := hm''
      cases this; rfl
    subst e
    exact done _ _ _ h2 L'
def rInsert : V → List V → Hp → VK → Prop := fun x vs H Q => ∃ (l : Addr) (xs : List V) (i : Int) (y : V), x = .ref l ∧ vs = [.int i, y] ∧ H l = some (.lst xs) ∧ xs.length < sizeLine ∧ 0 ≤ i ∧ i < 2 ^ 63 ∧ Q .non (upd H l (.lst (xs.take i.toNat ++ [y] ++ xs.drop i.toNat)))
theorem mt_insertX {Xc : Cx} : MtR Xc "list.insert" rInsert := mt_insert
theorem x_insert [Py α] {G' : List α → List Sl} {xs : List α} {x : α} {n : Int} {v : V} {i : Nat} {p : Addr} {k : List α → Option ρ} {r : ρ} (L : Lo C X H σ Γ) (g : Γ[i]? = some (.mu p (ml xs))) (hm : (insO xs n x).bind k = some r) (q : Rep C.K X H (enc x) v) (e : ∀ ys, Γ.set i (.mu p (ml ys)) = G' ys)
    (h : ∀ ys H1, k ys = some r → Lo C X H1 σ (G' ys) → (∀ d u, Rep C.K X H d u → Rep C.K X H1 d u) → Q .non H1) : rInsert (.ref p) [.int n, v] H Q := by
  obtain ⟨zs, h1, hk⟩ := ob hm
  unfold insO at h1
  split at h1
  next hc =>
    cases h1
    obtain ⟨vs, hs, rs⟩ := L.mrep g
    have hlen : vs.length = xs.length := by rw [rs.length, List.length_map]
    obtain ⟨L1, le⟩ := L.write (es := (xs.take n.toNat ++ [x] ++ xs.drop n.toNat).map enc) (ws := vs.take n.toNat ++ [v] ++ vs.drop n.toNat) g hs (by
      rw [List.map_append, List.map_append, List.map_take, List.map_drop]
      exact ((rs.take n.toNat).append (.cons q .nil)).append (rs.drop n.toNat))
    rw [e] at L1
    exact ⟨p, vs, n, v, rfl, rfl, hs, by rw [line_eq]; omega, hc.1, by omega, h _ _ hk L1 le⟩
  · cases h1
theorem x_r3two {a b : Int} {R : Int → Int → Nat → Hp → Prop} {k : Unit → Option ρ} {r : ρ} (hm : ((rngOk a).bind fun _ => rngOk b).bind k = some r) (h : k () = some r → R a 2 ((b - a + 1) / 2).toNat H) : KRng3 R [.int a, .int b, .int 2] H := by
  obtain ⟨_, h0, hk⟩ := ob hm
  obtain ⟨_, h1, h2⟩ := ob h0
  have a1 : -(2 ^ 62) ≤ a ∧ a < 2 ^ 62 := by
    unfold rngOk at h1
    split at h1
    · omega
    · cases h1
  have a2 : -(2 ^ 62) ≤ b ∧ b < 2 ^ 62 := by
    unfold rngOk at h2
    split at h2
    · omega
    · cases h2
  have rs : Builtin.Range.rangeSize a b 2 = (((b - a + 1) / 2).toNat : Int) := by
    unfold Builtin.Range.rangeSize
    simp only [show ((2 : Int) > 0) by decide, if_true]
    split <;> omega
  refine ⟨a, b, 2, _, rfl, ⟨by decide, by decide, ?_, rs⟩, h hk⟩
  unfold Builtin.Range.small
  rw [rs]
  simp only [Builtin.Range.rangeFitsLong, Bool.and_eq_true, Bool.or_eq_true, decide_eq_true_eq, beq_iff_eq, show ((2 : Int) > 0) by decide, if_true]
  omega
theorem x_foTwo {f : Int → τ → Option τ} {G : τ → List Sl} {s0 : τ} {lo : Int} {n : Nat} {g : TG} {tb : TS} {nx bk ct : L2.St → Hp → Prop} {rt : VK} {k : τ → Option ρ} {res : ρ}
    (L : Lo C X H σ (G s0)) (hG : ∀ s s', muts (G s) = muts (G s')) (hm : (foldO f (twoL lo n) s0).bind k = some res)
    (body : ∀ x s, BodyO C X G (enc x) s (f x s) g tb) (done : ∀ s σ' H', k s = some res → Lo C X H' σ' (G s) → nx σ' H') : KForC lo 2 n g tb ⟨nx, rt, bk, ct⟩ σ H := by
  obtain ⟨s1, h1, h2⟩ := ob hm
  have hm1 := foldO_loop h1
  have hlen : (twoL lo n).length = n := by unfold twoL; rw [List.length_map, List.length_range]
  refine ⟨fun i m σ' H' => m = n - i ∧ i ≤ n ∧ ∃ s, Lo C X H' σ' (G s) ∧ loopL (ρ := Empty) (fun x s => (f x s).bind fun s' => some (.nxt s')) ((twoL lo n).drop i) s = some (.nxt s1), ⟨n, by simp, Nat.zero_le _, s0, L, hm1⟩, ?_⟩
  rintro i m σ' H' ⟨rfl, hi, s, L', hm'⟩
  by_cases hlt : i < n
  · refine .inr ⟨hlt, fun σ'' H'' => i + 1 ≤ n ∧ ∃ s, Lo C X H'' σ'' (G s) ∧ loopL (ρ := Empty) (fun x s => (f x s).bind fun s' => some (.nxt s')) ((twoL lo n).drop (i + 1)) s = some (.nxt s1), fun σ'' H'' p' => ⟨n - (i + 1), by omega, rfl, p'⟩, ?_⟩
    rintro v H2 ⟨rfl, rfl⟩
    have hx : (twoL lo n)[i]? = some (lo + (i : Int) * 2) := by
      unfold twoL
      rw [List.getElem?_map, List.getElem?_range hlt]; rfl
    obtain ⟨o1, g1, g2, g3, g4⟩ := loop_drop hx hm'
    refine (body _ s).body _ σ' _ _ _ _ _ o1 g1 L'.enter L'.dom (.int _) ?_ ?_ ?_ ?_
    · intro s' e X' σ'' H'' L''
      exact ⟨hlt, s', L'.leave L'' (hG _ _), g2 s' e⟩
    · intro s' e X' σ'' H'' L''
      exact ⟨hlt, s', L'.leave L'' (hG _ _), g2 s' e⟩
    · intro s' e
      have := g3 s' e
      cases this
    · intro q e
      exact q.elim
  · have : i = n := by omega
    subst this
    rw [List.drop_eq_nil_of_le (by omega)] at hm'
    have e : s = s1 := by
      have : (some (Lp.nxt s) : Option (Lp τ Empty)) = some (.nxt s1) := hm'
      cases this; rfl
    subst e
    exact .inl ⟨Nat.le_refl _, done _ _ _ h2 L'⟩
/-- a < b < c, c's reckoning does something -/
theorem x_chB {A : Bool} {m : Option Bool} {k : Bool → Option ρ} {r : ρ} {tc : TE} {r' : R2} {y : V} (L : Lo C X H σ Γ) (hm : (if A = true then m else some false).bind k = some r)
    (hu : ∀ b, m = some b → ∀ Q' : VK, (∀ H2, Lo C X H2 σ Γ → Q' (.bl b) H2) → tc σ H fun w H4 => r' y w H4 Q') (h : ∀ b H2, k b = some r → Lo C X H2 σ Γ → Q (.bl b) H2) : KCh tc r' σ y Q (.bl A) H := by
  refine ⟨A, rfl, ?_⟩
  cases A with
  | true =>
    obtain ⟨b, e, hk⟩ := ob hm
    exact hu b e Q fun H2 l => h b H2 hk l
  | false => exact h false H hm L
end
section
variable {C : Cn} {X : Addr → Prop} {H : Hp} {σ : L2.St} {Γ Γ' : List Sl} {Q : VK} {α β τ ρ : Type}
theorem x_catT {ds es fs : List PyData} {u v : V} (L : Lo C X H σ Γ) (r : Rep C.K X H (.tuple ds) u) (q : Rep C.K X H (.tuple es) v) (hl : ds.length + es.length ≤ 16777216) (h1 : ds ≠ []) (h2 : es ≠ []) (e : ds ++ es = fs)
    (h : ∀ w H1, Lo C X H1 σ Γ → (∀ d u, Rep C.K X H d u → Rep C.K X H1 d u) → Rep C.K X H1 (.tuple fs) w → Q w H1) : rCatT C.K u v H Q := by
  subst e
  obtain ⟨a, vs, rfl, hv, rv⟩ := rep_tupS r
  obtain ⟨b, us, rfl, hu, ru⟩ := rep_tupS q
  have l1 := rv.length
  have l2 := ru.length
  have n1 : vs ≠ [] := fun z => h1 (by subst z; exact List.eq_nil_of_length_eq_zero (by rw [← l1]; rfl))
  have n2 : us ≠ [] := fun z => h2 (by subst z; exact List.eq_nil_of_length_eq_zero (by rw [← l2]; rfl))
  refine ⟨a, b, vs, us, rfl, rfl, .inl (.inl hv), .inl (.inl hu), n1, by rw [line_eq]; omega, fun z => absurd z n2, fun _ p hp => ?_⟩
  have s : Same H (upd H p (.tup (vs ++ us))) := same_upd hp
  exact h _ _ (L.same s) (fun _ _ r => r.keep (.same s)) (.tup upd_same ((rv.append ru).keep (.same s)))
end
open Py (enc)
/-! ### dicts whose keys are tuples of tuples -/
mutual
inductive KIs (H : Hp) : NestedKey → V → Prop
  | num (i : Int) : KIs H (.num i) (.int i)
  | tup {a : Addr} {ks : List NestedKey} {vs : List V} : H a = some (.tup vs) → KAll H ks vs → KIs H (.tup ks) (.ref a)
inductive KAll (H : Hp) : List NestedKey → List V → Prop
  | nil : KAll H [] []
  | cons {k : NestedKey} {v : V} {ks : List NestedKey} {vs : List V} : KIs H k v → KAll H ks vs → KAll H (k :: ks) (v :: vs)
end
mutual
theorem KIs.real {P : Program} {w : World} {H : Hp} {h : Heap} (ok : HOk P w H h) : ∀ {k : NestedKey} {v : V} {u : Value}, KIs H k v → RelV v u → NestedIs h k u
  | _, _, _, .num i, r => by obtain ⟨t, rfl⟩ := r; exact .int i t
  | _, _, _, .tup (a := a) e al, r => by
    cases r
    obtain ⟨_, its, rv, o, ho, hc, n, hd⟩ := ok a _ e
    exact .tup ho hc hd (by simpa using KAll.real ok al rv)
theorem KAll.real {P : Program} {w : World} {H : Hp} {h : Heap} (ok : HOk P w H h) : ∀ {ks : List NestedKey} {vs : List V} {us : List Value}, KAll H ks vs → Vals vs us → NestedAll h ks us
  | _, _, _, .nil, .nil => .nil
  | _, _, _, .cons a b, .cons r t => .cons (KIs.real ok a r) (KAll.real ok b t)
end
abbrev NXs : Type := List (NestedKey × Addr × Value)
def NR (P : Program) (w : World) (a : Addr) (xs : NXs) (h : Heap) : Prop := (a == sysModules) = false ∧ xs.length ≤ sizeLine ∧ ∃ o es ep, h.get? a = some o ∧ o.ExactDict ∧ o.data = .dict es ep ∧ es.toList = xs.map (entryOfKey (nestedKind P w))
def NdO (P : Program) (w : World) (a : Addr) (xs : NXs) : HO := .ext (NR P w a xs)
theorem nd_new {P : Program} {w : World} {H : Hp} {h : Heap} {a : Addr} {xs : NXs} (r : NR P w a xs h) : ObjOk P w H h a (NdO P w a xs) := by
  obtain ⟨z, l, o, es, ep, ho, q⟩ := id r
  exact ⟨r, ⟨o, ho⟩, fun h1 h2 ⟨z, l, o, es, ep, ho, q⟩ k => ⟨z, l, o, es, ep, k o ho, q⟩⟩
def NKeys (H : Hp) (xs : NXs) : Prop := (∀ x ∈ xs, KIs H x.1 (.ref x.2.1) ∧ x.1.depth ≤ 8) ∧ (xs.map (·.1)).Nodup
def RdN (P : Program) (w : World) (H : Hp) (a : Addr) (xs : NXs) : Prop := H a = some (NdO P w a xs) ∨ ∃ o, H a = some (.frz o (NdO P w a xs))
theorem nd_of {P : Program} {w : World} {H : Hp} {h : Heap} {a : Addr} {xs : NXs} (ok : HOk P w H h) (e : RdN P w H a xs) (k : NKeys H xs) : (a == sysModules) = false ∧ xs.length ≤ sizeLine ∧ h.DictOfH (nestedKind P w) a xs := by
  have r : NR P w a xs h := by
    rcases e with e | ⟨o, e⟩
    · exact (ok a _ e).1
    · exact (ok a _ e).2.1
  obtain ⟨z, l, o, es, ep, ho, hx, hd, he⟩ := r
  exact ⟨z, l, o, es, ep, ho, hx, hd, he, fun x hx' => ⟨KIs.real ok (k.1 x hx').1 rfl, (k.1 x hx').2⟩, k.2⟩
theorem nr_of {P : Program} {w : World} {h : Heap} {a : Addr} {xs : NXs} (z : (a == sysModules) = false) (l : xs.length ≤ sizeLine) (d : h.DictOfH (nestedKind P w) a xs) : NR P w a xs h := by
  obtain ⟨o, es, ep, ho, hx, hd, he, _⟩ := d
  exact ⟨z, l, o, es, ep, ho, hx, hd, he⟩
theorem nd_key {P : Program} {w : World} {H : Hp} {h : Heap} {k : NestedKey} {b : Addr} (ok : HOk P w H h) (q : KIs H k (.ref b)) (d : k.depth ≤ 8) : (nestedKind P w).is h k b := ⟨KIs.real ok q rfl, d⟩
/-- {} -/
def tNNew (P : Program) (w : World) : TE := fun _ H Q => ∀ p, H p = none → Q (.ref p) (upd H p (NdO P w p []))
/-- what a key tells -/
def NGet (P : Program) (w : World) (H : Hp) (a : Addr) (y : V) (o : Option V) : Prop := ∃ xs k b, RdN P w H a xs ∧ NKeys H xs ∧ y = .ref b ∧ KIs H k (.ref b) ∧ k.depth ≤ 8 ∧ RelO o ((atKey xs k).map (·.2))
def IsN (P : Program) (w : World) (H : Hp) (a : Addr) : Prop := ∃ xs, RdN P w H a xs ∧ NKeys H xs
def tNGet (P : Program) (w : World) (td ty : TE) : TE := fun σ H Q => td σ H fun x H1 => ty σ H1 fun y H2 => ∃ a v, x = .ref a ∧ NGet P w H2 a y (some v) ∧ Q v H2
def tNGet2 (P : Program) (w : World) (td ty tx : TE) : TE := fun σ H Q => td σ H fun x H1 => ∃ a, x = .ref a ∧ IsN P w H1 a ∧ ty σ H1 fun y H2 => tx σ H2 fun z H3 => ∃ o, NGet P w H3 a y o ∧ Q (o.getD z) H3
def sNPut (P : Program) (w : World) (td ty tv : TE) : TS := fun D σ H => tv σ H fun v H1 => td σ H1 fun x H2 => ty σ H2 fun y H3 => ∃ a xs k b, x = .ref a ∧ H3 a = some (NdO P w a xs) ∧ NKeys H3 xs ∧ y = .ref b ∧ KIs H3 k (.ref b) ∧ k.depth ≤ 8 ∧ xs.length < sizeLine ∧ ∀ r : Value, RelV v r → D.nx σ (upd H3 a (NdO P w a (storedH xs k b r)))
section
variable {X : Cx} {o i e f value : Expr} {pos pos' apos cpos : Pos} {td ty tx tv : TE}
theorem pe_nnew : PE X (.Dict [] [] pos) (tNNew X.prog X.w) := ⟨fun pins s σ H Q I h =>
  wpAny_Dict_empty ⟨.ref s.heap.objs.size, _, I.laid (a := s.heap.objs.size) (o := NdO X.prog X.w s.heap.objs.size []) (t' := s.toks) (fun _ _ q => Heap.get?_push_of_some _ q) (Nat.le_refl _)
    (nd_new ⟨beq_eq_false_iff_ne.mpr (Ne.symm (Nat.ne_of_lt I.big)), Nat.zero_le _, _, #[], 0, Heap.get?_push_size _ rfl, ⟨rfl, rfl, rfl⟩, rfl, rfl⟩), rfl, h _ (I.hok.fresh (Nat.le_refl _))⟩⟩
theorem nroom {A : Around} (hu : A.units + 65 < cLine) {P : Program} {w : World} : (nestedKind P w).room A.in1 := by
  show A.units + 1 + 8 < cLine
  omega
theorem ndict_typeIs {pins : List (Addr × Obj)} {σ : L2.St} {H : Hp} {s : Shared} {a : Addr} (I : Inv X pins σ H s) (d : IsN X.prog X.w H a) :
    s.TypeIs (.ref a) "dict" ∧ (∀ b, Value.ref a = .ref b → ∃ ob, s.heap.get? b = some ob ∧ ob.dict = none) := by
  obtain ⟨xs, e, k⟩ := d
  obtain ⟨z, l, dd⟩ := nd_of I.hok e k
  refine ⟨dd.typeIs, fun b q => ?_⟩
  cases q
  obtain ⟨ob, _, _, h1, h2, _⟩ := dd
  exact ⟨ob, h1, h2.2.1⟩
theorem NGet.is {P : Program} {w : World} {H : Hp} {a : Addr} {y : V} {o : Option V} (g : NGet P w H a y o) : IsN P w H a := by
  obtain ⟨xs, _, _, e, k, _⟩ := g
  exact ⟨xs, e, k⟩
theorem pe_nget (hu : X.A.units + 65 < cLine) (ho : PE X o td) (hi : PE X i ty) (hs : NoSl i) : PE X (.Subscript o i pos) (tNGet X.prog X.w td ty) := by
  refine ⟨fun pins s σ H Q I h => ?_⟩
  refine subD_of PySem.F.slot_dict_getitem.lookup hs (thn (ho.run pins s σ H _ I h) fun u s1 ⟨x, H1, I1, rx, q1⟩ => thn (hi.run pins s1 σ H1 _ I1 q1) fun iv s2 ⟨y, H2, I2, ry, a, v, ex, g, q2⟩ => ?_)
  subst ex
  obtain rfl : u = Value.ref a := rx
  refine ⟨(ndict_typeIs I2 g.is).1, ?_⟩
  obtain ⟨xs, k, b, e, nk, ey, kb, kd, l⟩ := g
  subst ey
  cases (show iv = Value.ref b from ry)
  obtain ⟨z, _, dd⟩ := nd_of I2.hok e nk
  obtain ⟨w', hw, rw'⟩ := RelO.some_of (v := v) (o := (atKey xs k).map (·.2)) l
  obtain ⟨p, hp, hp2⟩ := Option.map_eq_some_iff.mp hw
  refine wpAny_getItem_heap (nroom hu) (nd_key I2.hok kb kd) dd hp ?_
  rw [hp2]
  exact ⟨v, H2, I2.tok _, rw', q2⟩
theorem pe_ngetK {P : Program} {w : World} (hp : X.prog = P) (hw : X.w = w) (hu : X.A.units + 65 < cLine) (ho : PE X o td) (hi : PE X i ty) (hs : NoSl i) : PE X (.Subscript o i pos) (tNGet P w td ty) := by
  subst hp hw
  exact pe_nget hu ho hi hs
theorem pe_nget2 (hu : X.A.units + 65 < cLine) (ho : PE X o td) (he : PE X e ty) (hf : PE X f tx) (m : M2 X o "get" apos e f cpos) : PE X (.Call (.Attribute o "get" apos) [e, f] [] cpos) (tNGet2 X.prog X.w td ty tx) := by
  refine ⟨fun pins s σ H Q I h => ?_⟩
  refine wpAny_Call_method m.base m.few m.line PySem.F.plainAttrs_dict PySem.F.slot_dict_get PySem.F.type_dict_get (thn (ho.run pins s σ H _ I h) fun u s1 ⟨x, H1, I1, rx, a, ex, d, q1⟩ => ?_)
  subst ex
  obtain rfl : u = Value.ref a := rx
  obtain ⟨t1, t2⟩ := ndict_typeIs I1 d
  refine ⟨t1, t2, ?_⟩
  rw [m.trees]
  refine Calls.callWith_builtin rfl (Calls.evalArgs_plain (Calls.spliced_cons (thn (he.run pins s1 σ H1 _ I1 q1) fun iv s2 ⟨y, H2, I2, ry, q2⟩ =>
    Calls.spliced_cons (thn (hf.run pins s2 σ H2 _ I2 q2) fun fv s3 ⟨z, H3, I3, rz, ov, g, q3⟩ => Calls.spliced_nil ?_))))
  obtain ⟨xs, k, b, e', nk, ey, kb, kd, l⟩ := g
  subst ey
  cases (show iv = Value.ref b from ry)
  obtain ⟨zs, _, dd⟩ := nd_of I3.hok e' nk
  refine call_meetsIn PySem.F.slot_dict_get dd.typeIs PySem.F.entry_dict_get (PySem.F.args_dict_get_3 _ _ _) (meetsH_dict_get_default (nestedKind X.prog X.w) a b zs fv) ⟨nroom hu, k, xs, nd_key I3.hok kb kd, dd, ?_⟩
  exact ⟨_, H3, I3.tok _, l.getD rz, q3⟩
theorem ps_nput (hu : X.A.units + 65 < cLine) (ho : PE X o td) (hi : PE X i ty) (hv : PE X value tv) (hs : swapsWith value (some (.Subscript o i pos')) pos.line X.env = pure false) :
    PS X (.Assign [.Subscript o i pos'] value pos) (sNPut X.prog X.w td ty tv) := by
  refine ⟨fun pins s σ H D I h => ?_⟩
  refine wpAny_Assign_Subscript (thn (hv.run pins s σ H _ I h) fun r s1 ⟨v, H1, I1, rv, q1⟩ => thn (ho.run pins s1 σ H1 _ I1 q1) fun u s2 ⟨x, H2, I2, rx, q2⟩ => thn (hi.run pins s2 σ H2 _ I2 q2) fun iv s3 ⟨y, H3, I3, ry, a, xs, k, b, ex, ha, nk, ey, kb, kd, hl, q3⟩ => ?_) hs
  subst ex
  subst ey
  obtain rfl : u = Value.ref a := rx
  cases (show iv = Value.ref b from ry)
  obtain ⟨z, l, dd⟩ := nd_of I3.hok (.inl ha) nk
  refine wpAny_setItem_heap (hsz := l) (nroom hu) (nd_key I3.hok kb kd) dd fun h' dd' hs' => ?_
  have he : ∃ q, h'.get? a = some q := by
    obtain ⟨q, _, _, hq, _⟩ := id dd'
    exact ⟨q, hq⟩
  have hl' : (storedH xs k b r).length ≤ sizeLine := by
    unfold storedH
    split
    · rw [List.length_map]; exact l
    · rw [List.length_append]; simp; omega
  exact ⟨σ, _, d_write I3 (by rw [ha]; exact True.intro) hs' he (nd_new (nr_of z hl' dd')), q3 r rv⟩
end

/-! ### .. as the layer sees them -/
mutual
def nkD : PyData → NestedKey
  | .int i => .num i
  | .tuple ds => .tup (nkDs ds)
  | _ => .none
def nkDs : List PyData → List NestedKey
  | [] => []
  | d :: ds => nkD d :: nkDs ds
end
mutual
def FlatK : PyData → Prop
  | .int _ => True
  | .tuple ds => FlatKs ds
  | _ => False
def FlatKs : List PyData → Prop
  | [] => True
  | d :: ds => FlatK d ∧ FlatKs ds
end
mutual
theorem Rep.kis {K : PySem.W.Frag} {X : Addr → Prop} {H : Hp} : ∀ {d : PyData} {v : V}, FlatK d → Rep K X H d v → KIs H (nkD d) v
  | _, _, _, .int i => by rw [nkD]; exact .num i
  | _, _, f, .tup h r => by rw [nkD]; rw [FlatK] at f; exact .tup h (Reps.kis f r)
  | .none, _, f, _ => by simp [FlatK] at f
  | .bool _, _, f, _ => by simp [FlatK] at f
  | .str _, _, f, _ => by simp [FlatK] at f
  | .list _, _, f, _ => by simp [FlatK] at f
theorem Reps.kis {K : PySem.W.Frag} {X : Addr → Prop} {H : Hp} : ∀ {ds : List PyData} {vs : List V}, FlatKs ds → Reps K X H ds vs → KAll H (nkDs ds) vs
  | _, _, _, .nil => by rw [nkDs]; exact .nil
  | _, _, f, .cons r t => by rw [nkDs]; rw [FlatKs] at f; exact .cons (Rep.kis f.1 r) (Reps.kis f.2 t)
end
mutual
theorem nkD_inj : ∀ {d e : PyData}, FlatK d → FlatK e → nkD d = nkD e → d = e
  | .int i, .int j, _, _, h => by simp [nkD] at h; rw [h]
  | .tuple ds, .tuple es, f, g, h => by
    rw [FlatK] at f g
    rw [nkD, nkD] at h
    injection h with h
    rw [nkDs_inj f g h]
  | .int i, .tuple es, _, _, h => by simp [nkD] at h
  | .tuple ds, .int j, _, _, h => by simp [nkD] at h
  | .int i, .none, _, g, _ => by simp [FlatK] at g
  | .int i, .bool _, _, g, _ => by simp [FlatK] at g
  | .int i, .str _, _, g, _ => by simp [FlatK] at g
  | .int i, .list _, _, g, _ => by simp [FlatK] at g
  | .int i, .dict _, _, g, _ => by simp [FlatK] at g
  | .tuple _, .none, _, g, _ => by simp [FlatK] at g
  | .tuple _, .bool _, _, g, _ => by simp [FlatK] at g
  | .tuple _, .str _, _, g, _ => by simp [FlatK] at g
  | .tuple _, .list _, _, g, _ => by simp [FlatK] at g
  | .tuple _, .dict _, _, g, _ => by simp [FlatK] at g
  | .none, _, f, _, _ => by simp [FlatK] at f
  | .bool _, _, f, _, _ => by simp [FlatK] at f
  | .str _, _, f, _, _ => by simp [FlatK] at f
  | .list _, _, f, _, _ => by simp [FlatK] at f
  | .dict _, _, f, _, _ => by simp [FlatK] at f
theorem nkDs_inj : ∀ {ds es : List PyData}, FlatKs ds → FlatKs es → nkDs ds = nkDs es → ds = es
  | [], [], _, _, _ => rfl
  | d :: ds, e :: es, f, g, h => by
    rw [FlatKs] at f g
    rw [nkDs, nkDs] at h
    injection h with h1 h2
    rw [nkD_inj f.1 g.1 h1, nkDs_inj f.2 g.2 h2]
  | [], e :: es, _, _, h => by simp [nkDs] at h
  | d :: ds, [], _, _, h => by simp [nkDs] at h
end
class Nk (α : Type) [Py α] where
  flat : ∀ k : α, FlatK (enc k)
  dep : ∀ k : α, (nkD (enc k)).depth ≤ 8
  inj : ∀ k l : α, enc k = enc l → k = l
  tup : ∀ k : α, ∃ ds, enc k = PyData.tuple ds

instance : Nk (T2 (T3 Int (T2 Int Int) (T2 Int Int)) (T3 Int Int Int)) where
  flat := fun k => by simp [enc, FlatK, FlatKs]
  dep := fun k => by simp [enc, nkD, nkDs, NestedKey.depth, NestedKey.depthAll]
  inj := fun k l h => by
    obtain ⟨⟨a, ⟨b, c⟩, ⟨d, e⟩⟩, ⟨f, g, i⟩⟩ := k
    obtain ⟨⟨a', ⟨b', c'⟩, ⟨d', e'⟩⟩, ⟨f', g', i'⟩⟩ := l
    simp [enc] at h
    simp [h]
  tup := fun k => ⟨_, rfl⟩
instance : Nk (T2 (T3 Int Int Int) (T3 Int Int Int)) where
  flat := fun k => by simp [enc, FlatK, FlatKs]
  dep := fun k => by simp [enc, nkD, nkDs, NestedKey.depth, NestedKey.depthAll]
  inj := fun k l h => by
    obtain ⟨⟨a, b, c⟩, ⟨f, g, i⟩⟩ := k
    obtain ⟨⟨a', b', c'⟩, ⟨f', g', i'⟩⟩ := l
    simp [enc] at h
    simp [h]
  tup := fun k => ⟨_, rfl⟩
inductive NEnt (K : PySem.W.Frag) (X : Addr → Prop) (H : Hp) : List (PyData × Int) → NXs → Prop
  | nil : NEnt K X H [] []
  | cons {d : PyData} {i : Int} {t : Tok} {b : Addr} {es : List (PyData × Int)} {xs : NXs} : Rep K X H d (.ref b) → FlatK d → (nkD d).depth ≤ 8 → NEnt K X H es xs → NEnt K X H ((d, i) :: es) ((nkD d, b, .int i t) :: xs)
section
variable {K : PySem.W.Frag} {X Y : Addr → Prop} {H H' : Hp}
theorem NEnt.keep (k : Keep X H H') : ∀ {es : List (PyData × Int)} {xs : NXs}, NEnt K X H es xs → NEnt K X H' es xs
  | _, _, .nil => .nil
  | _, _, .cons r f d t => .cons (r.keep k) f d (t.keep k)
theorem NEnt.anti (h : ∀ a, Y a → X a) : ∀ {es : List (PyData × Int)} {xs : NXs}, NEnt K X H es xs → NEnt K Y H es xs
  | _, _, .nil => .nil
  | _, _, .cons r f d t => .cons (r.anti h) f d (t.anti h)
theorem NEnt.more {p : Addr} (h : H p = none) : ∀ {es : List (PyData × Int)} {xs : NXs}, NEnt K X H es xs → NEnt K (fun a => X a ∨ a = p) H es xs
  | _, _, .nil => .nil
  | _, _, .cons r f d t => .cons (r.more h) f d (t.more h)
theorem NEnt.len : ∀ {es : List (PyData × Int)} {xs : NXs}, NEnt K X H es xs → xs.length = es.length
  | _, _, .nil => rfl
  | _, _, .cons _ _ _ t => congrArg (· + 1) t.len
theorem NEnt.flat : ∀ {es : List (PyData × Int)} {xs : NXs}, NEnt K X H es xs → ∀ e ∈ es, FlatK e.1
  | _, _, .nil, _, h => nomatch h
  | _, _, .cons _ f _ t, e, h => by
    rcases List.mem_cons.mp h with z | z
    · rw [z]; exact f
    · exact t.flat e z
theorem NEnt.keys : ∀ {es : List (PyData × Int)} {xs : NXs}, NEnt K X H es xs → (es.map (·.1)).Nodup → NKeys H xs
  | _, _, .nil, _ => ⟨fun _ h => (nomatch h), List.nodup_nil⟩
  | _, _, .cons (d := d) r f dp t, n => by
    rw [List.map_cons, List.nodup_cons] at n
    obtain ⟨k1, k2⟩ := t.keys n.2
    refine ⟨fun x hx => ?_, ?_⟩
    · rcases List.mem_cons.mp hx with z | z
      · rw [z]; exact ⟨Rep.kis f r, dp⟩
      · exact k1 x z
    · rw [List.map_cons, List.nodup_cons]
      refine ⟨fun hm => ?_, k2⟩
      have : ∀ {es : List (PyData × Int)} {xs : NXs}, NEnt K X H es xs → nkD d ∈ xs.map (·.1) → d ∈ es.map (·.1) := by
        intro es xs t
        induction t with
        | nil => intro h; exact (nomatch h)
        | cons r' f' dp' t' ih =>
          intro h
          rw [List.map_cons] at h ⊢
          rcases List.mem_cons.mp h with z | z
          · rw [nkD_inj f f' z]; exact List.mem_cons_self
          · exact List.mem_cons_of_mem _ (ih z)
      exact n.1 (this t hm)
end
def ngetM {κ β : Type} [DecidableEq κ] (kvs : List (κ × β)) (k : κ) : Option β := (kvs.find? fun kv => decide (kv.1 = k)).map (·.2)
def nputM {κ β : Type} [DecidableEq κ] (kvs : List (κ × β)) (k : κ) (v : β) : List (κ × β) :=
  if (kvs.any fun kv => decide (kv.1 = k)) = true then kvs.map (fun kv => if kv.1 = k then (kv.1, v) else kv) else kvs ++ [(k, v)]
def NdR (K : PySem.W.Frag) (P : Program) (w : World) (es : List (PyData × Int)) : Addr → (Addr → Prop) → Hp → Prop := fun p X H => (es.map (·.1)).Nodup ∧ ∃ xs, H p = some (NdO P w p xs) ∧ NEnt K X H es xs
theorem ndR_rx (K : PySem.W.Frag) (P : Program) (w : World) (es : List (PyData × Int)) : RX (NdR K P w es) where
  keep := fun k e ⟨n, xs, h, t⟩ => ⟨n, xs, e.trans h, t.keep k⟩
  anti := fun h ⟨n, xs, e, t⟩ => ⟨n, xs, e, t.anti h⟩
  more := fun h ⟨n, xs, e, t⟩ => ⟨n, xs, e, t.more h⟩
  nn := fun ⟨n, xs, e, t⟩ => by rw [e]; exact fun z => nomatch z
  ntup := fun ⟨n, xs, e, t⟩ => by
    rw [e]
    constructor
    · intro _ z; cases z
    · intro _ _ z; cases z
def nes {κ : Type} [Py κ] (kvs : List (κ × Int)) : List (PyData × Int) := kvs.map fun e => (enc e.1, e.2)
abbrev mn (K : PySem.W.Frag) (P : Program) (w : World) {κ : Type} [Py κ] (kvs : List (κ × Int)) : MO := .ex (NdR K P w (nes kvs))
section
variable {K : PySem.W.Frag} {X : Addr → Prop} {H : Hp} {κ : Type} [Py κ] [DecidableEq κ] [Nk κ]
theorem nes_key (kvs : List (κ × Int)) : (nes kvs).map (·.1) = kvs.map fun e => enc e.1 := by unfold nes; rw [List.map_map]; rfl
theorem nent_get {k : κ} : ∀ {kvs : List (κ × Int)} {xs : NXs}, NEnt K X H (nes kvs) xs → RelO ((ngetM kvs k).map V.int) ((atKey xs (nkD (enc k))).map (·.2))
  | [], _, .nil => trivial
  | (l, i) :: kvs, _, .cons (t := t) (b := b) (xs := xs) r f d q => by
    by_cases z : l = k
    · subst z
      have e1 : ngetM ((l, i) :: kvs) l = some i := by simp [ngetM]
      have e2 : atKey ((nkD (enc l), b, Value.int i t) :: xs) (nkD (enc l)) = some (b, Value.int i t) := by simp [atKey]
      rw [e1, e2]; exact ⟨t, rfl⟩
    · have zn : ¬ nkD (enc l) = nkD (enc k) := fun e => z (Nk.inj _ _ (nkD_inj (Nk.flat l) (Nk.flat k) e))
      have e1 : ngetM ((l, i) :: kvs) k = ngetM kvs k := by simp [ngetM, List.find?_cons, z]
      have e2 : atKey ((nkD (enc l), b, Value.int i t) :: xs) (nkD (enc k)) = atKey xs (nkD (enc k)) := by simp [atKey, List.find?_cons, zn]
      rw [e1, e2]
      exact nent_get q
theorem nent_any {k : κ} : ∀ {kvs : List (κ × Int)} {xs : NXs}, NEnt K X H (nes kvs) xs → (atKey xs (nkD (enc k))).isSome = (kvs.any fun kv => decide (kv.1 = k))
  | [], _, .nil => rfl
  | (l, i) :: kvs, _, .cons (t := t) (b := b) (xs := xs) r f d q => by
    rw [List.any_cons]
    by_cases z : l = k
    · subst z
      simp [atKey]
    · have zn : ¬ nkD (enc l) = nkD (enc k) := fun e => z (Nk.inj _ _ (nkD_inj (Nk.flat l) (Nk.flat k) e))
      have e2 : atKey ((nkD (enc l), b, Value.int i t) :: xs) (nkD (enc k)) = atKey xs (nkD (enc k)) := by simp [atKey, List.find?_cons, zn]
      rw [e2, decide_eq_false z, Bool.false_or]
      exact nent_any q
theorem nent_map {k : κ} {j : Int} {u : Tok} : ∀ {kvs : List (κ × Int)} {xs : NXs}, NEnt K X H (nes kvs) xs → NEnt K X H (nes (kvs.map fun kv => if kv.1 = k then (kv.1, j) else kv)) (xs.map (putAt (nkD (enc k)) (.int j u)))
  | [], _, .nil => .nil
  | (l, i) :: kvs, _, .cons (t := t) (b := b) (xs := xs) r f d q => by
    rw [List.map_cons, List.map_cons]
    by_cases z : l = k
    · subst z
      rw [if_pos rfl]
      have : putAt (nkD (enc l)) (.int j u) (nkD (enc l), b, Value.int i t) = (nkD (enc l), b, Value.int j u) := by simp [putAt]
      rw [this]
      exact .cons r f d (nent_map q)
    · have zn : ¬ nkD (enc l) = nkD (enc k) := fun e => z (Nk.inj _ _ (nkD_inj (Nk.flat l) (Nk.flat k) e))
      rw [if_neg z]
      have : putAt (nkD (enc k)) (.int j u) (nkD (enc l), b, Value.int i t) = (nkD (enc l), b, Value.int i t) := by simp [putAt, zn]
      rw [this]
      exact .cons r f d (nent_map q)
theorem nent_snoc {d : PyData} {i : Int} {t : Tok} {b : Addr} (r : Rep K X H d (.ref b)) (f : FlatK d) (dp : (nkD d).depth ≤ 8) : ∀ {es : List (PyData × Int)} {xs : NXs}, NEnt K X H es xs → NEnt K X H (es ++ [(d, i)]) (xs ++ [(nkD d, b, .int i t)])
  | _, _, .nil => .cons r f dp .nil
  | _, _, .cons r' f' d' q => .cons r' f' d' (nent_snoc r f dp q)
theorem nent_put {k : κ} {j : Int} {u : Tok} {b : Addr} {kvs : List (κ × Int)} {xs : NXs} (r : Rep K X H (enc k) (.ref b)) (q : NEnt K X H (nes kvs) xs) : NEnt K X H (nes (nputM kvs k j)) (storedH xs (nkD (enc k)) b (.int j u)) := by
  unfold nputM storedH
  rw [nent_any q]
  split
  · exact nent_map q
  · unfold nes
    rw [List.map_append]
    exact nent_snoc r (Nk.flat k) (Nk.dep k) q
theorem nput_nodup {k : κ} {j : Int} {kvs : List (κ × Int)} (n : ((nes kvs).map (·.1)).Nodup) : ((nes (nputM kvs k j)).map (·.1)).Nodup := by
  rw [nes_key] at n ⊢
  unfold nputM
  split
  · rw [List.map_map]
    have : ((fun e : κ × Int => enc e.1) ∘ fun kv : κ × Int => if kv.1 = k then (kv.1, j) else kv) = fun e => enc e.1 := by
      funext e
      show enc (if e.1 = k then (e.1, j) else e).1 = enc e.1
      split <;> rfl
    rw [this]; exact n
  · rename_i h
    rw [List.map_append]
    refine List.nodup_append.mpr ⟨n, by simp, fun a ha c hc => ?_⟩
    obtain ⟨e, he, rfl⟩ := List.mem_map.mp ha
    rw [List.mem_singleton.mp hc]
    intro eq
    apply h
    rw [List.any_eq_true]
    exact ⟨e, he, by simpa using Nk.inj _ _ eq⟩
end
section
variable {C : Cn} {X : Addr → Prop} {H : Hp} {σ : L2.St} {Γ Γ' : List Sl} {Q : VK} {ρ κ : Type} [Py κ] [DecidableEq κ] [Nk κ] {P : Program} {w : World}
theorem x_nnew (L : Lo C X H σ Γ) (h : ∀ p X' H1, C.H0 p = none → ¬ C.X0 p → Lo C X' H1 σ (Γ ++ [.tmp p (mn C.K P w ([] : List (κ × Int)))]) → (∀ d u, Rep C.K X H d u → Rep C.K X' H1 d u) → Q (.ref p) H1) : tNNew P w σ H Q := fun p hp => by
  have s : Same H (upd H p (NdO P w p [])) := same_upd hp
  obtain ⟨L1, le, h0, hx⟩ := L.lay (o := mn C.K P w ([] : List (κ × Int))) hp s ⟨ndR_rx _ _ _ _, List.nodup_nil, [], upd_same, .nil⟩
  exact h p _ _ h0 hx L1 le
theorem nkey_rep {K : PySem.W.Frag} {k : κ} {y : V} (r : Rep K X H (enc k) y) : ∃ b, y = .ref b ∧ Rep K X H (enc k) (.ref b) := by
  obtain ⟨ds, e⟩ := Nk.tup k
  have r' := r
  rw [e] at r'
  cases r' with
  | tup h q => exact ⟨_, rfl, r⟩
def KNg (P : Program) (w : World) (x : V) (Q : VK) : VK := fun y H2 => ∃ a v, x = .ref a ∧ NGet P w H2 a y (some v) ∧ Q v H2
def KNG2 (P : Program) (w : World) (a : Addr) (y : V) (Q : VK) : VK := fun z H3 => ∃ o, NGet P w H3 a y o ∧ Q (o.getD z) H3
theorem x_ng {td ty : TE} (h : td σ H fun x H1 => ty σ H1 (KNg P w x Q)) : tNGet P w td ty σ H Q := h
theorem x_ng2 {td ty tx : TE} (h : td σ H fun x H1 => ∃ a, x = .ref a ∧ IsN P w H1 a ∧ ty σ H1 fun y H2 => tx σ H2 (KNG2 P w a y Q)) : tNGet2 P w td ty tx σ H Q := h
theorem x_isN {i : Nat} {p : Addr} {kvs : List (κ × Int)} {R : Addr → Prop} (L : Lo C X H σ Γ) (g : Γ[i]? = some (.mu p (mn C.K P w kvs))) (h : R p) : ∃ a, V.ref p = .ref a ∧ IsN P w H a ∧ R a := by
  obtain ⟨_, n, xs, e, q⟩ := L.mrep g
  exact ⟨p, rfl, ⟨xs, .inl e, q.keys n⟩, h⟩
theorem x_nget2 {kvs : List (κ × Int)} {k : κ} {d : Int} {i : Nat} {p : Addr} {y : V} (L : Lo C X H σ Γ) (g : Γ[i]? = some (.mu p (mn C.K P w kvs))) (ry : Rep C.K X H (enc k) y)
    (h : Q (.int ((ngetM kvs k).getD d)) H) : KNG2 P w p y Q (.int d) H := by
  obtain ⟨_, n, xs, e, q⟩ := L.mrep g
  obtain ⟨b, rfl, rb⟩ := nkey_rep ry
  refine ⟨(ngetM kvs k).map V.int, ⟨xs, _, b, .inl e, q.keys n, rfl, Rep.kis (Nk.flat k) rb, Nk.dep k, nent_get q⟩, ?_⟩
  cases hk : ngetM kvs k with
  | none => rw [hk] at h; exact h
  | some j => rw [hk] at h; exact h
theorem x_nputS {td ty tv : TE} {nx bk ct : L2.St → Hp → Prop} {rt : VK} (h : tv σ H fun v H1 => td σ H1 fun x H2 => ty σ H2 fun y H3 => ∃ a xs k b, x = .ref a ∧ H3 a = some (NdO P w a xs) ∧ NKeys H3 xs ∧ y = .ref b ∧ KIs H3 k (.ref b) ∧ k.depth ≤ 8 ∧ xs.length < sizeLine ∧ ∀ r : Value, RelV v r → nx σ (upd H3 a (NdO P w a (storedH xs k b r)))) : sNPut P w td ty tv ⟨nx, rt, bk, ct⟩ σ H := h
theorem x_nput {kvs : List (κ × Int)} {k : κ} {j : Int} {i : Nat} {p : Addr} {y : V} {kk : Unit → Option ρ} {r : ρ} {R : Hp → Prop} (L : Lo C X H σ Γ) (g : Γ[i]? = some (.mu p (mn C.K P w kvs))) (hm : (lenOk (kvs.length + 1)).bind kk = some r) (ry : Rep C.K X H (enc k) y)
    (e : Γ.set i (.mu p (mn C.K P w (nputM kvs k j))) = Γ') (h : ∀ H1, kk () = some r → Lo C X H1 σ Γ' → (∀ d u, Rep C.K X H d u → Rep C.K X H1 d u) → R H1) :
    ∃ a xs k b, V.ref p = .ref a ∧ H a = some (NdO P w a xs) ∧ NKeys H xs ∧ y = .ref b ∧ KIs H k (.ref b) ∧ k.depth ≤ 8 ∧ xs.length < sizeLine ∧ ∀ r : Value, RelV (.int j) r → R (upd H a (NdO P w a (storedH xs k b r))) := by
  subst e
  obtain ⟨_, hl, hk⟩ := ob hm
  obtain ⟨_, n, xs, hw, q⟩ := L.mrep g
  obtain ⟨b, rfl, rb⟩ := nkey_rep ry
  have hX : X p := L.mx p (mem_muts.mpr ⟨i, _, g, rfl⟩)
  have kp : ∀ o, Keep X H (upd H p o) := fun o => ⟨fun a u h n => by rw [upd_ne (fun z => n (by rw [z]; exact hX))]; exact h, fun a us h => by rw [upd_ne (fun z => by rw [z, hw] at h; cases h)]; exact h, fun a u w h => by rw [upd_ne (fun z => by rw [z, hw] at h; cases h)]; exact h⟩
  refine ⟨p, xs, nkD (enc k), b, rfl, hw, q.keys n, rfl, Rep.kis (Nk.flat k) rb, Nk.dep k, ?_, fun rv hr => ?_⟩
  · have := lenOk_le hl
    have := q.len
    unfold nes at this
    rw [List.length_map] at this
    rw [line_eq]; omega
  · obtain ⟨t, rfl⟩ := hr
    obtain ⟨L1, le⟩ := L.wrote (H' := upd H p (NdO P w p (storedH xs (nkD (enc k)) b (.int j t)))) (o := mn C.K P w (nputM kvs k j)) g rfl (fun a u h n => by rw [upd_ne n]; exact h) (fun a h => by
        by_cases z : a = p
        · rw [z, upd_same]; exact fun y => nomatch y
        · rw [upd_ne z]; exact h) ⟨ndR_rx _ _ _ _, nput_nodup n, _, upd_same, (nent_put rb q).keep (kp _)⟩
    exact h _ hk L1 le
end

/-! ### [d[k] == 0 for k in d] -/
def ItNk (P : Program) (w : World) (d : Addr) (o : Obj) (xs : NXs) : It :=
  ⟨fun i H => H d = some (.frz o (NdO P w d xs)) ∧ i < xs.length, fun i H x H' => H' = H ∧ ∃ e, xs[i]? = some e ∧ x = .ref e.2.1, fun i H => H d = some (.frz o (NdO P w d xs)) ∧ xs.length ≤ i⟩
theorem nd_frz {X : Cx} {pins : List (Addr × Obj)} {σ : L2.St} {H : Hp} {s : Shared} {d : Addr} {o : Obj} {xs : NXs} (I : Inv X pins σ H s) (h : H d = some (.frz o (NdO X.prog X.w d xs))) :
    (d == sysModules) = false ∧ s.heap.get? d = some o ∧ o.ExactDict ∧ ∃ (es : Array DictEntry) (ep : Nat), o.data = .dict es ep ∧ es.size = xs.length ∧ ∀ (i : Nat) e, xs[i]? = some e → ∃ en : DictEntry, es[i]? = some en ∧ en.key = .ref e.2.1 := by
  obtain ⟨hd, ⟨z, l, o', es, ep, ho, hx, hdt, he⟩, _⟩ := I.hok d _ h
  rw [hd] at ho
  cases ho
  refine ⟨z, hd, hx, es, ep, hdt, size_of_entries he, fun i e q => ?_⟩
  have := entry_at he i
  rw [q] at this
  exact ⟨_, this, rfl⟩
theorem turn_nkeys {P : Program} {w : World} {K : PySem.W.Frag} {tg : Expr} {d : Addr} {o : Obj} {xs : NXs} {es : Array DictEntry} {ep : Nat} (it : Addr) (hod : o.data = .dict es ep) : Turn P w K tg (ItNk P w d o xs) [it] it (fun i h => h.IsKeyIter it d i xs.length ep) where
  mem := by simp
  obj := fun i h st b hb => by
    have e : b = it := by simpa using hb
    subst e
    obtain ⟨oi, e, c, dd⟩ := st
    exact ⟨oi, e, fun v z => by rw [dd] at z; cases z⟩
  keep := fun i h h' st k => st.at fun oi e => k it (by simp) oi e
  item := by
    intro X hP hw hK hc i pins s σ H E I hf st hg
    subst hP hw hK
    obtain ⟨hd, hi⟩ := hg
    obtain ⟨f0, f1, f2, f3, f4, f5⟩ := hf it (by simp)
    obtain ⟨hs, hgd, hx, es', ep', hdt, hsz, ent⟩ := nd_frz I hd
    obtain ⟨rfl, rfl⟩ := dict_ep hod hdt
    obtain ⟨e, he⟩ : ∃ e, xs[i]? = some e := ⟨xs[i], List.getElem?_eq_getElem hi⟩
    obtain ⟨en, hen, hkey⟩ := ent i e he
    refine next_key_item st hgd hdt hsz hen fun h' st' sb => ?_
    have I1 : Inv X pins σ H { s with heap := h' } := I.turned (t' := s.toks) (fun b ob hb e => (sb.2 b hb).trans e) f0 f1 f3 f4 f5
    obtain ⟨oi, e', c, dd⟩ := id st'
    exact ⟨en.key, rfl, go_of (s := { s with heap := h' }) e' c dd (by decide) ⟨.ref e.2.1, H, I1, hkey, ⟨rfl, e, he, rfl⟩, st', fun b hb => (hf b hb).1⟩⟩
  done := by
    intro X hP hw hK hc i pins s σ H E I hf st hg
    subst hP hw hK
    obtain ⟨hd, hi⟩ := hg
    obtain ⟨f0, f1, f2, f3, f4, f5⟩ := hf it (by simp)
    obtain ⟨hs, hgd, hx, es', ep', hdt, hsz, ent⟩ := nd_frz I hd
    obtain ⟨rfl, rfl⟩ := dict_ep hod hdt
    exact next_key_end (I.ok.hd hc) st hgd hdt hsz hi fun h' eb => ⟨rfl, I.turned (t' := s.toks) (fun b ob hb e => eb b ob hb e) f0 f1 f3 f4 f5⟩
  self := fun A i s Q E st h => by
    refine wpAny_pyIter_slot st.typeIs PySem.F.slot_dict_keyiterator_iter (wpAny_call_entry PySem.F.slot_dict_keyiterator_iter st.typeIs PySem.F.entry_dict_keyiterator_iter ?_ (PySem.F.args_dict_keyiterator_iter_1 _))
    show wpAny _ _ (ret (.ref it)) _ _ s
    exact wpAny_pure ⟨_, rfl, "dict_keyiterator", _, st.typeIs, PySem.F.slot_dict_keyiterator_next.lookup, h⟩
def iNKeys (P : Program) (w : World) (td : TE) : TI := fun σ H R => td σ H fun x H1 => ∃ d o xs, x = .ref d ∧ H1 d = some (.frz o (NdO P w d xs)) ∧ R (ItNk P w d o xs) H1
theorem pi_nkeys {X : Cx} {tg e : Expr} {td : TE} (he : PE X e td) : PI X tg e (iNKeys X.prog X.w td) := by
  refine ⟨fun pins s σ H R I h => ?_⟩
  refine thn (he.run pins s σ H _ I h) fun u s1 ⟨x, H1, I1, rx, d, o, xs, ex, hd, q⟩ => ?_
  subst ex
  obtain rfl : u = Value.ref d := rx
  obtain ⟨hs, hgd, hx, es, ep, hdt, hsz, ent⟩ := nd_frz I1 hd
  refine iter_keys hs hgd hx hdt (pi_one (tk := s1.toks) I1 _ (turn_nkeys _ hdt) ⟨_, Heap.get?_push_size _ rfl, rfl, ?_⟩ q)
  rw [hsz] <;> rfl
theorem NEnt.at {K : PySem.W.Frag} {X : Addr → Prop} {H : Hp} : ∀ {es : List (PyData × Int)} {xs : NXs} {i : Nat} {e}, NEnt K X H es xs → xs[i]? = some e → ∃ d z t, es[i]? = some (d, z) ∧ e = (nkD d, e.2.1, Value.int z t) ∧ Rep K X H d (.ref e.2.1) ∧ FlatK d ∧ (nkD d).depth ≤ 8
  | _, _, _, _, .nil, h => by simp at h
  | _, _, 0, _, .cons (d := d) (i := z) (t := t) r f dp q, h => by
    have := Option.some.inj h
    subst this
    exact ⟨d, z, t, rfl, rfl, r, f, dp⟩
  | _, _, i + 1, _, .cons r f dp q, h => NEnt.at (i := i) q h
theorem atKey_nd : ∀ {xs : NXs} {i : Nat} {e}, (xs.map (·.1)).Nodup → xs[i]? = some e → atKey xs e.1 = some e.2
  | [], _, _, _, h => by simp at h
  | x :: xs, 0, _, n, h => by
    have := Option.some.inj h
    subst this
    simp [atKey]
  | x :: xs, i + 1, e, n, h => by
    rw [List.map_cons, List.nodup_cons] at n
    have hx : xs[i]? = some e := h
    have ne : ¬ x.1 = e.1 := fun q => n.1 (q ▸ List.mem_map.mpr ⟨e, List.mem_of_getElem? hx, rfl⟩)
    have : atKey (x :: xs) e.1 = atKey xs e.1 := by simp [atKey, List.find?_cons, ne]
    rw [this]
    exact atKey_nd n.2 hx
theorem x_lcNd {C : Cn} {X : Addr → Prop} {H : Hp} {σ : L2.St} {Γ : List Sl} {Q : VK} {κ : Type} [Py κ] [DecidableEq κ] [Nk κ] {P : Program} {w : World} {kvs : List (κ × Int)} {i j : Nat} {p : Addr} {te : TE} (L : Lo C X H σ Γ) (g : Γ[i]? = some (.mu p (mn C.K P w kvs))) (hij : i ≠ j) (hj : j < C.n) (hl : kvs.length ≤ 16777216)
    (body : ∀ (σ2 : L2.St) (H2 : Hp) (y : V) (z : Int) (Qy : VK), σ2[i]? = some (some (.ref p)) → σ2[j]? = some (some y) → NGet P w H2 p y (some (.int z)) → Qy (.bl (decide (z = 0))) H2 → te σ2 H2 Qy)
    (h : ∀ D H', Lo C X H' σ Γ → (∀ d u, Rep C.K X H d u → Rep C.K X H' d u) → Rep C.K X H' (enc (kvs.map fun e => decide (e.2 = 0))) (.ref D) → Q (.ref D) H') :
    tLockE (tLc (iNKeys P w (tVar i)) (gName j) tYes te [j]) σ H Q := by
  obtain ⟨hv, _, n, xs, hw, q⟩ := L.at_ i _ g
  refine ⟨p, NdO P w p xs, hw, True.intro, fun od => ?_⟩
  refine ⟨.ref p, hv, p, od, xs, rfl, upd_same, fun D hD => ?_⟩
  have hDp : D ≠ p := fun e => by rw [e, upd_same] at hD; cases hD
  have hD0 : H D = none := by rw [upd_ne hDp] at hD; exact hD
  have hX : X p := L.mx p (mem_muts.mpr ⟨i, _, g, rfl⟩)
  have kp : ∀ acc, Keep X H (upd (upd H p (.frz od (NdO P w p xs))) D (.lst acc)) := fun acc => by
    have ne : ∀ a u, H a = some u → a ≠ D := fun a u e z => by rw [z, hD0] at e; cases e
    have ne2 : ∀ a u, H a = some u → u ≠ NdO P w p xs → a ≠ p := fun a u e m z => by rw [z, hw] at e; exact m (Option.some.inj e).symm
    refine ⟨fun a u e nx => ?_, fun a us e => ?_, fun a u w' e => ?_⟩
    · have na : a ≠ p := fun z => nx (by rw [z]; exact hX)
      rw [upd_ne (ne _ _ e), upd_ne na]; exact e
    · rw [upd_ne (ne _ _ e), upd_ne (ne2 _ _ e fun z => nomatch z)]; exact e
    · rw [upd_ne (ne _ _ e), upd_ne (ne2 _ _ e fun z => nomatch z)]; exact e
  have ql := q.len
  have nl : (nes kvs).length = kvs.length := by unfold nes; rw [List.length_map]
  let bs : Nat → List V := fun i => (kvs.take i).map fun e => V.bl (decide (e.2 = 0))
  refine ⟨fun i m H' => m = xs.length - i ∧ i ≤ xs.length ∧ H' = upd (upd H p (.frz od (NdO P w p xs))) D (.lst (bs i)), ⟨xs.length, by simp, Nat.zero_le _, rfl⟩, ?_⟩
  rintro i' m H' ⟨rfl, hi, rfl⟩
  have atp : (upd (upd H p (.frz od (NdO P w p xs))) D (.lst (bs i'))) p = some (.frz od (NdO P w p xs)) := by rw [upd_ne (Ne.symm hDp), upd_same]
  by_cases hlt : i' < xs.length
  · refine .inr ⟨⟨atp, hlt⟩, fun H' => H' = upd (upd H p (.frz od (NdO P w p xs))) D (.lst (bs (i' + 1))), fun H' e => ⟨xs.length - (i' + 1), by omega, rfl, hlt, e⟩, ?_⟩
    rintro x H' ⟨rfl, e, he, rfl⟩
    obtain ⟨d, z, t, e1, e2, r, f, dp⟩ := q.at he
    refine ⟨?_, ?_⟩
    · show ((σ.set j none).set j (some (V.ref e.2.1))).set j none = σ.set j none
      rw [List.set_set, List.set_set]
    have qk := (q.keep (kp (bs i'))).keys n
    refine body _ _ (.ref e.2.1) z _ ?_ ?_ ⟨xs, e.1, e.2.1, .inr ⟨od, atp⟩, qk, rfl, ?_, ?_, ?_⟩ ⟨bs i', upd_same, ?_, ?_⟩
    · show ((σ.set j none).set j (some (V.ref e.2.1)))[i]? = _
      rw [List.set_set, List.getElem?_set_ne (Ne.symm hij)]; exact hv
    · show ((σ.set j none).set j (some (V.ref e.2.1)))[j]? = _
      rw [List.set_set, List.getElem?_set_self (by rw [L.len]; exact hj)]
    · have := (qk.1 e (List.mem_of_getElem? he)).1; exact this
    · exact (qk.1 e (List.mem_of_getElem? he)).2
    · rw [atKey_nd qk.2 he, e2]; exact ⟨t, rfl⟩
    · show ((kvs.take i').map _).length < sizeLine
      rw [List.length_map, List.length_take, line_eq]; omega
    · have ek : kvs[i']? = some (kvs[i']'(by omega)) := List.getElem?_eq_getElem (by omega)
      have ez : (kvs[i']'(by omega)).2 = z := by
        unfold nes at e1
        rw [List.getElem?_map, ek] at e1
        have := Option.some.inj e1
        exact congrArg Prod.snd this
      have : bs (i' + 1) = bs i' ++ [V.bl (decide (z = 0))] := by
        show (kvs.take (i' + 1)).map _ = (kvs.take i').map _ ++ _
        rw [List.take_add_one, ek, List.map_append, ← ez]; rfl
      rw [this]
      funext a
      unfold upd
      split <;> rfl
  · have ei : i' = xs.length := by omega
    subst ei
    refine .inl ⟨⟨atp, Nat.le_refl _⟩, atp, ?_⟩
    have ebs : bs xs.length = kvs.map fun e => V.bl (decide (e.2 = 0)) := by
      show (kvs.take _).map _ = _
      rw [List.take_of_length_le (by omega)]
    have eH : upd (upd (upd H p (.frz od (NdO P w p xs))) D (.lst (bs xs.length))) p (NdO P w p xs) = upd H D (.lst (bs xs.length)) := by
      funext a
      by_cases z : a = p
      · rw [z, upd_same, upd_ne (Ne.symm hDp), hw]
      · rw [upd_ne z]
        by_cases z2 : a = D
        · rw [z2, upd_same, upd_same]
        · rw [upd_ne z2, upd_ne z2, upd_ne z]
    rw [eH, ebs]
    have s : Same H (upd H D (.lst (kvs.map fun e => V.bl (decide (e.2 = 0))))) := same_upd hD0
    refine h D _ (L.same s) (fun _ _ r => r.keep (.same s)) ?_
    have hnX : ¬ X D := fun y => L.xd D y hD0
    refine .lst hnX (.inl upd_same) ?_
    rw [List.map_map]
    have : ∀ l : List (κ × Int), Reps C.K X (upd H D (.lst (kvs.map fun e => V.bl (decide (e.2 = 0))))) (l.map ((enc : Bool → PyData) ∘ fun e => decide (e.2 = 0))) (l.map fun e => V.bl (decide (e.2 = 0))) := by
      intro l
      induction l with
      | nil => exact .nil
      | cons e l ih => exact .cons (.bl _) ih
    exact this kvs

theorem x_ndEq {P : Program} {w : World} {i j : Nat} {p : Addr} {σ2 : L2.St} {H2 : Hp} {y : V} {z : Int} {Qy : VK} (h1 : σ2[i]? = some (some (.ref p))) (h2 : σ2[j]? = some (some y)) (hg : NGet P w H2 p y (some (.int z))) (hq : Qy (.bl (decide (z = 0))) H2) : tOp rEq (tNGet P w (tVar i) (tVar j)) (tC (V.int 0)) σ2 H2 Qy := by
  refine ⟨_, h1, _, h2, p, _, rfl, hg, ?_⟩
  exact x_eqi hq

/-! ### for k, x in enumerate(xs) -/
def enumL {α : Type} (xs : List α) : List (T2 Int α) := List.zipWith T2.mk (rangeL 0 xs.length) xs
theorem enumL_at {α : Type} {xs : List α} {i : Nat} {x : α} (h : xs[i]? = some x) : (enumL xs)[i]? = some ⟨(i : Int), x⟩ := by
  have hi := (List.getElem?_eq_some_iff.mp h).1
  unfold enumL rangeL
  rw [List.getElem?_zipWith, List.getElem?_map, List.getElem?_range hi, h]
  show some (T2.mk ((0 : Int) + (i : Int)) x) = _
  rw [Int.zero_add]
theorem enumL_len {α : Type} (xs : List α) : (enumL xs).length = xs.length := by
  unfold enumL rangeL
  rw [List.length_zipWith, List.length_map, List.length_range]; exact Nat.min_self _
def KForE (K : PySem.W.Frag) (g : TG) (tb : TS) (D : Ends) (σ : L2.St) : List V → Hp → Prop := fun vs H => ∃ a xs, vs = [.ref a] ∧ SqL K H a xs ∧ ∃ W : Nat → Nat → L2.St → Hp → Prop, (∃ m, W 0 m σ H) ∧ ∀ i m σ H, W i m σ H →
      ((Ite K a).stop i H ∧ D.nx σ H) ∨ ((Ite K a).go i H ∧ ∃ N : L2.St → Hp → Prop, (∀ σ' H', N σ' H' → ∃ m', m' < m ∧ W (i + 1) m' σ' H') ∧ ∀ v H', (Ite K a).yld i H v H' → g v σ H' fun σ2 H2 => tb { D with nx := N, ct := N, bk := D.nx } σ2 H2)
section
variable {C : Cn} {X : Addr → Prop} {H : Hp} {σ : L2.St} {Γ Γ' : List Sl} {Q : VK} {α τ ρ : Type}
theorem x_tforE {ta : TA} {g : TG} {tb : TS} {D : Ends} {K : PySem.W.Frag} (h : ta σ H (KForE K g tb D σ)) : tFor (iEnum K ta) g tb D σ H := h
theorem x_foE [Py α] {xs : List α} {f : T2 Int α → τ → Option τ} {G : τ → List Sl} {s0 : τ} {u : V} {g : TG} {tb : TS} {nx bk ct : L2.St → Hp → Prop} {rt : VK} {k : τ → Option ρ} {res : ρ}
    (L : Lo C X H σ (G s0)) (hG : ∀ s s', muts (G s) = muts (G s')) (r : Rep C.K X H (enc xs) u) (hm : (foldO f (enumL xs) s0).bind k = some res)
    (body : ∀ x s, BodyO C X G (enc x) s (f x s) g tb) (done : ∀ s σ' H', k s = some res → Lo C X H' σ' (G s) → nx σ' H') : KForE C.K g tb ⟨nx, rt, bk, ct⟩ σ [u] H := by
  obtain ⟨s1, h1, h2⟩ := ob hm
  obtain ⟨a, vs, rfl, hna, hrd, hrs⟩ := rep_lst (ds := xs.map enc) r
  have e1 : vs.length = xs.length := by rw [hrs.length, List.length_map]
  have hm0 := foldO_loop h1
  refine ⟨a, vs, rfl, .inl hrd, fun i m σ' H' => m = xs.length - i ∧ i ≤ xs.length ∧ ∃ s, Lo C X H' σ' (G s) ∧ Reps C.K X H' (xs.map enc) vs ∧ Rd H' a (.lst vs) ∧ loopL (ρ := Empty) (fun x s => (f x s).bind fun s' => some (.nxt s')) ((enumL xs).drop i) s = some (.nxt s1), ⟨xs.length, by simp, Nat.zero_le _, s0, L, hrs, hrd, hm0⟩, ?_⟩
  rintro i m σ' H' ⟨rfl, hi, s, L', r', hd, hm'⟩
  by_cases hlt : i < xs.length
  · refine .inr ⟨⟨vs, vs[i]'(by omega), .inl hd, List.getElem?_eq_getElem (by omega)⟩, fun σ'' H'' => i + 1 ≤ xs.length ∧ ∃ s, Lo C X H'' σ'' (G s) ∧ Reps C.K X H'' (xs.map enc) vs ∧ Rd H'' a (.lst vs) ∧ loopL (ρ := Empty) (fun x s => (f x s).bind fun s' => some (.nxt s')) ((enumL xs).drop (i + 1)) s = some (.nxt s1), fun σ'' H'' p' => ⟨xs.length - (i + 1), by omega, rfl, p'⟩, ?_⟩
    rintro w H2 ⟨T, y, rfl, hT, rfl, hall⟩
    have hy : vs[i]? = some y := hall vs (.inl hd)
    obtain ⟨d, hd1, rd⟩ := r'.get' hy
    rw [List.getElem?_map] at hd1
    cases hx : xs[i]? with
    | none => rw [hx] at hd1; cases hd1
    | some x =>
      rw [hx] at hd1
      cases hd1
      obtain ⟨o1, g1, g2, g3, g4⟩ := loop_drop (enumL_at hx) hm'
      have sT : Same H' (upd H' T (.tup [.int (i : Nat), y])) := same_upd hT
      have LT := L'.same sT
      have rT : Rep C.K X (upd H' T (.tup [.int (i : Nat), y])) (enc (T2.mk (i : Int) x)) (.ref T) := .tup upd_same (.cons (.int _) (.cons (rd.keep (.same sT)) .nil))
      have rT1 := r'.keep (.same sT)
      have kd : ∀ {c : Addr} {ws : List V}, Rd H' c (.lst ws) → Rd (upd H' T (.tup [.int (i : Nat), y])) c (.lst ws) := fun h => h.elim (fun h => .inl (sT _ _ h)) fun ⟨o, h⟩ => .inr ⟨o, sT _ _ h⟩
      refine (body (T2.mk (i : Int) x) s).body _ σ' _ _ _ _ _ o1 g1 LT.enter LT.dom rT ?_ ?_ ?_ ?_
      · intro s' e X' σ'' H'' L''
        have k := LT.keep L''
        exact ⟨hlt, s', LT.leave L'' (hG _ _), rT1.keep k, k.rd hna (kd hd), g2 s' e⟩
      · intro s' e X' σ'' H'' L''
        have k := LT.keep L''
        exact ⟨hlt, s', LT.leave L'' (hG _ _), rT1.keep k, k.rd hna (kd hd), g2 s' e⟩
      · intro s' e
        have := g3 s' e
        cases this
      · intro q e
        exact q.elim
  · have ei : i = xs.length := by omega
    subst ei
    rw [List.drop_eq_nil_of_le (by rw [enumL_len]; omega)] at hm'
    have e : s = s1 := by
      have : (some (Lp.nxt s) : Option (Lp τ Empty)) = some (.nxt s1) := hm'
      cases this; rfl
    subst e
    exact .inl ⟨⟨vs, .inl hd, by omega⟩, done _ _ _ h2 L'⟩
end

/-! ### max(list of ints) -/
theorem x_maxL {C : Cn} {X : Addr → Prop} {H : Hp} {Q : VK} {ρ : Type} {ns : List Int} {v : V} {k : Int → Option ρ} {r : ρ} (hm : (ns.max?).bind k = some r) (rv : Rep C.K X H (enc ns) v) (h : ∀ m, k m = some r → Q (.int m) H) : rMax C.K [v] H Q := by
  obtain ⟨m, e, hk⟩ := ob hm
  obtain ⟨a, us, rfl, hna, hrd, hrs⟩ := rep_lst (ds := ns.map enc) rv
  have e2 : us = ns.map V.int := Reps.toInts hrs
  subst e2
  have hm' := List.max?_eq_some_iff.mp e
  refine ⟨a, ns, rfl, .inl hrd, List.length_pos_of_mem hm'.1, fun m' h1 h2 => ?_⟩
  have : m' = m := by
    have := h2 m hm'.1
    have := hm'.2 m' h1
    omega
  subst this
  exact h m' hk
open Py (enc)
/-! ### sorted of pairs of pairs -/
end Sc
namespace ScQ
open PySem PySem.W PyProof.Rows SrtO
abbrev PP := (Int × Int) × (Int × Int)
def lex2 (p q : PP) : Bool := if p.1 = q.1 then lexB p.2 q.2 else lexB p.1 q.1
theorem lexB_irr (p : Int × Int) : lexB p p = false := lexB_no.mpr (by omega)
theorem lexB_tot {p q : Int × Int} (h : p ≠ q) (h1 : lexB p q = false) : lexB q p = true := by
  have a := lexB_no.mp h1
  refine lexB_iff.mpr ?_
  obtain ⟨p1, p2⟩ := p
  obtain ⟨q1, q2⟩ := q
  simp only at a ⊢
  by_cases e : p1 = q1
  · by_cases e2 : p2 = q2
    · exact (h (by rw [e, e2])).elim
    · omega
  · omega
theorem lex2_swo {α : Type} (k : α → PP) : Swo fun v u => lex2 (k v) (k u) := by
  refine ⟨fun x y h => ?_, fun x y z h1 h2 => ?_⟩
  · unfold lex2 at h ⊢
    by_cases e : (k x).1 = (k y).1
    · rw [if_pos e] at h
      rw [if_pos e.symm]
      have a := lexB_iff.mp h
      exact lexB_no.mpr (by omega)
    · rw [if_neg e] at h
      rw [if_neg (Ne.symm e)]
      have a := lexB_iff.mp h
      exact lexB_no.mpr (by omega)
  · unfold lex2 at h1 h2 ⊢
    by_cases e : (k y).1 = (k x).1
    · rw [if_pos e] at h1
      by_cases e2 : (k z).1 = (k y).1
      · rw [if_pos e2] at h2
        rw [if_pos (e2.trans e)]
        have a := lexB_no.mp h1
        have b := lexB_no.mp h2
        exact lexB_no.mpr (by omega)
      · rw [if_neg e2] at h2
        rw [if_neg (fun z => e2 (z.trans e.symm)), ← e]
        exact h2
    · rw [if_neg e] at h1
      by_cases e2 : (k z).1 = (k y).1
      · rw [if_pos e2] at h2
        rw [if_neg (fun z => e (e2.symm.trans z)), e2]
        exact h1
      · rw [if_neg e2] at h2
        by_cases e3 : (k z).1 = (k x).1
        · exfalso
          rw [e3] at h2
          have := lexB_tot e h1
          rw [h2] at this
          cases this
        · rw [if_neg e3]
          have a := lexB_no.mp h1
          have b := lexB_no.mp h2
          exact lexB_no.mpr (by omega)
theorem lexLt_two {a b c d : Int} : HT.lexLt [a, b] [c, d] = lexB (a, b) (c, d) := by
  rw [HT.lexLt_cons, HT.lexLt_cons, HT.lexLt_nil_nil]
  unfold lexB
  simp only
  by_cases e : a = c
  · rw [if_pos e, if_pos e]
    by_cases e2 : b = d
    · rw [if_pos e2, e2]
      exact (decide_eq_false (Int.lt_irrefl _)).symm
    · rw [if_neg e2]
  · rw [if_neg e, if_neg e]
section
variable {prog : Program} {w : World} {A : Around} {E : Value → Shared → Prop} {s : Shared}
/-- v is a pair of pairs of ints -/
def IsPP (h : Heap) (v : Value) (k : PP) : Prop := ∃ a b c, v = .ref a ∧ IsTup h a #[.ref b, .ref c] ∧ Srt.IsPair h (.ref b) k.1.1 k.1.2 ∧ Srt.IsPair h (.ref c) k.2.1 k.2.2
theorem IsPP.keeps {h h' : Heap} {v : Value} {k : PP} (p : IsPP h v k) (kp : ∀ b o, h.get? b = some o → o.cls = .type "tuple" → h'.get? b = some o) : IsPP h' v k := by
  obtain ⟨a, b, c, e, ⟨o, ho, hc, r⟩, p1, p2⟩ := p
  exact ⟨a, b, c, e, ⟨o, kp _ _ ho hc, hc, r⟩, p1.keeps kp, p2.keeps kp⟩
theorem pair_T {h : Heap} {b : Addr} {x y : Int} (p : Srt.IsPair h (.ref b) x y) : L2.IsT prog w h [x, y] b := by
  obtain ⟨a, o, t, u, n, e, ho, hc, hd⟩ := p
  cases e
  exact ⟨o, _, n, ho, hc, hd, .cons (by simp [L2.TK, intKind, Value.isInt]) (.cons (by simp [intKind, Value.isInt]) .nil)⟩
theorem pair_I {h : Heap} {b : Addr} {x y : Int} (p : Srt.IsPair h (.ref b) x y) : ∃ its, IsTup h b its ∧ IntsAre its.toList [x, y] := by
  obtain ⟨a, o, t, u, n, e, ho, hc, hd⟩ := p
  cases e
  exact ⟨_, ⟨o, ho, hc, n, hd⟩, .cons _ _ (.cons _ _ .nil)⟩
theorem pp_cmp {vs : List Value} {k : Value → PP} (hu : A.units < cLine) (hp : ∀ v ∈ vs, IsPP s.heap v (k v)) : Cmp prog w A s (tuples' false) (fun p => p.1 ∈ vs) (lt2 fun v u => lex2 (k v) (k u)) := by
  intro p q hm hm'
  have h1 := hp _ hm
  have h2 := hp _ hm'
  show wpAny (model prog w) A (keyLt' (tuples' false) p.1 q.1) (fun r s' => s' = s ∧ r = lex2 (k p.1) (k q.1)) (fun _ _ => False) s
  generalize k p.1 = x at h1 ⊢
  generalize k q.1 = y at h2 ⊢
  obtain ⟨a, b, c, e, ⟨o, ho, hc, n, hd⟩, p1, p2⟩ := h1
  obtain ⟨a', b', c', e', ⟨o', ho', hc', n', hd'⟩, q1, q2⟩ := h2
  rw [e, e']
  refine kat_lt ho hd ho' hd' ?_
  show KatLex prog w A false (decide (2 < 2)) _ [(.ref b, .ref b'), (.ref c, .ref c')] 0 s
  refine kat_cons (wpAny_eqBool_tuple hu (pair_T p1) (pair_T q1) ?_)
  refine kat_go (fun e1 => ?_) (fun e1 => ?_)
  · have e1 := of_decide_eq_true e1
    have ex : x.1 = y.1 := Prod.ext (by injection e1) (by injection e1 with _ z; injection z)
    refine kat_yes (kat_cons (wpAny_eqBool_tuple hu (pair_T p2) (pair_T q2) ?_))
    refine kat_go (fun e2 => ?_) (fun e2 => ?_)
    · have e2 := of_decide_eq_true e2
      have ey : x.2 = y.2 := Prod.ext (by injection e2) (by injection e2 with _ z; injection z)
      refine kat_yes (kat_nil ⟨rfl, ?_⟩)
      unfold lex2
      rw [if_pos ex, ey, lexB_irr]
      rfl
    · obtain ⟨i1, t1, r1⟩ := pair_I p2
      obtain ⟨i2, t2, r2⟩ := pair_I q2
      refine kat_no ?_
      show wpAny _ _ (oneLt' false _ _) _ _ _
      refine kat_one _ _ (HT.lt_tupInts t1 t2 r1 r2 hu ⟨rfl, ?_⟩)
      unfold lex2
      rw [if_pos ex, lexLt_two]
  · have e1 := of_decide_eq_false e1
    have ex : x.1 ≠ y.1 := fun z => e1 (by rw [z])
    obtain ⟨i1, t1, r1⟩ := pair_I p1
    obtain ⟨i2, t2, r2⟩ := pair_I q1
    refine kat_no ?_
    show wpAny _ _ (oneLt' false _ _) _ _ _
    refine kat_one _ _ (HT.lt_tupInts t1 t2 r1 r2 hu ⟨rfl, ?_⟩)
    unfold lex2
    rw [if_neg ex, lexLt_two]
theorem firsts_of {h : Heap} : ∀ {vs : List Value}, (∀ v ∈ vs, ∃ k, IsPP h v k) → ∃ fs : List Value, KatTups h vs fs ∧ fs.length = vs.length ∧ ∀ f ∈ fs, ∃ q o, f = Value.ref q ∧ h.get? q = some o ∧ o.cls = .type "tuple"
  | [], _ => ⟨[], KatTups.nil, rfl, fun _ hm => by simp at hm⟩
  | v :: vs, hp => by
    obtain ⟨fs, h1, h2, h3⟩ := firsts_of (vs := vs) fun v' hm => hp v' (List.mem_cons_of_mem _ hm)
    obtain ⟨k, a, b, c, rfl, ⟨o, ho, hc, n, hd⟩, ⟨_, o2, _, _, _, e2, ho2, hc2, _⟩, _⟩ := hp v (List.mem_cons_self ..)
    cases e2
    refine ⟨.ref b :: fs, KatTups.cons ho hc hd rfl h1, by rw [List.length_cons, List.length_cons, h2], fun f hm => ?_⟩
    rcases List.mem_cons.mp hm with rfl | hm
    · exact ⟨b, o2, rfl, ho2, hc2⟩
    · exact h3 f hm
theorem pp_sortable {a : Addr} {vs : List Value} {k : Value → PP} (hu : A.units < cLine) (h0 : 0 < vs.length) (hp : ∀ v ∈ vs, IsPP s.heap v (k v)) (ha : ∀ o, s.heap.get? a = some o → o.cls ≠ .type "tuple") : SortableO prog w A s a vs fun v u => lex2 (k v) (k u) := by
  intro h' keep
  have hp' : ∀ v ∈ vs, IsPP h' v (k v) := fun v hm => (hp v hm).keeps fun b o e c => keep b o (fun z => by subst z; exact ha o e c) e
  obtain ⟨fs, h1, h2, h3⟩ := firsts_of fun v hm => ⟨_, hp' v hm⟩
  refine ⟨tuples' false, fun Q E hq => ?_, pp_cmp (s := { s with heap := h' }) hu hp'⟩
  refine kat_kind (T := .type "tuple") h1 (by omega) (fun f hm => ?_) (by rfl) ?_
  · obtain ⟨q, o, rfl, ho, hc⟩ := h3 f hm
    have z : PySem.W.Looks (model prog w) h' (typeOf (.ref q)) o.cls := (PySem.W.Looks.ld ho).andThen .now
    rw [hc] at z
    exact z
  · have e : (Value.type "tuple" != Value.type "tuple") = false := by first | rfl | decide | simp
    rw [e]
    exact hq
theorem sorted_pp {l : Addr} {vs : List Value} {k : Value → PP} {Q : Value → Shared → Prop} (hu : A.units + 64 < cLine) (hl : s.heap.IsList l vs.toArray) (hz : vs.length ≤ sizeLine) (hp : ∀ v ∈ vs, IsPP s.heap v (k v))
    (h : ∀ (h' : Heap) (d : Addr) (out : List Value), Srtd (fun v u => lex2 (k v) (k u)) out → Stb (fun v u => lex2 (k v) (k u)) out vs → (∀ b o, s.heap.get? b = some o → h'.get? b = some o) → s.heap.objs.size ≤ d → (∃ n, h'.get? d = some (seqObj "list" out.toArray n)) → Q (.ref d) { s with heap := h' }) :
    wpAny (model prog w) A (call (.builtin "sorted") [.ref l]) Q E s := by
  refine sorted_ord (lex2_swo k) hl hz (fun h2 h₁ a ha kk => ?_) fun out hs hb => ?_
  · refine pp_sortable (s := { s with heap := h₁ }) (show A.units + 2 < cLine by omega) (by omega) (fun v hm => (hp v hm).keeps fun b o e _ => (kk b o e).2) fun o e => ?_
    have e' : some o = some (seqObj "list" vs.toArray 0) := e.symm.trans ha
    cases e'
    intro c
    exact absurd (Value.type.inj c) (by decide)
  · exact h _ _ out hs hb (fun b o e => sortedAll_old e) (Nat.le_succ _) (sortedAll_at s.heap vs out.toArray)
end
end ScQ
namespace Sc
open PySem PySem.Spec PyProof.Rows L2
open Py (enc)
abbrev QQ := T2 (T2 Int Int) (T2 Int Int)
def qk (q : QQ) : ScQ.PP := ((q.a.a, q.a.b), (q.b.a, q.b.b))
theorem qk_inj {p q : QQ} (h : qk p = qk q) : p = q := by
  obtain ⟨⟨a, b⟩, ⟨c, d⟩⟩ := p
  obtain ⟨⟨e, f⟩, ⟨g, i⟩⟩ := q
  unfold qk at h
  simp at h
  obtain ⟨⟨h1, h2⟩, h3, h4⟩ := h
  rw [h1, h2, h3, h4]
def rSortedQ (K : PySem.W.Frag) : List V → Hp → VK → Prop := fun vs H Q => ∃ (a : Addr) (xs : List V) (k : V → ScQ.PP), vs = [V.ref a] ∧ SqL K H a xs ∧
  (∀ x ∈ xs, ∃ t u v, x = V.ref t ∧ H t = some (.tup [.ref u, .ref v]) ∧ H u = some (.tup [.int (k x).1.1, .int (k x).1.2]) ∧ H v = some (.tup [.int (k x).2.1, .int (k x).2.2])) ∧
  ∀ ys p, SrtO.Srtd (fun v u => ScQ.lex2 (k v) (k u)) ys → SrtO.Stb (fun v u => ScQ.lex2 (k v) (k u)) ys xs → H p = none → Q (.ref p) (upd H p (.lst ys))
theorem hok_pair {X : Cx} {pins : List (Addr × Obj)} {σ : L2.St} {H : Hp} {s : Shared} {t : Addr} {x y : Int} (I : Inv X pins σ H s) (ht : H t = some (.tup [.int x, .int y])) : Srt.IsPair s.heap (.ref t) x y := by
  obtain ⟨_, its2, r2, o, ho, hc, n, hd⟩ := I.hok _ _ ht
  obtain ⟨u1, u2, rfl, ri, rj⟩ := vals2 r2
  obtain ⟨t1, rfl⟩ := ri
  obtain ⟨t2, rfl⟩ := rj
  exact ⟨t, o, t1, t2, n, rfl, ho, hc, hd⟩
theorem cr_sortedQ {X : Cx} (hu : X.A.units + 64 < cLine) : CallR X (.builtin "sorted") (rSortedQ X.K) := by
  intro pins s σ H vs us Q I r h
  obtain ⟨a, xs, k, rfl, hs, hx, q⟩ := h
  obtain ⟨its, rv, hl, hz⟩ := I.list hs
  obtain ⟨u, rfl, ru⟩ := vals1 r
  obtain rfl : u = Value.ref a := ru
  obtain ⟨e1, e2⟩ := refs_back rv fun x m => by
    obtain ⟨t, _, _, e, _⟩ := hx x m
    exact ⟨t, e⟩
  refine ScQ.sorted_pp (k := fun u => k (backV u)) hu hl.isList (by rw [← rv.length]; exact hz) (fun v hv => ?_) fun h' d out h1 h2 kp hd hn => ?_
  · obtain ⟨t, rfl⟩ := e2 v hv
    have hm : V.ref t ∈ xs := by rw [e1]; exact List.mem_map.mpr ⟨_, hv, rfl⟩
    obtain ⟨t', u, v, e, ht, hu', hv'⟩ := hx _ hm
    cases e
    obtain ⟨_, its2, r2, o, ho, hc, n, hd⟩ := I.hok _ _ ht
    obtain ⟨u1, u2, rfl, ri, rj⟩ := vals2 r2
    obtain rfl : u1 = Value.ref u := ri
    obtain rfl : u2 = Value.ref v := rj
    exact ⟨t, u, v, rfl, ⟨o, ho, hc, n, hd⟩, hok_pair I hu', hok_pair I hv'⟩
  · have h3 : ∀ u ∈ out, ∃ a, u = Value.ref a := fun u hu => e2 u (h2.perm.mem_iff.mp hu)
    obtain ⟨n, hn⟩ := hn
    have hb : SrtO.Stb (fun v u => ScQ.lex2 (k v) (k u)) (out.map backV) xs := by
      rw [e1]
      exact SrtO.Stb.map (ScQ.lex2_swo k) backV h2
    refine ⟨.ref d, upd H d (.lst (out.map backV)), I.laid (t' := s.toks) kp hd ⟨?_, out, n, vals_back h3, hn⟩, rfl, q _ d (SrtO.srtd_map h1) hb (I.hok.fresh hd)⟩
    rw [hb.len]
    exact hz
def ltQ (x y : QQ) : Bool := ScQ.lex2 (qk x) (qk y)
def sortQ (xs : List QQ) : List QQ := xs.mergeSort fun x y => !ltQ y x
theorem ltQ_swo : SrtO.Swo ltQ := ScQ.lex2_swo qk
theorem ltQ_eq {x y : QQ} (h : SrtO.eqv ltQ x y = true) : x = y := by
  obtain ⟨h1, h2⟩ := SrtO.eqv_iff.mp h
  refine qk_inj ?_
  unfold ltQ ScQ.lex2 at h1 h2
  by_cases e : (qk x).1 = (qk y).1
  · rw [if_pos e] at h1
    rw [if_pos e.symm] at h2
    by_cases e2 : (qk x).2 = (qk y).2
    · exact Prod.ext e e2
    · have := ScQ.lexB_tot e2 h1
      rw [h2] at this; cases this
  · rw [if_neg e] at h1
    rw [if_neg (Ne.symm e)] at h2
    have := ScQ.lexB_tot e h1
    rw [h2] at this; cases this
theorem filtQ {x : QQ} (l : List QQ) : l.filter (SrtO.eqv ltQ x) = List.replicate (l.filter (SrtO.eqv ltQ x)).length x :=
  List.eq_replicate_of_mem fun y hy => (ltQ_eq (List.mem_filter.mp hy).2).symm
theorem stb_permQ {l m : List QQ} (h : l.Perm m) : SrtO.Stb ltQ l m := ⟨h, fun x => by
  rw [filtQ l, filtQ m, (h.filter _).length_eq]⟩
theorem sortQ_perm (xs : List QQ) : (sortQ xs).Perm xs := List.mergeSort_perm _ _
theorem sortQ_srtd (xs : List QQ) : SrtO.Srtd ltQ (sortQ xs) := by
  have := List.pairwise_mergeSort (le := fun x y => !ltQ y x) (fun x y z h1 h2 => by
    simp only [Bool.not_eq_true'] at *
    exact ltQ_swo.tr x y z h1 h2) (fun x y => by
    cases e : ltQ y x with
    | false => rfl
    | true => rw [ltQ_swo.asym y x e]; rfl) xs
  exact this.imp fun h => by simpa using h
section
variable {C : Cn} {X : Addr → Prop} {H : Hp} {σ : L2.St} {Γ Γ' : List Sl} {Q : VK} {α β ρ : Type}
def kQ (H : Hp) : V → ScQ.PP
  | .ref b => match H b with
    | some (.tup [u, v]) => (kOf H u, kOf H v)
    | _ => ((0, 0), (0, 0))
  | _ => ((0, 0), (0, 0))
theorem kQ_at {b u v : Addr} {q : QQ} (h : H b = some (.tup [.ref u, .ref v])) (hu : H u = some (.tup ((kq q.a).map kV))) (hv : H v = some (.tup ((kq q.b).map kV))) : kQ H (.ref b) = qk q := by
  unfold kQ
  simp only [h]
  rw [kOf_at hu, kOf_at hv]
  rfl
theorem q_rep {K : PySem.W.Frag} {q : QQ} {y : V} (r : Rep K X H (enc q) y) : ∃ b u v, y = .ref b ∧ H b = some (.tup [.ref u, .ref v]) ∧ H u = some (.tup ((kq q.a).map kV)) ∧ H v = some (.tup ((kq q.b).map kV)) := by
  obtain ⟨a, vs, rfl, h, w⟩ := rep_tupS (ds := [enc q.a, enc q.b]) r
  cases w with
  | cons q1 w => cases w with
    | cons q2 w =>
      cases w
      obtain ⟨u, rfl, hu⟩ := key_rep q1
      obtain ⟨v, rfl, hv⟩ := key_rep q2
      exact ⟨a, u, v, rfl, h, hu, hv⟩
def unQ (k : ScQ.PP) : QQ := ⟨⟨k.1.1, k.1.2⟩, ⟨k.2.1, k.2.2⟩⟩
def PQ (H : Hp) (y : V) : Prop := ∃ b u v, y = .ref b ∧ H b = some (.tup [.ref u, .ref v]) ∧ H u = some (.tup [.int (kQ H y).1.1, .int (kQ H y).1.2]) ∧ H v = some (.tup [.int (kQ H y).2.1, .int (kQ H y).2.2])
theorem qs_rep {K : PySem.W.Frag} : ∀ {xs : List QQ} {vs : List V}, Reps K X H (xs.map enc) vs → (∀ y ∈ vs, PQ H y) ∧ vs.map (fun y => unQ (kQ H y)) = xs
  | [], _, .nil => ⟨fun _ h => (nomatch h), rfl⟩
  | x :: xs, _, .cons r t => by
    obtain ⟨h1, h2⟩ := qs_rep t
    obtain ⟨b, u, v, rfl, hb, hu, hv⟩ := q_rep r
    have e := kQ_at (q := x) hb hu hv
    refine ⟨fun y hy => ?_, ?_⟩
    · rcases List.mem_cons.mp hy with z | hy
      · subst z; exact ⟨b, u, v, rfl, hb, by rw [e]; exact hu, by rw [e]; exact hv⟩
      · exact h1 y hy
    · rw [List.map_cons, h2, e]
      rfl
theorem reps_qs {K : PySem.W.Frag} : ∀ {ys : List V}, (∀ y ∈ ys, PQ H y) → Reps K X H ((ys.map fun y => unQ (kQ H y)).map enc) ys
  | [], _ => .nil
  | y :: ys, h => by
    obtain ⟨b, u, v, e, hb, hu, hv⟩ := h y List.mem_cons_self
    refine .cons ?_ (reps_qs fun z hz => h z (List.mem_cons_of_mem _ hz))
    rw [e] at hu hv ⊢
    exact .tup hb (.cons (.tup hu (.cons (.int _) (.cons (.int _) .nil))) (.cons (.tup hv (.cons (.int _) (.cons (.int _) .nil))) .nil))
theorem unQ_qk (x : V) : qk (unQ (kQ H x)) = kQ H x := rfl
theorem sortedQ_core {xs : List QQ} {a : Addr} {vs : List V} (hs : Rd H a (.lst vs)) (q : Reps C.K X H (xs.map enc) vs) (h : ∀ ys, Reps C.K X H ((sortQ xs).map enc) ys → ∀ p, H p = none → Q (.ref p) (upd H p (.lst ys))) : rSortedQ C.K [.ref a] H Q := by
  obtain ⟨k1, k2⟩ := qs_rep q
  refine ⟨a, vs, kQ H, rfl, .inl hs, fun x hx => k1 x hx, fun ys q hs hb hq => ?_⟩
  have es : ys.map (fun y => unQ (kQ H y)) = sortQ xs := by
    refine SrtO.stb_uniq ltQ_swo (SrtO.srtd_map (lt := ltQ) (f := fun y => unQ (kQ H y)) hs) (sortQ_srtd _) (stb_permQ ?_)
    refine ((hb.perm.map _).trans ?_).trans (sortQ_perm _).symm
    rw [k2]
  refine h ys ?_ q hq
  rw [← es]
  exact reps_qs fun y hy => k1 y (hb.perm.mem_iff.mp hy)
/-- sorted of data, of a list of the body's own: data, a list of the body's own -/
theorem x_sortedQ {xs : List QQ} {v : V} (L : Lo C X H σ Γ) (r : Rep C.K X H (enc xs) v) (h : ∀ v H1, Lo C X H1 σ Γ → (∀ d u, Rep C.K X H d u → Rep C.K X H1 d u) → Rep C.K X H1 (enc (sortQ xs)) v → Q v H1) : rSortedQ C.K [v] H Q := by
  obtain ⟨a, vs, rfl, _, hs, q⟩ := rep_lst (ds := xs.map enc) r
  exact sortedQ_core hs q fun ys rp => x_new L rp h
theorem x_sortedQN {xs : List QQ} {v : V} (L : Lo C X H σ Γ) (r : Rep C.K X H (enc xs) v) (h : ∀ p X' H1, C.H0 p = none → ¬ C.X0 p → Lo C X' H1 σ (Γ ++ [.tmp p (ml (sortQ xs))]) → (∀ d u, Rep C.K X H d u → Rep C.K X' H1 d u) → Q (.ref p) H1) : rSortedQ C.K [v] H Q := by
  obtain ⟨a, vs, rfl, _, hs, q⟩ := rep_lst (ds := xs.map enc) r
  exact sortedQ_core hs q fun ys rp => x_newN L rp h
theorem x_sortedQM {xs : List QQ} {i : Nat} {p : Addr} (L : Lo C X H σ Γ) (g : Γ[i]? = some (.mu p (ml xs))) (h : ∀ v H1, Lo C X H1 σ Γ → (∀ d u, Rep C.K X H d u → Rep C.K X H1 d u) → Rep C.K X H1 (enc (sortQ xs)) v → Q v H1) : rSortedQ C.K [.ref p] H Q := by
  obtain ⟨vs, hv, q⟩ := L.mrep g
  exact sortedQ_core (.inl hv) q fun ys rp => x_new L rp h
theorem x_sortedQMN {xs : List QQ} {i : Nat} {p : Addr} (L : Lo C X H σ Γ) (g : Γ[i]? = some (.mu p (ml xs))) (h : ∀ p X' H1, C.H0 p = none → ¬ C.X0 p → Lo C X' H1 σ (Γ ++ [.tmp p (ml (sortQ xs))]) → (∀ d u, Rep C.K X H d u → Rep C.K X' H1 d u) → Q (.ref p) H1) : rSortedQ C.K [.ref p] H Q := by
  obtain ⟨vs, hv, q⟩ := L.mrep g
  exact sortedQ_core (.inl hv) q fun ys rp => x_newN L rp h
end
end Sc
/-! ### an inner list of a new list of new lists is written -/
namespace Sc
open PySem PySem.Spec PyProof.Rows L2
open Py (enc)
theorem Rd.fn {H : Hp} {a : Addr} {us vs : List V} (h : Rd H a (.lst us)) (k : Rd H a (.lst vs)) : us = vs := by
  rcases h with h | ⟨o, h⟩ <;> rcases k with k | ⟨q, k⟩ <;> rw [h] at k <;> cases k <;> rfl
mutual
theorem Rep.fn {K : PySem.W.Frag} {X Y : Addr → Prop} {H : Hp} : ∀ {d e : PyData} {v : V}, Rep K X H d v → Rep K Y H e v → d = e
  | _, _, _, .non, .non => rfl
  | _, _, _, .bl _, .bl _ => rfl
  | _, _, _, .int _, .int _ => rfl
  | _, _, _, .str _, .str _ => rfl
  | _, _, _, .tup h r, .tup k q => by
    have e := h.symm.trans k
    cases e
    rw [Reps.fn r q]
  | _, _, _, .tup h r, .lst n k q => by
    rcases k with k | ⟨o, k⟩ <;> rw [h] at k <;> cases k
  | _, _, _, .lst n k q, .tup h r => by
    rcases k with k | ⟨o, k⟩ <;> rw [h] at k <;> cases k
  | _, _, _, .lst _ h r, .lst _ k q => by
    have e := Rd.fn h k
    subst e
    rw [Reps.fn r q]
theorem Reps.fn {K : PySem.W.Frag} {X Y : Addr → Prop} {H : Hp} : ∀ {d e : List PyData} {v : List V}, Reps K X H d v → Reps K Y H e v → d = e
  | _, _, _, .nil, .nil => rfl
  | _, _, _, .cons r t, .cons q u => by rw [Rep.fn r q, Reps.fn t u]
end
theorem encs_inj [Py α] [IT α] : ∀ {xs ys : List α}, xs.map enc = ys.map enc → xs = ys
  | [], [], _ => rfl
  | [], _ :: _, h => nomatch h
  | _ :: _, [], h => nomatch h
  | x :: xs, y :: ys, h => by
    injection h with h1 h2
    rw [IT.enc_eq, IT.enc_eq] at h1
    injection h1 with h1
    have inj : ∀ {a b : List Int}, a.map PyData.int = b.map PyData.int → a = b := by
      intro a
      induction a with
      | nil => intro b e; cases b with | nil => rfl | cons _ _ => cases e
      | cons n a ih =>
        intro b e
        cases b with
        | nil => cases e
        | cons m b => injection e with e1 e2; injection e1 with e1; rw [e1, ih e2]
    rw [IT.inj _ _ (inj h1), encs_inj h2]
/-- the item of xs at i, unlike any other one: what is ahead, itself, what is behind -/
def takeO {α : Type} [DecidableEq α] (xs : List α) (i : Int) : Option (T3 (List α) α (List α)) :=
  (ixN xs.length i).bind fun k => xs[k]?.bind fun x => if x ∈ xs.take k ∨ x ∈ xs.drop (k + 1) then none else some ⟨xs.take k, x, xs.drop (k + 1)⟩
theorem takeO_eq {α : Type} [DecidableEq α] {xs : List α} {i : Int} {q : T3 (List α) α (List α)} (h : takeO xs i = some q) : xs = q.a ++ q.b :: q.c ∧ ixN xs.length i = some q.a.length ∧ q.b ∉ q.a ∧ q.b ∉ q.c := by
  unfold takeO at h
  obtain ⟨k, hk, h⟩ := ob h
  obtain ⟨x, hx, h⟩ := ob h
  split at h
  · cases h
  · next n =>
    cases h
    have hlt := (List.getElem?_eq_some_iff.mp hx).1
    refine ⟨?_, ?_, fun z => n (.inl z), fun z => n (.inr z)⟩
    · show xs = xs.take k ++ x :: xs.drop (k + 1)
      have e := List.getElem?_eq_some_iff.mp hx
      obtain ⟨e1, e2⟩ := e
      rw [← e2, ← List.drop_eq_getElem_cons e1, List.take_append_drop]
    · rw [hk, List.length_take, Nat.min_eq_left (Nat.le_of_lt hlt)]
def HoleR (K : PySem.W.Frag) (b : Addr) (d1 d2 : List PyData) : Addr → (Addr → Prop) → Hp → Prop := fun p X H => ∃ v1 v2, H p = some (.lst (v1 ++ .ref b :: v2)) ∧ Reps K X H d1 v1 ∧ Reps K X H d2 v2
theorem HoleR.rx {K : PySem.W.Frag} {b : Addr} {d1 d2 : List PyData} : RX (HoleR K b d1 d2) where
  keep := fun k e ⟨v1, v2, h, r1, r2⟩ => ⟨v1, v2, e.trans h, r1.keep k, r2.keep k⟩
  anti := fun k ⟨v1, v2, h, r1, r2⟩ => ⟨v1, v2, h, r1.anti k, r2.anti k⟩
  more := fun k ⟨v1, v2, h, r1, r2⟩ => ⟨v1, v2, h, r1.more k, r2.more k⟩
  nn := fun ⟨v1, v2, h, _⟩ => by rw [h]; exact fun z => (nomatch z)
  ntup := fun ⟨v1, v2, h, _⟩ => by
    rw [h]
    exact ⟨fun _ z => (nomatch z), fun _ _ z => (nomatch z)⟩
section
variable {C : Cn} {X : Addr → Prop} {H : Hp} {σ : L2.St} {Γ Γ' : List Sl} {Q : VK} {α ρ : Type}
theorem Reps.split {K : PySem.W.Frag} : ∀ {d1 d2 : List PyData} {vs : List V}, Reps K X H (d1 ++ d2) vs → ∃ v1 v2, vs = v1 ++ v2 ∧ Reps K X H d1 v1 ∧ Reps K X H d2 v2
  | [], d2, vs, r => ⟨[], vs, rfl, .nil, r⟩
  | _ :: d1, d2, _, .cons r t => by
    obtain ⟨v1, v2, rfl, r1, r2⟩ := Reps.split (d1 := d1) t
    exact ⟨_ :: v1, v2, rfl, .cons r r1, r2⟩
/-- other lists than the one at b -/
theorem Reps.unlike [Py α] [IT α] [Flat α] {K : PySem.W.Frag} {Y : Addr → Prop} {b : Addr} {x : List α} {us : List V} (hb : H b = some (.lst us)) (rb : Reps K Y H (x.map enc) us) : ∀ {xs : List (List α)} {vs : List V}, x ∉ xs → Reps K Y H (xs.map enc) vs → (∀ a, X a → Y a) → Reps K (fun a => X a ∨ a = b) H (xs.map enc) vs
  | [], _, _, .nil, _ => .nil
  | y :: xs, _, n, .cons r t, hy => by
    refine .cons ?_ (Reps.unlike hb rb (fun z => n (List.mem_cons_of_mem _ z)) t hy)
    obtain ⟨a, ws, rfl, na, rd, q⟩ := rep_lst (ds := y.map enc) r
    refine .lst (fun z => z.elim (fun z => na (hy a z)) fun z => ?_) rd q.flat
    subst z
    have e := Rd.fn rd (.inl hb)
    subst e
    exact n (encs_inj (Reps.fn rb q) ▸ List.mem_cons_self)
theorem muts_set_new {Γ : List Sl} {j : Nat} {b : Addr} {o : MO} (hj : Γ[j]? = some .unk) (nb : b ∉ muts Γ) (nd : (muts Γ).Nodup) : (muts (Γ.set j (.mu b o))).Nodup ∧ ∀ q, q ∈ muts (Γ.set j (.mu b o)) → q = b ∨ q ∈ muts Γ := by
  have hmem : ∀ q, q ∈ muts (Γ.set j (.mu b o)) → q = b ∨ q ∈ muts Γ := fun q hq => by
    obtain ⟨k, s, hk, e⟩ := mem_muts.mp hq
    by_cases z : k = j
    · subst z
      rw [List.getElem?_set_self (List.getElem?_eq_some_iff.mp hj).1] at hk
      cases hk; cases e; exact .inl rfl
    · rw [List.getElem?_set_ne (Ne.symm z)] at hk
      exact .inr (mem_muts.mpr ⟨k, s, hk, e⟩)
  refine ⟨?_, hmem⟩
  clear hmem
  induction Γ generalizing j with
  | nil => cases hj
  | cons s Γ ih =>
    cases j with
    | zero =>
      have e : s = .unk := by simpa using hj
      subst e
      exact List.nodup_cons.mpr ⟨nb, nd⟩
    | succ j =>
      have hj' : Γ[j]? = some .unk := by simpa using hj
      rw [List.set_cons_succ]
      unfold muts at nb nd ⊢
      rw [List.filterMap_cons] at nb nd ⊢
      cases e : s.ad with
      | none =>
        rw [e] at nb nd
        exact ih hj' nb nd
      | some q =>
        rw [e] at nb nd
        obtain ⟨n1, n2⟩ := List.nodup_cons.mp nd
        have ih' := ih hj' (fun z => nb (List.mem_cons_of_mem _ z)) n2
        refine List.nodup_cons.mpr ⟨fun z => ?_, ih'⟩
        obtain ⟨k, s', hk, e'⟩ := mem_muts.mp z
        by_cases y : k = j
        · subst y
          rw [List.getElem?_set_self (List.getElem?_eq_some_iff.mp hj').1] at hk
          cases hk; cases e'
          exact nb List.mem_cons_self
        · rw [List.getElem?_set_ne (Ne.symm y)] at hk
          exact n1 (mem_muts.mpr ⟨k, s', hk, e'⟩)
def Sl.noX : Sl → Bool
  | .exv _ _ => false
  | _ => true
/-- a new list's address joins what may be written -/
theorem Lo.grow {Z : Addr → Prop} {b : Addr} {us : List V} (L : Lo C X H σ Γ) (h0 : C.H0 b = none) (nb : ¬ X b) (zb : Z b) (h : H b = some (.lst us)) (old : ∀ s ∈ Γ, OldS Z s) (nx : ∀ s ∈ Γ, s.noX = true) : Lo C (fun a => X a ∨ a = b) H σ Γ := by
  refine ⟨L.len, fun i s hi => ?_, L.nd, fun p hp => .inl (L.mx p hp), fun a z => .inl (L.m0 a z), fun a z => z.elim (L.xd a) (fun z => by rw [z, h]; exact fun y => nomatch y), L.base, L.dom, L.own, L.tf⟩
  have hs := L.at_ i s hi
  have ho := old s (List.mem_of_getElem? hi)
  cases s with
  | unk => trivial
  | ref a => exact hs
  | scr ns => exact ho.elim
  | imm d =>
    obtain ⟨u, e, r⟩ := hs
    exact ⟨u, e, (ho _ _ _ _ r).anti fun _ _ => trivial⟩
  | fixN Z' d =>
    obtain ⟨u, e, r⟩ := hs
    exact ⟨u, e, (r.unl (b := b) fun a z y => ho a z (y ▸ zb)).anti fun a z => z.elim (fun z => z.elim (fun z => .inl (.inl z)) .inr) fun z => .inl (.inr z)⟩
  | exv _ _ => exact (Bool.false_ne_true (nx _ (List.mem_of_getElem? hi))).elim
  | lax i j => exact ho.elim
  | fix Z' d =>
    obtain ⟨u, e, r⟩ := hs
    exact ⟨u, e, r.anti fun a z => z.elim (fun z => z.elim .inl fun z => .inr fun y => ho a y (z ▸ zb)) .inr⟩
  | mu p o =>
    obtain ⟨e, r⟩ := hs
    refine ⟨e, ?_⟩
    cases o with
    | lst ds =>
      obtain ⟨vs, hv, r⟩ := r
      exact ⟨vs, hv, (ho _ _ _ _ r).anti fun _ _ => trivial⟩
    | lstZ _ _ => exact ho.elim
    | dct _ => exact ho.elim
    | ex _ => exact ho.elim
    | any => exact r
  | tmp p o => exact ho.elim
/-- name = xs[i], xs a new list of new lists: the item is the body's own now -/
theorem x_take [Py α] [IT α] [Flat α] [DecidableEq α] {xs : List (List α)} {Z : Addr → Prop} {i j : Nat} {p : Addr} {ix : Int} {k : T3 (List (List α)) (List α) (List (List α)) → Option ρ} {r : ρ} {N : L2.St → Hp → Prop} {G' : Addr → T3 (List (List α)) (List α) (List (List α)) → List Sl} (L : Lo C X H σ Γ) (hZ : ∀ a, Z a → C.H0 a = none) (hj : j < C.n)
    (g : Γ[i]? = some (.mu p (.lstZ Z (xs.map enc)))) (gj : Γ[j]? = some .unk) (old : ∀ s ∈ Γ.set i (.mu p .any), OldS Z s) (nx : (Γ.set i (.mu p .any)).all Sl.noX = true) (hm : (takeO xs ix).bind k = some r)
    (e : ∀ b q, (Γ.set i (.mu p (.ex (HoleR C.K b (q.a.map enc) (q.c.map enc))))).set j (.mu b (ml q.b)) = G' b q)
    (h : ∀ q b X' σ', k q = some r → C.H0 b = none → ¬ C.X0 b → Lo C X' H σ' (G' b q) → N σ' H) : rIxL C.K (.ref p) (.int ix) H fun v H1 => gName j v σ H1 N := by
  obtain ⟨q, hq, hk⟩ := ob hm
  obtain ⟨hx, hix, n1, n2⟩ := takeO_eq hq
  have hil : i < Γ.length := (List.getElem?_eq_some_iff.mp g).1
  have ne : i ≠ j := fun z => by subst z; rw [g] at gj; cases gj
  obtain ⟨hp, vs, hv, rv⟩ := L.at_ i _ g
  rw [hx, List.map_append, List.map_cons] at rv
  obtain ⟨v1, v2', rfl, r1, r2⟩ := rv.split
  cases r2 with
  | @cons _ _ vb v2 rb r2 =>
    obtain ⟨b, us, rfl, nb, rd, qb⟩ := rep_lst (ds := q.b.map enc) rb
    have hb : H b = some (.lst us) := by
      rcases rd with rd | ⟨o, rd⟩
      · exact rd
      · exact (nb (.inr (.inr ⟨_, _, rd⟩))).elim
    have zb : Z b := Classical.not_not.mp fun h => nb (.inr (.inl h))
    have nX : ¬ X b := fun h => nb (.inl h)
    have hl : v1.length = q.a.length := by rw [r1.length, List.length_map]
    have hlen : (v1 ++ V.ref b :: v2).length = xs.length := by
      have := congrArg List.length hx
      rw [List.length_append, List.length_cons] at this ⊢
      rw [r2.length, List.length_map, hl, this]
    refine ⟨p, v1 ++ V.ref b :: v2, ix, .ref b, rfl, rfl, .inl (.inl hv), ?_, ?_⟩
    · show (ixN (v1 ++ V.ref b :: v2).length ix).bind _ = _
      rw [hlen, hix]
      show (v1 ++ V.ref b :: v2)[q.a.length]? = _
      rw [← hl, List.getElem?_append_right (Nat.le_refl _), Nat.sub_self]
      rfl
    have L1 : Lo C X H σ (Γ.set i (.mu p .any)) := L.resl g rfl fun v ⟨e, vs, h, _⟩ => ⟨e, vs, h⟩
    have L2 := L1.grow (hZ b zb) nX zb hb old (List.all_eq_true.mp nx)
    have g2 : (Γ.set i (Sl.mu p .any))[i]? = some (.mu p .any) := List.getElem?_set_self hil
    have L3 : Lo C (fun a => X a ∨ a = b) H σ ((Γ.set i (.mu p .any)).set i (.mu p (.ex (HoleR C.K b (q.a.map enc) (q.c.map enc))))) :=
      L2.resl g2 rfl fun v ⟨e, _⟩ => ⟨e, HoleR.rx, v1, v2, hv, Reps.unlike hb qb n1 r1 fun a z => .inl z, Reps.unlike hb qb n2 r2 fun a z => .inl z⟩
    rw [List.set_set] at L3
    have gj3 : (Γ.set i (Sl.mu p (.ex (HoleR C.K b (q.a.map enc) (q.c.map enc)))))[j]? = some .unk := by rw [List.getElem?_set_ne ne]; exact gj
    have nm : b ∉ muts (Γ.set i (Sl.mu p (.ex (HoleR C.K b (q.a.map enc) (q.c.map enc))))) := fun z => by
      obtain ⟨m, s, hm, e⟩ := mem_muts.mp z
      by_cases y : m = i
      · subst y
        rw [List.getElem?_set_self hil] at hm
        cases hm; cases e
        exact nX (L.mx p (mem_muts.mpr ⟨m, _, g, rfl⟩))
      · rw [List.getElem?_set_ne (Ne.symm y)] at hm
        exact nX (L.mx b (mem_muts.mpr ⟨m, s, hm, e⟩))
    obtain ⟨nd, mem⟩ := muts_set_new (o := ml q.b) gj3 nm L3.nd
    have hjl : j < σ.length := by rw [L.len]; exact hj
    refine h q b (fun a => X a ∨ a = b) (σ.set j (some (.ref b))) hk (hZ b zb) (fun z => nX (L.m0 b z)) ?_
    rw [← e]
    refine ⟨by rw [List.length_set]; exact L.len, fun m s hm => ?_, nd, fun a ha => (mem a ha).elim .inr (L3.mx a), L3.m0, L3.xd, L3.base, L3.dom, fun a ha => (mem a ha).elim (fun z => .inr (z ▸ hZ b zb)) (L3.own a), L3.tf⟩
    by_cases z : m = j
    · subst z
      rw [List.getElem?_set_self (List.getElem?_eq_some_iff.mp gj3).1] at hm
      cases hm
      exact ⟨List.getElem?_set_self hjl, us, hb, qb.flat⟩
    · rw [List.getElem?_set_ne (Ne.symm z)] at hm
      have := L3.at_ m s hm
      rwa [List.getElem?_set_ne (Ne.symm z)]
/-- the item is put back -/
theorem Lo.putBack {p b : Addr} {d1 d2 ds : List PyData} {i j : Nat} (L : Lo C X H σ Γ) (hx : ¬ C.X0 b) (gi : Γ[i]? = some (.mu p (.ex (HoleR C.K b d1 d2)))) (gj : Γ[j]? = some (.mu b (.lst ds))) (e : (Γ.set j .unk).set i (.mu p (.lst (d1 ++ .list ds :: d2))) = Γ') :
    Lo C (fun a => X a ∧ a ≠ b) H σ Γ' := by
  subst e
  have ne : i ≠ j := fun z => by subst z; rw [gi] at gj; cases gj
  have hjl : j < Γ.length := (List.getElem?_eq_some_iff.mp gj).1
  have L1 := L.freeze gj hx
  have hv := (L.at_ j _ gj).1
  obtain ⟨u, e1, r⟩ := L1.at_ j _ (List.getElem?_set_self hjl)
  rw [hv] at e1
  cases e1
  have L2 : Lo C (fun a => X a ∧ a ≠ b) H σ ((Γ.set j (.imm (.list ds))).set j .unk) := L1.resl (List.getElem?_set_self hjl) rfl fun _ _ => trivial
  rw [List.set_set] at L2
  refine L2.resl (i := i) (s := .mu p (.ex (HoleR C.K b d1 d2))) (by rw [List.getElem?_set_ne (Ne.symm ne)]; exact gi) rfl fun v ⟨e, _, v1, v2, h, r1, r2⟩ => ⟨e, _, h, r1.append (.cons r r2)⟩
theorem Lo.putB [Py α] {p b : Addr} {d1 d2 : List (List α)} {ds : List α} {i j : Nat} (L : Lo C X H σ Γ) (hx : ¬ C.X0 b) (gi : Γ[i]? = some (.mu p (.ex (HoleR C.K b (d1.map enc) (d2.map enc))))) (gj : Γ[j]? = some (.mu b (ml ds))) (e : (Γ.set j .unk).set i (.mu p (ml (d1 ++ ds :: d2))) = Γ') :
    Lo C (fun a => X a ∧ a ≠ b) H σ Γ' :=
  L.putBack hx gi gj (by rw [← e, ml, List.map_append, List.map_cons]; rfl)
end
open Py (enc)
section
variable {C : Cn} {X : Addr → Prop} {H : Hp} {σ : L2.St} {Γ Γ' : List Sl} {Q : VK} {α τ ρ : Type}
/-- for k, x in enumerate(xs), with a return or a break -/
theorem x_flE [Py α] {xs : List α} {f : T2 Int α → τ → Option (Lp τ ρ)} {G : τ → List Sl} {ps : ρ → List (Addr × MO)} {rs : ρ → Rs} {s0 : τ} {u : V} {g : TG} {tb : TS} {nx bk ct : L2.St → Hp → Prop} {rt : VK} {δ : Type} {k : τ → Option δ} {j : ρ → Option δ} {res : δ}
    (L : Lo C X H σ (G s0)) (hG : ∀ s s', muts (G s) = muts (G s')) (r : Rep C.K X H (enc xs) u) (hm : (loopL f (enumL xs) s0).bind (fun o => o.out j k) = some res)
    (body : ∀ x s, Body C X G ps rs (enc x) s (f x s) g tb) (done : ∀ s σ' H', k s = some res → Lo C X H' σ' (G s) → nx σ' H')
    (ret : ∀ q v H', j q = some res → Fin C.K C.X0 C.H0 C.P0 (ps q) (rs q) v H' → rt v H') : KForE C.K g tb ⟨nx, rt, bk, ct⟩ σ [u] H := by
  obtain ⟨o, h1, h2⟩ := ob hm
  obtain ⟨a, vs, rfl, hna, hrd, hrs⟩ := rep_lst (ds := xs.map enc) r
  have e1 : vs.length = xs.length := by rw [hrs.length, List.length_map]
  refine ⟨a, vs, rfl, .inl hrd, fun i m σ' H' => m = xs.length - i ∧ i ≤ xs.length ∧ ∃ s, Lo C X H' σ' (G s) ∧ Reps C.K X H' (xs.map enc) vs ∧ Rd H' a (.lst vs) ∧ loopL f ((enumL xs).drop i) s = some o, ⟨xs.length, by simp, Nat.zero_le _, s0, L, hrs, hrd, h1⟩, ?_⟩
  rintro i m σ' H' ⟨rfl, hi, s, L', r', hd, hm'⟩
  by_cases hlt : i < xs.length
  · refine .inr ⟨⟨vs, vs[i]'(by omega), .inl hd, List.getElem?_eq_getElem (by omega)⟩, fun σ'' H'' => i + 1 ≤ xs.length ∧ ∃ s, Lo C X H'' σ'' (G s) ∧ Reps C.K X H'' (xs.map enc) vs ∧ Rd H'' a (.lst vs) ∧ loopL f ((enumL xs).drop (i + 1)) s = some o, fun σ'' H'' p' => ⟨xs.length - (i + 1), by omega, rfl, p'⟩, ?_⟩
    rintro w H2 ⟨T, y, rfl, hT, rfl, hall⟩
    have hy : vs[i]? = some y := hall vs (.inl hd)
    obtain ⟨d, hd1, rd⟩ := r'.get' hy
    rw [List.getElem?_map] at hd1
    cases hx : xs[i]? with
    | none => rw [hx] at hd1; cases hd1
    | some x =>
      rw [hx] at hd1
      cases hd1
      obtain ⟨o1, g1, g2, g3, g4⟩ := loop_drop (enumL_at hx) hm'
      have sT : Same H' (upd H' T (.tup [.int (i : Nat), y])) := same_upd hT
      have LT := L'.same sT
      have rT : Rep C.K X (upd H' T (.tup [.int (i : Nat), y])) (enc (T2.mk (i : Int) x)) (.ref T) := .tup upd_same (.cons (.int _) (.cons (rd.keep (.same sT)) .nil))
      have rT1 := r'.keep (.same sT)
      have kd : ∀ {c : Addr} {ws : List V}, Rd H' c (.lst ws) → Rd (upd H' T (.tup [.int (i : Nat), y])) c (.lst ws) := fun h => h.elim (fun h => .inl (sT _ _ h)) fun ⟨o, h⟩ => .inr ⟨o, sT _ _ h⟩
      refine body (T2.mk (i : Int) x) s _ σ' _ _ _ _ _ o1 g1 LT.enter LT.dom rT ?_ ?_ ?_ ?_
      · intro s' e X' σ'' H'' L''
        have k := LT.keep L''
        exact ⟨hlt, s', LT.leave L'' (hG _ _), rT1.keep k, k.rd hna (kd hd), g2 s' e⟩
      · intro s' e X' σ'' H'' L''
        have k := LT.keep L''
        exact ⟨hlt, s', LT.leave L'' (hG _ _), rT1.keep k, k.rd hna (kd hd), g2 s' e⟩
      · intro s' e X' σ'' H'' L''
        exact done _ _ _ (by rw [g3 s' e] at h2; exact h2) (LT.leave L'' (hG _ _))
      · intro q e v' H'' F
        exact ret q v' H'' (by rw [g4 q e] at h2; exact h2) (F.leave LT)
  · have ei : i = xs.length := by omega
    subst ei
    rw [List.drop_eq_nil_of_le (by rw [enumL_len]; omega)] at hm'
    have e : o = .nxt s := (Option.some.inj hm').symm
    subst e
    exact .inl ⟨⟨vs, .inl hd, by omega⟩, done _ _ _ h2 L'⟩
/-- ns.index(k) -/
def idxO (ns : List Int) (k : Int) : Option Int := if k ∈ ns then some (ns.idxOf k : Nat) else none
theorem x_tyD {ds : List PyData} {v : V} {P : Prop} {Y : Addr → Prop} {H : Hp} (r : Rep C.K Y H (.list ds) v) (h : P) : tyV C.K "list" v H ∧ P := by
  obtain ⟨a, vs, rfl, _, hs, _⟩ := rep_lst r
  exact ⟨.inl ⟨rfl, vs, .inl hs⟩, h⟩
def rIndexX (K : PySem.W.Frag) : V → List V → Hp → VK → Prop := rIndex K
theorem mt_indexX {Xc : Cx} : MtR Xc "list.index" (rIndexX Xc.K) := mt_index
theorem x_index {ns : List Int} {n : Int} {v : V} {k : Int → Option ρ} {r : ρ} (hm : (idxO ns n).bind k = some r) (rv : Rep C.K X H (enc ns) v) (h : ∀ z, k z = some r → Q (.int z) H) : rIndexX C.K v [.int n] H Q := by
  obtain ⟨z, e, hk⟩ := ob hm
  obtain ⟨a, us, rfl, hna, hrd, hrs⟩ := rep_lst (ds := ns.map enc) rv
  have e2 : us = ns.map V.int := Reps.toInts hrs
  subst e2
  unfold idxO at e
  split at e
  · next hmem =>
    cases e
    have hj := List.idxOf_lt_length_iff.mpr hmem
    refine ⟨a, _, .int n, ns.idxOf n, .int n, rfl, rfl, .inl hrd, rfl, ?_, ?_, ?_, ?_, h _ hk⟩
    · rw [List.all_map]; exact List.all_eq_true.mpr fun _ _ => rfl
    · rw [List.getElem?_map, List.getElem?_eq_getElem hj, List.getElem_idxOf hj]; rfl
    · simp [eqV]
    · intro m z hm hz
      rw [List.getElem?_map] at hz
      cases hq : ns[m]? with
      | none => rw [hq] at hz; cases hz
      | some y =>
        rw [hq] at hz
        cases hz
        have hne : y ≠ n := fun e => by
          subst e
          obtain ⟨h1, h2⟩ := List.getElem?_eq_some_iff.mp hq
          have := List.not_of_lt_findIdx (p := (· == y)) (xs := ns) (i := m) hm
          simp [h2] at this
        simp [eqV, hne]
  · cases e
/-! ### told values whose lists are all new -/
theorem Rep.ofN {K : PySem.W.Frag} {X Z : Addr → Prop} {H : Hp} {d : PyData} {v : V} (r : Rep K (NewX X Z H) H d v) : Rep K X H d v := r.anti fun _ => .inl
theorem x_vfz {i : Nat} {d : PyData} {Z : Addr → Prop} (L : Lo C X H σ Γ) (e : Γ[i]? = some (.fixN Z d)) (h : ∀ v, Rep C.K (NewX X Z H) H d v → Q v H) : tVar i σ H Q := by
  obtain ⟨u, e1, r⟩ := L.at_ i _ e
  exact ⟨u, e1, h u r⟩
theorem Lo.freezeZ0 {Z : Addr → Prop} {p : Addr} {ds : List PyData} (L : Lo C X H σ Γ) {i : Nat} (e : Γ[i]? = some (.mu p (.lstZ Z ds))) (hx : ¬ C.X0 p) (hz : ∀ a, ¬ Z a → C.H0 a ≠ none) (h0 : C.H0 p = none) : Lo C (fun a => X a ∧ a ≠ p) H σ (Γ.set i (.fixN Z (.list ds))) := by
  have hil : i < Γ.length := (List.getElem?_eq_some_iff.mp e).1
  refine ⟨L.len, fun j t hj => ?_, nodup_setS rfl L.nd, fun q hq => ⟨L.mx q (muts_setS rfl hq), fun z => ?_⟩, fun a h => ⟨L.m0 a h, fun z => hx (z ▸ h)⟩, fun a h => L.xd a h.1, L.base, L.dom, fun q hq => L.own q (muts_setS rfl hq), L.tf⟩
  · by_cases z : j = i
    · subst z
      rw [List.getElem?_set_self hil] at hj
      cases hj
      obtain ⟨h1, vs, h2, h3⟩ := L.at_ j _ e
      refine ⟨.ref p, h1, .lst (fun y => ?_) (.inl h2) (h3.anti fun a h => h.imp (fun h => h.1) id)⟩
      rcases y with y | y | ⟨o, u, y⟩
      · exact y.2 rfl
      · exact hz p y h0
      · rw [h2] at y; cases y
    · rw [List.getElem?_set_ne (Ne.symm z)] at hj
      exact (L.at_ j t hj).anti fun a h => h.1
  · subst z
    obtain ⟨j, s, hj, es⟩ := mem_muts.mp hq
    by_cases y : j = i
    · subst y
      rw [List.getElem?_set_self hil] at hj
      cases hj; cases es
    · rw [List.getElem?_set_ne (Ne.symm y)] at hj
      exact y (ad_unique L.nd hj e es rfl)
theorem Lo.toZ [Py α] [Flat α] {Z : Addr → Prop} {p : Addr} {xs : List α} (L : Lo C X H σ Γ) {i : Nat} (e : Γ[i]? = some (.mu p (ml xs))) : Lo C X H σ (Γ.set i (.mu p (.lstZ Z (xs.map enc)))) :=
  L.resl e rfl fun v ⟨e, vs, h, r⟩ => ⟨e, vs, h, r.flat⟩
/-- a list of the body's own, of flat items, written no more, as a told value -/
theorem Lo.freezeZ [Py α] [Flat α] {Z : Addr → Prop} {p : Addr} {xs : List α} (L : Lo C X H σ Γ) {i : Nat} (e : Γ[i]? = some (.mu p (ml xs))) (hx : ¬ C.X0 p) (hz : ∀ a, ¬ Z a → C.H0 a ≠ none) (h0 : C.H0 p = none) : Lo C (fun a => X a ∧ a ≠ p) H σ (Γ.set i (.fixN Z (enc xs))) := by
  have L1 := L.toZ (Z := Z) e
  have hil : i < Γ.length := (List.getElem?_eq_some_iff.mp e).1
  have L2 := L1.freezeZ0 (i := i) (List.getElem?_set_self hil) hx hz h0
  rw [List.set_set] at L2
  exact L2
/-- .. behind a call that tells such a value -/
theorem k0dz {v : V} {H' : Hp} {d : PyData} {ps : List (Addr × MO)} {P : Prop} {Z : Addr → Prop} (hz : ∀ a, ¬ Z a → C.H0 a ≠ none) (L : Lo C X H σ Γ) (F : Fin C.K X H [] ps (.immN (fun a => H a = none) d) v H') (h : Lo C X H' σ Γ → (∀ d u, Rep C.K X H d u → Rep C.K X H' d u) → Rep C.K (NewX X Z H') H' d v → P) : P := by
  have s : Same H H' := fun a o e => F.base a o e (by simp)
  exact h (L.same s) (fun _ _ r => r.keep (.same s)) (Rep.anti (fun a z => z.imp id fun z => z.imp (fun z y => L.dom a (hz a z) y) id) F.res)
theorem k0di {v : V} {H' : Hp} {d : PyData} {ps : List (Addr × MO)} {P : Prop} {Z : Addr → Prop} (L : Lo C X H σ Γ) (F : Fin C.K X H [] ps (.immN Z d) v H') (h : Lo C X H' σ Γ → (∀ d u, Rep C.K X H d u → Rep C.K X H' d u) → Rep C.K X H' d v → P) : P := by
  have s : Same H H' := fun a o e => F.base a o e (by simp)
  exact h (L.same s) (fun _ _ r => r.keep (.same s)) (Rep.ofN F.res)
theorem Lo.domZ {Z : Addr → Prop} (L : Lo C X H σ Γ) (hz : ∀ a, ¬ Z a → C.H0 a ≠ none) : ∀ a, ¬ Z a → H a ≠ none := fun a h => L.dom a (hz a h)
/-- what may be None is not -/
theorem Lo.someN [Py α] {Z : Addr → Prop} {o : Option α} {x : α} {i : Nat} (L : Lo C X H σ Γ) (g : Γ[i]? = some (.fixN Z (enc o))) (e : o = some x) (eΓ : Γ.set i (.fixN Z (enc x)) = Γ') : Lo C X H σ Γ' := by
  subst eΓ e
  exact L.resl g rfl fun _ h => h
/-- x.clear(), x a told list -/
theorem x_clrN {ds : List PyData} {v : V} {Z : Addr → Prop} {i : Nat} (L : Lo C X H σ Γ) (hZ : ∀ a, Z a → C.H0 a = none) (r : Rep C.K (NewX X Z H) H (.list ds) v) (g : Γ[i]? = some (.fixN Z (.list ds))) (old : ∀ s ∈ Γ.set i .unk, OldS Z s) (e : Γ.set i .unk = Γ')
    (h : ∀ H', Lo C X H' σ Γ' → Q .non H') : rClear v [] H Q := by
  subst e
  have L1 : Lo C X H σ (Γ.set i .unk) := L.resl g rfl fun _ _ => trivial
  obtain ⟨b, us, rfl, nb, rd, _⟩ := rep_lst r
  have rd' : H b = some (.lst us) := by
    rcases rd with rd | ⟨o, rd⟩
    · exact rd
    · exact (nb (.inr (.inr ⟨_, _, rd⟩))).elim
  have zb : Z b := Classical.not_not.mp fun h => nb (.inr (.inl h))
  exact ⟨b, us, rfl, rfl, rd', h _ (L1.clrZ (hZ b zb) (fun h => nb (.inl h)) zb rd' old)⟩
end
/-- t[k] of whole numbers -/
theorem x_ixTvI {C : Cn} {X : Addr → Prop} {H : Hp} {Q : VK} {ρ : Type} {xs : List Int} {i : Int} {v : V} {k : Int → Option ρ} {r : ρ} (q : Rep C.K X H (.tuple (xs.map enc)) v) (hm : (ix xs i).bind k = some r) (h : ∀ x, k x = some r → Q (.int x) H) : rIxT C.K v (.int i) H Q :=
  x_ixTv q hm fun x u hk r => by
    cases r
    exact h _ hk
theorem x_bsetZ {C : Cn} {X Z : Addr → Prop} {H : Hp} {σ : L2.St} {Γ : List Sl} {α ρ : Type} {d : α → PyData} {x0 : α} {i : Nat} {v : V} {k : α → Option ρ} {r : ρ} {N : L2.St → Hp → Prop} {Γf : α → List Sl} (hm : (some x0).bind k = some r) (L : Lo C X H σ Γ) (q : Rep C.K (NewX X Z H) H (d x0) v) (hi : i < C.n) (e : ∀ x, Γ.set i (.fixN Z (d x)) = Γf x) (h : ∀ x σ', k x = some r → Lo C X H σ' (Γf x) → N σ' H) : gName i v σ H N :=
  h x0 _ hm (by rw [← e]; exact L.setS (i := i) (v := some v) (s := .fixN Z (d x0)) rfl ⟨v, rfl, q⟩ hi)
/-! ### a list of the body's own is lent to a call that writes another one -/
section
variable {C : Cn} {X : Addr → Prop} {H : Hp} {σ : L2.St} {Γ Γ' : List Sl}
abbrev X1 (p : Addr) : Addr → Prop := fun a => a = p
theorem Lo.x1 {i : Nat} {s : Sl} {p : Addr} (L : Lo C X H σ Γ) (e : Γ[i]? = some s) (es : s.ad = some p) : ∀ a, X1 p a → X a := fun a h => by
  have h : a = p := h
  subst h
  exact L.mx a (mem_muts.mpr ⟨i, s, e, es⟩)
theorem Rep.x1 {i : Nat} {s : Sl} {p : Addr} {d : PyData} {v : V} (r : Rep C.K X H d v) (L : Lo C X H σ Γ) (e : Γ[i]? = some s) (es : s.ad = some p) : Rep C.K (X1 p) H d v := r.anti (L.x1 e es)
theorem SqX.x1 {i : Nat} {s : Sl} {p : Addr} {ns : List Int} {v : V} (r : SqX C.K X H ns v) (L : Lo C X H σ Γ) (e : Γ[i]? = some s) (es : s.ad = some p) : SqX C.K (X1 p) H ns v := r.anti (L.x1 e es)
theorem Lo.lend1 {i j : Nat} {s : Sl} {p q : Addr} {ds : List PyData} (L : Lo C X H σ Γ) (e : Γ[i]? = some s) (es : s.ad = some p) (ej : Γ[j]? = some (.mu q (.lst ds))) (ne : i ≠ j) : Rep C.K (X1 p) H (.list ds) (.ref q) := by
  obtain ⟨vs, h1, h2⟩ := L.mrep ej
  exact .lst (fun h => ne (by have h : q = p := h; subst h; exact ad_unique L.nd e ej es rfl)) (.inl h1) (h2.anti (L.x1 e es))
theorem Lo.mrep1 {i : Nat} {p : Addr} {ds : List PyData} (L : Lo C X H σ Γ) (e : Γ[i]? = some (.mu p (.lst ds))) : MRep C.K (X1 p) H p (.lst ds) := by
  obtain ⟨vs, h1, h2⟩ := L.mrep e
  exact ⟨vs, h1, h2.anti (L.x1 e rfl)⟩
theorem Lo.condL1 {i : Nat} {s : Sl} {p : Addr} {Γa : List Sl} {vs : List V} (L : Lo C X H σ Γ) (as : As C.K (X1 p) H Γa vs) (eM : muts Γa = [p]) (e : Γ[i]? = some s) (es : s.ad = some p) : Cond C.K (X1 p) H Γa vs :=
  ⟨as, nd1 eM, by rw [eM]; intro q h; exact List.mem_singleton.mp h, fun a h => L.xd a (L.x1 e es a h)⟩
theorem k1L {v : V} {H' : Hp} {rs : Rs} {p : Addr} {xs : List Int} {s : Sl} {G : Prop} (L : Lo C X H σ Γ) (F : Fin C.K (X1 p) H [p] [(p, ml xs)] rs v H') {i : Nat} (e : Γ[i]? = some s) (es : s.ad = some p) (eΓ : Γ.set i (s.to (ml xs)) = Γ') (h : Lo C X H' σ Γ' → (∀ d u, Rep C.K X H d u → Rep C.K X H' d u) → G) : G := by
  subst eΓ
  have m : MRep C.K X H' p (ml xs) := by
    obtain ⟨vs, h1, h2⟩ := F.mu (p, ml xs) (by simp)
    exact ⟨vs, h1, ints_any h2⟩
  have r := L.wrote e es (fun a u h n => F.base a u h (by simpa using n)) F.dom m
  exact h r.1 r.2
theorem k1Ld [Py α] [Flat α] {v : V} {H' : Hp} {x : α} {p : Addr} {xs : List Int} {s : Sl} {G : Prop} (L : Lo C X H σ Γ) (F : Fin C.K (X1 p) H [p] [(p, ml xs)] (.imm (enc x)) v H') {i : Nat} (e : Γ[i]? = some s) (es : s.ad = some p) (eΓ : Γ.set i (s.to (ml xs)) = Γ') (h : Lo C X H' σ Γ' → (∀ d u, Rep C.K X H d u → Rep C.K X H' d u) → Rep C.K X H' (enc x) v → G) : G := by
  have r : Rep C.K X H' (enc x) v := Flat.up (show Rep C.K (X1 p) H' (enc x) v from F.res)
  exact k1L L F e es eΓ fun a b => h a b r
end
open Py (enc)
/-! ### lists that hold new lists alone -/
section
variable {C : Cn} {X : Addr → Prop} {H H' : Hp} {σ : L2.St} {Γ Γ' : List Sl} {Q : VK} {α β τ ρ : Type}
theorem Lo.toZ0 {Z : Addr → Prop} {p : Addr} {i : Nat} (L : Lo C X H σ Γ) (e : Γ[i]? = some (.mu p (.lst []))) (eΓ : Γ.set i (.mu p (.lstZ Z [])) = Γ') : Lo C X H σ Γ' := by
  subst eΓ
  exact L.resl e rfl fun v ⟨e, vs, h, r⟩ => ⟨e, vs, h, by cases r; exact .nil⟩
theorem Lo.toZt {Z : Addr → Prop} {p : Addr} {i : Nat} (L : Lo C X H σ Γ) (e : Γ[i]? = some (.tmp p (.lst []))) (eΓ : Γ.set i (.tmp p (.lstZ Z [])) = Γ') : Lo C X H σ Γ' := by
  subst eΓ
  exact L.resl e rfl fun v ⟨vs, h, r⟩ => ⟨vs, h, by cases r; exact .nil⟩
theorem Lo.toZf [Py α] [Flat α] {Z : Addr → Prop} {p : Addr} {xs : List α} {i : Nat} (L : Lo C X H σ Γ) (e : Γ[i]? = some (.tmp p (ml xs))) (eΓ : Γ.set i (.tmp p (.lstZ Z (xs.map enc))) = Γ') : Lo C X H σ Γ' := by
  subst eΓ
  exact L.resl e rfl fun v ⟨vs, h, r⟩ => ⟨vs, h, r.flat⟩
theorem Lo.writeZ {Z : Addr → Prop} (L : Lo C X H σ Γ) {i : Nat} {p : Addr} {ds es : List PyData} {vs ws : List V} (g : Γ[i]? = some (.mu p (.lstZ Z ds))) (hs : H p = some (.lst vs)) (q : Reps C.K (NewX X Z H) H es ws) :
    Lo C X (upd H p (.lst ws)) σ (Γ.set i (.mu p (.lstZ Z es))) ∧ (∀ d u, Rep C.K X H d u → Rep C.K X (upd H p (.lst ws)) d u) := by
  have hX : X p := L.mx p (mem_muts.mpr ⟨i, _, g, rfl⟩)
  have kp : Keep X H (upd H p (.lst ws)) := ⟨fun a u h n => by rw [upd_ne (fun z => n (by rw [z]; exact hX))]; exact h, fun a us h => by rw [upd_ne (fun z => by rw [z, hs] at h; cases h)]; exact h, fun a u w h => by rw [upd_ne (fun z => by rw [z, hs] at h; cases h)]; exact h⟩
  exact L.wrote (H' := upd H p (.lst ws)) (o := .lstZ Z es) g rfl (fun a u h n => by rw [upd_ne n]; exact h) (fun a h => by
      by_cases z : a = p
      · rw [z, upd_same]; exact fun y => nomatch y
      · rw [upd_ne z]; exact h) ⟨ws, upd_same, q.keepF kp⟩
theorem x_tyZ {Z : Addr → Prop} {i : Nat} {p : Addr} {ds : List PyData} {P : Prop} (L : Lo C X H σ Γ) (g : Γ[i]? = some (.mu p (.lstZ Z ds))) (h : P) : tyV C.K "list" (.ref p) H ∧ P := by
  obtain ⟨vs, hs, _⟩ := L.mrep g
  exact ⟨.inl ⟨rfl, vs, .inl (.inl hs)⟩, h⟩
theorem x_appendZ [Py α] {Z : Addr → Prop} {xs : List α} {x : α} {v : V} {i : Nat} {p : Addr} {k : Unit → Option ρ} {r : ρ} (L : Lo C X H σ Γ) (g : Γ[i]? = some (.mu p (.lstZ Z (xs.map enc)))) (hm : (lenOk (xs.length + 1)).bind k = some r) (q : Rep C.K (NewX X Z H) H (enc x) v) (e : Γ.set i (.mu p (.lstZ Z ((xs ++ [x]).map enc))) = Γ')
    (h : ∀ H1, k () = some r → Lo C X H1 σ Γ' → (∀ d u, Rep C.K X H d u → Rep C.K X H1 d u) → Q .non H1) : rAppend (.ref p) [v] H Q := by
  subst e
  obtain ⟨hl, hk⟩ := len_ok hm
  obtain ⟨vs, hs, rs⟩ := L.mrep g
  have hlen : vs.length = xs.length := by rw [rs.length, List.length_map]
  obtain ⟨L1, le⟩ := L.writeZ (es := (xs ++ [x]).map enc) (ws := vs ++ [v]) g hs (by rw [List.map_append]; exact rs.append (.cons q .nil))
  exact ⟨p, vs, v, rfl, rfl, hs, by rw [line_eq]; omega, h _ hk L1 le⟩
theorem x_extendZ [Py α] {Z : Addr → Prop} {xs ys : List α} {v : V} {i : Nat} {p : Addr} {k : Unit → Option ρ} {r : ρ} (L : Lo C X H σ Γ) (g : Γ[i]? = some (.mu p (.lstZ Z (xs.map enc)))) (hm : (lenOk (xs.length + ys.length)).bind k = some r) (q : Rep C.K (NewX X Z H) H (enc ys) v) (e : Γ.set i (.mu p (.lstZ Z ((xs ++ ys).map enc))) = Γ')
    (h : ∀ H1, k () = some r → Lo C X H1 σ Γ' → (∀ d u, Rep C.K X H d u → Rep C.K X H1 d u) → Q .non H1) : rExtendR (.ref p) [v] H Q := by
  subst e
  obtain ⟨hl, hk⟩ := len_ok hm
  obtain ⟨vs, hs, rs⟩ := L.mrep g
  obtain ⟨b, ws, rfl, _, ht, q2⟩ := rep_lst (ds := ys.map enc) q
  obtain ⟨L1, le⟩ := L.writeZ (es := (xs ++ ys).map enc) (ws := vs ++ ws) g hs (by rw [List.map_append]; exact rs.append q2)
  exact ⟨p, b, vs, ws, rfl, rfl, hs, ht, by rw [line_eq, rs.length, q2.length, List.length_map, List.length_map]; exact hl, h _ hk L1 le⟩
/-- a new list of new ones, told as data -/
theorem x_newZ {Z : Addr → Prop} {ds : List PyData} {vs : List V} (hz : ∀ a, ¬ Z a → H a ≠ none) (L : Lo C X H σ Γ) (q : Reps C.K (NewX X Z H) H ds vs) (h : ∀ v H1, Same H H1 → Lo C X H1 σ Γ → (∀ d u, Rep C.K X H d u → Rep C.K X H1 d u) → Rep C.K (NewX X Z H1) H1 (.list ds) v → Q v H1) : ∀ p, H p = none → Q (.ref p) (upd H p (.lst vs)) := fun p hp => by
  have s : Same H (upd H p (.lst vs)) := same_upd hp
  refine h _ _ s (L.same s) (fun _ _ r => r.keep (.same s)) (.lst (fun z => z.elim (fun z => L.xd p z hp) fun z => z.elim (fun z => hz p z hp) fun ⟨_, _, z⟩ => by rw [upd_same] at z; cases z) (.inl upd_same) (q.keepF (.same s)))
theorem x_mkZ {Z : Addr → Prop} {ds : List PyData} {vs : List V} (hz : ∀ a, ¬ Z a → H a ≠ none) (L : Lo C X H σ Γ) (q : Reps C.K (NewX X Z H) H ds vs) (hl : vs.length ≤ 16777216) (h : ∀ v H1, Same H H1 → Lo C X H1 σ Γ → (∀ d u, Rep C.K X H d u → Rep C.K X H1 d u) → Rep C.K (NewX X Z H1) H1 (.list ds) v → Q v H1) : KLst Q vs H :=
  ⟨by rw [line_eq]; exact hl, x_newZ hz L q h⟩
theorem x_mkTNS {Z : Addr → Prop} {ds : List PyData} {vs : List V} (L : Lo C X H σ Γ) (q : Reps C.K (NewX X Z H) H ds vs) (hl : vs.length ≤ 16777216) (h : ∀ v H1, Same H H1 → Lo C X H1 σ Γ → (∀ d u, Rep C.K X H d u → Rep C.K X H1 d u) → Rep C.K (NewX X Z H1) H1 (.tuple ds) v → Q v H1) : KTup Q vs H := by
  refine ⟨by rw [line_eq]; exact hl, fun p hp => ?_⟩
  have s : Same H (upd H p (.tup vs)) := same_upd hp
  exact h _ _ s (L.same s) (fun _ _ r => r.keep (.same s)) (.tup upd_same (q.keepF (.same s)))
theorem x_catZ [Py α] {Z : Addr → Prop} {xs ys : List α} {u v : V} {k : Unit → Option ρ} {r : ρ} (hz : ∀ a, ¬ Z a → H a ≠ none) (L : Lo C X H σ Γ) (hm : (lenOk (xs.length + ys.length)).bind k = some r) (p : Rep C.K (NewX X Z H) H (enc xs) u) (q : Rep C.K (NewX X Z H) H (enc ys) v)
    (h : ∀ v H1, k () = some r → Same H H1 → Lo C X H1 σ Γ → (∀ d u, Rep C.K X H d u → Rep C.K X H1 d u) → Rep C.K (NewX X Z H1) H1 (enc (xs ++ ys)) v → Q v H1) : rCatR u v H Q := by
  obtain ⟨hl, hk⟩ := len_ok hm
  obtain ⟨a, vs, rfl, _, hs, q1⟩ := rep_lst (ds := xs.map enc) p
  obtain ⟨b, ws, rfl, _, ht, q2⟩ := rep_lst (ds := ys.map enc) q
  have q3 : Reps C.K (NewX X Z H) H ((xs ++ ys).map enc) (vs ++ ws) := by rw [List.map_append]; exact q1.append q2
  exact ⟨a, b, vs, ws, rfl, rfl, hs, ht, by rw [line_eq, q1.length, q2.length, List.length_map, List.length_map]; exact hl, x_newZ hz L q3 fun v H1 => h v H1 hk⟩
theorem x_listZZ [Py α] {Z : Addr → Prop} {xs : List α} {v : V} (hz : ∀ a, ¬ Z a → H a ≠ none) (L : Lo C X H σ Γ) (r : Rep C.K (NewX X Z H) H (enc xs) v) (h : ∀ v H1, Same H H1 → Lo C X H1 σ Γ → (∀ d u, Rep C.K X H d u → Rep C.K X H1 d u) → Rep C.K (NewX X Z H1) H1 (enc xs) v → Q v H1) : rListX C.K [v] H Q := by
  obtain ⟨a, vs, rfl, _, hs, q⟩ := rep_lst (ds := xs.map enc) r
  exact ⟨a, vs, rfl, .inl (.inl hs), x_newZ hz L q h⟩
/-- flat data are of no lists -/
theorem Lo.freezeZZ [Py α] {Z : Addr → Prop} {p : Addr} {xs : List α} (L : Lo C X H σ Γ) {i : Nat} (e : Γ[i]? = some (.mu p (.lstZ Z (xs.map enc)))) (hx : ¬ C.X0 p) (hz : ∀ a, ¬ Z a → C.H0 a ≠ none) (h0 : C.H0 p = none) : Lo C (fun a => X a ∧ a ≠ p) H σ (Γ.set i (.fixN Z (enc xs))) :=
  L.freezeZ0 e hx hz h0
end
/-! ### comprehensions -/
section
variable {C : Cn} {X : Addr → Prop} {H H' : Hp} {σ : L2.St} {Γ Γ' : List Sl} {Q : VK} {α β τ ρ : Type}
theorem x_lcR0Z [Py β] {Z : Addr → Prop} {lo : Int} {n : Nat} {f : Int → τ → Option (Option β × τ)} {G : τ → List Sl} {s0 : τ} {q : List β × τ} {g : TG} {tt : TT} {te : TE} {ws : List Nat}
    (L : Lo C X H σ (G s0)) (hG : ∀ s s', muts (G s) = muts (G s')) (hm : compL f (rangeL lo n) s0 = some q) (hl : n ≤ 16777216)
    (hz : ∀ a, ¬ Z a → H a ≠ none) (body : ∀ x s, BodyCZ Z C X G (enc x) s (f x s) g tt te ws)
    (done : ∀ D H', H D = none → C.H0 D = none → ¬ C.X0 D → Lo C (fun a => X a ∨ a = D) H' σ (G q.2) → Keep X H H' → MRep C.K (fun a => X a ∨ a = D) H' D (.lstZ Z (q.1.map enc)) → Q (.ref D) H') :
    KLcR lo n g tt te ws σ Q H := by
  intro D hD
  have h0 : C.H0 D = none := by
    cases e : C.H0 D with
    | none => rfl
    | some o => exact (L.dom D (by rw [e]; exact fun z => nomatch z) hD).elim
  have hDm : ∀ s, D ∉ muts (G s) := fun s h => L.xd D (L.mx D (hG s s0 ▸ h)) hD
  have sm : Same H (upd H D (.lst [])) := same_upd hD
  have lay := L.lay (p := D) (o := .lst []) hD sm ⟨[], upd_same, .nil⟩
  have L1 : Lo C (fun a => X a ∨ a = D) (upd H D (.lst [])) σ (G s0) := by
    refine ⟨L.len, fun i s hi => ?_, L.nd, fun p hp => .inl (L.mx p hp), fun a h => .inl (L.m0 a h), lay.1.xd, lay.1.base, lay.1.dom, L.own, L.tf⟩
    refine lay.1.at_ i s ?_
    rw [List.getElem?_append_left (List.getElem?_eq_some_iff.mp hi).1]
    exact hi
  refine lc_range (lo := lo) (n := n) (fun i H' => ∃ s ys acc q', Lo C (fun a => X a ∨ a = D) H' σ (G s) ∧ H' D = some (.lst acc) ∧ Reps C.K (NewX (fun a => X a ∨ a = D) Z H') H' (ys.map enc) acc ∧
      compL f ((rangeL lo n).drop i) s = some q' ∧ q = (ys ++ q'.1, q'.2) ∧ ys.length ≤ i ∧ Keep X H H' ∧ (∀ a, H a ≠ none → H' a ≠ none))
    ⟨s0, [], [], q, L1, upd_same, .nil, hm, rfl, Nat.le_refl _, .same sm, fun a h => ?_⟩ ?_ ?_
  · by_cases z : a = D
    · rw [z, upd_same]; exact fun y => nomatch y
    · rw [upd_ne z]; exact h
  · rintro i H' hi ⟨s, ys, acc, q', L', hacc, hys, hq', eq, hyl, hk, hdm⟩
    obtain ⟨r1, q1, h1, h2, h3⟩ := comp_drop (rangeL_get hi) hq'
    refine body (lo + (i : Int)) s _ H' σ _ r1 _ _ h1 L'.enter (.int _) (fun a z => hdm a (hz a z)) ?_ ?_
    · intro e H'' M
      have k := L'.keep M
      have kd : H'' D = some (.lst acc) := M.base D _ hacc (hDm s)
      refine ⟨r1.2, ys, acc, q1, L'.leave M (hG _ _), kd, hys.keepF k, h2, ?_, Nat.le_succ_of_le hyl, ?_, fun a h => M.dom a (hdm a h)⟩
      · rw [eq, h3, e]
      · refine ⟨fun b o hb n => ?_, fun b vs hb => k.2.1 b vs (hk.2.1 b vs hb), fun b o u hb => k.2.2 b o u (hk.2.2 b o u hb)⟩
        have hbD : b ≠ D := fun z => by rw [z, hD] at hb; cases hb
        exact k.1 b o (hk.1 b o hb n) fun z => z.elim n hbD
    · intro yv e v H'' M rv
      have k := L'.keep M
      have kd : H'' D = some (.lst acc) := M.base D _ hacc (hDm s)
      have L2 := L'.leave M (hG _ _)
      obtain ⟨L3, k3⟩ := L2.wroteX (p := D) (o' := .lst (acc ++ [v])) (.inr rfl) (hDm _) kd h0 (fun _ z => nomatch z) (fun _ _ z => nomatch z)
      have k4 := k.trans k3
      have hal : acc.length = ys.length := by rw [hys.length, List.length_map]
      refine ⟨acc, kd, by rw [line_eq]; omega, r1.2, ys ++ [yv], acc ++ [v], q1, L3, upd_same, ?_, h2, ?_, ?_, ?_, ?_⟩
      · rw [List.map_append]
        exact (hys.keepF k4).append (.cons (rv.keepF k3) .nil)
      · rw [eq, h3, e]
        show (ys ++ yv :: q1.1, q1.2) = (ys ++ [yv] ++ q1.1, q1.2)
        rw [List.append_assoc]; rfl
      · rw [List.length_append]; exact Nat.succ_le_succ hyl
      · refine ⟨fun b o hb n => ?_, fun b vs hb => k4.2.1 b vs (hk.2.1 b vs hb), fun b o u hb => k4.2.2 b o u (hk.2.2 b o u hb)⟩
        have hbD : b ≠ D := fun z => by rw [z, hD] at hb; cases hb
        exact k4.1 b o (hk.1 b o hb n) fun z => z.elim n hbD
      · intro a h
        by_cases z : a = D
        · rw [z, upd_same]; exact fun y => nomatch y
        · rw [upd_ne z]; exact M.dom a (hdm a h)
  · rintro H' ⟨s, ys, acc, q', L', hacc, hys, hq', eq, _, hk, hdm⟩
    have hl : (rangeL lo n).length = n := by unfold rangeL; rw [List.length_map, List.length_range]
    have : (rangeL lo n).drop n = [] := List.drop_eq_nil_of_le (by omega)
    rw [this] at hq'
    cases hq'
    rw [List.append_nil] at eq
    subst eq
    exact done D H' hD h0 (fun z => L.xd D (L.m0 D z) hD) L' hk ⟨acc, hacc, hys⟩
theorem lc_dataZ [Py β] {Z : Addr → Prop} {D : Addr} {ys : List β} {H' : Hp} (hz : ∀ a, ¬ Z a → H a ≠ none) (L : Lo C X H σ Γ) (hD : H D = none) (M : Lo C (fun a => X a ∨ a = D) H' σ Γ') (hm : muts Γ' = muts Γ) (k : Keep X H H') (m : MRep C.K (fun a => X a ∨ a = D) H' D (.lstZ Z (ys.map enc)))
    (h : Lo C X H' σ Γ' → (∀ d u, Rep C.K X H d u → Rep C.K X H' d u) → Rep C.K (NewX X Z H') H' (enc ys) (.ref D) → Q (.ref D) H') : Q (.ref D) H' := by
  obtain ⟨vs, h1, h2⟩ := m
  exact h (M.xanti (fun _ h => .inl h) (fun p hp => L.mx p (hm ▸ hp)) L.m0) (fun _ _ q => q.keep k)
      (.lst (fun z => z.elim (fun z => L.xd D z hD) fun z => z.elim (fun z => hz D z hD) fun ⟨_, _, z⟩ => by rw [h1] at z; cases z) (.inl h1) (h2.anti fun _ z => z.imp .inl id))
theorem x_lcRZ [Py β] {Z : Addr → Prop} {lo : Int} {n : Nat} {f : Int → τ → Option (Option β × τ)} {G : τ → List Sl} {s0 : τ} {q : List β × τ} {g : TG} {tt : TT} {te : TE} {ws : List Nat} (hz : ∀ a, ¬ Z a → H a ≠ none) (L : Lo C X H σ (G s0)) (hG : ∀ s s', muts (G s) = muts (G s')) (hm : compL f (rangeL lo n) s0 = some q) (hl : n ≤ 16777216)
    (body : ∀ x s, BodyCZ Z C X G (enc x) s (f x s) g tt te ws) (h : ∀ D H', Lo C X H' σ (G q.2) → (∀ d u, Rep C.K X H d u → Rep C.K X H' d u) → Rep C.K (NewX X Z H') H' (enc q.1) (.ref D) → Q (.ref D) H') : KLcR lo n g tt te ws σ Q H :=
  x_lcR0Z L hG hm hl hz body (fun D H' hD h0 hx M k m => lc_dataZ hz L hD M (hG _ _) k m (h D H'))
/-- over a list of new ones -/
def BodyCZZ [Py β] (Z : Addr → Prop) (C : Cn) (X : Addr → Prop) (G : τ → List Sl) (d : PyData) (s : τ) (o : Option (Option β × τ)) (g : TG) (tt : TT) (te : TE) (vs : List Nat) : Prop :=
  ∀ (X : Addr → Prop) (H : Hp) (σ : L2.St) (u : V) (r : Option β × τ) (Qn : Hp → Prop) (Qy : VK), o = some r → Lo ⟨C.K, X, H, muts (G s), C.n⟩ X H σ (G s) → Rep C.K (NewX X Z H) H d u → (∀ a, ¬ Z a → H a ≠ none) →
    (r.1 = none → ∀ H', Lo ⟨C.K, X, H, muts (G s), C.n⟩ X H' σ (G r.2) → Qn H') →
    (∀ y, r.1 = some y → ∀ v H', Lo ⟨C.K, X, H, muts (G s), C.n⟩ X H' σ (G r.2) → Rep C.K (NewX X Z H') H' (enc y) v → Qy v H') →
    g u (wipe σ vs) H fun σ2 H2 => wipe σ2 vs = wipe σ vs ∧ tt σ2 H2 fun b H3 => if b = true then te σ2 H3 Qy else Qn H3
theorem Reps.moreF {K : PySem.W.Frag} {Z : Addr → Prop} {D : Addr} {o : HO} (hD : H D = none) (no : ∀ u w, o ≠ .frz u w) {ds : List PyData} {vs : List V} (r : Reps K (NewX X Z H) H ds vs) : Reps K (NewX (fun a => X a ∨ a = D) Z (upd H D o)) (upd H D o) ds vs := by
  have s : Same H (upd H D o) := same_upd hD
  have r2 := (r.more hD).keep (.same s)
  refine r2.anti fun a z => ?_
  rcases z with (z | z) | z | ⟨u, w, z⟩
  · exact .inl (.inl z)
  · exact .inr z
  · exact .inl (.inr (.inl z))
  · by_cases e : a = D
    · exact .inr e
    · rw [upd_ne e] at z
      exact .inl (.inr (.inr ⟨u, w, z⟩))
theorem x_lcL0ZZ {Z : Addr → Prop} [Py α] [Py β] {xs : List α} {f : α → τ → Option (Option β × τ)} {G : τ → List Sl} {s0 : τ} {q : List β × τ} {v : V} {g : TG} {tt : TT} {te : TE} {ws : List Nat}
    (L : Lo C X H σ (G s0)) (hG : ∀ s s', muts (G s) = muts (G s')) (r : Rep C.K (NewX X Z H) H (enc xs) v) (hm : compL f xs s0 = some q) (hl : xs.length ≤ 16777216)
    (hz : ∀ a, ¬ Z a → H a ≠ none) (body : ∀ x s, BodyCZZ Z C X G (enc x) s (f x s) g tt te ws)
    (done : ∀ D H', H D = none → C.H0 D = none → ¬ C.X0 D → Lo C (fun a => X a ∨ a = D) H' σ (G q.2) → Keep X H H' → MRep C.K (fun a => X a ∨ a = D) H' D (.lstZ Z (q.1.map enc)) → Q (.ref D) H') :
    KLcL C.K g tt te ws σ Q v H := by
  obtain ⟨a, us, rfl, hna0, hrd, hrs⟩ := rep_lst (ds := xs.map enc) r
  have hna : ¬ X a := fun h => hna0 (.inl h)
  refine ⟨a, rfl, ⟨us, .inl hrd⟩, fun D hD => ?_⟩
  have h0 : C.H0 D = none := by
    cases e : C.H0 D with
    | none => rfl
    | some o => exact (L.dom D (by rw [e]; exact fun z => nomatch z) hD).elim
  have hDm : ∀ s, D ∉ muts (G s) := fun s h => L.xd D (L.mx D (hG s s0 ▸ h)) hD
  have sm : Same H (upd H D (.lst [])) := same_upd hD
  have lay := L.lay (p := D) (o := .lst []) hD sm ⟨[], upd_same, .nil⟩
  have L1 : Lo C (fun a => X a ∨ a = D) (upd H D (.lst [])) σ (G s0) := by
    refine ⟨L.len, fun i s hi => ?_, L.nd, fun p hp => .inl (L.mx p hp), fun a h => .inl (L.m0 a h), lay.1.xd, lay.1.base, lay.1.dom, L.own, L.tf⟩
    refine lay.1.at_ i s ?_
    rw [List.getElem?_append_left (List.getElem?_eq_some_iff.mp hi).1]
    exact hi
  have hna' : ¬ (X a ∨ a = D) := fun h => h.elim hna fun e => by
    subst e
    exact rd_nn hrd hD
  refine lc_list (K := C.K) (a := a) (xs := us) (fun i H' => ∃ s ys acc q', Lo C (fun a => X a ∨ a = D) H' σ (G s) ∧ Reps C.K (NewX (fun a => X a ∨ a = D) Z H') H' (xs.map enc) us ∧ Rd H' a (.lst us) ∧ H' D = some (.lst acc) ∧ Reps C.K (NewX (fun a => X a ∨ a = D) Z H') H' (ys.map enc) acc ∧
      compL f (xs.drop i) s = some q' ∧ q = (ys ++ q'.1, q'.2) ∧ ys.length ≤ i ∧ Keep X H H' ∧ (∀ a, H a ≠ none → H' a ≠ none))
    ⟨s0, [], [], q, L1, Reps.moreF hD (fun _ _ z => by cases z) hrs, Keep.rd (.same sm) hna hrd, upd_same, .nil, hm, rfl, Nat.le_refl _, .same sm, fun a h => ?_⟩ (fun i H' _ ⟨s, ys, acc, q', _, _, h, _⟩ => .inl h) ?_ ?_
  · by_cases z : a = D
    · rw [z, upd_same]; exact fun y => nomatch y
    · rw [upd_ne z]; exact h
  · rintro i y H' hy ⟨s, ys, acc, q', L', hr', hd', hacc, hys, hq', eq, hyl, hk, hdm⟩
    obtain ⟨d, hd, rd⟩ := hr'.get' hy
    rw [List.getElem?_map] at hd
    cases hx : xs[i]? with
    | none => rw [hx] at hd; cases hd
    | some x =>
      rw [hx] at hd
      cases hd
      have hil : i < xs.length := (List.getElem?_eq_some_iff.mp hx).1
      obtain ⟨r1, q1, h1, h2, h3⟩ := comp_drop hx hq'
      refine body x s _ H' σ y r1 _ _ h1 L'.enter rd (fun a z => hdm a (hz a z)) ?_ ?_
      · intro e H'' M
        have k := L'.keep M
        have kd : H'' D = some (.lst acc) := M.base D _ hacc (hDm s)
        refine ⟨r1.2, ys, acc, q1, L'.leave M (hG _ _), hr'.keepF k, k.rd hna' hd', kd, hys.keepF k, h2, ?_, Nat.le_succ_of_le hyl, ?_, fun a h => M.dom a (hdm a h)⟩
        · rw [eq, h3, e]
        · refine ⟨fun b o hb n => ?_, fun b vs hb => k.2.1 b vs (hk.2.1 b vs hb), fun b o u hb => k.2.2 b o u (hk.2.2 b o u hb)⟩
          have hbD : b ≠ D := fun z => by rw [z, hD] at hb; cases hb
          exact k.1 b o (hk.1 b o hb n) fun z => z.elim n hbD
      · intro yv e v H'' M rv
        have k := L'.keep M
        have kd : H'' D = some (.lst acc) := M.base D _ hacc (hDm s)
        have L2 := L'.leave M (hG _ _)
        obtain ⟨L3, k3⟩ := L2.wroteX (p := D) (o' := .lst (acc ++ [v])) (.inr rfl) (hDm _) kd h0 (fun _ z => nomatch z) (fun _ _ z => nomatch z)
        have k4 := k.trans k3
        have hal : acc.length = ys.length := by rw [hys.length, List.length_map]
        refine ⟨acc, kd, by rw [line_eq]; omega, r1.2, ys ++ [yv], acc ++ [v], q1, L3, hr'.keepF k4, k4.rd hna' hd', upd_same, ?_, h2, ?_, ?_, ?_, ?_⟩
        · rw [List.map_append]
          exact (hys.keepF k4).append (.cons (rv.keepF k3) .nil)
        · rw [eq, h3, e]
          show (ys ++ yv :: q1.1, q1.2) = (ys ++ [yv] ++ q1.1, q1.2)
          rw [List.append_assoc]; rfl
        · rw [List.length_append]; exact Nat.succ_le_succ hyl
        · refine ⟨fun b o hb n => ?_, fun b vs hb => k4.2.1 b vs (hk.2.1 b vs hb), fun b o u hb => k4.2.2 b o u (hk.2.2 b o u hb)⟩
          have hbD : b ≠ D := fun z => by rw [z, hD] at hb; cases hb
          exact k4.1 b o (hk.1 b o hb n) fun z => z.elim n hbD
        · intro a h
          by_cases z : a = D
          · rw [z, upd_same]; exact fun y => nomatch y
          · rw [upd_ne z]; exact M.dom a (hdm a h)
  · rintro H' ⟨s, ys, acc, q', L', _, _, hacc, hys, hq', eq, _, hk, hdm⟩
    rw [hrs.length, List.length_map, List.drop_length] at hq'
    cases hq'
    rw [List.append_nil] at eq
    subst eq
    exact done D H' hD h0 (fun z => L.xd D (L.m0 D z) hD) L' hk ⟨acc, hacc, hys⟩
theorem x_lcLZZ [Py α] [Py β] {Z : Addr → Prop} {xs : List α} {f : α → τ → Option (Option β × τ)} {v : V} {G : τ → List Sl} {s0 : τ} {q : List β × τ} {g : TG} {tt : TT} {te : TE} {ws : List Nat} (hz : ∀ a, ¬ Z a → H a ≠ none) (L : Lo C X H σ (G s0)) (hG : ∀ s s', muts (G s) = muts (G s')) (r : Rep C.K (NewX X Z H) H (enc xs) v) (hm : compL f xs s0 = some q) (hl : xs.length ≤ 16777216)
    (body : ∀ x s, BodyCZZ Z C X G (enc x) s (f x s) g tt te ws) (h : ∀ D H', Lo C X H' σ (G q.2) → (∀ d u, Rep C.K X H d u → Rep C.K X H' d u) → Rep C.K (NewX X Z H') H' (enc q.1) (.ref D) → Q (.ref D) H') : KLcL C.K g tt te ws σ Q v H :=
  x_lcL0ZZ L hG r hm hl hz body (fun D H' hD h0 hx M k m => lc_dataZ hz L hD M (hG _ _) k m (h D H'))
theorem x_cNameZ {Z : Addr → Prop} {i : Nat} {u : V} {d : PyData} {tt : TT} {te : TE} {Qy : VK} {Qn : Hp → Prop} (L : Lo C X H σ Γ) (r : Rep C.K (NewX X Z H) H d u) (hi : i < C.n) (e : Γ.set i (.fixN Z d) = Γ') (h : ∀ σ2, Lo C X H σ2 Γ' → tt σ2 H (KCt te σ2 Qy Qn)) :
    gName i u (wipe σ [i]) H fun σ2 H2 => wipe σ2 [i] = wipe σ [i] ∧ tt σ2 H2 fun b H3 => if b = true then te σ2 H3 Qy else Qn H3 := by
  subst e
  have e1 : (wipe σ [i]).set i (some u) = σ.set i (some u) := by
    show (σ.set i none).set i (some u) = _
    rw [List.set_set]
  refine ⟨?_, ?_⟩
  · show ((σ.set i none).set i (some u)).set i none = σ.set i none
    rw [List.set_set, List.set_set]
  · rw [e1]
    exact h _ (L.setS (i := i) (v := some u) (s := .fixN Z d) rfl ⟨u, rfl, r⟩ hi)
end
end Sc
namespace Sc
open PySem PySem.Spec PyProof.Rows L2
open Py (enc)
/-! ### told values whose lists are cleared -/
section
variable {C : Cn} {X : Addr → Prop} {H H' : Hp} {σ : L2.St} {Γ Γ' : List Sl} {Q : VK} {α β γ τ ρ : Type}
/-- two marks -/
theorem Lo.fix2 {Z Z' : Addr → Prop} (L : Lo C X H σ Γ) (hz : ∀ a, Z a ↔ H a = none) {i : Nat} {d : PyData} (g : Γ[i]? = some (.fix Z' d)) (e : Γ.set i (.fix (fun b => Z' b ∧ ¬ Z b) d) = Γ') : Lo C X H σ Γ' := by
  subst e
  refine L.resl g rfl fun v ⟨u, e, r⟩ => ⟨u, e, (r.old (Z := fun b => ¬ Z b) fun a y => (hz a).mp (Classical.not_not.mp y)).anti fun a z => ?_⟩
  rcases z with z | z
  · exact .inl (.inl z)
  · by_cases h : Z' a
    · exact .inr fun y => z ⟨h, y⟩
    · exact .inl (.inr h)
theorem Lo.fixN2 {Z Z' : Addr → Prop} (L : Lo C X H σ Γ) (hz : ∀ a, Z a ↔ H a = none) {i : Nat} {d : PyData} (g : Γ[i]? = some (.fixN Z' d)) (e : Γ.set i (.fixN (fun b => Z' b ∧ ¬ Z b) d) = Γ') : Lo C X H σ Γ' := by
  subst e
  refine L.resl g rfl fun v ⟨u, e, r⟩ => ⟨u, e, (r.old (Z := fun b => ¬ Z b) fun a y => (hz a).mp (Classical.not_not.mp y)).anti fun a z => ?_⟩
  rcases z with z | z | z
  · exact .inl (.inl z)
  · by_cases h : Z' a
    · exact .inr fun y => z ⟨h, y⟩
    · exact .inl (.inr (.inl h))
  · exact .inl (.inr (.inr z))
/-- a list that is new, at the end of a path through tuples -/
def PathL (K : PySem.W.Frag) (Z : Addr → Prop) : List Nat → V → (Addr → Prop) → Hp → Prop
  | [], v, X, H => ∃ b us, v = .ref b ∧ ¬ X b ∧ Z b ∧ H b = some (.lst us)
  | k :: ks, v, X, H => ∃ t vs u, v = .ref t ∧ SqT K H t vs ∧ vs[k]? = some u ∧ PathL K Z ks u X H
theorem PathL.keep {K : PySem.W.Frag} {Z : Addr → Prop} (k : Keep X H H') : ∀ {ks : List Nat} {v : V}, PathL K Z ks v X H → PathL K Z ks v X H'
  | [], _, ⟨b, us, e, n, z, h⟩ => ⟨b, us, e, n, z, k.1 _ _ h n⟩
  | _ :: _, _, ⟨t, vs, u, e, h, g, r⟩ => ⟨t, vs, u, e, k.sqT h, g, PathL.keep k r⟩
theorem PathL.anti {K : PySem.W.Frag} {Z Y : Addr → Prop} (h : ∀ a, Y a → X a) : ∀ {ks : List Nat} {v : V}, PathL K Z ks v X H → PathL K Z ks v Y H
  | [], _, ⟨b, us, e, n, z, g⟩ => ⟨b, us, e, fun y => n (h _ y), z, g⟩
  | _ :: _, _, ⟨t, vs, u, e, g, q, r⟩ => ⟨t, vs, u, e, g, q, PathL.anti h r⟩
theorem PathL.more {K : PySem.W.Frag} {Z : Addr → Prop} {q : Addr} (h : H q = none) : ∀ {ks : List Nat} {v : V}, PathL K Z ks v X H → PathL K Z ks v (fun a => X a ∨ a = q) H
  | [], _, ⟨b, us, e, n, z, g⟩ => ⟨b, us, e, fun y => Or.elim y n fun y => (by rw [y, h] at g; cases g), z, g⟩
  | _ :: _, _, ⟨t, vs, u, e, g, k, r⟩ => ⟨t, vs, u, e, g, k, PathL.more h r⟩
theorem PathL.clr {K : PySem.W.Frag} {Z : Addr → Prop} {c : Addr} {ws : List V} (hc : H c = some (.lst ws)) : ∀ {ks : List Nat} {v : V}, PathL K Z ks v X H → PathL K Z ks v X (upd H c (.lst []))
  | [], _, ⟨b, us, e, n, z, g⟩ => by
    by_cases y : b = c
    · exact ⟨b, [], e, n, z, by rw [y, upd_same]⟩
    · exact ⟨b, us, e, n, z, by rw [upd_ne y]; exact g⟩
  | _ :: _, _, ⟨t, vs, u, e, g, k, r⟩ => ⟨t, vs, u, e, (keepAll hc).sqT g, k, PathL.clr hc r⟩
theorem PathL.rv {K : PySem.W.Frag} {Z Y : Addr → Prop} {ks : List Nat} : RV Y (PathL K Z ks) := ⟨fun k r => PathL.keep k r, fun h r => PathL.anti h r, fun h r => PathL.more h r, fun _ h r => PathL.clr h r⟩
theorem RV.and {R S : V → (Addr → Prop) → Hp → Prop} {Y : Addr → Prop} (r : RV Y R) (s : RV Y S) : RV Y (fun v X H => R v X H ∧ S v X H) :=
  ⟨fun k h => ⟨r.keep k h.1, s.keep k h.2⟩, fun k h => ⟨r.anti k h.1, s.anti k h.2⟩, fun k h => ⟨r.more k h.1, s.more k h.2⟩, fun y k h => ⟨r.clr y k h.1, s.clr y k h.2⟩⟩
theorem newx_lst {K : PySem.W.Frag} {Z : Addr → Prop} {ds : List PyData} {v : V} (r : Rep K (NewX X Z H) H (.list ds) v) : ∃ b us, v = .ref b ∧ ¬ X b ∧ Z b ∧ H b = some (.lst us) ∧ Reps K (NewX X Z H) H ds us := by
  obtain ⟨b, us, rfl, nb, rd, q⟩ := rep_lst r
  refine ⟨b, us, rfl, fun h => nb (.inl h), Classical.not_not.mp fun h => nb (.inr (.inl h)), ?_, q⟩
  rcases rd with rd | ⟨o, rd⟩
  · exact rd
  · exact (nb (.inr (.inr ⟨_, _, rd⟩))).elim
theorem PathL.nil_of {K : PySem.W.Frag} {Z : Addr → Prop} {ds : List PyData} {v : V} (r : Rep K (NewX X Z H) H (.list ds) v) : PathL K Z [] v X H := by
  obtain ⟨b, us, e, h1, h2, h3, _⟩ := newx_lst r
  exact ⟨b, us, e, h1, h2, h3⟩
theorem PathL.cons_of {K : PySem.W.Frag} {Z : Addr → Prop} {ds : List PyData} {d : PyData} {v : V} {k : Nat} {ks : List Nat} (r : Rep K (NewX X Z H) H (.tuple ds) v) (e : ds[k]? = some d) (h : ∀ u, Rep K (NewX X Z H) H d u → PathL K Z ks u X H) : PathL K Z (k :: ks) v X H := by
  obtain ⟨a, vs, rfl, hs, q⟩ := rep_tup r
  obtain ⟨u, h1, h2⟩ := q.get e
  exact ⟨a, vs, u, rfl, hs, h1, h u h2⟩
/-- a told value of which paths alone are known -/
theorem Lo.path {Z : Addr → Prop} {d : PyData} {R : V → (Addr → Prop) → Hp → Prop} {i : Nat} (L : Lo C X H σ Γ) (g : Γ[i]? = some (.fixN Z d)) (x : RV (fun _ => True) R) (h : ∀ v, Rep C.K (NewX X Z H) H d v → R v X H) (e : Γ.set i (.exv (fun _ => True) R) = Γ') : Lo C X H σ Γ' := by
  subst e
  exact L.resl g rfl fun v ⟨u, e, r⟩ => ⟨u, e, x, h u r⟩
/-- a list to be cleared -/
def KCl (K : PySem.W.Frag) (Z : Addr → Prop) (X : Addr → Prop) (Q : VK) : VK := fun v H => ∃ b us, v = .ref b ∧ ¬ X b ∧ Z b ∧ H b = some (.lst us) ∧ ∀ H', H' = upd H b (.lst []) → Q .non H'
theorem x_clrP {Z : Addr → Prop} {v : V} (L : Lo C X H σ Γ) (hZ : ∀ a, Z a → C.H0 a = none) (p : PathL C.K Z [] v X H) (old : ∀ s ∈ Γ, OldS Z s) (h : ∀ H', Lo C X H' σ Γ → Q .non H') : tyV C.K "list" v H ∧ rClear v [] H Q := by
  obtain ⟨b, us, rfl, nb, zb, hb⟩ := p
  exact ⟨.inl ⟨rfl, us, .inl (.inl hb)⟩, b, us, rfl, rfl, hb, h _ (L.clrZ (hZ b zb) nb zb hb old)⟩
/-- name.clear() -/
theorem x_vpath {Z : Addr → Prop} {i : Nat} {R : V → (Addr → Prop) → Hp → Prop} {ks : List Nat} (L : Lo C X H σ Γ) {Y : Addr → Prop} (g : Γ[i]? = some (.exv Y R)) (hR : ∀ v, R v X H → PathL C.K Z ks v X H) (h : ∀ v, PathL C.K Z ks v X H → Q v H) : tVar i σ H Q := by
  obtain ⟨u, e, _, r⟩ := L.at_ i _ g
  exact ⟨u, e, h u (hR u r)⟩
theorem x_ixP {Z : Addr → Prop} {k : Nat} {ks : List Nat} {v : V} (p : PathL C.K Z (k :: ks) v X H) (h : ∀ u, PathL C.K Z ks u X H → Q u H) : rIxT C.K v (.int (k : Nat)) H Q := by
  obtain ⟨t, vs, u, rfl, hs, g, r⟩ := p
  refine ⟨t, vs, (k : Nat), u, rfl, rfl, hs, ?_, h u r⟩
  obtain ⟨hlt, g2⟩ := List.getElem?_eq_some_iff.mp g
  show (ixN vs.length (k : Nat)).bind _ = _
  unfold ixN
  rw [if_pos (by omega)]
  simp [hlt, g2]
/-- what a loop that clears goes over -/
def Items (K : PySem.W.Frag) (Z : Addr → Prop) (c n : Nat) (v : V) (X : Addr → Prop) (H : Hp) : Prop := ∃ a vs, v = .ref a ∧ Rd H a (.lst vs) ∧ ∀ y ∈ vs, ∃ t ws b us, y = .ref t ∧ SqT K H t ws ∧ ws.length = n ∧ ws[c]? = some (.ref b) ∧ ¬ X b ∧ Z b ∧ b ≠ a ∧ H b = some (.lst us)
theorem Items.of {K : PySem.W.Frag} {Z : Addr → Prop} {c n : Nat} {v : V} {f : α → List PyData} {g : α → List PyData} {zs : List α} (r : Rep K (NewX X Z H) H (.list (zs.map fun z => .tuple (f z))) v) (hl : ∀ z, (f z).length = n) (hf : ∀ z ∈ zs, (f z)[c]? = some (.list (g z))) (hne : ∀ z ∈ zs, g z ≠ zs.map fun z => .tuple (f z)) : Items K Z c n v X H := by
  obtain ⟨a, vs, rfl, na, za, ha, q⟩ := newx_lst r
  refine ⟨a, vs, rfl, .inl ha, fun y hy => ?_⟩
  obtain ⟨i, hi⟩ := List.getElem?_of_mem hy
  obtain ⟨d, hd, rd⟩ := q.get' hi
  rw [List.getElem?_map] at hd
  cases hz : zs[i]? with
  | none => rw [hz] at hd; cases hd
  | some z =>
    rw [hz] at hd
    cases hd
    have hm := List.mem_of_getElem? hz
    obtain ⟨t, ws, rfl, ht, qw⟩ := rep_tup rd
    obtain ⟨u, hu, ru⟩ := qw.get (hf z hm)
    obtain ⟨b, us, rfl, nb, zb, hb, qb⟩ := newx_lst ru
    refine ⟨t, ws, b, us, rfl, ht, by rw [qw.length, hl], hu, nb, zb, fun e => ?_, hb⟩
    subst e
    have e2 := hb.symm.trans ha
    cases e2
    exact hne z hm (Reps.fn qb q)
/-- an item is like no tuple that begins with a list -/
theorem it_ne [Py α] [IT α] {xs : List α} {δ : Type} {zs : List δ} {f : δ → List PyData} {z : δ} (hz : z ∈ zs) (h : ∀ z : δ, ∃ (c : Nat) (e : PyData), (f z)[c]? = some e ∧ ∀ i, e ≠ PyData.int i) : xs.map enc ≠ zs.map fun z => .tuple (f z) := fun e => by
  cases zs with
  | nil => cases hz
  | cons y ys =>
    cases xs with
    | nil => cases e
    | cons x xs =>
      injection e with e1 _
      rw [IT.enc_eq] at e1
      injection e1 with e1
      obtain ⟨c, e2, h1, h2⟩ := h y
      rw [← e1, List.getElem?_map] at h1
      cases h3 : (IT.nums x)[c]? with
      | none => rw [h3] at h1; cases h1
      | some n => rw [h3] at h1; cases h1; exact h2 n rfl
theorem Items.t3 [Py α] [IT α] [Py β] [Py γ] {K : PySem.W.Frag} {Z : Addr → Prop} {v : V} {zs : List (T3 (List α) β γ)} (r : Rep K (NewX X Z H) H (enc zs) v) : Items K Z 0 3 v X H :=
  Items.of (f := fun z : T3 (List α) β γ => [enc z.a, enc z.b, enc z.c]) (g := fun z => z.a.map enc) r (fun _ => rfl) (fun _ _ => rfl) fun z hz => it_ne hz fun z => ⟨0, _, rfl, fun i e => nomatch e⟩
theorem Items.t4 {δ ε ζ : Type} [Py α] [Py β] [Py γ] [Py δ] [Py ε] [Py ζ] {K : PySem.W.Frag} {Z : Addr → Prop} {v : V} {zs : List (T4 α β γ (List (T3 δ ε ζ)))} (r : Rep K (NewX X Z H) H (enc zs) v) : Items K Z 3 4 v X H :=
  Items.of (f := fun z : T4 α β γ (List (T3 δ ε ζ)) => [enc z.a, enc z.b, enc z.c, enc z.d]) (g := fun z => z.d.map enc) r (fun _ => rfl) (fun _ _ => rfl) fun z hz e => by
    cases zs with
    | nil => cases hz
    | cons y ys =>
      cases h : z.d with
      | nil => rw [h] at e; cases e
      | cons x xs =>
        rw [h] at e
        injection e with e1 _
        have e2 : PyData.tuple [enc x.a, enc x.b, enc x.c] = PyData.tuple [enc y.a, enc y.b, enc y.c, enc y.d] := e1
        injection e2 with e2
        have := congrArg List.length e2
        cases this
theorem clrs_core {Z : Addr → Prop} {c n : Nat} {v : V} {g : TG} {tb : TS} {nx bk ct : L2.St → Hp → Prop} {rt : VK} (L : Lo C X H σ Γ) (hZ : ∀ a, Z a → C.H0 a = none) (it : Items C.K Z c n v X H) (old : ∀ s ∈ Γ, OldS Z s)
    (body : ∀ (t : Addr) (ws : List V) (b : Addr) (us : List V) (σ' : L2.St) (H' : Hp) (D : Ends), Lo C X H' σ' Γ → SqT C.K H' t ws → ws.length = n → ws[c]? = some (.ref b) → H' b = some (.lst us) → (∀ σ2, Lo C X (upd H' b (.lst [])) σ2 Γ → D.nx σ2 (upd H' b (.lst []))) → (∀ σ2, Lo C X H' σ2 Γ → Lo C X (upd H' b (.lst [])) σ2 Γ) → g (.ref t) σ' H' fun σ2 H2 => tb D σ2 H2)
    (done : ∀ σ' H', Lo C X H' σ' Γ → nx σ' H') : KForL C.K g tb ⟨nx, rt, bk, ct⟩ σ v H := by
  obtain ⟨a, vs, rfl, ha, hp⟩ := it
  refine ⟨a, rfl, ⟨vs, .inl ha⟩, for_list (K := C.K) (a := a) (xs := vs) (fun k σ' H' => Lo C X H' σ' Γ ∧ Rd H' a (.lst vs) ∧ ∀ y ∈ vs, ∃ t ws b us, y = .ref t ∧ SqT C.K H' t ws ∧ ws.length = n ∧ ws[c]? = some (.ref b) ∧ ¬ X b ∧ Z b ∧ b ≠ a ∧ H' b = some (.lst us))
    ⟨L, ha, hp⟩ (fun k σ' H' _ h => .inl h.2.1) ?_ fun σ' H' h => done _ _ h.1⟩
  rintro k y σ' H' hy ⟨L', hp, hpc⟩
  obtain ⟨t, ws, b, us, rfl, hs, hwl, hw, nb, zb, ne, rd⟩ := hpc y (List.mem_of_getElem? hy)
  have kk := keepAll (o := .lst []) rd
  refine body t ws b us σ' H' _ L' hs hwl hw rd (fun σ2 L2 => ⟨L2, ?_, fun y hy => ?_⟩) fun σ2 L2 => L2.clrZ (hZ b zb) nb zb rd old
  · rcases hp with hp | ⟨o, hp⟩
    · exact .inl (by rw [upd_ne (Ne.symm ne)]; exact hp)
    · exact .inr ⟨o, by rw [upd_ne (Ne.symm ne)]; exact hp⟩
  · obtain ⟨t2, ws2, b2, us2, e2, hs2, hl2, hw2, nb2, zb2, ne2, rd2⟩ := hpc y hy
    by_cases z : b2 = b
    · exact ⟨t2, ws2, b2, [], e2, kk.sqT hs2, hl2, hw2, nb2, zb2, ne2, by rw [z, upd_same]⟩
    · exact ⟨t2, ws2, b2, us2, e2, kk.sqT hs2, hl2, hw2, nb2, zb2, ne2, by rw [upd_ne z]; exact rd2⟩
theorem Lo.setU {i : Nat} {v : Option V} (L : Lo C X H σ Γ) (g : Γ[i]? = some .unk) (hi : i < C.n) : Lo C X H (σ.set i v) Γ := by
  have := L.setS (i := i) (v := v) (s := .unk) rfl trivial hi
  rwa [show Γ.set i .unk = Γ from List.ext_getElem? fun k => by
      rw [List.getElem?_set]
      split
      · next z =>
        subst z
        have := (List.getElem?_eq_some_iff.mp g).1
        rw [if_pos this, g]
      · rfl] at this
theorem atI_nat {xs : List V} {c : Nat} {u : V} (h : xs[c]? = some u) : atI xs (c : Nat) = some u := by
  obtain ⟨hlt, h2⟩ := List.getElem?_eq_some_iff.mp h
  unfold atI ixN
  rw [if_pos (by omega)]
  simp [hlt, h2]
/-- for x in ..: x[c].clear() -/
theorem x_clrsI {Z : Addr → Prop} {c n : Nat} {v : V} {j : Nat} {nx bk ct : L2.St → Hp → Prop} {rt : VK} (L : Lo C X H σ Γ) (hZ : ∀ a, Z a → C.H0 a = none) (it : Items C.K Z c n v X H) (old : ∀ s ∈ Γ, OldS Z s) (hj : j < C.n) (gj : Γ[j]? = some .unk)
    (done : ∀ σ' H', Lo C X H' σ' Γ → nx σ' H') : KForL C.K (gName j) (tDrop (tBM0 C.K "list" rClear (tOp (rIxT C.K) (tVar j) (tC (.int (c : Nat)))))) ⟨nx, rt, bk, ct⟩ σ v H :=
  clrs_core L hZ it old (fun t ws b us σ' H' D L' hs _ hw hb hn hc => by
    have L2 := L'.setU (i := j) (v := some (.ref t)) gj hj
    have hl : j < σ'.length := by rw [L'.len]; exact hj
    refine x_drop (x_bm0 ?_)
    refine ⟨.ref t, by rw [List.getElem?_set_self hl], ?_⟩
    refine ⟨t, ws, (c : Nat), .ref b, rfl, rfl, hs, atI_nat hw, ?_⟩
    exact ⟨.inl ⟨rfl, us, .inl (.inl hb)⟩, b, us, rfl, rfl, hb, hn _ (hc _ L2)⟩) done
/-- for x, y, z in ..: x.clear() -/
theorem x_clrs3 {Z : Addr → Prop} {v : V} {j k l : Nat} {nx bk ct : L2.St → Hp → Prop} {rt : VK} (L : Lo C X H σ Γ) (hZ : ∀ a, Z a → C.H0 a = none) (it : Items C.K Z 0 3 v X H) (old : ∀ s ∈ Γ, OldS Z s) (hj : j < C.n) (hk : k < C.n) (hl : l < C.n) (n1 : j ≠ k) (n2 : j ≠ l) (gj : Γ[j]? = some .unk) (gk : Γ[k]? = some .unk) (gl : Γ[l]? = some .unk)
    (done : ∀ σ' H', Lo C X H' σ' Γ → nx σ' H') : KForL C.K (gTup C.K 3 (gCons (gName j) (gCons (gName k) (gCons (gName l) gNil)))) (tDrop (tBM0 C.K "list" rClear (tVar j))) ⟨nx, rt, bk, ct⟩ σ v H :=
  clrs_core L hZ it old (fun t ws b us σ' H' D L' hs hwl hw hb hn hc => by
    match ws, hwl, hw with
    | [w1, w2, w3], _, hw =>
      have hw : w1 = .ref b := by simpa using hw
      subst hw
      have L2 := ((L'.setU (i := j) (v := some (.ref b)) gj hj).setU (i := k) (v := some w2) gk hk).setU (i := l) (v := some w3) gl hl
      have hl0 : j < σ'.length := by rw [L'.len]; exact hj
      refine ⟨t, _, rfl, hs, rfl, _, _, rfl, _, _, rfl, _, _, rfl, rfl, ?_⟩
      refine x_drop (x_bm0 ⟨.ref b, ?_, ?_⟩)
      · rw [List.getElem?_set_ne (Ne.symm n2), List.getElem?_set_ne (Ne.symm n1), List.getElem?_set_self hl0]
      · exact ⟨.inl ⟨rfl, us, .inl (.inl hb)⟩, b, us, rfl, rfl, hb, hn _ (hc _ L2)⟩) done
end
end Sc
namespace Sc
open PySem PySem.Spec PyProof.Rows L2
open Py (enc)
section
variable {C : Cn} {X : Addr → Prop} {H H' : Hp} {σ : L2.St} {Γ Γ' : List Sl} {Q : VK} {α β γ τ ρ : Type}
/-- a sum of told lists, to go over -/
def CatI (K : PySem.W.Frag) (Z : Addr → Prop) (ds : List PyData) (v : V) (X : Addr → Prop) (H : Hp) : Prop := ∃ a us, v = .ref a ∧ Rd H a (.lst us) ∧ Reps K (NewX X Z H) H ds us
theorem x_catI [Py α] {Z : Addr → Prop} {xs ys : List α} {u v : V} {k : Unit → Option ρ} {r : ρ} (L : Lo C X H σ Γ) (hm : (lenOk (xs.length + ys.length)).bind k = some r) (p : Rep C.K (NewX X Z H) H (enc xs) u) (q : Rep C.K (NewX X Z H) H (enc ys) v)
    (h : ∀ v H1, k () = some r → Lo C X H1 σ Γ → (∀ d u, Rep C.K X H d u → Rep C.K X H1 d u) → CatI C.K Z ((xs ++ ys).map enc) v X H1 → Q v H1) : rCatR u v H Q := by
  obtain ⟨hl, hk⟩ := len_ok hm
  obtain ⟨a, vs, rfl, _, hs, q1⟩ := rep_lst (ds := xs.map enc) p
  obtain ⟨b, ws, rfl, _, ht, q2⟩ := rep_lst (ds := ys.map enc) q
  have q3 : Reps C.K (NewX X Z H) H ((xs ++ ys).map enc) (vs ++ ws) := by rw [List.map_append]; exact q1.append q2
  refine ⟨a, b, vs, ws, rfl, rfl, hs, ht, by rw [line_eq, q1.length, q2.length, List.length_map, List.length_map]; exact hl, fun p hp => ?_⟩
  have s : Same H (upd H p (.lst (vs ++ ws))) := same_upd hp
  exact h _ _ hk (L.same s) (fun _ _ r => r.keep (.same s)) ⟨p, _, rfl, .inl upd_same, q3.keepF (.same s)⟩
theorem CatI.items {K : PySem.W.Frag} {Z : Addr → Prop} {c n : Nat} {v : V} {f : α → List PyData} {g : α → List PyData} {zs : List α} (r : CatI K Z (zs.map fun z => .tuple (f z)) v X H) (hl : ∀ z, (f z).length = n) (hf : ∀ z ∈ zs, (f z)[c]? = some (.list (g z))) (hne : ∀ z ∈ zs, g z ≠ zs.map fun z => .tuple (f z)) : Items K Z c n v X H := by
  obtain ⟨a, vs, rfl, ha, q⟩ := r
  refine ⟨a, vs, rfl, ha, fun y hy => ?_⟩
  obtain ⟨i, hi⟩ := List.getElem?_of_mem hy
  obtain ⟨d, hd, rd⟩ := q.get' hi
  rw [List.getElem?_map] at hd
  cases hz : zs[i]? with
  | none => rw [hz] at hd; cases hd
  | some z =>
    rw [hz] at hd
    cases hd
    have hm := List.mem_of_getElem? hz
    obtain ⟨t, ws, rfl, ht, qw⟩ := rep_tup rd
    obtain ⟨u, hu, ru⟩ := qw.get (hf z hm)
    obtain ⟨b, us, rfl, nb, zb, hb, qb⟩ := newx_lst ru
    refine ⟨t, ws, b, us, rfl, ht, by rw [qw.length, hl], hu, nb, zb, fun e => ?_, hb⟩
    subst e
    have e2 := Rd.fn (.inl hb) ha
    subst e2
    exact hne z hm (Reps.fn qb q)
theorem Items.ofT3 [Py α] [IT α] [Py β] [Py γ] {K : PySem.W.Frag} {Z : Addr → Prop} {v : V} {zs : List (T3 (List α) β γ)} (r : CatI K Z (zs.map enc) v X H) : Items K Z 0 3 v X H :=
  CatI.items (f := fun z : T3 (List α) β γ => [enc z.a, enc z.b, enc z.c]) (g := fun z => z.a.map enc) r (fun _ => rfl) (fun _ _ => rfl) fun z hz => it_ne hz fun z => ⟨0, _, rfl, fun i e => nomatch e⟩
end
end Sc
namespace Sc
open PySem PySem.Spec PyProof.Rows L2
open Py (enc)
section
variable {C : Cn} {X : Addr → Prop} {H H' : Hp} {σ : L2.St} {Γ Γ' : List Sl} {Q : VK} {α β γ τ ρ : Type}
/-- the script, older than what is cleared -/
def ScrR (K : PySem.W.Frag) (N : Addr → Prop) (ns : List Int) : V → (Addr → Prop) → Hp → Prop := fun v X H => ∃ a, v = .ref a ∧ ((¬ X a ∧ N a ∧ Rd H a (.lst (ns.map V.int))) ∨ ∀ H', SqL K H' a (ns.map V.int))
theorem ScrR.rv {K : PySem.W.Frag} {N : Addr → Prop} {ns : List Int} : RV (fun b => ¬ N b) (ScrR K N ns) where
  keep := fun k ⟨a, e, h⟩ => ⟨a, e, h.imp (fun z => ⟨z.1, z.2.1, k.rd z.1 z.2.2⟩) id⟩
  anti := fun g ⟨a, e, h⟩ => ⟨a, e, h.imp (fun z => ⟨fun y => z.1 (g _ y), z.2⟩) id⟩
  more := fun hp ⟨a, e, h⟩ => ⟨a, e, h.imp (fun z => ⟨fun y => y.elim z.1 fun e => rd_nn z.2.2 (e ▸ hp), z.2⟩) id⟩
  clr := fun {_ b us X H} y hb ⟨a, e, h⟩ => ⟨a, e, h.imp (fun z => ⟨z.1, z.2.1, (by
    have ne : a ≠ b := fun e => y (e ▸ z.2.1)
    rcases z.2.2 with h | ⟨o, h⟩
    · exact .inl (by rw [upd_ne ne]; exact h)
    · exact .inr ⟨o, by rw [upd_ne ne]; exact h⟩)⟩) id⟩
theorem ScrR.sq {K : PySem.W.Frag} {N : Addr → Prop} {ns : List Int} {v : V} (h : ScrR K N ns v X H) : SqX K X H ns v := by
  obtain ⟨a, e, h⟩ := h
  exact ⟨a, e, h.imp (fun z => ⟨z.1, z.2.2⟩) id⟩
theorem Lo.scrF {Z : Addr → Prop} {ns : List Int} (L : Lo C X H σ Γ) (hz : ∀ a, Z a ↔ H a = none) {i : Nat} (g : Γ[i]? = some (.scr ns)) (e : Γ.set i (.exv (fun b => ¬ (fun b => ¬ Z b) b) (ScrR C.K (fun b => ¬ Z b) ns)) = Γ') : Lo C X H σ Γ' := by
  subst e
  exact L.resl g rfl fun v ⟨u, e, a, ea, h⟩ => ⟨u, e, ScrR.rv, a, ea, h.imp (fun z => ⟨z.1, fun y => rd_nn z.2 ((hz a).mp y), z.2⟩) id⟩
theorem Lo.scrF2 {Z N : Addr → Prop} {ns : List Int} (L : Lo C X H σ Γ) (hz : ∀ a, Z a ↔ H a = none) {i : Nat} (g : Γ[i]? = some (.exv (fun b => ¬ N b) (ScrR C.K N ns))) (e : Γ.set i (.exv (fun b => ¬ (fun b => N b ∧ ¬ Z b) b) (ScrR C.K (fun b => N b ∧ ¬ Z b) ns)) = Γ') : Lo C X H σ Γ' := by
  subst e
  exact L.resl g rfl fun v ⟨u, e, _, a, ea, h⟩ => ⟨u, e, ScrR.rv, a, ea, h.imp (fun z => ⟨z.1, ⟨z.2.1, fun y => rd_nn z.2.2 ((hz a).mp y)⟩, z.2.2⟩) id⟩
theorem Lo.unscr {N : Addr → Prop} {ns : List Int} (L : Lo C X H σ Γ) {i : Nat} (g : Γ[i]? = some (.exv (fun b => ¬ N b) (ScrR C.K N ns))) (e : Γ.set i (.scr ns) = Γ') : Lo C X H σ Γ' := by
  subst e
  exact L.resl g rfl fun v ⟨u, e, _, h⟩ => ⟨u, e, h.sq⟩
theorem Lo.unscr2 {Z N : Addr → Prop} {ns : List Int} (L : Lo C X H σ Γ) {i : Nat} (g : Γ[i]? = some (.exv (fun b => ¬ (fun b => N b ∧ ¬ Z b) b) (ScrR C.K (fun b => N b ∧ ¬ Z b) ns))) (e : Γ.set i (.exv (fun b => ¬ N b) (ScrR C.K N ns)) = Γ') : Lo C X H σ Γ' := by
  subst e
  exact L.resl g rfl fun v ⟨u, e, _, a, ea, h⟩ => ⟨u, e, ScrR.rv, a, ea, h.imp (fun z => ⟨z.1, z.2.1.1, z.2.2⟩) id⟩
theorem x_vscrF {N : Addr → Prop} {ns : List Int} {i : Nat} (L : Lo C X H σ Γ) (g : Γ[i]? = some (.exv (fun b => ¬ N b) (ScrR C.K N ns))) (h : ∀ v, SqX C.K X H ns v → Q v H) : tVar i σ H Q := by
  obtain ⟨u, e, _, r⟩ := L.at_ i _ g
  exact ⟨u, e, h u r.sq⟩
theorem Lo.unfixE {Z : Addr → Prop} (L : Lo C X H σ Γ) {i : Nat} {d : PyData} (g : Γ[i]? = some (.fix Z d)) (e : Γ.set i (.imm d) = Γ') : Lo C X H σ Γ' := by
  subst e
  exact L.unfix g
theorem Lo.unfix2 {Z Z' : Addr → Prop} (L : Lo C X H σ Γ) {i : Nat} {d : PyData} (g : Γ[i]? = some (.fix (fun b => Z' b ∧ ¬ Z b) d)) (e : Γ.set i (.fix Z' d) = Γ') : Lo C X H σ Γ' := by
  subst e
  exact L.resl g rfl fun v ⟨u, e, r⟩ => ⟨u, e, r.anti fun a z => z.imp id fun z y => z y.1⟩
theorem Lo.unfixN2 {Z Z' : Addr → Prop} (L : Lo C X H σ Γ) {i : Nat} {d : PyData} (g : Γ[i]? = some (.fixN (fun b => Z' b ∧ ¬ Z b) d)) (e : Γ.set i (.fixN Z' d) = Γ') : Lo C X H σ Γ' := by
  subst e
  exact L.resl g rfl fun v ⟨u, e, r⟩ => ⟨u, e, r.anti fun a z => z.imp id fun z => z.imp (fun z y => z y.1) id⟩
end
end Sc
namespace Sc
open PySem PySem.Spec PyProof.Rows L2
open Py (enc)
/-- an item that may be None, and is not -/
theorem x_ixLOI {C : Cn} {X : Addr → Prop} {H : Hp} {Q : VK} {ρ : Type} {xs : List (Option Int)} {i : Int} {v : V} {k : Int → Option ρ} {r : ρ} (hm : ((ix xs i).bind fun o => o.bind k) = some r) (q : Rep C.K X H (enc xs) v) (h : ∀ y, k y = some r → Q (.int y) H) : rIxL C.K v (.int i) H Q :=
  x_ixL hm q fun x u _ hk rx => by
    cases x with
    | none => exact (nomatch hk)
    | some y =>
      cases rx
      exact h y hk
open Py (enc)
/-! sorted(set(list of whole numbers)) -/
end Sc
namespace ScS
open PySem PySem.Spec PyProof.Rows L2
section
variable {P : Program} {w : World} {A : Around} {E : Value → Shared → Prop} {s : Shared}
/-- the empty set, as it is made -/
def eS (w : World) : Obj := { cls := .type "set", dict := none, data := .set #[] 0 (.fresh 0 0 (!w.params.followText "set-order")) }
/-- the filling of it from a list -/
theorem fill_listI {l : Addr} {items : Array Value} (ns : List Int) {R : Result → Shared → Prop} (hh : A.handled = none) (hl : s.heap.IsList l items) (hit : IntsAre items.toList ns) (hb : ns.length + 1 < scanBound)
    (hR : ∀ (h' : Heap) (tk c : Nat), SetR w h' s.heap.objs.size (fun j => decide (j ∈ ns)) c → c ≤ ns.length → (∀ b o, s.heap.get? b = some o → h'.get? b = some o) → R (.ok (.ret .none)) { s with heap := h', toks := tk }) :
    ∀ t : Shared, t = { s with heap := (s.heap.push (eS w)).push { cls := .type "list_iterator", data := .fields #[.ref l, .int 0 0] }, toks := t.toks } →
    codeAny (model P w) A (.builtin "set.update.loop" ⟨[.ref s.heap.objs.size, .ref (s.heap.push (eS w)).objs.size], []⟩) R t := by
  intro t et
  have n1 : items.size = ns.length := by
    have q := IntsAre.length hit
    rwa [Array.length_toList] at q
  have lt1 : l < s.heap.objs.size := by
    obtain ⟨o, ho, _⟩ := hl
    exact Heap.lt_size ho
  have sz : (s.heap.push (eS w)).objs.size = s.heap.objs.size + 1 := Heap.size_push ..
  have g0 : (s.heap.push (eS w)).get? s.heap.objs.size = some (eS w) := Heap.get?_push_size _ rfl
  have l1 : (s.heap.push (eS w)).IsList l items := hl.push _
  have ne : l ≠ (s.heap.push (eS w)).objs.size := by rw [sz]; exact Nat.ne_of_lt (Nat.lt_succ_of_lt lt1)
  have hv : ∀ (i : Nat) (v : Value), items[i]? = some v → ∃ k t, ns[i]? = some k ∧ v = .int k t := fun i v hv => by
    have hi : i < ns.length := by rw [← n1]; exact (Array.getElem?_eq_some_iff.mp hv).1
    obtain ⟨t, e⟩ := PyProof.Rows.IntsAre.int_at hit i v (by rw [Array.getElem?_toList]; exact hv)
    exact ⟨ns[i], t, List.getElem?_eq_getElem hi, by rw [e, List.getD_eq_getElem?_getD, List.getElem?_eq_getElem hi] <;> rfl⟩
  rw [et]
  refine set_update_ints ((Walks.list (by simp [hh]) _ l ne items).toS) s.heap.objs.size (fun h => ?_) ns n1 hb hv (items.size - 0) 0 _ (by omega) (Nat.zero_le _) ⟨⟨_, Heap.get?_push_size _ rfl, rfl, rfl⟩, l1.push _⟩ ?_ ?_
  · rcases List.mem_cons.mp h with e | e
    · rw [sz] at e; exact absurd e (Nat.ne_of_lt (Nat.lt_succ_self _))
    · have := List.mem_singleton.mp e
      exact absurd this (Nat.ne_of_gt lt1)
  · exact ⟨0, Nat.le_refl 0, setR_new_at (Heap.get?_push_of_some _ g0)⟩
  · intro s' c hm hc hS
    obtain ⟨h', g', d', tk', os'⟩ := s'
    obtain rfl : g' = s.gens := hm.gens
    obtain rfl : d' = s.drawn := hm.drawn
    obtain rfl : os' = s.os := hm.os
    rw [n1] at hc
    refine hR h' tk' c hS hc fun b o e => ?_
    have hb0 : b < s.heap.objs.size := Heap.lt_size e
    exact hm.heap b o (fun h => by
      rcases List.mem_cons.mp h with z | z
      · exact absurd z (Nat.ne_of_lt hb0)
      · have := List.mem_singleton.mp z
        rw [sz] at this
        exact absurd this (Nat.ne_of_lt (Nat.lt_succ_of_lt hb0))) (Heap.get?_push_of_some _ (Heap.get?_push_of_some _ e))
theorem set_of_listI {l : Addr} {items : Array Value} (ns : List Int) {Q : Value → Shared → Prop} (hh : A.handled = none) (hl : s.heap.IsList l items) (hit : IntsAre items.toList ns) (hb : ns.length + 1 < scanBound)
    (h : ∀ (h' : Heap) (tk c : Nat), SetR w h' s.heap.objs.size (fun j => decide (j ∈ ns)) c → c ≤ ns.length → (∀ b o, s.heap.get? b = some o → h'.get? b = some o) → Q (.ref s.heap.objs.size) { s with heap := h', toks := tk }) :
    wpAny (model P w) A (call (.type "set") [.ref l]) Q E s := by
  obtain ⟨c, tl, hmro⟩ := F.called_set.mro
  have hmade := F.called_set.made
  have hsub := F.called_set.sub
  have h1 := F.called_set.notType
  have h2 := F.called_set.canCreate
  have hct := F.typeCall_set_1 (.ref l)
  refine wpAny_call (codeAny_of_tree (show wpAny _ _ (callAny (.type "set") _) _ _ _ from wpAny_pure ⟨Code.quiet_builtin _ (by decide +kernel), codeAny_builtin F.entry_type_call ?_⟩))
  rw [Around.under_plain (weight_type_call_type "set" [.ref l] []) rfl]
  repeat (any_goals (first | assumption | wp_step))
  refine codeAny_mono (code_set_led1 (.ref l) (E := E) (Q₁ := fun v t => v = .ref s.heap.objs.size ∧ t = { s with heap := s.heap.push (eS w) }) ⟨rfl, rfl⟩) fun r t hr => ?_
  match r, hr with
  | .error _, hr => exact hr
  | .ok (.ret v), hr =>
    obtain ⟨rfl, rfl⟩ := hr
    have hT : Shared.TypeIs { s with heap := s.heap.push (eS w) } (.ref s.heap.objs.size) "set" := ⟨_, Heap.get?_push_size _ rfl, rfl⟩
    have hli := F.called_set.init.lookup
    have hbi := F.called_set.init.bind (.ref s.heap.objs.size)
    repeat (any_goals (first | assumption | wp_step))
    refine codeAny_mono (codeAny_call_builtin (R := wants (fun r t => r = .none ∧ ∃ h' tk c, t = { s with heap := h', toks := tk } ∧ SetR w h' s.heap.objs.size (fun j => decide (j ∈ ns)) c ∧ c ≤ ns.length ∧ ∀ b o, s.heap.get? b = some o → h'.get? b = some o) E) F.called_set.init.plain F.entry_set_init (check_set_init_1 hT ?_)) fun r t hr => ?_
    · have l1 : (s.heap.push (eS w)).IsList l items := hl.push _
      obtain ⟨ol, hol, hcl, nl, hdl⟩ := id l1
      obtain ⟨ocls, odict, odata, oslots⟩ := ol
      simp only at hcl hdl
      subst hcl; subst hdl
      have hsls := F.sub_list_set
      have hslf := F.sub_list_frozenset
      have hne : (Value.type "list" == Value.type "dict") = false := by decide
      unfold Builtin.«set.__init__» noKeywords Builtin.Frozenset.updateFrom
      generalize hPI : pyIter = PI
      wp_walk
      subst hPI
      refine wpAny_pyIter_list l1 (wpAny_bind (wpAny_runValue (fill_listI ns (by simp [hh]) hl hit hb (fun h' tk c hS hc k => ?_) _ rfl)))
      show wpAny _ _ _ _ _ _
      exact wpAny_pure (wpAny_pure ⟨rfl, h', tk, c, rfl, hS, hc, k⟩)
    · match r, hr with
      | .error _, hr => exact hr
      | .ok (.ret v), hr =>
        obtain ⟨rfl, h', tk, c', rfl, hS, hc, k⟩ := hr
        repeat (any_goals (first | assumption | wp_step))
        exact h _ _ _ hS hc k
      | .ok (.next), hr => exact hr.elim
      | .ok (.brk), hr => exact hr.elim
      | .ok (.cont), hr => exact hr.elim
  | .ok (.next), hr => exact hr.elim
  | .ok (.brk), hr => exact hr.elim
  | .ok (.cont), hr => exact hr.elim
end
end ScS
namespace Sc
open PySem PySem.Spec PyProof.Rows L2
open Py (enc)
/-- the whole numbers of a list, each once, rising -/
def insS (k : Int) : List Int → List Int
  | [] => [k]
  | x :: xs => if k < x then k :: x :: xs else if k = x then x :: xs else x :: insS k xs
def sset (ns : List Int) : List Int := ns.foldr insS []
theorem insS_mem {k j : Int} : ∀ {xs : List Int}, j ∈ insS k xs ↔ j = k ∨ j ∈ xs
  | [] => by simp [insS]
  | x :: xs => by
    unfold insS
    split
    · simp
    · split
      · rename_i h; subst h; simp
      · rw [List.mem_cons, insS_mem, List.mem_cons]
        constructor
        · rintro (h | h | h)
          · exact .inr (.inl h)
          · exact .inl h
          · exact .inr (.inr h)
        · rintro (h | h | h)
          · exact .inr (.inl h)
          · exact .inl h
          · exact .inr (.inr h)
theorem insS_up {k : Int} : ∀ {xs : List Int}, xs.Pairwise (· < ·) → (insS k xs).Pairwise (· < ·)
  | [], _ => by simp [insS]
  | x :: xs, h => by
    obtain ⟨a, b⟩ := List.pairwise_cons.mp h
    unfold insS
    split
    · rename_i l
      refine List.pairwise_cons.mpr ⟨fun y hy => ?_, h⟩
      rcases List.mem_cons.mp hy with e | e
      · rw [e]; exact l
      · have := a y e
        omega
    · split
      · exact h
      · refine List.pairwise_cons.mpr ⟨fun y hy => ?_, insS_up b⟩
        rcases insS_mem.mp hy with e | e
        · omega
        · exact a y e
theorem sset_mem {ns : List Int} {k : Int} : k ∈ sset ns ↔ k ∈ ns := by
  induction ns with
  | nil => simp [sset]
  | cons x xs ih =>
    show k ∈ insS x (sset xs) ↔ _
    rw [insS_mem, ih, List.mem_cons]
theorem sset_up (ns : List Int) : (sset ns).Pairwise (· < ·) := by
  induction ns with
  | nil => simp [sset]
  | cons x xs ih => exact insS_up ih
theorem up_eq : ∀ {xs ys : List Int}, xs.Pairwise (· < ·) → ys.Pairwise (· < ·) → (∀ k, k ∈ xs ↔ k ∈ ys) → xs = ys
  | [], [], _, _, _ => rfl
  | [], y :: ys, _, _, h => absurd ((h y).mpr List.mem_cons_self) (by simp)
  | x :: xs, [], _, _, h => absurd ((h x).mp List.mem_cons_self) (by simp)
  | x :: xs, y :: ys, p, q, h => by
    obtain ⟨p1, p2⟩ := List.pairwise_cons.mp p
    obtain ⟨q1, q2⟩ := List.pairwise_cons.mp q
    have e : x = y := by
      rcases List.mem_cons.mp ((h x).mp List.mem_cons_self) with a | a
      · exact a
      · rcases List.mem_cons.mp ((h y).mpr List.mem_cons_self) with b | b
        · exact b.symm
        · have := p1 y b
          have := q1 x a
          omega
    subst e
    rw [up_eq p2 q2 fun k => ⟨fun hk => ?_, fun hk => ?_⟩]
    · rcases List.mem_cons.mp ((h k).mp (List.mem_cons_of_mem _ hk)) with a | a
      · have := p1 k hk
        omega
      · exact a
    · rcases List.mem_cons.mp ((h k).mpr (List.mem_cons_of_mem _ hk)) with a | a
      · have := q1 k hk
        omega
      · exact a
section
variable {X : Cx}
def tSrtSet (K : PySem.W.Frag) (ta : TE) : TE := fun σ H Q => ta σ H fun x H1 => ∃ (l : Addr) (ns : List Int), x = V.ref l ∧ SqL K H1 l (ns.map V.int) ∧ ns.length < 64 ∧ ∀ p, H1 p = none → Q (.ref p) (upd H1 p (.lst ((sset ns).map V.int)))
theorem pe_srtSet {a : Expr} {ta : TE} {p p2 q pos : Pos} (hc : X.calm = true) (hg : Gl X "sorted") (hm : X.mg "sorted" = none) (hg2 : Gl X "set") (hm2 : X.mg "set" = none) (ha : PE X a ta)
    (na : starEach [a] X.env = (false, eval a X.env) :: starEach [] X.env := by rfl) : PE X (.Call (.Name "sorted" p) [.Call (.Name "set" p2) [a] [] q] [] pos) (tSrtSet X.K ta) := by
  refine ⟨fun pins s σ H Q I h => ?_⟩
  refine Call_ (ld_blt I hg hm PyProof.Rows.boot_sorted ?_)
  refine PyProof.Rows.callWith_builtin1 (PyProof.Rows.args_cons ?_ rfl) rfl rfl
  refine Call_ (ld_blt I hg2 hm2 PyProof.Rows.boot_set ?_)
  refine PyProof.Rows.callWith_type1 (PyProof.Rows.args_cons (thn (ha.run pins s σ H _ I h) fun v s1 ⟨x, H1, I1, r1, q1⟩ => PyProof.Rows.args_nil ?_) na) na rfl
  obtain ⟨l, ns, rfl, hq, hf, q1⟩ := q1
  cases r1
  obtain ⟨its, rv, pl, hz⟩ := I1.list hq
  refine ScS.set_of_listI (P := X.prog) (w := X.w) ns (I1.ok.hd hc) pl.isList (by simpa using ints_of_vals rv) (by unfold scanBound; omega) fun h' tk c R lc k => ?_
  refine PyProof.Rows.args_nil ?_
  have I2 : Inv X pins σ H1 { s1 with heap := h', toks := tk } := I1.kept fun b o e => k b o e
  refine sorted_set R (I2.ok.hd hc) (by omega) fun s' p out c2 ns2 k2 g2 o2 hp hg3 hi hs hm hl => ?_
  have en : ns2 = sset ns := up_eq hs (sset_up ns) fun k => by rw [hm, sset_mem, decide_eq_true_eq]
  subst en
  have hlen : ((sset ns).map V.int).length ≤ sizeLine := by rw [List.length_map, hl, sizeLine_eq]; omega
  have hn : H1 p = none := I2.hok.fresh hp
  generalize hs0 : ({ s1 with heap := h', toks := tk } : Shared) = s0 at *
  have J : Inv X pins σ (upd H1 p (.lst ((sset ns).map V.int))) { s0 with heap := s'.heap, gens := s'.gens, drawn := s'.drawn, toks := s'.toks } :=
    I2.call (ch := []) (Un.laid k2 hp hn) (I2.hok.laid k2 hp ⟨hlen, out.toList, c2, vals_of_ints hi, hg3⟩) (by rw [g2]; exact I2.bare) (fun _ z => nomatch z)
  have e : s' = { s0 with heap := s'.heap, gens := s'.gens, drawn := s'.drawn, toks := s'.toks } := by
    cases s'
    cases s0
    cases o2
    rfl
  rw [e]
  exact ⟨.ref p, _, J, rfl, q1 p hn⟩
end
section
variable {C : Cn} {X : Addr → Prop} {H : Hp} {σ : L2.St} {Γ Γ' : List Sl} {Q : VK} {α β ρ : Type}
def KSrt (K : PySem.W.Frag) (Q : VK) : VK := fun x H1 => ∃ (l : Addr) (ns : List Int), x = V.ref l ∧ SqL K H1 l (ns.map V.int) ∧ ns.length < 64 ∧ ∀ p, H1 p = none → Q (.ref p) (upd H1 p (.lst ((sset ns).map V.int)))
theorem x_srtSet {K : PySem.W.Frag} {ta : TE} (h : ta σ H (KSrt K Q)) : tSrtSet K ta σ H Q := h
theorem few_of {n : Nat} {k : Unit → Option ρ} {r : ρ} (hm : (fewOk n).bind k = some r) : n < 64 ∧ k () = some r := by
  obtain ⟨_, e, hk⟩ := ob hm
  unfold fewOk at e
  split at e
  · exact ⟨by assumption, hk⟩
  · cases e
theorem x_srt {ns : List Int} {v : V} {k : Unit → Option ρ} {r : ρ} (hm : (fewOk ns.length).bind k = some r) (L : Lo C X H σ Γ) (q : Rep C.K X H (enc ns) v) (h : k () = some r → ∀ v H1, Lo C X H1 σ Γ → (∀ d u, Rep C.K X H d u → Rep C.K X H1 d u) → Rep C.K X H1 (enc (sset ns)) v → Q v H1) : KSrt C.K Q v H := by
  obtain ⟨h64, hk⟩ := few_of hm
  obtain ⟨a, vs, rfl, _, hs, q⟩ := rep_lst (ds := ns.map enc) q
  have e : vs = ns.map V.int := Reps.toInts q
  subst e
  exact ⟨a, ns, rfl, .inl hs, h64, x_new L (Reps.ints (K := C.K)) (h hk)⟩
theorem x_srtN {ns : List Int} {v : V} {k : Unit → Option ρ} {r : ρ} (hm : (fewOk ns.length).bind k = some r) (L : Lo C X H σ Γ) (q : Rep C.K X H (enc ns) v) (h : k () = some r → ∀ p X' H1, C.H0 p = none → ¬ C.X0 p → Lo C X' H1 σ (Γ ++ [.tmp p (ml (sset ns))]) → (∀ d u, Rep C.K X H d u → Rep C.K X' H1 d u) → Q (.ref p) H1) : KSrt C.K Q v H := by
  obtain ⟨h64, hk⟩ := few_of hm
  obtain ⟨a, vs, rfl, _, hs, q⟩ := rep_lst (ds := ns.map enc) q
  have e : vs = ns.map V.int := Reps.toInts q
  subst e
  exact ⟨a, ns, rfl, .inl hs, h64, x_newN L (Reps.ints (K := C.K)) (h hk)⟩
end

/-! ### a pair of a new list and data, told -/
section
variable {C : Cn} {X : Addr → Prop} {H H' : Hp} {σ : L2.St} {Γ Γ' : List Sl} {Q : VK} {α β ρ : Type}
def NewT (K : PySem.W.Frag) (X : Addr → Prop) (H : Hp) (ds : List PyData) (d : PyData) (v : V) (H' : Hp) : Prop :=
  ∃ t p u, v = .ref t ∧ H' t = some (.tup [.ref p, u]) ∧ H p = none ∧ MRep K (fun a => X a ∨ a = p) H' p (.lst ds) ∧ Rep K (fun a => X a ∨ a = p) H' d u
theorem NewT.mk {i : Nat} {p t : Addr} {u : V} {ds : List PyData} {d : PyData} (L : Lo C X H σ Γ) (g : Γ[i]? = some (.mu p (.lst ds))) (h0 : C.H0 p = none) (hp : H t = some (.tup [.ref p, u])) (r : Rep C.K X H d u) : NewT C.K C.X0 C.H0 ds d (.ref t) H := by
  have hx : X p := L.mx p (mem_muts.mpr ⟨i, _, g, rfl⟩)
  have sub : ∀ a, C.X0 a ∨ a = p → X a := fun a h => h.elim (L.m0 a) fun e => e ▸ hx
  exact ⟨t, p, u, rfl, hp, h0, (L.mrep g).anti sub, r.anti sub⟩
theorem k0T {v : V} {ds : List PyData} {d : PyData} {ps : List (Addr × MO)} {tg : TGs} {N : L2.St → Hp → Prop} (L : Lo C X H σ Γ) (F : Fin C.K X H [] ps (.raw (NewT C.K X H ds d)) v H')
    (h : ∀ p u X', C.H0 p = none → ¬ C.X0 p → Lo C X' H' σ (Γ ++ [.tmp p (.lst ds)]) → (∀ d u, Rep C.K X H d u → Rep C.K X' H' d u) → Rep C.K X' H' d u → tg [.ref p, u] σ H' N) : gTup C.K 2 tg v σ H' N := by
  obtain ⟨t, p, u, rfl, ht, hn, r1, r2⟩ := (show NewT C.K X H ds d v H' from F.res)
  have s : Same H H' := fun a o e => F.base a o e (by simp)
  obtain ⟨L1, le, h0, hx⟩ := L.lay hn s r1
  exact ⟨t, _, rfl, .inl (.inl ht), rfl, h p u _ h0 hx L1 le r2⟩
theorem x_gC {v : V} {vs : List V} {t : TG} {u : TGs} {N : L2.St → Hp → Prop} (h : t v σ H fun σ' H' => u vs σ' H' N) : gCons t u (v :: vs) σ H N := ⟨_, _, rfl, h⟩
theorem x_gN {N : L2.St → Hp → Prop} (h : N σ H) : gNil [] σ H N := ⟨rfl, h⟩
end
open Py (enc)
structure T8 (α β γ δ ε ζ η θ : Type) where
  a : α
  b : β
  c : γ
  d : δ
  e : ε
  f : ζ
  g : η
  h : θ
  deriving DecidableEq
instance {α β γ δ ε ζ η θ : Type} [Py α] [Py β] [Py γ] [Py δ] [Py ε] [Py ζ] [Py η] [Py θ] : Py (T8 α β γ δ ε ζ η θ) := ⟨fun x => .tuple [enc x.a, enc x.b, enc x.c, enc x.d, enc x.e, enc x.f, enc x.g, enc x.h]⟩
instance decBx : DecidableEq (List (T3 (T2 Int Int) (T2 Int Int) (List (T3 (List (T3 Int Int Int)) Bool (T3 Int Int Int))))) := instDecidableEqList
def insZ (k : Int) : List Int → List Int
  | [] => [k]
  | x :: xs => if k ≤ x then k :: x :: xs else x :: insZ k xs
def srtZ (ns : List Int) : List Int := ns.foldr insZ []
theorem insZ_perm (k : Int) : ∀ xs : List Int, (insZ k xs).Perm (k :: xs)
  | [] => .refl _
  | x :: xs => by
    unfold insZ
    split
    · exact .refl _
    · exact ((insZ_perm k xs).cons x).trans (.swap k x xs)
theorem srtZ_perm (ns : List Int) : (srtZ ns).Perm ns := by
  induction ns with
  | nil => exact .refl _
  | cons x xs ih => exact (insZ_perm x (srtZ xs)).trans (ih.cons x)
theorem insZ_up {k : Int} : ∀ {xs : List Int}, xs.Pairwise (· ≤ ·) → (insZ k xs).Pairwise (· ≤ ·)
  | [], _ => by simp [insZ]
  | x :: xs, h => by
    rw [List.pairwise_cons] at h
    unfold insZ
    split
    · next hk =>
      rw [List.pairwise_cons]
      refine ⟨fun y hy => ?_, by rw [List.pairwise_cons]; exact h⟩
      rcases List.mem_cons.mp hy with rfl | hy
      · exact hk
      · exact Int.le_trans hk (h.1 y hy)
    · next hk =>
      rw [List.pairwise_cons]
      refine ⟨fun y hy => ?_, insZ_up h.2⟩
      rcases List.mem_cons.mp ((insZ_perm k xs).mem_iff.mp hy) with rfl | hy
      · omega
      · exact h.1 y hy
theorem srtZ_up (ns : List Int) : (srtZ ns).Pairwise (· ≤ ·) := by
  induction ns with
  | nil => simp [srtZ]
  | cons x xs ih => exact insZ_up ih
theorem srt_uniq : ∀ {xs ys : List Int}, xs.Pairwise (· ≤ ·) → ys.Pairwise (· ≤ ·) → xs.Perm ys → xs = ys
  | [], ys, _, _, p => (List.nil_perm.mp p).symm
  | x :: xs, [], _, _, p => absurd p.length_eq (by simp)
  | x :: xs, y :: ys, hx, hy, p => by
    rw [List.pairwise_cons] at hx hy
    have e : x = y := by
      have h1 : y ∈ x :: xs := p.mem_iff.mpr List.mem_cons_self
      have h2 : x ∈ y :: ys := p.mem_iff.mp List.mem_cons_self
      rcases List.mem_cons.mp h1 with h1 | h1
      · exact h1.symm
      · rcases List.mem_cons.mp h2 with h2 | h2
        · exact h2
        · have := hx.1 y h1
          have := hy.1 x h2
          omega
    subst e
    rw [srt_uniq hx.2 hy.2 (p.cons_inv)]
/-- the item at i, and the list without it -/
def popO {α : Type} (xs : List α) (i : Int) : Option (α × List α) := if 0 ≤ i then (xs[i.toNat]?).map fun x => (x, xs.take i.toNat ++ xs.drop (i.toNat + 1)) else none
def rPopR : V → List V → Hp → VK → Prop := fun x vs H Q => ∃ (l : Addr) (xs : List V) (i : Int) (y : V), x = .ref l ∧ vs = [.int i] ∧ H l = some (.lst xs) ∧ 0 ≤ i ∧ xs[i.toNat]? = some y ∧ Q y (upd H l (.lst (xs.take i.toNat ++ xs.drop (i.toNat + 1))))
theorem erase_take {α : Type} : ∀ (xs : List α) (k : Nat), xs.eraseIdx k = xs.take k ++ xs.drop (k + 1)
  | [], k => by simp
  | x :: xs, 0 => by simp
  | x :: xs, k + 1 => by
    have := erase_take xs k
    simp [List.eraseIdx, this]
theorem mt_popR {Xc : Cx} : MtM Xc "list.pop" rPopR := by
  intro pins s σ H x vs v us Q I rx rv h
  obtain ⟨l, xs, i, y, rfl, rfl, hH, h0, hy, q⟩ := h
  cases rx
  obtain ⟨u, rfl, ru⟩ := rv.one
  obtain ⟨t, rfl⟩ := ru
  obtain ⟨z, its, n, r, hl, e⟩ := I.lstM hH
  obtain ⟨w, hw, rw_⟩ := r.get hy
  have hlen := r.length
  have hk : i.toNat < xs.length := (List.getElem?_eq_some_iff.mp hy).1
  have hz : xs.length ≤ sizeLine := z
  have hz' := hz
  rw [sizeLine_eq] at hz'
  have hfit : Builtin.List.listFitsIndex i = true := fitsIndex_of h0 (by omega)
  have hs : seqIndex? i its.toArray.size = some i.toNat := by
    have : ixN its.toArray.size i = some i.toNat := by
      unfold ixN
      rw [if_pos h0, if_pos (by rw [List.size_toArray]; omega)]
    exact (ixN_seq this).1
  refine call_meets F.slot_list_pop ⟨_, e, rfl⟩ F.entry_list_pop (F.args_list_pop_2 _ _) (MeetsSeq.list_pop_at l its.toArray n i t i.toNat w hfit hs (by simpa using hw) (by rw [List.size_toArray]; omega)) ⟨e, ?_⟩
  refine ⟨y, _, I.lset (its' := its.take i.toNat ++ its.drop (i.toNat + 1)) hH e ?_ ((r.take i.toNat).append (r.drop (i.toNat + 1))) ?_, rw_, q⟩
  · rw [← erase_take]
    simp [Array.eraseIdxIfInBounds]
    intro h
    omega
  · rw [List.length_append, List.length_take, List.length_drop]
    omega
end Sc
namespace ScS
open PySem PySem.Spec PyProof.Rows
theorem list_extend_list_tupleS (l : Addr) (items : Array Value) (n : Nat) (b : Addr) (o2 : Obj) (items2 : Array Value) (n2 : Nat) (hc2 : o2.cls = .type "tuple") (hd2 : o2.data = .seq items2 n2) (hs0 : ¬(!items.isEmpty && Builtin.List.listTooLong (items.size + items2.size)) = true) (hs1 : items.size ≤ sizeLine) (hs2 : items.size + items2.size ≤ sizeLine + 1 := by seq_fits) :
    Meets (Builtin.«list.extend» ⟨[.ref l, .ref b], []⟩) (fun _ R s => s.heap.get? l = some { cls := .type "list", dict := none, data := .seq items n, slots := #[] } ∧ s.heap.get? b = some o2 ∧ R (.ok (.ret Value.none)) { s with heap := s.heap.update l (Obj.mapSeq fun x => x ++ items2), toks := s.toks }) :=
  .of_wp fun prog w A R s h => by
    obtain ⟨cls, dict, data, slots⟩ := o2
    simp only at hc2 hd2
    subst hc2
    subst hd2
    obtain ⟨hp, g, d, tk, os⟩ := s; obtain ⟨hl, hb, h⟩ := h; have f1 := AutoSeq1.idx_int; have f2 := AutoSeq1.sub_tuple_tuple; have f3 := AutoSeq1.sub_list_list; have f4 := AutoSeq1.sub_tuple_list; have f5 := AutoSeq1.sub_list_tuple;
    have hz' : (items ++ items2).size ≤ sizeLine + 1 := by rw [Array.size_append]; exact hs2
    wp_walk using (wpAny_updateSeq hl rfl (hz := hs1) (_hz' := hz')), wpAny_loadPart' hl, wpAny_loadPart' hb; exact ⟨_, rfl, h⟩
end ScS
namespace Sc
open PySem PySem.Spec PyProof.Rows L2
open Py (enc)
def rExtendT (K : PySem.W.Frag) : V → List V → Hp → VK → Prop := fun x vs H Q => ∃ l b xs zs, x = .ref l ∧ vs = [.ref b] ∧ H l = some (.lst xs) ∧ SqT K H b zs ∧ xs.length + zs.length ≤ sizeLine ∧ Q .non (upd H l (.lst (xs ++ zs)))
theorem mt_extendT {Xc : Cx} : MtM Xc "list.extend" (rExtendT Xc.K) := by
  intro pins s σ H x vs v us Q I rx rv h
  obtain ⟨l, b, xs, zs, rfl, rfl, hH, hB, hz, q⟩ := h
  cases rx
  obtain ⟨u, rfl, ru⟩ := rv.one
  cases ru
  obtain ⟨z, its, n, r, hl, e⟩ := I.lstM hH
  obtain ⟨its2, r2, p2, z2⟩ := I.tuple hB
  have hl2 := r2.length
  have hsz : its.toArray.size + its2.toArray.size ≤ sizeLine := by rw [List.size_toArray, List.size_toArray]; omega
  have hlong : ¬ (!its.toArray.isEmpty && Builtin.List.listTooLong (its.toArray.size + its2.toArray.size)) = true := by
    rw [notLongL hsz, Bool.and_false]
    exact Bool.false_ne_true
  obtain ⟨o2, ho2, hc2, n2, hd2⟩ := id p2
  refine call_meets F.slot_list_extend ⟨_, e, rfl⟩ F.entry_list_extend (F.args_list_extend_2 _ _)
    (ScS.list_extend_list_tupleS l its.toArray n b o2 its2.toArray n2 hc2 hd2 hlong (by rw [List.size_toArray]; omega) (by omega)) ⟨e, ho2, ?_⟩
  refine ⟨.non, _, I.lset (its' := its ++ its2) hH e (by simp) (r.append r2) ?_, rfl, q⟩
  rw [List.length_append]
  omega
section
variable {C : Cn} {X : Addr → Prop} {H : Hp} {σ : L2.St} {Γ Γ' : List Sl} {Q : VK} {α β ρ : Type}
theorem x_extendT [Py α] {xs ys : List α} {v : V} {i : Nat} {p : Addr} {k : Unit → Option ρ} {r : ρ} (L : Lo C X H σ Γ) (g : Γ[i]? = some (.mu p (ml xs))) (hm : (lenOk (xs.length + ys.length)).bind k = some r) (q : Rep C.K X H (.tuple (ys.map enc)) v) (e : Γ.set i (.mu p (ml (xs ++ ys))) = Γ')
    (h : ∀ H1, k () = some r → Lo C X H1 σ Γ' → (∀ d u, Rep C.K X H d u → Rep C.K X H1 d u) → Q .non H1) : rExtendT C.K (.ref p) [v] H Q := by
  subst e
  obtain ⟨hl, hk⟩ := len_ok hm
  obtain ⟨vs, hs, rs⟩ := L.mrep g
  obtain ⟨b, ws, rfl, ht, q2⟩ := rep_tup q
  obtain ⟨L1, le⟩ := L.write (es := (xs ++ ys).map enc) (ws := vs ++ ws) g hs (by rw [List.map_append]; exact rs.append q2)
  exact ⟨p, b, vs, ws, rfl, rfl, hs, ht, by rw [line_eq, rs.length, q2.length, List.length_map, List.length_map]; exact hl, h _ hk L1 le⟩
theorem x_pop [Py α] {xs : List α} {n : Int} {i : Nat} {p : Addr} {k : α × List α → Option ρ} {r : ρ} {G' : α × List α → List Sl} (L : Lo C X H σ Γ) (g : Γ[i]? = some (.mu p (ml xs))) (hm : (popO xs n).bind k = some r) (e : ∀ q, Γ.set i (.mu p (ml q.2)) = G' q)
    (h : ∀ q v H1, k q = some r → Lo C X H1 σ (G' q) → (∀ d u, Rep C.K X H d u → Rep C.K X H1 d u) → Rep C.K X H1 (enc q.1) v → Q v H1) : rPopR (.ref p) [.int n] H Q := by
  obtain ⟨q, hq, hk⟩ := ob hm
  unfold popO at hq
  split at hq
  · next h0 =>
    obtain ⟨x, hx, rfl⟩ := Option.map_eq_some_iff.mp hq
    obtain ⟨vs, hs, rs⟩ := L.mrep g
    have hn := (List.getElem?_eq_some_iff.mp hx).1
    have hv : vs[n.toNat]? = some (vs[n.toNat]'(by rw [rs.length, List.length_map]; exact hn)) := List.getElem?_eq_getElem _
    obtain ⟨d, hd, rd⟩ := rs.get' hv
    rw [List.getElem?_map, hx] at hd
    cases hd
    obtain ⟨L1, le⟩ := L.write (es := (xs.take n.toNat ++ xs.drop (n.toNat + 1)).map enc) (ws := vs.take n.toNat ++ vs.drop (n.toNat + 1)) g hs (by
      rw [List.map_append, List.map_take, List.map_drop]
      exact (rs.take n.toNat).append (rs.drop (n.toNat + 1)))
    rw [show Γ.set i (.mu p (.lst ((xs.take n.toNat ++ xs.drop (n.toNat + 1)).map enc))) = G' (x, xs.take n.toNat ++ xs.drop (n.toNat + 1)) from e (x, xs.take n.toNat ++ xs.drop (n.toNat + 1))] at L1
    exact ⟨p, vs, n, _, rfl, rfl, hs, h0, hv, h _ _ _ hk L1 le (le _ _ rd)⟩
  · cases hq
theorem x_srtZ {ns : List Int} {v : V} (L : Lo C X H σ Γ) (r : Rep C.K X H (enc ns) v) (h : ∀ v H1, Lo C X H1 σ Γ → (∀ d u, Rep C.K X H d u → Rep C.K X H1 d u) → Rep C.K X H1 (enc (srtZ ns)) v → Q v H1) : rSortedI C.K [v] H Q := by
  obtain ⟨a, vs, rfl, _, hs, q⟩ := rep_lst (ds := ns.map enc) r
  have e : vs = ns.map V.int := Reps.toInts q
  subst e
  refine ⟨a, ns, rfl, .inl hs, fun ns' p hp hu hn => ?_⟩
  have e2 : ns' = srtZ ns := srt_uniq hu (srtZ_up ns) (hp.trans (srtZ_perm ns).symm)
  subst e2
  exact x_new L (Reps.ints (K := C.K)) h p hn
end
end Sc
/-! ### a pair of a new list of new ones and data, told; a list of new ones copied -/
namespace Sc
open PySem PySem.Spec PyProof.Rows L2
open Py (enc)
section
variable {C : Cn} {X : Addr → Prop} {H H' : Hp} {σ : L2.St} {Γ Γ' : List Sl} {Q : VK} {α β ρ : Type}
def NewTZ (K : PySem.W.Frag) (X : Addr → Prop) (H : Hp) (ds : List PyData) (d : PyData) (v : V) (H' : Hp) : Prop :=
  ∃ t p u, v = .ref t ∧ H' t = some (.tup [.ref p, u]) ∧ H p = none ∧ MRep K (fun a => X a ∨ a = p) H' p (.lstZ (fun a => H a = none) ds) ∧ Rep K (fun a => X a ∨ a = p) H' d u
theorem NewTZ.mk {i : Nat} {p t : Addr} {u : V} {ds : List PyData} {d : PyData} (L : Lo C X H σ Γ) (g : Γ[i]? = some (.mu p (.lstZ (fun a => C.H0 a = none) ds))) (h0 : C.H0 p = none) (hp : H t = some (.tup [.ref p, u])) (r : Rep C.K X H d u) : NewTZ C.K C.X0 C.H0 ds d (.ref t) H := by
  have hx : X p := L.mx p (mem_muts.mpr ⟨i, _, g, rfl⟩)
  have sub : ∀ a, C.X0 a ∨ a = p → X a := fun a h => h.elim (L.m0 a) fun e => e ▸ hx
  exact ⟨t, p, u, rfl, hp, h0, (L.mrep g).anti sub, r.anti sub⟩
theorem k0TZ {Z : Addr → Prop} {v : V} {ds : List PyData} {d : PyData} {ps : List (Addr × MO)} {tg : TGs} {N : L2.St → Hp → Prop} (hz : ∀ a, ¬ Z a → C.H0 a ≠ none) (L : Lo C X H σ Γ) (F : Fin C.K X H [] ps (.raw (NewTZ C.K X H ds d)) v H')
    (h : ∀ p u X', C.H0 p = none → ¬ C.X0 p → Lo C X' H' σ (Γ ++ [.tmp p (.lstZ Z ds)]) → (∀ d u, Rep C.K X H d u → Rep C.K X' H' d u) → Rep C.K X' H' d u → tg [.ref p, u] σ H' N) : gTup C.K 2 tg v σ H' N := by
  obtain ⟨t, p, u, rfl, ht, hn, ⟨vs, r0, r1⟩, r2⟩ := (show NewTZ C.K X H ds d v H' from F.res)
  have s : Same H H' := fun a o e => F.base a o e (by simp)
  have m : MRep C.K (fun a => X a ∨ a = p) H' p (.lstZ Z ds) := ⟨vs, r0, Reps.anti (fun a z => z.imp id fun z => z.imp (fun z y => L.dom a (hz a z) y) id) r1⟩
  obtain ⟨L1, le, h0, hx⟩ := L.lay hn s m
  exact ⟨t, _, rfl, .inl (.inl ht), rfl, h p u _ h0 hx L1 le r2⟩
theorem x_listZN [Py α] {Z : Addr → Prop} {xs : List α} {v : V} (hz : ∀ a, ¬ Z a → H a ≠ none) (L : Lo C X H σ Γ) (r : Rep C.K (NewX X Z H) H (enc xs) v) (h : ∀ p X' H1, C.H0 p = none → ¬ C.X0 p → Lo C X' H1 σ (Γ ++ [.tmp p (.lstZ Z (xs.map enc))]) → (∀ d u, Rep C.K X H d u → Rep C.K X' H1 d u) → Q (.ref p) H1) : rListX C.K [v] H Q := by
  obtain ⟨a, vs, rfl, _, hs, q⟩ := rep_lst (ds := xs.map enc) r
  refine ⟨a, vs, rfl, .inl (.inl hs), fun p hp => ?_⟩
  have s : Same H (upd H p (.lst vs)) := same_upd hp
  have m : MRep C.K (fun a => X a ∨ a = p) (upd H p (.lst vs)) p (.lstZ Z (xs.map enc)) := ⟨vs, upd_same, Reps.moreF hp (fun _ _ e => by cases e) q⟩
  obtain ⟨L1, le, h0, hx⟩ := L.lay hp s m
  exact h p _ _ h0 hx L1 le
theorem rep_tup3 {K : PySem.W.Frag} {a b c : PyData} {v : V} (r : Rep K X H (.tuple [a, b, c]) v) : ∃ p vs, v = .ref p ∧ H p = some (.tup vs) ∧ Reps K X H [a, b, c] vs := by
  cases r with
  | tup h q => exact ⟨_, _, rfl, h, q⟩
theorem Items.p3 [Py β] [Py ρ] {K : PySem.W.Frag} {Z : Addr → Prop} {v : V} {zs : List (T3 (List (T3 Int Int Int)) β ρ)} (r : Rep K (NewX X Z H) H (enc zs) v) : Items K Z 0 3 v X H := by
  have r : Rep K (NewX X Z H) H (.list (zs.map fun z => .tuple [enc z.a, enc z.b, enc z.c])) v := r
  obtain ⟨a, vs, rfl, na, za, ha, q⟩ := newx_lst r
  refine ⟨a, vs, rfl, .inl ha, fun y hy => ?_⟩
  obtain ⟨i, hi⟩ := List.getElem?_of_mem hy
  obtain ⟨d, hd, rd⟩ := q.get' hi
  rw [List.getElem?_map] at hd
  cases hz : zs[i]? with
  | none => rw [hz] at hd; cases hd
  | some z =>
    rw [hz] at hd
    cases hd
    obtain ⟨t, ws, rfl, ht, qw⟩ := rep_tup3 rd
    cases qw with
    | cons ru qw2 =>
      obtain ⟨b, us, rfl, nb, zb, hb, qb⟩ := newx_lst (ds := z.a.map enc) ru
      have hl := qw2.length
      refine ⟨t, _, b, us, rfl, .inl (.inl ht), by rw [List.length_cons, hl]; rfl, rfl, nb, zb, fun e => ?_, hb⟩
      subst e
      have e2 := hb.symm.trans ha
      cases e2
      obtain ⟨d1, h1, r1⟩ := qb.get' hi
      rw [List.getElem?_map] at h1
      cases hx : z.a[i]? with
      | none => rw [hx] at h1; cases h1
      | some x =>
        rw [hx] at h1
        cases h1
        have r1 : Rep K (NewX X Z H) H (.tuple [.int x.a, .int x.b, .int x.c]) (.ref t) := r1
        obtain ⟨t2, ws2, e3, ht2, q2⟩ := rep_tup3 r1
        cases e3
        rw [ht] at ht2
        cases ht2
        cases q2 with
        | cons r2 _ => cases r2
theorem Lo.putZ {Z : Addr → Prop} {b : Addr} {us ws : List V} (nx : ∀ s ∈ Γ, s.noX = true) (L : Lo C X H σ Γ) (h0 : C.H0 b = none) (nb : ¬ X b) (zb : Z b) (h : H b = some (.lst us)) (old : ∀ s ∈ Γ, OldS Z s) : Lo C X (upd H b (.lst ws)) σ Γ := by
  have k := keepAll (o := .lst ws) h
  have hd : ∀ a, H a ≠ none → upd H b (.lst ws) a ≠ none := fun a e => by
    by_cases z : a = b
    · rw [z, upd_same]; exact fun y => nomatch y
    · rw [upd_ne z]; exact e
  refine ⟨L.len, fun i s hi => ?_, L.nd, L.mx, L.m0, fun a z => hd a (L.xd a z), fun a u e n => ?_, fun a e => hd a (L.dom a e), L.own, L.tf⟩
  · have hs := L.at_ i s hi
    have ho := old s (List.mem_of_getElem? hi)
    have hx : ∀ p, s.ad = some p → p ≠ b := fun p e z => nb (z ▸ L.mx p (mem_muts.mpr ⟨i, s, hi, e⟩))
    cases s with
    | unk => trivial
    | ref a => exact hs
    | scr ns => exact ho.elim
    | imm d =>
      obtain ⟨u, e, r⟩ := hs
      exact ⟨u, e, ((ho _ _ _ _ r).keep (k.mono fun _ _ => trivial)).anti fun _ _ => trivial⟩
    | fixN Z' d =>
      obtain ⟨u, e, r⟩ := hs
      have r1 : Rep C.K (fun a => NewX X Z' H a ∨ a = b) H d u := r.unl fun a z y => ho a z (y ▸ zb)
      exact ⟨u, e, (r1.keep (k.mono fun _ z => .inr z)).anti fun a z => z.elim (fun z => .inl (.inl z)) fun z => z.elim (fun z => .inl (.inr (.inl z))) fun ⟨o, w, z⟩ => by
        by_cases y : a = b
        · exact .inr y
        · rw [upd_ne y] at z
          exact .inl (.inr (.inr ⟨o, w, z⟩))⟩
    | exv Z' R => exact nomatch nx _ (List.mem_of_getElem? hi)
    | lax i j => exact ho.elim
    | fix Z' d =>
      obtain ⟨u, e, r⟩ := hs
      exact ⟨u, e, r.keep (k.mono fun a z => .inr fun y => ho a y (z ▸ zb))⟩
    | mu p o =>
      obtain ⟨e, r⟩ := hs
      refine ⟨e, ?_⟩
      have hp : upd H b (.lst ws) p = H p := upd_ne (hx p rfl)
      cases o with
      | lst ds =>
        obtain ⟨vs, hv, r⟩ := r
        exact ⟨vs, hp.trans hv, ((ho _ _ _ _ r).keep (k.mono fun _ _ => trivial)).anti fun _ _ => trivial⟩
      | lstZ _ _ => exact ho.elim
      | dct _ => exact ho.elim
      | ex _ => exact ho.elim
      | any =>
        obtain ⟨vs, hv⟩ := r
        exact ⟨vs, hp.trans hv⟩
    | tmp p o => exact ho.elim
  · rw [upd_ne fun z => by rw [z, h0] at e; cases e]
    exact L.base a u e n

/-- the way to a list of a told value, of so many items at most -/
def PathN (K : PySem.W.Frag) (Z : Addr → Prop) (n : Nat) : List Nat → V → (Addr → Prop) → Hp → Prop
  | [], v, X, H => ∃ b us, v = .ref b ∧ ¬ X b ∧ Z b ∧ H b = some (.lst us) ∧ us.length ≤ n
  | k :: ks, v, X, H => ∃ t vs u, v = .ref t ∧ SqT K H t vs ∧ vs[k]? = some u ∧ PathN K Z n ks u X H
theorem PathN.keep {K : PySem.W.Frag} {Z : Addr → Prop} {n : Nat} (k : Keep X H H') : ∀ {ks : List Nat} {v : V}, PathN K Z n ks v X H → PathN K Z n ks v X H'
  | [], _, ⟨b, us, e, x, z, h, l⟩ => ⟨b, us, e, x, z, k.1 _ _ h x, l⟩
  | _ :: _, _, ⟨t, vs, u, e, h, g, r⟩ => ⟨t, vs, u, e, k.sqT h, g, PathN.keep k r⟩
theorem PathN.anti {K : PySem.W.Frag} {Z Y : Addr → Prop} {n : Nat} (h : ∀ a, Y a → X a) : ∀ {ks : List Nat} {v : V}, PathN K Z n ks v X H → PathN K Z n ks v Y H
  | [], _, ⟨b, us, e, x, z, g, l⟩ => ⟨b, us, e, fun y => x (h _ y), z, g, l⟩
  | _ :: _, _, ⟨t, vs, u, e, g, q, r⟩ => ⟨t, vs, u, e, g, q, PathN.anti h r⟩
theorem PathN.more {K : PySem.W.Frag} {Z : Addr → Prop} {q : Addr} {n : Nat} (h : H q = none) : ∀ {ks : List Nat} {v : V}, PathN K Z n ks v X H → PathN K Z n ks v (fun a => X a ∨ a = q) H
  | [], _, ⟨b, us, e, x, z, g, l⟩ => ⟨b, us, e, fun y => Or.elim y x fun y => (by rw [y, h] at g; cases g), z, g, l⟩
  | _ :: _, _, ⟨t, vs, u, e, g, k, r⟩ => ⟨t, vs, u, e, g, k, PathN.more h r⟩
theorem PathN.clr {K : PySem.W.Frag} {Z : Addr → Prop} {c : Addr} {ws : List V} {n : Nat} (hc : H c = some (.lst ws)) : ∀ {ks : List Nat} {v : V}, PathN K Z n ks v X H → PathN K Z n ks v X (upd H c (.lst []))
  | [], _, ⟨b, us, e, x, z, g, l⟩ => by
    by_cases y : b = c
    · exact ⟨b, [], e, x, z, by rw [y, upd_same], Nat.zero_le _⟩
    · exact ⟨b, us, e, x, z, by rw [upd_ne y]; exact g, l⟩
  | _ :: _, _, ⟨t, vs, u, e, g, k, r⟩ => ⟨t, vs, u, e, (keepAll hc).sqT g, k, PathN.clr hc r⟩
theorem PathN.rv {K : PySem.W.Frag} {Z Y : Addr → Prop} {n : Nat} {ks : List Nat} : RV Y (PathN K Z n ks) := ⟨fun k r => PathN.keep k r, fun h r => PathN.anti h r, fun h r => PathN.more h r, fun _ h r => PathN.clr h r⟩
theorem PathN.nil_of {K : PySem.W.Frag} {Z : Addr → Prop} {ds : List PyData} {v : V} {n : Nat} (r : Rep K (NewX X Z H) H (.list ds) v) (h : ds.length = n) : PathN K Z n [] v X H := by
  obtain ⟨b, us, e, h1, h2, h3, q⟩ := newx_lst r
  exact ⟨b, us, e, h1, h2, h3, by rw [q.length, h]; exact Nat.le_refl _⟩
theorem PathN.cons_of {K : PySem.W.Frag} {Z : Addr → Prop} {ds : List PyData} {d : PyData} {v : V} {k n : Nat} {ks : List Nat} (r : Rep K (NewX X Z H) H (.tuple ds) v) (e : ds[k]? = some d) (h : ∀ u, Rep K (NewX X Z H) H d u → PathN K Z n ks u X H) : PathN K Z n (k :: ks) v X H := by
  obtain ⟨a, vs, rfl, hs, q⟩ := rep_tup r
  obtain ⟨u, h1, h2⟩ := q.get e
  exact ⟨a, vs, u, rfl, hs, h1, h u h2⟩
theorem x_vpathN {Z : Addr → Prop} {i n : Nat} {R : V → (Addr → Prop) → Hp → Prop} {ks : List Nat} (L : Lo C X H σ Γ) {Y : Addr → Prop} (g : Γ[i]? = some (.exv Y R)) (hR : ∀ v, R v X H → PathN C.K Z n ks v X H) (h : ∀ v, PathN C.K Z n ks v X H → Q v H) : tVar i σ H Q := by
  obtain ⟨u, e, _, r⟩ := L.at_ i _ g
  exact ⟨u, e, h u (hR u r)⟩
theorem x_ixPN {Z : Addr → Prop} {k n : Nat} {ks : List Nat} {v : V} (p : PathN C.K Z n (k :: ks) v X H) (h : ∀ u, PathN C.K Z n ks u X H → Q u H) : rIxT C.K v (.int (k : Nat)) H Q := by
  obtain ⟨t, vs, u, rfl, hs, g, r⟩ := p
  refine ⟨t, vs, (k : Nat), u, rfl, rfl, hs, ?_, h u r⟩
  obtain ⟨hlt, g2⟩ := List.getElem?_eq_some_iff.mp g
  show (ixN vs.length (k : Nat)).bind _ = _
  unfold ixN
  rw [if_pos (by omega)]
  simp [hlt, g2]
/-- a list of a told value gets an item more: ([], False, (0, 0, 1)) -/
theorem x_appP {Z : Addr → Prop} {v : V} {n : Nat} {t : TA} {k : Unit → Option ρ} {r : ρ} (L : Lo C X H σ Γ) (hm : (lenOk (n + 1)).bind k = some r) (hZ : ∀ a, Z a → C.H0 a = none) (p : PathN C.K Z n [] v X H) (old : ∀ s ∈ Γ, OldS Z s) (nx : Γ.all Sl.noX = true)
    (ht : ∀ R : List V → Hp → Prop, (∀ w H2, Same H H2 → R [w] H2) → t σ H R) (h : ∀ H', k () = some r → Lo C X H' σ Γ → Q .non H') : tyV C.K "list" v H ∧ t σ H fun xs H2 => rAppend v xs H2 Q := by
  obtain ⟨b, us, rfl, nb, zb, hb, hl⟩ := p
  obtain ⟨hl2, hk⟩ := len_ok hm
  refine ⟨.inl ⟨rfl, us, .inl (.inl hb)⟩, ht _ fun w H2 s => ⟨b, us, w, rfl, rfl, s _ _ hb, by rw [line_eq]; omega, h _ hk ?_⟩⟩
  exact (L.same s).putZ (fun s hs => List.all_eq_true.mp nx s hs) (hZ b zb) nb zb (s _ _ hb) old
theorem same_new {p : Addr} {o : HO} {H0 : Hp} (s : Same H0 H) (h : H p = none) : Same H0 (upd H p o) := fun a u e => same_upd h a u (s a u e)
/-- the piece of nothing, made -/
theorem x_piece0 {t3 : TA} {σ : L2.St} (h3 : ∀ (H : Hp) (R : List V → Hp → Prop), R [.int 0, .int 0, .int 1] H → t3 σ H R) {tF : TE} (hF : ∀ (H : Hp) (Q : VK), Q (.bl false) H → tF σ H Q) : ∀ R : List V → Hp → Prop, (∀ w H2, Same H H2 → R [w] H2) → (tCons (tTup (tCons (tLst tNil) (tCons tF (tCons (tTup t3) tNil)))) tNil) σ H R := fun R h =>
  x_cons (x_tup (x_cons (x_lst (x_nil ⟨by rw [line_eq]; exact Nat.zero_le _, fun p hp => x_cons (hF _ _ (x_cons (x_tup (h3 _ _ ⟨by rw [line_eq]; show (3 : Nat) ≤ 16777216; decide, fun q hq => x_nil ⟨by rw [line_eq]; show (3 : Nat) ≤ 16777216; decide, fun s hs => x_nil (h _ _ (same_new (same_new (same_new (fun _ _ e => e) hp) hq) hs))⟩⟩)))) ⟩))))
/-- the constant triple (0, 0, 1) of the text -/
def KR (K : PySem.W.Frag) : V → (Addr → Prop) → Hp → Prop := fun v _ _ => ∃ a, v = .ref a ∧ ∀ H' : Hp, SqT K H' a [.int 0, .int 0, .int 1]
theorem KR.rv {K : PySem.W.Frag} {Y : Addr → Prop} : RV Y (KR K) := ⟨fun _ r => r, fun _ r => r, fun _ r => r, fun _ _ r => r⟩
theorem As.kr {K : PySem.W.Frag} {a : Addr} {vs : List V} (h : ∀ H' : Hp, SqT K H' a [.int 0, .int 0, .int 1]) (t : As K X H Γ vs) : As K X H (.exv (fun _ => True) (KR K) :: Γ) (.ref a :: vs) := ⟨_, vs, rfl, ⟨_, rfl, KR.rv, a, rfl, h⟩, t⟩
theorem x_vkr {i : Nat} (L : Lo C X H σ Γ) (g : Γ[i]? = some (.exv (fun _ => True) (KR C.K))) (h : ∀ a, (∀ H' : Hp, SqT C.K H' a [.int 0, .int 0, .int 1]) → Q (.ref a) H) : tVar i σ H Q := by
  obtain ⟨u, e, _, a, rfl, r⟩ := L.at_ i _ g
  exact ⟨_, e, h a r⟩
theorem x_ixKR {K : PySem.W.Frag} {a : Addr} {k n : Int} (s : ∀ H' : Hp, SqT K H' a [.int 0, .int 0, .int 1]) (e : atI [V.int 0, V.int 0, V.int 1] k = some (.int n)) (h : Q (.int n) H) : rIxT K (.ref a) (.int k) H Q := ⟨a, _, k, _, rfl, rfl, s H, e, h⟩
end
open Py (enc)
instance {α β : Type} [Py α] [Py β] : Py (Sum α β) := ⟨fun x => match x with | .inl a => enc a | .inr b => enc b⟩
instance decLn : DecidableEq (List (T2 (T2 Int Int) (List (T3 (List (T3 Int Int Int)) Bool (T3 Int Int Int))))) := instDecidableEqList
theorem Keep.le {K : PySem.W.Frag} {X : Addr → Prop} {H H' : Hp} (k : Keep X H H') (d : PyData) (u : V) (r : Rep K X H d u) : Rep K X H' d u := r.keep k
def catU {α β : Type} (xs : List α) (ys : List β) : List (Sum α β) := xs.map Sum.inl ++ ys.map Sum.inr
theorem catU_enc {α β : Type} [Py α] [Py β] (xs : List α) (ys : List β) : (catU xs ys).map enc = xs.map enc ++ ys.map enc := by
  unfold catU
  rw [List.map_append, List.map_map, List.map_map]
  rfl
def lastU {α β γ δ : Type} : Sum (T2 α γ) (T3 β δ γ) → γ
  | .inl a => a.b
  | .inr b => b.c
section
variable {C : Cn} {X : Addr → Prop} {H H' : Hp} {σ : L2.St} {Γ Γ' : List Sl} {Q : VK} {α β γ δ τ ρ : Type}
theorem x_ixU [Py α] [Py β] [Py γ] [Py δ] {K : PySem.W.Frag} {Y : Addr → Prop} {x : Sum (T2 α γ) (T3 β δ γ)} {v : V} (r : Rep K Y H (enc x) v) (h : ∀ u, Rep K Y H (enc (lastU x)) u → Q u H) : rIxT K v (.int (-1)) H Q := by
  cases x with
  | inl a => exact x_ixT (C := ⟨K, Y, H, [], 0⟩) (ds := [enc a.a, enc a.b]) r rfl h
  | inr b => exact x_ixT (C := ⟨K, Y, H, [], 0⟩) (ds := [enc b.a, enc b.b, enc b.c]) r rfl h
theorem x_catU [Py α] [Py β] {xs : List α} {ys : List β} {u v : V} {k : Unit → Option ρ} {r : ρ} (L : Lo C X H σ Γ) (hm : (lenOk (xs.length + ys.length)).bind k = some r) (p : Rep C.K X H (enc xs) u) (q : Rep C.K X H (enc ys) v)
    (h : ∀ v H1, k () = some r → Lo C X H1 σ Γ → (∀ d u, Rep C.K X H d u → Rep C.K X H1 d u) → Rep C.K X H1 (enc (catU xs ys)) v → Q v H1) : rCatR u v H Q := by
  obtain ⟨hl, hk⟩ := len_ok hm
  obtain ⟨a, vs, rfl, _, hs, q1⟩ := rep_lst (ds := xs.map enc) p
  obtain ⟨b, ws, rfl, _, ht, q2⟩ := rep_lst (ds := ys.map enc) q
  have q3 : Reps C.K X H ((catU xs ys).map enc) (vs ++ ws) := by rw [catU_enc]; exact q1.append q2
  refine ⟨a, b, vs, ws, rfl, rfl, hs, ht, by rw [line_eq, q1.length, q2.length, List.length_map, List.length_map]; exact hl, fun p hp => ?_⟩
  have s : Same H (upd H p (.lst (vs ++ ws))) := same_upd hp
  exact h _ _ hk (L.same s) (fun _ _ r => r.keep (.same s)) (.lst (fun z => L.xd p z hp) (.inl upd_same) (q3.keep (.same s)))
theorem Rep.zup {K : PySem.W.Frag} {Z Z' : Addr → Prop} {d : PyData} {v : V} (h : ∀ a, Z a → Z' a) (r : Rep K (NewX X Z H) H d v) : Rep K (NewX X Z' H) H d v := r.anti fun a z => z.imp id fun z => z.imp (fun n y => n (h a y)) id
theorem x_catUZ [Py α] [Py β] {Z : Addr → Prop} {xs : List α} {ys : List β} {u v : V} {k : Unit → Option ρ} {r : ρ} (hz : ∀ a, ¬ Z a → H a ≠ none) (L : Lo C X H σ Γ) (hm : (lenOk (xs.length + ys.length)).bind k = some r) (p : Rep C.K (NewX X Z H) H (enc xs) u) (q : Rep C.K (NewX X Z H) H (enc ys) v)
    (h : ∀ v H1, k () = some r → Same H H1 → Lo C X H1 σ Γ → (∀ d u, Rep C.K X H d u → Rep C.K X H1 d u) → (∀ a, ¬ Z a → H1 a ≠ none) → Rep C.K (NewX X Z H1) H1 (enc (catU xs ys)) v → Q v H1) : rCatR u v H Q := by
  obtain ⟨hl, hk⟩ := len_ok hm
  obtain ⟨a, vs, rfl, _, hs, q1⟩ := rep_lst (ds := xs.map enc) p
  obtain ⟨b, ws, rfl, _, ht, q2⟩ := rep_lst (ds := ys.map enc) q
  have q3 : Reps C.K (NewX X Z H) H ((catU xs ys).map enc) (vs ++ ws) := by rw [catU_enc]; exact q1.append q2
  exact ⟨a, b, vs, ws, rfl, rfl, hs, ht, by rw [line_eq, q1.length, q2.length, List.length_map, List.length_map]; exact hl, x_newZ hz L q3 fun v H1 s L1 le r => h v H1 hk s L1 le (fun a n e => by
    cases e2 : H a with
    | none => exact hz a n e2
    | some o => rw [s a o e2] at e; cases e) r⟩
/-- new ones lent -/
theorem As.fz {K : PySem.W.Frag} {Z : Addr → Prop} {d : PyData} {v : V} {Γ : List Sl} {vs : List V} (r : Rep K (NewX X Z H) H d v) (t : As K X H Γ vs) : As K X H (.fixN Z d :: Γ) (v :: vs) := ⟨v, vs, rfl, ⟨v, rfl, r⟩, t⟩
/-- .. a call that tells new ones, all of Z -/
theorem k0Z {v : V} {d : PyData} {Z : Addr → Prop} {ps : List (Addr × MO)} {G : Prop} (L : Lo C X H σ Γ) (F : Fin C.K X H [] ps (.immN Z d) v H') (h : Lo C X H' σ Γ → (∀ d u, Rep C.K X H d u → Rep C.K X H' d u) → Rep C.K (NewX X Z H') H' d v → G) : G := h (L.after0 F).1 (L.after0 F).2 F.res
theorem k0NZ2 {Z : Addr → Prop} {p : Addr} {H' : Hp} {ds : List PyData} {ps : List (Addr × MO)} {P : Prop} (hz : ∀ a, ¬ Z a → C.H0 a ≠ none) (L : Lo C X H σ Γ) (F : Fin C.K X H [] ps (.new (.lstZ (fun a => H a = none) ds)) (.ref p) H') (h : ∀ X', C.H0 p = none → ¬ C.X0 p → Lo C X' H' σ (Γ ++ [.tmp p (.lstZ Z ds)]) → (∀ d u, Rep C.K X H d u → Rep C.K X' H' d u) → P) : P := by
  refine k0N L (o := .lstZ Z ds) ⟨F.base, F.dom, F.mu, ?_⟩ h
  obtain ⟨q, e, hn, vs, r0, r1⟩ := F.res
  exact ⟨q, e, hn, vs, r0, Reps.anti (fun a z => z.imp id fun z => z.imp (fun z y => L.dom a (hz a z) y) id) r1⟩
theorem Lo.cond2 (L : Lo C X H σ Γ) {Γa : List Sl} {vs : List V} {i j : Nat} {o1 o2 : MO} {p q : Addr} (as : As C.K X H Γa vs) (e : muts Γa = [p, q]) (g1 : Γ[i]? = some (.mu p o1)) (g2 : Γ[j]? = some (.mu q o2)) (ij : i ≠ j) : Cond C.K X H Γa vs := L.cond as (by
  rw [e]
  have n : p ≠ q := fun z => ij (ad_unique L.nd g1 g2 rfl (by rw [z]; rfl))
  simp [n]) (by
  rw [e]; intro x h
  simp only [List.mem_cons, List.not_mem_nil, or_false] at h
  rcases h with rfl | rfl
  · exact mem_muts.mpr ⟨i, _, g1, rfl⟩
  · exact mem_muts.mpr ⟨j, _, g2, rfl⟩)
theorem hp2 {K : PySem.W.Frag} {p q : Addr} {o1 o2 : MO} (h : MRep K X H p o1) (h2 : MRep K X H q o2) : ∀ z ∈ [(p, o1), (q, o2)], MRep K X H z.1 z.2 := fun z hz => by
  simp only [List.mem_cons, List.not_mem_nil, or_false] at hz
  rcases hz with rfl | rfl
  · exact h
  · exact h2
theorem Lo.keep2 {v : V} {rs : Rs} {p q : Addr} {o1 o2 : MO} {ps : List (Addr × MO)} (L : Lo C X H σ Γ) {P0 : List Addr} (F : Fin C.K X H P0 ps rs v H') (h : ∀ a ∈ P0, a ∈ muts Γ) : Keep X H H' := by
  have nt : ∀ a ∈ P0, (∀ vs, H a ≠ some (.tup vs)) ∧ (∀ u w, H a ≠ some (.frz u w)) := fun a ha => by
    obtain ⟨o, r⟩ := L.mem (h a ha)
    exact r.ntup
  exact ⟨fun a u hu n => F.base a u hu fun z => n (L.mx a (h a z)), fun a vs hu => F.base a _ hu fun z => (nt a z).1 _ hu, fun a u w hu => F.base a _ hu fun z => (nt a z).2 _ _ hu⟩
theorem muts_mu {p : Addr} {o o' : MO} {i : Nat} (g : Γ[i]? = some (.mu p o)) : muts (Γ.set i (.mu p o')) = muts Γ := muts_to (o := o') g
theorem k1Z {v : V} {d : PyData} {Z : Addr → Prop} {p : Addr} {o o' : MO} {G : Prop} (L : Lo C X H σ Γ) (F : Fin C.K X H [p] [(p, o')] (.immN Z d) v H') {i : Nat} (g : Γ[i]? = some (.mu p o)) (e : Γ.set i (.mu p o') = Γ') (h : Lo C X H' σ Γ' → Keep X H H' → Rep C.K (NewX X Z H') H' d v → G) : G := by
  subst e
  exact h (L.after1 F g rfl).1 (L.keep2 (p := p) (q := p) (o1 := o) (o2 := o) F fun a ha => by
    rw [List.mem_singleton] at ha
    subst ha
    exact mem_muts.mpr ⟨i, _, g, rfl⟩) F.res
theorem k2Z {v : V} {d : PyData} {Z : Addr → Prop} {p q : Addr} {o1 o2 o1' o2' : MO} {G : Prop} (L : Lo C X H σ Γ) (F : Fin C.K X H [p, q] [(p, o1'), (q, o2')] (.immN Z d) v H') {i j : Nat} (g1 : Γ[i]? = some (.mu p o1)) (g2 : Γ[j]? = some (.mu q o2)) (ij : i ≠ j) (e : (Γ.set i (.mu p o1')).set j (.mu q o2') = Γ') (h : Lo C X H' σ Γ' → Keep X H H' → Rep C.K (NewX X Z H') H' d v → G) : G := by
  subst e
  have hp : p ∈ muts Γ := mem_muts.mpr ⟨i, _, g1, rfl⟩
  have hq : q ∈ muts Γ := mem_muts.mpr ⟨j, _, g2, rfl⟩
  have kp : Keep X H H' := L.keep2 (p := p) (q := q) (o1 := o1) (o2 := o2) F fun a ha => by
    simp only [List.mem_cons, List.not_mem_nil, or_false] at ha
    rcases ha with rfl | rfl
    · exact hp
    · exact hq
  have il : i < Γ.length := (List.getElem?_eq_some_iff.mp g1).1
  have jl : j < Γ.length := (List.getElem?_eq_some_iff.mp g2).1
  have g2' : (Γ.set i (.mu p o1'))[j]? = some (.mu q o2) := by rw [List.getElem?_set_ne ij]; exact g2
  have em : muts ((Γ.set i (.mu p o1')).set j (.mu q o2')) = muts Γ := (muts_mu g2').trans (muts_mu g1)
  refine h ⟨L.len, fun k t hk => ?_, by rw [em]; exact L.nd, fun a ha => L.mx a (em ▸ ha), L.m0, fun a ha => F.dom a (L.xd a ha), fun a u hu n => ?_, fun a ha => F.dom a (L.dom a ha), fun a ha => L.own a (em ▸ ha), L.tf⟩ kp F.res
  · by_cases kj : j = k
    · subst kj
      rw [List.getElem?_set_self (by rw [List.length_set]; exact jl)] at hk
      cases hk
      exact ⟨(L.at_ j _ g2).1, F.mu (q, o2') (by simp)⟩
    · rw [List.getElem?_set_ne kj] at hk
      by_cases ki : i = k
      · subst ki
        rw [List.getElem?_set_self il] at hk
        cases hk
        exact ⟨(L.at_ i _ g1).1, F.mu (p, o1') (by simp)⟩
      · rw [List.getElem?_set_ne ki] at hk
        refine (L.at_ k t hk).keep kp fun a ea => ?_
        obtain ⟨o, r⟩ := (L.at_ k t hk).mrep ea
        have nn := r.nn
        cases hu : H a with
        | none => exact (nn hu).elim
        | some u =>
          refine F.base a u hu fun z => ?_
          simp only [List.mem_cons, List.not_mem_nil, or_false] at z
          rcases z with rfl | rfl
          · exact ki (ad_unique L.nd g1 hk rfl ea)
          · exact kj (ad_unique L.nd g2 hk rfl ea)
  · have hu' := L.base a u hu n
    refine F.base a u hu' fun z => ?_
    have nw := L.nown hu n
    simp only [List.mem_cons, List.not_mem_nil, or_false] at z
    rcases z with rfl | rfl
    · exact nw hp
    · exact nw hq
theorem Lo.writeK {Z : Addr → Prop} (L : Lo C X H σ Γ) {i : Nat} {p : Addr} {ds es : List PyData} {vs ws : List V} (g : Γ[i]? = some (.mu p (.lstZ Z ds))) (hs : H p = some (.lst vs)) (q : Reps C.K (NewX X Z H) H es ws) :
    Lo C X (upd H p (.lst ws)) σ (Γ.set i (.mu p (.lstZ Z es))) ∧ Keep X H (upd H p (.lst ws)) := by
  have hX : X p := L.mx p (mem_muts.mpr ⟨i, _, g, rfl⟩)
  exact ⟨(L.writeZ g hs q).1, ⟨fun a u h n => by rw [upd_ne (fun z => n (by rw [z]; exact hX))]; exact h, fun a us h => by rw [upd_ne (fun z => by rw [z, hs] at h; cases h)]; exact h, fun a u w h => by rw [upd_ne (fun z => by rw [z, hs] at h; cases h)]; exact h⟩⟩
theorem x_popZ [Py α] {Z : Addr → Prop} {xs : List α} {n : Int} {i : Nat} {p : Addr} {k : α × List α → Option ρ} {r : ρ} {G' : α × List α → List Sl} (L : Lo C X H σ Γ) (g : Γ[i]? = some (.mu p (.lstZ Z (xs.map enc)))) (hm : (popO xs n).bind k = some r) (e : ∀ q, Γ.set i (.mu p (.lstZ Z (q.2.map enc))) = G' q)
    (h : ∀ q v H1, k q = some r → Lo C X H1 σ (G' q) → Keep X H H1 → Rep C.K (NewX X Z H1) H1 (enc q.1) v → Q v H1) : rPopR (.ref p) [.int n] H Q := by
  obtain ⟨q, hq, hk⟩ := ob hm
  unfold popO at hq
  split at hq
  · next h0 =>
    obtain ⟨x, hx, rfl⟩ := Option.map_eq_some_iff.mp hq
    obtain ⟨vs, hs, rs⟩ := L.mrep g
    have hn := (List.getElem?_eq_some_iff.mp hx).1
    have hv : vs[n.toNat]? = some (vs[n.toNat]'(by rw [rs.length, List.length_map]; exact hn)) := List.getElem?_eq_getElem _
    obtain ⟨d, hd, rd⟩ := rs.get' hv
    rw [List.getElem?_map, hx] at hd
    cases hd
    obtain ⟨L1, kp⟩ := L.writeK (es := (xs.take n.toNat ++ xs.drop (n.toNat + 1)).map enc) (ws := vs.take n.toNat ++ vs.drop (n.toNat + 1)) g hs (by
      rw [List.map_append, List.map_take, List.map_drop]
      exact (rs.take n.toNat).append (rs.drop (n.toNat + 1)))
    rw [show Γ.set i (.mu p (.lstZ Z ((xs.take n.toNat ++ xs.drop (n.toNat + 1)).map enc))) = G' (x, xs.take n.toNat ++ xs.drop (n.toNat + 1)) from e (x, xs.take n.toNat ++ xs.drop (n.toNat + 1))] at L1
    exact ⟨p, vs, n, _, rfl, rfl, hs, h0, hv, h _ _ _ hk L1 kp (rd.keepF kp)⟩
  · cases hq
theorem x_insertZ [Py α] {Z : Addr → Prop} {G' : List α → List Sl} {xs : List α} {x : α} {n : Int} {v : V} {i : Nat} {p : Addr} {k : List α → Option ρ} {r : ρ} (L : Lo C X H σ Γ) (g : Γ[i]? = some (.mu p (.lstZ Z (xs.map enc)))) (hm : (insO xs n x).bind k = some r) (q : Rep C.K (NewX X Z H) H (enc x) v) (e : ∀ ys, Γ.set i (.mu p (.lstZ Z (ys.map enc))) = G' ys)
    (h : ∀ ys H1, k ys = some r → Lo C X H1 σ (G' ys) → Keep X H H1 → Q .non H1) : rInsert (.ref p) [.int n, v] H Q := by
  obtain ⟨zs, h1, hk⟩ := ob hm
  unfold insO at h1
  split at h1
  next hc =>
    cases h1
    obtain ⟨vs, hs, rs⟩ := L.mrep g
    have hlen : vs.length = xs.length := by rw [rs.length, List.length_map]
    obtain ⟨L1, kp⟩ := L.writeK (es := (xs.take n.toNat ++ [x] ++ xs.drop n.toNat).map enc) (ws := vs.take n.toNat ++ [v] ++ vs.drop n.toNat) g hs (by
      rw [List.map_append, List.map_append, List.map_take, List.map_drop]
      exact ((rs.take n.toNat).append (.cons q .nil)).append (rs.drop n.toNat))
    rw [show Γ.set i (.mu p (.lstZ Z ((xs.take n.toNat ++ [x] ++ xs.drop n.toNat).map enc))) = G' _ from e _] at L1
    exact ⟨p, vs, n, v, rfl, rfl, hs, by rw [line_eq]; omega, hc.1, by omega, h _ _ hk L1 kp⟩
  · cases h1
end
end Sc
namespace Sc
open PySem PySem.Spec PyProof.Rows L2
open Py (enc)
section
variable {C : Cn} {X : Addr → Prop} {H H' : Hp} {σ : L2.St} {Γ Γ' : List Sl} {Q : VK} {α β γ δ τ ρ : Type}
/-! ### a loop over new ones -/
def BodyOZ (Z : Addr → Prop) (C : Cn) (X : Addr → Prop) (G : τ → List Sl) (d : PyData) (s : τ) (o : Option τ) (g : TG) (tb : TS) : Prop :=
  ∀ (H : Hp) (σ : L2.St) (u : V) (nx : L2.St → Hp → Prop) (rt : VK) (bk ct : L2.St → Hp → Prop) (s1 : τ), o = some s1 → Lo ⟨C.K, X, H, muts (G s), C.n⟩ X H σ (G s) → (∀ a, C.H0 a ≠ none → H a ≠ none) → Rep C.K (NewX X Z H) H d u →
    (∀ X' σ' H', Lo ⟨C.K, X, H, muts (G s), C.n⟩ X' H' σ' (G s1) → nx σ' H') →
    (∀ X' σ' H', Lo ⟨C.K, X, H, muts (G s), C.n⟩ X' H' σ' (G s1) → ct σ' H') → g u σ H fun σ2 H2 => tb ⟨nx, rt, bk, ct⟩ σ2 H2
theorem x_foLz [Py α] {Z : Addr → Prop} {xs : List α} {f : α → τ → Option τ} {G : τ → List Sl} {s0 : τ} {v : V} {g : TG} {tb : TS} {nx bk ct : L2.St → Hp → Prop} {rt : VK} {k : τ → Option ρ} {res : ρ}
    (L : Lo C X H σ (G s0)) (hG : ∀ s s', muts (G s) = muts (G s')) (r : Rep C.K (NewX X Z H) H (enc xs) v) (hm : (foldO f xs s0).bind k = some res)
    (body : ∀ x s, BodyOZ Z C X G (enc x) s (f x s) g tb) (done : ∀ s σ' H', k s = some res → Lo C X H' σ' (G s) → nx σ' H') : KForL C.K g tb ⟨nx, rt, bk, ct⟩ σ v H := by
  obtain ⟨o, h1, h2⟩ := ob hm
  have hm := foldO_loop h1
  obtain ⟨a, vs, rfl, hna0, hrd, hrs⟩ := rep_lst (ds := xs.map enc) r
  have hna : ¬ X a := fun z => hna0 (.inl z)
  refine ⟨a, rfl, ⟨vs, .inl hrd⟩, for_list (K := C.K) (a := a) (xs := vs) (fun i σ' H' => ∃ s, Lo C X H' σ' (G s) ∧ Reps C.K (NewX X Z H') H' (xs.map enc) vs ∧ Rd H' a (.lst vs) ∧ loopL (ρ := Empty) (fun x s => (f x s).bind fun s => some (.nxt s)) (xs.drop i) s = some (.nxt o))
    ⟨s0, L, hrs, hrd, hm⟩ (fun i σ' H' _ ⟨s, _, _, h, _⟩ => .inl h) ?_ ?_⟩
  · rintro i y σ' H' hy ⟨s, L', hrs', hrd', hm'⟩
    obtain ⟨d, hd, rd⟩ := hrs'.get' hy
    rw [List.getElem?_map] at hd
    cases hx : xs[i]? with
    | none => rw [hx] at hd; cases hd
    | some x =>
      rw [hx] at hd
      cases hd
      obtain ⟨o1, g1, g2, g3, g4⟩ := loop_drop hx hm'
      obtain ⟨s1, e1, e2⟩ := ob g1
      cases e2
      refine body x s H' σ' y _ _ _ _ s1 e1 L'.enter L'.dom rd ?_ ?_
      · intro X' σ'' H'' L''
        have k := L'.keep L''
        exact ⟨s1, L'.leave L'' (hG _ _), hrs'.keepF k, k.rd hna hrd', g2 s1 rfl⟩
      · intro X' σ'' H'' L''
        have k := L'.keep L''
        exact ⟨s1, L'.leave L'' (hG _ _), hrs'.keepF k, k.rd hna hrd', g2 s1 rfl⟩
  · rintro σ' H' ⟨s, L', _, _, hm'⟩
    rw [hrs.length, List.length_map, List.drop_length] at hm'
    cases hm'
    exact done _ _ _ h2 L'
end
end Sc
namespace Sc
open PySem PySem.Spec PyProof.Rows L2
open Py (enc)
section
variable {C : Cn} {X : Addr → Prop} {H H' : Hp} {σ : L2.St} {Γ Γ' : List Sl} {Q : VK} {α β γ δ τ ρ : Type}
/-! ### a loop that makes its list anew -/
theorem Lo.leaveX {X' : Addr → Prop} {σ' : L2.St} (L : Lo C X H σ Γ) (M : Lo (C.at_ X H Γ) X' H' σ' Γ') : Lo C X' H' σ' Γ' :=
  ⟨M.len, M.at_, M.nd, M.mx, fun a h => M.m0 a (L.m0 a h), M.xd, fun a o e n => M.base a o (L.base a o e n) (L.nown e n), fun a h => M.dom a (L.dom a h), fun p hp => by
    rcases M.own p hp with z | z
    · exact L.own p z
    · refine .inr ?_
      cases e : C.H0 p with
      | none => rfl
      | some o => exact (L.dom p (by rw [e]; exact fun z => nomatch z) z).elim, L.tf⟩
def BodyOg (C : Cn) (G : τ → Addr → List Sl) (d : PyData) (s : τ) (o : Option τ) (g : TG) (tb : TS) : Prop :=
  ∀ (X : Addr → Prop) (H : Hp) (σ : L2.St) (u : V) (nx : L2.St → Hp → Prop) (rt : VK) (bk ct : L2.St → Hp → Prop) (s1 : τ) (p : Addr), o = some s1 → Lo ⟨C.K, X, H, muts (G s p), C.n⟩ X H σ (G s p) → (∀ a, C.H0 a ≠ none → H a ≠ none) → Rep C.K X H d u →
    (∀ p', H p' = none → ¬ X p' → ∀ X' σ' H', Lo ⟨C.K, X, H, muts (G s p), C.n⟩ X' H' σ' (G s1 p') → nx σ' H') →
    (∀ p', H p' = none → ¬ X p' → ∀ X' σ' H', Lo ⟨C.K, X, H, muts (G s p), C.n⟩ X' H' σ' (G s1 p') → ct σ' H') → g u σ H fun σ2 H2 => tb ⟨nx, rt, bk, ct⟩ σ2 H2
theorem fold_drop {f : α → τ → Option τ} {xs : List α} {i : Nat} {x : α} {s r : τ} (hx : xs[i]? = some x) (h : foldO f (xs.drop i) s = some r) : ∃ s1, f x s = some s1 ∧ foldO f (xs.drop (i + 1)) s1 = some r := by
  have hl := (List.getElem?_eq_some_iff.mp hx)
  rw [List.drop_eq_getElem_cons hl.1, hl.2] at h
  obtain ⟨s1, h1, h2⟩ := ob h
  exact ⟨s1, h1, h2⟩
theorem x_foRg {f : Int → τ → Option τ} {G : τ → Addr → List Sl} {s0 : τ} {p0 : Addr} {lo : Int} {n : Nat} {g : TG} {tb : TS} {nx bk ct : L2.St → Hp → Prop} {rt : VK} {k : τ → Option ρ} {res : ρ}
    (L : Lo C X H σ (G s0 p0)) (h0 : C.H0 p0 = none) (hx : ¬ C.X0 p0) (hm : (foldO f (rangeL lo n) s0).bind k = some res)
    (body : ∀ x s, BodyOg C G (enc x) s (f x s) g tb) (done : ∀ s p X' σ' H', C.H0 p = none → ¬ C.X0 p → k s = some res → Lo C X' H' σ' (G s p) → nx σ' H') : KForR lo n g tb ⟨nx, rt, bk, ct⟩ σ H := by
  obtain ⟨r, h1, h2⟩ := ob hm
  refine for_range (fun i σ' H' => ∃ s p X', Lo C X' H' σ' (G s p) ∧ C.H0 p = none ∧ ¬ C.X0 p ∧ foldO f ((rangeL lo n).drop i) s = some r) ⟨s0, p0, X, L, h0, hx, h1⟩ ?_ ?_
  · rintro i σ' H' hi ⟨s, p, X', L', p0, px, hm'⟩
    obtain ⟨s1, e1, e2⟩ := fold_drop (rangeL_get hi) hm'
    have fr : ∀ a, H' a = none → C.H0 a = none := fun a z => by
      cases e : C.H0 a with
      | none => rfl
      | some o => exact (L'.dom a (by rw [e]; exact fun z => nomatch z) z).elim
    refine body (lo + (i : Int)) s X' H' σ' _ _ _ _ _ s1 p e1 L'.enter L'.dom (.int _) ?_ ?_
    · intro p' z1 z2 X'' σ'' H'' L''
      exact ⟨s1, p', X'', L'.leaveX L'', fr p' z1, fun z => z2 (L'.m0 p' z), e2⟩
    · intro p' z1 z2 X'' σ'' H'' L''
      exact ⟨s1, p', X'', L'.leaveX L'', fr p' z1, fun z => z2 (L'.m0 p' z), e2⟩
  · rintro σ' H' ⟨s, p, X', L', p0, px, hm'⟩
    have hl : (rangeL lo n).length = n := by unfold rangeL; rw [List.length_map, List.length_range]
    have : (rangeL lo n).drop n = [] := List.drop_eq_nil_of_le (by omega)
    rw [this] at hm'
    cases hm'
    exact done _ _ _ _ _ p0 px h2 L'
/-- a sum with the body's own list -/
theorem x_catM [Py α] {xs ys : List α} {u : V} {q : Addr} {i : Nat} {k : Unit → Option ρ} {r : ρ} (L : Lo C X H σ Γ) (g : Γ[i]? = some (.mu q (ml ys))) (hm : (lenOk (xs.length + ys.length)).bind k = some r) (p : Rep C.K X H (enc xs) u)
    (h : ∀ v H1, k () = some r → Lo C X H1 σ Γ → (∀ d u, Rep C.K X H d u → Rep C.K X H1 d u) → Rep C.K X H1 (enc (xs ++ ys)) v → Q v H1) : rCatR u (.ref q) H Q := by
  obtain ⟨hl, hk⟩ := len_ok hm
  obtain ⟨a, vs, rfl, _, hs, q1⟩ := rep_lst (ds := xs.map enc) p
  obtain ⟨ws, ht, q2⟩ := L.mrep g
  have q3 : Reps C.K X H ((xs ++ ys).map enc) (vs ++ ws) := by rw [List.map_append]; exact q1.append q2
  refine ⟨a, q, vs, ws, rfl, rfl, hs, .inl ht, by rw [line_eq, q1.length, q2.length, List.length_map, List.length_map]; exact hl, fun p hp => ?_⟩
  have s : Same H (upd H p (.lst (vs ++ ws))) := same_upd hp
  exact h _ _ hk (L.same s) (fun _ _ r => r.keep (.same s)) (.lst (fun z => L.xd p z hp) (.inl upd_same) (q3.keep (.same s)))
end
end Sc
namespace Sc
open PySem PySem.Spec PyProof.Rows L2
open Py (enc)
/-! ### a text that equality reads -/
def strG (s : Str) : Option Unit := if PyData.canLay0 (.str s) = true then some () else none
theorem eqv_str (x y : Str) : PyData.eqv (.str x) (.str y) = decide (x = y) := by
  unfold PyData.eqv
  by_cases z : x = y <;> simp [z]
section
variable {C : Cn} {X : Addr → Prop} {H H' : Hp} {σ : L2.St} {Γ Γ' : List Sl} {Q : VK} {α β γ δ τ ρ : Type}
theorem shapedS [Py α] [DecidableEq α] [PyE α] (h64 : PyE.d α + 1 ≤ 64) (x : T2 Str α) (h : strG x.a = some ()) : SeqAt.shaped (enc x) = true := by
  have hs : PyData.canLay0 (.str x.a) = true := by
    unfold strG at h
    split at h
    · assumption
    · cases h
  have hd := PyE.dep x.b
  show SeqAt.shaped (.tuple [.str x.a, enc x.b]) = true
  unfold SeqAt.shaped
  rw [lay_tup, layAll_cons, layAll_cons, layAll_nil, hs, PyE.lay, dep_tup, depAll_cons, depAll_cons, depAll_nil]
  have e : PyData.depth (.str x.a) = 0 := by unfold PyData.depth; rfl
  rw [e]
  simp only [Bool.true_and, decide_eq_true_eq]
  omega
theorem x_nedS [Py α] [DecidableEq α] [PyE α] {x y : T2 Str α} {u v : V} {k : Unit → Option ρ} {r : ρ} (hm : ((strG x.a).bind fun _ => strG y.a).bind k = some r) (p : Dp C.K H u (enc x)) (q : Dp C.K H v (enc y)) (h64 : PyE.d α + 1 ≤ 64) (h : k () = some r → Q (.bl (!decide (x = y))) H) : rNeD C.K u v H Q := by
  obtain ⟨u1, h1, h2⟩ := ob hm
  obtain ⟨u2, h3, h4⟩ := ob h1
  refine ⟨_, _, p, q, shapedS h64 x h3, shapedS h64 y h4, ?_⟩
  have e : PyData.eqv (enc x) (enc y) = decide (x = y) := by
    obtain ⟨a, b⟩ := x
    obtain ⟨a', b'⟩ := y
    show PyData.eqv (.tuple [.str a, enc b]) (.tuple [.str a', enc b']) = _
    rw [eqv_tup, eqvAll_cons, eqvAll_cons, eqvAll_nil, PyE.eqv, eqv_str]
    by_cases h1 : a = a' <;> by_cases h2 : b = b' <;> simp [h1, h2]
  rw [e]
  exact h h2
end
end Sc
namespace Sc
open PySem PySem.Spec PyProof.Rows L2
open Py (enc)
/-! ### k40: more sums; a comprehension over new ones told, with the heap's places -/
instance decEv : DecidableEq (T3 (List (T3 (T2 Int Int) (List (T3 (List (T3 Int Int Int)) Bool (T3 Int Int Int))) (List (T3 (List (T3 Int Int Int)) Bool (T3 Int Int Int))))) (List (T3 (T2 Int Int) (T2 Int Int) (List (T3 (List (T3 Int Int Int)) Bool (T3 Int Int Int))))) (List (T3 (T2 Int Int) (T2 Int Int) (List (T3 (List (T3 Int Int Int)) Bool (T3 Int Int Int)))))) := fun x y => by
  haveI d0 : DecidableEq (List (T3 (List (T3 Int Int Int)) Bool (T3 Int Int Int))) := instDecidableEqList
  haveI d2 : DecidableEq (T3 (T2 Int Int) (List (T3 (List (T3 Int Int Int)) Bool (T3 Int Int Int))) (List (T3 (List (T3 Int Int Int)) Bool (T3 Int Int Int)))) := instDecidableEqT3
  haveI d1 : DecidableEq (List (T3 (T2 Int Int) (List (T3 (List (T3 Int Int Int)) Bool (T3 Int Int Int))) (List (T3 (List (T3 Int Int Int)) Bool (T3 Int Int Int))))) := instDecidableEqList
  exact instDecidableEqT3 x y
def lastU3 {α β γ δ ε : Type} : Sum (T3 α ε γ) (T3 β δ γ) → γ
  | .inl a => a.c
  | .inr b => b.c
section
variable {C : Cn} {X : Addr → Prop} {H H' : Hp} {σ : L2.St} {Γ Γ' : List Sl} {Q : VK} {α β γ δ ε τ ρ : Type}
theorem x_ixU3 [Py α] [Py β] [Py γ] [Py δ] [Py ε] {K : PySem.W.Frag} {Y : Addr → Prop} {x : Sum (T3 α ε γ) (T3 β δ γ)} {v : V} (r : Rep K Y H (enc x) v) (h : ∀ u, Rep K Y H (enc (lastU3 x)) u → Q u H) : rIxT K v (.int (-1)) H Q := by
  cases x with
  | inl a => exact x_ixT (C := ⟨K, Y, H, [], 0⟩) (ds := [enc a.a, enc a.b, enc a.c]) r rfl h
  | inr b => exact x_ixT (C := ⟨K, Y, H, [], 0⟩) (ds := [enc b.a, enc b.b, enc b.c]) r rfl h
/-- isinstance(x, list) of one of two kinds of lists -/
theorem x_isiU [Py α] [Py β] {x : Sum (List α) (List β)} {v : V} {T : String} {b : Bool} (r : Rep C.K X H (enc x) v) (e : kitB "list" T = some b) (h : Q (.bl b) H) : rIsi C.K [v, .ty T] H Q := by
  cases x with
  | inl a => exact x_isi (d := .list (a.map enc)) r e h
  | inr a => exact x_isi (d := .list (a.map enc)) r e h
theorem x_slTZ {Z : Addr → Prop} {ds es : List PyData} {v : V} {lo hi : Option Int} (n : Nat) (L : Lo C X H σ Γ) (r : Rep C.K (NewX X Z H) H (.tuple ds) v) (hn : ds.length = n) (e : (ds.drop (HT.sIx ds.length 0 lo)).take (HT.sIx ds.length ds.length hi - HT.sIx ds.length 0 lo) = es) (ne : ¬ (HT.sIx n 0 lo = 0 ∧ HT.sIx n n hi = n))
    (h : ∀ v H1, Same H H1 → Lo C X H1 σ Γ → (∀ d u, Rep C.K X H d u → Rep C.K X H1 d u) → Rep C.K (NewX X Z H1) H1 (.tuple es) v → Q v H1) : rSlT C.K v lo hi H Q := by
  obtain ⟨a, vs, rfl, hs, q⟩ := rep_tup r
  have e2 : vs.length = ds.length := q.length
  refine ⟨a, vs, rfl, hs, by rw [e2, hn]; exact ne, fun p hp => ?_⟩
  have s : Same H (upd H p (.tup (cutV vs lo hi))) := same_upd hp
  have q2 : Reps C.K (NewX X Z H) H es (cutV vs lo hi) := by
    rw [← e]
    unfold cutV
    rw [e2]
    exact (q.drop _).take _
  exact h _ _ s (L.same s) (fun _ _ r => r.keep (.same s)) (.tup upd_same (q2.keepF (.same s)))
theorem x_lcLZZd [Py α] [Py β] {Z : Addr → Prop} {xs : List α} {f : α → τ → Option (Option β × τ)} {v : V} {G : τ → List Sl} {s0 : τ} {q : List β × τ} {g : TG} {tt : TT} {te : TE} {ws : List Nat} (hz : ∀ a, ¬ Z a → H a ≠ none) (L : Lo C X H σ (G s0)) (hG : ∀ s s', muts (G s) = muts (G s')) (r : Rep C.K (NewX X Z H) H (enc xs) v) (hm : compL f xs s0 = some q) (hl : xs.length ≤ 16777216)
    (body : ∀ x s, BodyCZZ Z C X G (enc x) s (f x s) g tt te ws) (h : ∀ D H', (∀ a, ¬ Z a → H' a ≠ none) → Lo C X H' σ (G q.2) → (∀ d u, Rep C.K X H d u → Rep C.K X H' d u) → Rep C.K (NewX X Z H') H' (enc q.1) (.ref D) → Q (.ref D) H') : KLcL C.K g tt te ws σ Q v H :=
  x_lcL0ZZ L hG r hm hl hz body (fun D H' hD h0 hx M k m => lc_dataZ hz L hD M (hG _ _) k m (h D H' fun a n => by
    by_cases x : X a
    · exact M.xd a (.inl x)
    · cases e : H a with
      | none => exact (hz a n e).elim
      | some o => rw [k.1 a o e x]; exact fun z => nomatch z))
end
open Py (enc)
def KForZA (K : PySem.W.Frag) (g : TG) (tb : TS) (D : Ends) (σ : L2.St) : List V → Hp → Prop := fun vs H => ∃ a b xs ys, vs = [.ref a, .ref b] ∧ ((SqL K H a xs ∧ SqL K H b ys ∧ ∃ W : Nat → Nat → L2.St → Hp → Prop, (∃ m, W 0 m σ H) ∧ ∀ i m σ H, W i m σ H →
      ((Itz K a b).stop i H ∧ D.nx σ H) ∨ ((Itz K a b).go i H ∧ ∃ N : L2.St → Hp → Prop, (∀ σ' H', N σ' H' → ∃ m', m' < m ∧ W (i + 1) m' σ' H') ∧ ∀ v H', (Itz K a b).yld i H v H' → g v σ H' fun σ2 H2 => tb { D with nx := N, ct := N, bk := D.nx } σ2 H2)) ∨ (SqT K H a xs ∧ SqT K H b ys ∧ ∃ W : Nat → Nat → L2.St → Hp → Prop, (∃ m, W 0 m σ H) ∧ ∀ i m σ H, W i m σ H →
      ((RZ.ItzT K a b).stop i H ∧ D.nx σ H) ∨ ((RZ.ItzT K a b).go i H ∧ ∃ N : L2.St → Hp → Prop, (∀ σ' H', N σ' H' → ∃ m', m' < m ∧ W (i + 1) m' σ' H') ∧ ∀ v H', (RZ.ItzT K a b).yld i H v H' → g v σ H' fun σ2 H2 => tb { D with nx := N, ct := N, bk := D.nx } σ2 H2)))
section
variable {C : Cn} {X : Addr → Prop} {H : Hp} {σ : L2.St} {Γ Γ' : List Sl} {Q : VK} {α β τ ρ : Type}
theorem x_tforZA {ta : TA} {g : TG} {tb : TS} {D : Ends} {K : PySem.W.Frag} (h : ta σ H (KForZA K g tb D σ)) : tFor (RZ.iZipA K ta) g tb D σ H := h
theorem x_appendX [Py α] {xs : List α} {d : PyData} {v : V} {i : Nat} {p : Addr} {k : Unit → Option ρ} {r : ρ} (L : Lo C X H σ Γ) (g : Γ[i]? = some (.mu p (ml xs))) (hm : (lenOk (xs.length + 1)).bind k = some r) (q : Rep C.K X H d v) (e : Γ.set i (.mu p (.lst (xs.map enc ++ [d]))) = Γ')
    (h : ∀ H1, k () = some r → Lo C X H1 σ Γ' → (∀ d u, Rep C.K X H d u → Rep C.K X H1 d u) → Q .non H1) : rAppend (.ref p) [v] H Q := by
  subst e
  obtain ⟨hl, hk⟩ := len_ok hm
  obtain ⟨vs, hs, rs⟩ := L.mrep g
  have hlen : vs.length = xs.length := by rw [rs.length, List.length_map]
  obtain ⟨L1, le⟩ := L.write (es := xs.map enc ++ [d]) (ws := vs ++ [v]) g hs (rs.append (.cons q .nil))
  exact ⟨p, vs, v, rfl, rfl, hs, by rw [line_eq]; omega, h _ hk L1 le⟩
theorem x_flZT [Py α] [Py β] {xs : List α} {ys : List β} {f : T2 α β → τ → Option (Lp τ ρ)} {G : τ → List Sl} {ps : ρ → List (Addr × MO)} {rs : ρ → Rs} {s0 : τ} {u v : V} {g : TG} {tb : TS} {nx bk ct : L2.St → Hp → Prop} {rt : VK} {zs : List (T2 α β)} {δ : Type} {k : τ → Option δ} {j : ρ → Option δ} {res : δ}
    (hz : zipO xs ys = some zs) (L : Lo C X H σ (G s0)) (hG : ∀ s s', muts (G s) = muts (G s')) (r : Rep C.K X H (.tuple (xs.map enc)) u) (q : Rep C.K X H (.tuple (ys.map enc)) v) (hm : (loopL f zs s0).bind (fun o => o.out j k) = some res)
    (body : ∀ x s, Body C X G ps rs (enc x) s (f x s) g tb) (done : ∀ s σ' H', k s = some res → Lo C X H' σ' (G s) → nx σ' H')
    (ret : ∀ q v H', j q = some res → Fin C.K C.X0 C.H0 C.P0 (ps q) (rs q) v H' → rt v H') (hle : xs.length = ys.length := by rfl) : KForZA C.K g tb ⟨nx, rt, bk, ct⟩ σ [u, v] H := by
  obtain ⟨o, h1, h2⟩ := ob hm
  obtain ⟨a, vs, rfl, hrd, hrs⟩ := rep_tup r
  obtain ⟨b, us, rfl, hrb, hrt⟩ := rep_tup q
  have hz2 : zs = List.zipWith T2.mk xs ys := (Option.some.inj hz).symm
  subst hz2
  have e1 : vs.length = xs.length := by rw [hrs.length, List.length_map]
  have e2 : us.length = ys.length := by rw [hrt.length, List.length_map]
  have hlz : (List.zipWith T2.mk xs ys).length = min xs.length ys.length := List.length_zipWith
  refine ⟨a, b, vs, us, rfl, .inr ⟨hrd, hrb, RZ.for_zipT (K := C.K) (a := a) (b := b) (xs := vs) (ys := us) (by rw [e1, e2, hle]) (fun i σ' H' => ∃ s, Lo C X H' σ' (G s) ∧ Reps C.K X H' (xs.map enc) vs ∧ Reps C.K X H' (ys.map enc) us ∧ SqT C.K H' a vs ∧ SqT C.K H' b us ∧ loopL f ((List.zipWith T2.mk xs ys).drop i) s = some o)
    ⟨s0, L, hrs, hrt, hrd, hrb, h1⟩ (fun i σ' H' ⟨s, _, _, _, h, h', _⟩ => ⟨h, h'⟩) ?_ ?_⟩⟩
  · rintro i y w T σ' H' hy hw ⟨s, L', r', q', hd, hd', hm''⟩ hT
    obtain ⟨d, hd1, rd⟩ := r'.get' hy
    obtain ⟨d', hd2, rd'⟩ := q'.get' hw
    rw [List.getElem?_map] at hd1 hd2
    cases hx : xs[i]? with
    | none => rw [hx] at hd1; cases hd1
    | some x =>
    cases hx' : ys[i]? with
    | none => rw [hx'] at hd2; cases hd2
    | some x' =>
      rw [hx] at hd1
      rw [hx'] at hd2
      cases hd1
      cases hd2
      have hzi : (List.zipWith T2.mk xs ys)[i]? = some (T2.mk x x') := by rw [List.getElem?_zipWith, hx, hx']
      obtain ⟨o1, g1, g2, g3, g4⟩ := loop_drop hzi hm''
      have sT : Same H' (upd H' T (.tup [y, w])) := same_upd hT
      have LT := L'.same sT
      have rT : Rep C.K X (upd H' T (.tup [y, w])) (enc (T2.mk x x')) (.ref T) := .tup upd_same (.cons (rd.keep (.same sT)) (.cons (rd'.keep (.same sT)) .nil))
      have rT1 := r'.keep (.same sT)
      have rT2 := q'.keep (.same sT)
      refine body (T2.mk x x') s _ σ' _ _ _ _ _ o1 g1 LT.enter LT.dom rT ?_ ?_ ?_ ?_
      · intro s' e X' σ'' H'' L''
        have k := LT.keep L''
        exact ⟨s', LT.leave L'' (hG _ _), rT1.keep k, rT2.keep k, k.sqT ((Keep.same (X := X) sT).sqT hd), k.sqT ((Keep.same (X := X) sT).sqT hd'), g2 s' e⟩
      · intro s' e X' σ'' H'' L''
        have k := LT.keep L''
        exact ⟨s', LT.leave L'' (hG _ _), rT1.keep k, rT2.keep k, k.sqT ((Keep.same (X := X) sT).sqT hd), k.sqT ((Keep.same (X := X) sT).sqT hd'), g2 s' e⟩
      · intro s' e X' σ'' H'' L''
        exact done _ _ _ (by rw [g3 s' e] at h2; exact h2) (LT.leave L'' (hG _ _))
      · intro q e v' H'' F
        exact ret q v' H'' (by rw [g4 q e] at h2; exact h2) (F.leave LT)
  · rintro σ' H' ⟨s, L', _, _, _, _, hm''⟩
    rw [List.drop_eq_nil_of_le (by omega)] at hm''
    have e : o = .nxt s := (Option.some.inj hm'').symm
    exact done _ _ _ (by rw [e] at h2; exact h2) L'
theorem x_foZT [Py α] [Py β] {xs : List α} {ys : List β} {f : T2 α β → τ → Option τ} {G : τ → List Sl} {s0 : τ} {u v : V} {g : TG} {tb : TS} {nx bk ct : L2.St → Hp → Prop} {rt : VK} {zs : List (T2 α β)} {k : τ → Option ρ} {res : ρ}
    (hz : zipO xs ys = some zs) (L : Lo C X H σ (G s0)) (hG : ∀ s s', muts (G s) = muts (G s')) (r : Rep C.K X H (.tuple (xs.map enc)) u) (q : Rep C.K X H (.tuple (ys.map enc)) v) (hm : (foldO f zs s0).bind k = some res)
    (body : ∀ x s, BodyO C X G (enc x) s (f x s) g tb) (done : ∀ s σ' H', k s = some res → Lo C X H' σ' (G s) → nx σ' H') (hle : xs.length = ys.length := by rfl) : KForZA C.K g tb ⟨nx, rt, bk, ct⟩ σ [u, v] H := by
  obtain ⟨s1, h1, h2⟩ := ob hm
  obtain ⟨a, vs, rfl, hrd, hrs⟩ := rep_tup r
  obtain ⟨b, us, rfl, hrb, hrt⟩ := rep_tup q
  have hz2 : zs = List.zipWith T2.mk xs ys := (Option.some.inj hz).symm
  subst hz2
  have e1 : vs.length = xs.length := by rw [hrs.length, List.length_map]
  have e2 : us.length = ys.length := by rw [hrt.length, List.length_map]
  have hlz : (List.zipWith T2.mk xs ys).length = min xs.length ys.length := List.length_zipWith
  have hm' := foldO_loop h1
  refine ⟨a, b, vs, us, rfl, .inr ⟨hrd, hrb, RZ.for_zipT (K := C.K) (a := a) (b := b) (xs := vs) (ys := us) (by rw [e1, e2, hle]) (fun i σ' H' => ∃ s, Lo C X H' σ' (G s) ∧ Reps C.K X H' (xs.map enc) vs ∧ Reps C.K X H' (ys.map enc) us ∧ SqT C.K H' a vs ∧ SqT C.K H' b us ∧ loopL (ρ := Empty) (fun x s => (f x s).bind fun s' => some (.nxt s')) ((List.zipWith T2.mk xs ys).drop i) s = some (.nxt s1))
    ⟨s0, L, hrs, hrt, hrd, hrb, hm'⟩ (fun i σ' H' ⟨s, _, _, _, h, h', _⟩ => ⟨h, h'⟩) ?_ ?_⟩⟩
  · rintro i y w T σ' H' hy hw ⟨s, L', r', q', hd, hd', hm''⟩ hT
    obtain ⟨d, hd1, rd⟩ := r'.get' hy
    obtain ⟨d', hd2, rd'⟩ := q'.get' hw
    rw [List.getElem?_map] at hd1 hd2
    cases hx : xs[i]? with
    | none => rw [hx] at hd1; cases hd1
    | some x =>
    cases hx' : ys[i]? with
    | none => rw [hx'] at hd2; cases hd2
    | some x' =>
      rw [hx] at hd1
      rw [hx'] at hd2
      cases hd1
      cases hd2
      have hzi : (List.zipWith T2.mk xs ys)[i]? = some (T2.mk x x') := by rw [List.getElem?_zipWith, hx, hx']
      obtain ⟨o1, g1, g2, g3, g4⟩ := loop_drop hzi hm''
      have sT : Same H' (upd H' T (.tup [y, w])) := same_upd hT
      have LT := L'.same sT
      have rT : Rep C.K X (upd H' T (.tup [y, w])) (enc (T2.mk x x')) (.ref T) := .tup upd_same (.cons (rd.keep (.same sT)) (.cons (rd'.keep (.same sT)) .nil))
      have rT1 := r'.keep (.same sT)
      have rT2 := q'.keep (.same sT)
      refine (body (T2.mk x x') s).body _ σ' _ _ _ _ _ o1 g1 LT.enter LT.dom rT ?_ ?_ ?_ ?_
      · intro s' e X' σ'' H'' L''
        have k := LT.keep L''
        exact ⟨s', LT.leave L'' (hG _ _), rT1.keep k, rT2.keep k, k.sqT ((Keep.same (X := X) sT).sqT hd), k.sqT ((Keep.same (X := X) sT).sqT hd'), g2 s' e⟩
      · intro s' e X' σ'' H'' L''
        have k := LT.keep L''
        exact ⟨s', LT.leave L'' (hG _ _), rT1.keep k, rT2.keep k, k.sqT ((Keep.same (X := X) sT).sqT hd), k.sqT ((Keep.same (X := X) sT).sqT hd'), g2 s' e⟩
      · intro s' e
        have := g3 s' e
        cases this
      · intro q e
        exact q.elim
  · rintro σ' H' ⟨s, L', _, _, _, _, hm''⟩
    rw [List.drop_eq_nil_of_le (by omega)] at hm''
    have e : s = s1 := by
      have : (some (Lp.nxt s) : Option (Lp τ Empty)) = some (.nxt s1) := hm''
      cases this; rfl
    subst e
    exact done _ _ _ h2 L'
/-! what forbids tells, under a name -/
theorem Lax.keep {K : PySem.W.Frag} {q : T2 Int Int} {v : V} {H H' : Hp} (k : Keep X H H') (r : Lax K q v H) : Lax K q v H' := by
  obtain ⟨a, e, h⟩ := r
  exact ⟨a, e, k.sqT h⟩
theorem FbR.keep {K : PySem.W.Frag} {f : Fb} {v : V} {H H' : Hp} (k : Keep X H H') (r : FbR K f v H) : FbR K f v H' := by
  cases f with
  | non => exact r
  | area p q =>
    obtain ⟨a, b, c, e, h, l1, l2⟩ := r
    exact ⟨a, b, c, e, k.2.1 _ _ h, l1.keep k, l2.keep k⟩
  | mark d p q =>
    obtain ⟨a, x, b, c, e, h, l0, l1, l2⟩ := r
    exact ⟨a, x, b, c, e, k.2.1 _ _ h, l0.keep k, l1.keep k, l2.keep k⟩
def FbS (K : PySem.W.Frag) (f : Fb) : V → (Addr → Prop) → Hp → Prop := fun v _ H => FbR K f v H
def Fb.isNon : Fb → Bool
  | .non => true
  | _ => false
def fbTag : Fb → Option Str
  | .non => none
  | .area _ _ => some ("area" : Str)
  | .mark _ _ _ => some ("mark" : Str)
theorem fb_non {K : PySem.W.Frag} {f : Fb} {v : V} (r : FbR K f v H) : decide (v = V.non) = f.isNon := by
  cases f with
  | non =>
    obtain rfl : v = .non := r
    rfl
  | area p q => obtain ⟨a, b, c, rfl, _⟩ := r; rfl
  | mark d p q => obtain ⟨a, x, b, c, rfl, _⟩ := r; rfl
theorem x_isNF {K : PySem.W.Frag} {f : Fb} {v : V} (r : FbR K f v H) (h : Q (.bl f.isNon) H) : rIsNX v .non H Q := ⟨rfl, by rw [fb_non r]; exact h⟩
theorem x_notNF {K : PySem.W.Frag} {f : Fb} {v : V} (r : FbR K f v H) (h : Q (.bl (!f.isNon)) H) : rNotNX v .non H Q := ⟨rfl, by rw [fb_non r]; exact h⟩
theorem x_ixFb {K : PySem.W.Frag} {f : Fb} {v : V} {k : Str → Option ρ} {res : ρ} (r : FbR K f v H) (hm : (fbTag f).bind k = some res) (h : ∀ x, k x = some res → Q (.str x) H) : rIxT K v (.int 0) H Q := by
  obtain ⟨x, hx, hk⟩ := ob hm
  cases f with
  | non => cases hx
  | area p q =>
    cases hx
    obtain ⟨a, b, c, rfl, e, _⟩ := r
    exact ⟨a, _, 0, _, rfl, rfl, .inl (.inl e), rfl, h _ hk⟩
  | mark d p q =>
    cases hx
    obtain ⟨a, y, b, c, rfl, e, _⟩ := r
    exact ⟨a, _, 0, _, rfl, rfl, .inl (.inl e), rfl, h _ hk⟩
theorem keep_clr {H : Hp} {b : Addr} {us : List V} (h : H b = some (.lst us)) : Keep (fun a => a = b) H (upd H b (.lst [])) :=
  ⟨fun a o e n => by rw [upd_ne n]; exact e, fun a vs e => by
    have n : a ≠ b := fun z => by subst z; rw [h] at e; cases e
    rw [upd_ne n]; exact e, fun a o u e => by
    have n : a ≠ b := fun z => by subst z; rw [h] at e; cases e
    rw [upd_ne n]; exact e⟩
theorem FbS.rv {K : PySem.W.Frag} {Y : Addr → Prop} {f : Fb} : RV Y (FbS K f) := ⟨fun k r => FbR.keep k r, fun _ r => r, fun _ r => r, fun _ h r => FbR.keep (keep_clr h) r⟩
theorem x_setFb {f : Fb} {i : Nat} {v : V} {N : L2.St → Hp → Prop} (L : Lo C X H σ Γ) (r : FbR C.K f v H) (hi : i < C.n) (e : Γ.set i (.exv (fun _ => True) (FbS C.K f)) = Γ') (h : ∀ σ', Lo C X H σ' Γ' → N σ' H) : gName i v σ H N := by
  subst e
  exact h _ (L.setS (v := some v) rfl ⟨v, rfl, FbS.rv, r⟩ hi)
theorem x_vFb {f : Fb} {i : Nat} (L : Lo C X H σ Γ) (g : Γ[i]? = some (.exv (fun _ => True) (FbS C.K f))) (h : ∀ v, FbR C.K f v H → Q v H) : tVar i σ H Q := by
  obtain ⟨u, e, _, r⟩ := L.at_ i _ g
  exact ⟨_, e, h _ r⟩
theorem x_gTupLx {q : T2 Int Int} {v : V} {t : TGs} {N : L2.St → Hp → Prop} (r : Lax C.K q v H) (h : ∀ vs, Reps C.K X H [.int q.a, .int q.b] vs → t vs σ H N) : gTup C.K 2 t v σ H N := by
  obtain ⟨a, rfl, hs⟩ := r
  exact ⟨a, _, rfl, hs, rfl, h _ (.cons (.int _) (.cons (.int _) .nil))⟩
/-! the last item of each list of a told list taken away; the told list appended to -/
def popsG {α : Type} [DecidableEq α] (xs : List (List α)) : Option Unit := if xs.Nodup ∧ ∀ r ∈ xs, 0 < r.length then some () else none
theorem it_map [Py α] [IT α] : ∀ {xs ys : List α}, xs.map enc = ys.map enc → xs = ys
  | [], [], _ => rfl
  | [], y :: ys, h => by cases h
  | x :: xs, [], h => by cases h
  | x :: xs, y :: ys, h => by
    rw [List.map_cons, List.map_cons, List.cons.injEq] at h
    have e : x = y := by
      have h1 := h.1
      rw [IT.enc_eq, IT.enc_eq] at h1
      injection h1 with h1
      have inj : ∀ {a b : List Int}, a.map PyData.int = b.map PyData.int → a = b := by
        intro a
        induction a with
        | nil => intro b h; cases b with
          | nil => rfl
          | cons => cases h
        | cons u us ih => intro b h; cases b with
          | nil => cases h
          | cons v vs =>
            rw [List.map_cons, List.map_cons, List.cons.injEq] at h
            have e := h.1
            injection e with e
            rw [e, ih h.2]
      exact IT.inj x y (inj h1)
    rw [e, it_map h.2]
theorem x_popsL [Py α] [IT α] [DecidableEq α] {Z : Addr → Prop} {xs : List (List α)} {i j : Nat} {nx bk ct : L2.St → Hp → Prop} {rt : VK} {k : Unit → Option ρ} {r : ρ} {Γ1 : List Sl} (L : Lo C X H σ Γ) (gi : Γ[i]? = some (.fixN Z (enc xs))) (hm : (popsG xs).bind k = some r) (hZ : ∀ a, Z a → C.H0 a = none)
    (e1 : Γ.set i .unk = Γ1) (old : ∀ s ∈ Γ1, OldS Z s) (nox : Γ1.all Sl.noX = true) (hi : i < C.n) (hj : j < C.n) (gj : Γ1[j]? = some .unk) (ij : i ≠ j) (e2 : Γ1.set i (.exv (fun _ => True) (PathN C.K Z xs.length [])) = Γ')
    (done : ∀ σ' H', k () = some r → Lo C X H' σ' Γ' → nx σ' H') : tVar i σ H (KForL C.K (gName j) (tDrop (tBM0 C.K "list" rPop (tVar j))) ⟨nx, rt, bk, ct⟩ σ) := by
  subst e1
  subst e2
  obtain ⟨_, hg, hk⟩ := ob hm
  have hp : xs.Nodup ∧ ∀ r ∈ xs, 0 < r.length := by
    unfold popsG at hg
    split at hg
    · assumption
    · cases hg
  obtain ⟨v, ev, rv⟩ := L.at_ i _ gi
  obtain ⟨a, vs, rfl, na, za, ha, q⟩ := newx_lst (ds := xs.map enc) rv
  have il : i < Γ.length := (List.getElem?_eq_some_iff.mp gi).1
  have hlen : vs.length = xs.length := by rw [q.length, List.length_map]
  -- the inner lists
  have inner : ∀ (m : Nat) (row : List α), xs[m]? = some row → ∃ (b : Addr) (us : List V), vs[m]? = some (V.ref b) ∧ ¬ X b ∧ Z b ∧ H b = some (.lst us) ∧ Reps C.K (NewX X Z H) H (row.map enc) us ∧ b ≠ a := fun m row hr => by
    obtain ⟨u, hu, ru⟩ := q.get (i := m) (d := enc row) (by rw [List.getElem?_map, hr]; rfl)
    obtain ⟨b, us, rfl, nb, zb, hb, qb⟩ := newx_lst (ds := row.map enc) ru
    refine ⟨b, us, hu, nb, zb, hb, qb, fun e => ?_⟩
    subst e
    rw [ha] at hb
    cases hb
    have e3 : row.map enc = xs.map enc := Reps.fn qb q
    have hn := hp.2 row (List.mem_of_getElem? hr)
    match row, xs, e3, hn with
    | x :: row, y :: ys, e3, _ =>
      rw [List.map_cons, List.map_cons, List.cons.injEq] at e3
      have := e3.1
      rw [IT.enc_eq] at this
      cases this
    | x :: row, [], e3, _ => cases e3
  have uniq : ∀ (m n : Nat) (rm rn : List α) (b : Addr) (us ws : List V), xs[m]? = some rm → xs[n]? = some rn → m ≠ n → H b = some (.lst us) → Reps C.K (NewX X Z H) H (rm.map enc) us → Reps C.K (NewX X Z H) H (rn.map enc) ws → us = ws → False := fun m n rm rn b us ws h1 h2 ne hb q1 q2 e => by
    subst e
    have e4 : rm = rn := it_map (Reps.fn q1 q2)
    subst e4
    obtain ⟨l1, g1⟩ := List.getElem?_eq_some_iff.mp h1
    obtain ⟨l2, g2⟩ := List.getElem?_eq_some_iff.mp h2
    have h := List.pairwise_iff_getElem.mp hp.1
    rcases Nat.lt_trichotomy m n with l | l | l
    · exact h m n l1 l2 l (by rw [g1, g2])
    · exact ne l
    · exact h n m l2 l1 l (by rw [g1, g2])
  have L1 : Lo C X H σ (Γ.set i (.ref a)) := by
    have := L.setS (i := i) (v := some (V.ref a)) (s := Sl.ref a) rfl rfl hi
    rwa [show σ.set i (some (V.ref a)) = σ from List.ext_getElem? fun k => by
      rw [List.getElem?_set]
      split
      · next z =>
        subst z
        rw [ev, if_pos (by rw [L.len]; exact hi)]
      · rfl] at this
  refine ⟨V.ref a, ev, a, rfl, ⟨vs, .inl (.inl ha)⟩, for_list (K := C.K) (a := a) (xs := vs) (fun n σ' H' => Lo C X H' σ' (Γ.set i (.ref a)) ∧ H' a = some (.lst vs) ∧ ∀ m : Nat, n ≤ m → ∀ (b : Addr) (us : List V), vs[m]? = some (V.ref b) → H b = some (.lst us) → H' b = some (.lst us))
    ⟨L1, ha, fun m _ b us _ h => h⟩ (fun n σ' H' _ h => .inl (.inl h.2.1)) ?_ ?_⟩
  · rintro n y σ' H' hy ⟨L', ha', rest⟩
    have hn : n < xs.length := by rw [← hlen]; exact (List.getElem?_eq_some_iff.mp hy).1
    obtain ⟨b, us, hu, nb, zb, hb, qb, ba⟩ := inner n _ (List.getElem?_eq_getElem hn)
    rw [hu] at hy
    cases hy
    have hb' := rest n (Nat.le_refl _) b us hu hb
    have lu : 0 < us.length := by
      have := hp.2 _ (List.getElem_mem hn)
      rw [qb.length, List.length_map]; exact this
    have g2 : (Γ.set i (.ref a))[j]? = some .unk := by
      rw [List.getElem?_set_ne ij]
      rwa [List.getElem?_set_ne ij] at gj
    have L2 := L'.setU (i := j) (v := some (.ref b)) g2 hj
    have hl : j < σ'.length := by rw [L'.len]; exact hj
    refine x_drop (x_bm0 ⟨.ref b, by rw [List.getElem?_set_self hl], .inl ⟨rfl, us, .inl (.inl hb')⟩, b, us, us[us.length - 1], rfl, rfl, hb', List.getElem?_eq_getElem (by omega), ?_⟩)
    have memS : ∀ s : Sl, s ∈ Γ.set i (.ref a) → s = Sl.ref a ∨ s ∈ Γ.set i .unk := fun s hs => by
      obtain ⟨k, hk⟩ := List.getElem?_of_mem hs
      by_cases z : i = k
      · subst z
        rw [List.getElem?_set_self il] at hk
        cases hk; exact .inl rfl
      · rw [List.getElem?_set_ne z] at hk
        exact .inr (List.mem_of_getElem? (by rw [List.getElem?_set_ne z]; exact hk))
    refine ⟨L2.putZ (fun s hs => ?_) (hZ b zb) nb zb hb' fun s hs => ?_, by rw [upd_ne (Ne.symm ba)]; exact ha', fun m hm c ws hc hw => ?_⟩
    · rcases memS s hs with rfl | h
      · rfl
      · exact List.all_eq_true.mp nox s h
    · rcases memS s hs with rfl | h
      · exact trivial
      · exact old s h
    · have hml : m < xs.length := by rw [← hlen]; exact (List.getElem?_eq_some_iff.mp hc).1
      obtain ⟨c', ws', hc', _, _, hw', qc, _⟩ := inner m _ (List.getElem?_eq_getElem hml)
      rw [hc] at hc'
      cases hc'
      rw [hw] at hw'
      cases hw'
      have ne : c ≠ b := fun e => by
        subst e
        rw [hb] at hw
        cases hw
        exact uniq n m _ _ c us us (List.getElem?_eq_getElem hn) (List.getElem?_eq_getElem hml) (by omega) hb qb qc rfl
      rw [upd_ne ne]
      exact rest m (by omega) c ws hc hw
  · rintro σ' H' ⟨L', ha', _⟩
    refine done σ' H' hk ?_
    have g3 : (Γ.set i (.ref a))[i]? = some (.ref a) := List.getElem?_set_self il
    have := L'.resl (s' := .exv (fun _ => True) (PathN C.K Z xs.length [])) g3 rfl fun v e => ⟨V.ref a, e, PathN.rv, a, vs, rfl, na, za, ha', by omega⟩
    rwa [List.set_set] at this ⊢
/-- [] made, to be appended -/
theorem x_list0 {σ : L2.St} : ∀ R : List V → Hp → Prop, (∀ w H2, Same H H2 → R [w] H2) → (tCons (tLst tNil) tNil) σ H R := fun R h => by
  refine x_cons (x_lst (x_nil ?_))
  exact ⟨Nat.zero_le _, fun l hl => x_nil (h _ _ (same_upd hl))⟩
/-! lists of texts compared -/
def strsG (xs : List Str) : Option Unit := if (xs.all fun x => PyData.canLay0 (.str x)) = true then some () else none
theorem lay_strs : ∀ {xs : List Str}, (xs.all fun x => PyData.canLay0 (.str x)) = true → PyData.canLayAll0 (xs.map PyData.str) = true ∧ PyData.depthAll (xs.map PyData.str) = 0
  | [], _ => ⟨by unfold PyData.canLayAll0; rfl, by unfold PyData.depthAll; rfl⟩
  | x :: xs, h => by
    rw [List.all_cons, Bool.and_eq_true] at h
    obtain ⟨i1, i2⟩ := lay_strs h.2
    have e : PyData.depth (.str x) = 0 := by unfold PyData.depth; rfl
    rw [List.map_cons, layAll_cons, depAll_cons, h.1, i1, i2, e]
    exact ⟨rfl, rfl⟩
theorem shapedSL {xs : List Str} (h : strsG xs = some ()) : SeqAt.shaped (enc xs) = true := by
  have hs : (xs.all fun x => PyData.canLay0 (.str x)) = true := by
    unfold strsG at h
    split at h
    · assumption
    · cases h
  obtain ⟨i1, i2⟩ := lay_strs hs
  show SeqAt.shaped (.list (xs.map PyData.str)) = true
  unfold SeqAt.shaped
  rw [lay_lst, dep_lst, i1, i2]
  rfl
theorem eqvAll_strs : ∀ {xs ys : List Str}, PyData.eqvAll (xs.map PyData.str) (ys.map PyData.str) = decide (xs = ys)
  | [], [] => by unfold PyData.eqvAll; rfl
  | [], y :: ys => by unfold PyData.eqvAll; rfl
  | x :: xs, [] => by unfold PyData.eqvAll; rfl
  | x :: xs, y :: ys => by
    rw [List.map_cons, List.map_cons, eqvAll_cons, eqv_str, eqvAll_strs]
    by_cases h1 : x = y <;> by_cases h2 : xs = ys <;> simp [h1, h2]
theorem x_eqdSS {xs ys : List Str} {u v : V} {k : Unit → Option ρ} {r : ρ} (hm : ((strsG xs).bind fun _ => strsG ys).bind k = some r) (p : Dp C.K H u (enc xs)) (q : Dp C.K H v (enc ys)) (h : k () = some r → Q (.bl (decide (xs = ys))) H) : rEqD C.K u v H Q := by
  obtain ⟨u1, h1, h2⟩ := ob hm
  obtain ⟨u2, h3, h4⟩ := ob h1
  refine ⟨_, _, p, q, shapedSL h3, shapedSL h4, ?_⟩
  have e : PyData.eqv (enc xs) (enc ys) = decide (xs = ys) := by
    show PyData.eqv (.list (xs.map PyData.str)) (.list (ys.map PyData.str)) = _
    rw [eqv_lst, eqvAll_strs]
  rw [e]
  exact h h2
end
open Py (enc)
theorem fn_orC {CX : CXT} {P : Program} {w : World} {K : PySem.W.Frag} {mg : Str → Option Value} {base : Heap} {k : Nat} {f : Addr} {fd : FuncData} {ps : List Str} {sp1 sp2 : Sp} (F1 : FnOk P w K mg base CX k f fd ps sp1) (F2 : FnOk P w K mg base CX0 k f fd ps sp2) :
    FnOk P w K mg base CX k f fd ps (fun vs H Q E => sp1 vs H Q E ∨ sp2 vs H Q E) := by
  refine ⟨fun vs H Q E h => h.elim (F1.len vs H Q E) (F2.len vs H Q E), fun A outer s H args us vs Q E hr he hb hv hs => ?_⟩
  rcases hs with h | h
  · exact F1.run A outer s H args us vs Q E hr he hb hv h
  · refine codeAny_mono (F2.run A outer s H args us vs Q E hr he hb hv h) fun r s' q => ?_
    cases r with
    | ok r => cases r <;> first | exact q | exact (show False from q).elim
    | error e => exact (show False from q).elim
theorem takes0N {X : Cx} : L2N.Takes X (fun _ _ _ _ => False) := fun _ _ x => by
  obtain ⟨_, _, _, _, _, _, _, _, _, _, _, _, _, _, _, _, z⟩ := x
  exact z.elim
theorem Fun_okC {CX : CXT} {P : Program} {w : World} {K : PySem.W.Frag} {mg : Str → Option Value} {base : Heap} {x qual : Str} {st : Stmt} {f : Addr} {fd : FuncData} {N ps : List Str} {k : Nat} {sp : Sp} (F : Fun K x qual st f fd) (S : FnScope N ps (defScope st)) (len : ∀ vs H Q E, sp vs H Q E → vs.length = ps.length)
    (hbody : ∀ (cdv : Value) (A : Around) (outer : List Env) (s : Shared) (H : Hp) (vs : List V) (Q : VK) (E : XK), Room k (A.deeper (envOfC qual (defScope st) s.heap.objs.size f cdv)) → sp vs H Q E →
      ∃ t, PSs (cxOf CX P w K mg base N qual (defScope st) f cdv A outer s H E) (defBody st) t ∧ t { nx := fun _ H' => Q .non H', rt := Q } (L2.start N vs) H) : FnOk P w K mg base CX (k + 1) f fd ps sp := by
  obtain ⟨oc, od, kV, doc, pm, an, cdv, ct, osl, rfl, lk, hcd⟩ := F.ex
  exact fn_of lk hcd S len fun A outer s H vs Q E hr hsp => hbody cdv A outer s H vs Q E hr hsp
/-! ### the block of a comprehension, pins kept -/
abbrev blkP (X : Cx) (s : Shared) (H : Hp) (scope : Scope) (cenv : Env) (fp : List Addr) : Cx := { X.blk s H scope cenv fp with pn := X.pn }
theorem inv_blkP {X : Cx} {s s' : Shared} {H H' : Hp} {scope : Scope} {ce : Env} {fp : List Addr} {σ : L2.St} (I : Inv (X.blk s H scope ce fp) [] σ H' s') (hp : ∀ p ∈ X.pn, s'.heap.get? p.1 = some p.2 ∧ H' p.1 = none ∧ p.1 ≠ ce.locals ∧ p.1 ∉ frs X.stack ∧ ∀ v, p.2.data ≠ .cell v) : Inv (blkP X s H scope ce fp) [] σ H' s' :=
  ⟨⟨I.ok.mod, I.ok.kind, I.ok.glob, I.ok.blt, I.ok.above, I.ok.inj, I.ok.has, I.ok.cab, I.ok.hd, I.ok.frames, I.ok.stk, I.ok.exf, I.ok.bs, I.ok.bsz, I.ok.noex, I.ok.exfs, I.ok.funs, I.ok.frf⟩, I.os, I.bare, I.base, I.loc, I.cell, I.free, I.freeC, fun p h => hp p (by rw [List.append_nil] at h; exact h), I.hok, I.len⟩
theorem lc_coreH {X : Cx} {pins : List (Addr × Obj)} {s : Shared} {σ : L2.St} {H : Hp} {Q : VK} {elt tg iter : Expr} {ifs : List Expr} {scope : Scope} {own : List (Str × Nat)} {pos pos' : Pos} {wi : TI} {g : TG} {tt : TT} {te : TE} {use : Option (Value → Sem Unit)} {Qf : Value → Shared → Prop}
    (hc : L2H.HotC X) (hN : X.N.Nodup) (I : Inv X pins σ H s) (hi : L2H.PIH X tg iter wi) (ok : BlkOk X.N X.env.scope scope own)
    (hg : ∀ (s : Shared) (H : Hp) (C : Addr) (cl : List (Str × Addr)) (fp : List Addr), PG (blkP X s H scope (compEnvC scope cl C X.env) fp) tg g) (ht : ∀ (s : Shared) (H : Hp) (C : Addr) (cl : List (Str × Addr)) (fp : List Addr), PTs (blkP X s H scope (compEnvC scope cl C X.env) fp) ifs tt)
    (he : ∀ (s : Shared) (H : Hp) (C : Addr) (cl : List (Str × Addr)) (fp : List Addr), PE (blkP X s H scope (compEnvC scope cl C X.env) fp) elt te) (hs : ∀ x, foldedSetIterable iter X.env x = pure x)
    (h : tLc wi g tt te (own.map (·.2)) σ H Q)
    (hRR : ∀ D C s' m H', Inv X pins σ H' s' → Q (.ref D) H' → s'.heap.Ns C m → FpOk X pins H' C → compPost (model X.prog X.w) X.A X.xe use Qf (.ref D) C (.ok .next) s') :
    wpAny (model X.prog X.w) X.A (comprehension (.ListComp elt [⟨tg, iter, ifs, 0⟩] scope pos) scope X.env pos' (newList []) false (eval iter X.env) use) Qf X.xe s := by
  have hfree : ∀ y ∈ scope.names, y.2 = .free → ∃ c, X.env.cells.lookup y.1 = some c := fun y hy e => by
    rcases ok.free y hy e with k | k
    · exact I.ok.has _ (.inl k)
    · exact I.ok.has _ (.inr k)
  refine wpAny_comprehension_free (use := use) rfl hs (closure_ok hfree) ok.kind (fun y hy e => by rw [ok.uniq y hy, e])
    (thn (hi.run pins s σ H _ I h) fun xv s1 hx => thn hx fun itv s2 h2 => ?_)
  obtain ⟨it, fp, tn, J, H2, e, I2, T, st2, f2, q⟩ := h2
  subst e
  refine wpAny_newObj_type (newEnv_comp ?_) (by show 0 ≤ sizeLine; decide)
  generalize hD : s2.heap.objs.size = D
  have hDn : H2 D = none := I2.hok.fresh (Nat.le_of_eq hD)
  obtain ⟨W, ⟨m0, w0⟩, turn⟩ := q D hDn
  -- the new list
  generalize hs3 : ({ s2 with heap := s2.heap.push { cls := .type "list", data := .seq ([] : List Value).toArray } } : Shared) = s3
  have I3 : Inv X pins σ (upd H2 D (.lst [])) s3 := by
    rw [← hs3]
    refine I2.laid (t' := s2.toks) (fun b o e => Heap.get?_push_of_some _ e) (Nat.le_of_eq hD) ⟨Nat.zero_le _, [], 0, .nil, ?_⟩
    rw [← hD]
    exact Heap.get?_push_size _ rfl
  have h3 : s3.heap = s2.heap.push { cls := .type "list", data := .seq ([] : List Value).toArray } := by rw [← hs3]
  have sz : ∀ b ∈ fp, b < s2.heap.objs.size := fun b hb => by
    obtain ⟨o, e, _⟩ := T.obj _ _ st2 b hb
    exact Heap.lt_size e
  have f3 : ∀ b ∈ fp, FpOk X pins (upd H2 D (.lst [])) b ∧ b < s3.heap.objs.size := fun b hb => by
    have hlt := sz b hb
    refine ⟨⟨?_, (f2 b hb).2⟩, by rw [h3, Heap.size_push]; exact Nat.lt_succ_of_lt hlt⟩
    rw [upd_ne (by rw [← hD]; exact Nat.ne_of_lt hlt)]
    exact (f2 b hb).1
  have st3 : tn 0 s3.heap := T.keep _ _ _ st2 fun b _ o e => by rw [h3]; exact Heap.get?_push_of_some _ e
  have I4 := inv_blkP (block_start I3 ok hN f3) fun p hp => by
    obtain ⟨p1, p2, p3, p4, p5⟩ := I3.pin p (List.mem_append_left _ hp)
    refine ⟨pushCells_keeps _ _ _ _ (Heap.get?_push_of_some _ p1), p2, Nat.ne_of_lt (Heap.lt_size p1), fun z => ?_, p5⟩
    exact (List.mem_cons.mp (I3.stkSub p.1 z)).elim p3 p4
  have hcB : ∀ (H : Hp) (ce : Env), L2H.HotC (blkP X s3 H scope ce fp) := fun H ce => by
    obtain ⟨p, h1, h2⟩ := hc
    exact ⟨p, h1, h2⟩
  have pg := hg s3 (upd H2 D (.lst [])) s3.heap.objs.size (cellsFrom (s3.heap.objs.size + 1) scope.names (cloFrom X.env.cells scope.names [])) fp
  have pt := ht s3 (upd H2 D (.lst [])) s3.heap.objs.size (cellsFrom (s3.heap.objs.size + 1) scope.names (cloFrom X.env.cells scope.names [])) fp
  have pe := he s3 (upd H2 D (.lst [])) s3.heap.objs.size (cellsFrom (s3.heap.objs.size + 1) scope.names (cloFrom X.env.cells scope.names [])) fp
  show codeAny _ _ (.compStart (.ListComp elt [⟨tg, iter, ifs, 0⟩] scope pos) 0 (.ref it) (.ref D) (compEnvC scope (cellsFrom (s3.heap.objs.size + 1) scope.names (cloFrom X.env.cells scope.names [])) s3.heap.objs.size X.env)) (compPost (model X.prog X.w) X.A X.xe use Qf (.ref D) s3.heap.objs.size) { s3 with heap := pushCells (s3.heap.push { cls := .type "dict", data := .dict #[] }) scope.names }
  have nfp : ∀ b ∈ fp, (upd H2 D (.lst [])) b = none := fun b hb => (f3 b hb).1.1
  generalize hce : compEnvC scope (cellsFrom (s3.heap.objs.size + 1) scope.names (cloFrom X.env.cells scope.names [])) s3.heap.objs.size X.env = ce at I4 pg pt pe ⊢
  have cL : ce.locals = s3.heap.objs.size := by subst hce; rfl
  generalize hH3 : upd H2 D (.lst []) = H3 at I3 I4 pg pt pe w0 nfp f3
  generalize hs4 : ({ s3 with heap := pushCells (s3.heap.push { cls := .type "dict", data := .dict #[] }) scope.names } : Shared) = s4 at I4 ⊢
  have st4 : tn 0 s4.heap := T.keep _ _ _ st3 fun b _ o e => by rw [← hs4]; exact pushCells_keeps _ _ _ _ (Heap.get?_push_of_some _ e)
  have stat : ∀ {σ' : L2.St} {H' : Hp} {s' : Shared}, Inv (blkP X s3 H3 scope ce fp) [] σ' H' s' → (∀ b ∈ fp, H' b = none) → ∀ b ∈ fp, FpOk (blkP X s3 H3 scope ce fp) [] H' b := fun {σ' H' s'} I' hn b hb =>
    ⟨hn b hb, (I'.ok.exf b hb).1, I'.ok.exfs b hb, .inl hb, fun x c e => (I'.ok.exf b hb).2 x c e, fun p hp => (f3 b hb).1.2.2.2.2.2 p (by rw [List.append_nil] at hp; exact List.mem_append_left _ hp)⟩
  have loop : codeAny (model X.prog X.w) X.A (.compLoop (.ListComp elt [⟨tg, iter, ifs, 0⟩] scope pos) 0 (.ref it) (.ref D) ce) (compPost (model X.prog X.w) X.A X.xe use Qf (.ref D) s3.heap.objs.size) s4 := by
    refine compLoop_any (fun n s' => ∃ i H', Inv (blkP X s3 H3 scope ce fp) [] (wipe σ (own.map (·.2))) H' s' ∧ tn i s'.heap ∧ (∀ b ∈ fp, H' b = none) ∧ W i n H') ?_ m0 ⟨0, H3, I4, st4, nfp, w0⟩
    rintro n s5 ⟨i, H5, I5, st5, n5, w5⟩
    rcases turn i n H5 w5 with ⟨stop, qq⟩ | ⟨go, Nx, hNx, step⟩
    · have td := T.done (blkP X s3 H3 scope ce fp) rfl rfl rfl (hcB _ _) i [] s5 _ H5 (fun _ _ => False) I5 (stat I5 n5) st5 stop
      refine thnF td fun r s6 ⟨hr, I6⟩ => ?_
      subst hr
      -- back in the def's context
      have I7 : Inv X pins σ H5 s6 := I3.call' (ch := fp) I6.os I6.base I6.hok I6.bare fun b hb => ⟨(f3 b hb).1.2.2.2.1, (f3 b hb).1.2.1, (f3 b hb).1.2.2.2.2.1, (f3 b hb).1.2.2.2.2.2⟩
      have nC : H5 s3.heap.objs.size = none := by
        have z : H5 ce.locals = none := I6.free
        rw [cL] at z
        exact z
      obtain ⟨m, hn, _⟩ := I6.loc
      have hn : s6.heap.Ns ce.locals m := hn
      rw [cL] at hn
      exact hRR D s3.heap.objs.size s6 m H5 I7 qq hn (I3.fpOk (Nat.le_refl _) nC)
    · have ti := T.item (blkP X s3 H3 scope ce fp) rfl rfl rfl (hcB _ _) i [] s5 _ H5 (fun _ _ => False) I5 (stat I5 n5) st5 go
      refine thnF ti fun r s6 ⟨u, hr, h6⟩ => ?_
      subst hr
      refine thnF h6 fun _ s7 ⟨x, H7, I7, r7, y7, st7, n7⟩ => ?_
      have I7' := I7.pinned (stat I7 n7) (T.obj _ _ st7)
      refine thnF (pg.run _ s7 _ H7 x u _ I7' r7 (step x H7 y7)) fun _ s8 ⟨σ8, H8, I8, hw8, q8⟩ => ?_
      refine thnF (pt.run _ s8 σ8 H8 _ I8 q8) fun b s9 ⟨H9, I9, q9⟩ => ?_
      -- the turn's end
      have fin : ∀ {s' : Shared} {H' : Hp}, Inv (blkP X s3 H3 scope ce fp) ([] ++ pinsAt fp s7.heap) σ8 H' s' → Nx H' → ∃ m, m < n ∧ ∃ i H', Inv (blkP X s3 H3 scope ce fp) [] (wipe σ (own.map (·.2))) H' s' ∧ tn i s'.heap ∧ (∀ b ∈ fp, H' b = none) ∧ W i m H' := fun {s' H'} I' nx => by
        obtain ⟨m', hm, w'⟩ := hNx H' nx
        have pin' : ∀ b ∈ fp, ∀ o, s7.heap.get? b = some o → s'.heap.get? b = some o ∧ H' b = none := fun b hb o e =>
          let z := I'.pin (b, o) (List.mem_append_right _ (List.mem_append_right _ (mem_pinsAt hb e)))
          ⟨z.1, z.2.1⟩
        have hl : (wipe σ (own.map (·.2))).length = σ8.length := by rw [← hw8, wipe_length]
        refine ⟨m', hm, i + 1, H', (I'.unpinned (pins := [])).weak hl (fun j v e => ?_), T.keep _ _ _ st7 fun b hb o e => (pin' b hb o e).1, fun b hb => ?_, w'⟩
        · rw [← hw8] at e
          exact (wipe_some e).1
        · obtain ⟨o, e, _⟩ := T.obj _ _ st7 b hb
          exact (pin' b hb o e).2
      cases b with
      | false =>
        simp only [Bool.false_eq_true, if_false] at q9 ⊢
        exact fin I9 q9
      | true =>
        simp only [if_true] at q9 ⊢
        refine thnF (pe.run _ s9 σ8 H9 _ I9 q9) fun z s10 ⟨yv, H10, I10, r10, acc, hD10, hz10, nx⟩ => ?_
        exact app_ok (X := blkP X s3 H3 scope ce fp) I10 hD10 hz10 r10 fun s11 I11 => fin I11 nx
  exact codeAny_compStart_list loop (T.self X.A 0 _ _ _ st4 loop)

theorem pe_lcH {X : Cx} {elt tg iter : Expr} {ifs : List Expr} {scope : Scope} {own : List (Str × Nat)} {pos : Pos} {wi : TI} {g : TG} {tt : TT} {te : TE} (hc : L2H.HotC X) (hN : X.N.Nodup) (hi : L2H.PIH X tg iter wi) (ok : BlkOk X.N X.env.scope scope own)
    (hg : ∀ (s : Shared) (H : Hp) (C : Addr) (cl : List (Str × Addr)) (fp : List Addr), PG (blkP X s H scope (compEnvC scope cl C X.env) fp) tg g) (ht : ∀ (s : Shared) (H : Hp) (C : Addr) (cl : List (Str × Addr)) (fp : List Addr), PTs (blkP X s H scope (compEnvC scope cl C X.env) fp) ifs tt)
    (he : ∀ (s : Shared) (H : Hp) (C : Addr) (cl : List (Str × Addr)) (fp : List Addr), PE (blkP X s H scope (compEnvC scope cl C X.env) fp) elt te) (hs : ∀ x, foldedSetIterable iter X.env x = pure x := by intro _; rfl) :
    PE X (.ListComp elt [⟨tg, iter, ifs, 0⟩] scope pos) (tLc wi g tt te (own.map (·.2))) := by
  refine ⟨fun pins s σ H Q I h => ?_⟩
  rw [eval_ListComp]
  refine lc_coreH hc hN I hi ok hg ht he hs h fun D C s' m H' I' q hn f => ⟨m, hn, fun h'' sb => ?_⟩
  obtain ⟨f0, f1, f2, f3, f4, f5⟩ := f
  exact ⟨.ref D, H', I'.turned (t' := s'.toks) (fun b o hb e => (sb.2 b hb).trans e) f0 f1 f3 f4 f5, rfl, q⟩
/-! ### a def that is handed the exception -/
structure FnE (p : Addr × Obj) (P : Program) (w : World) (K : PySem.W.Frag) (mg : Str → Option Value) (base : Heap) (CX : CXT) (k : Nat) (f : Addr) (fd : FuncData) (ps : List Str) (sp : Sp) : Prop where
  len : ∀ vs H Q E, sp vs H Q E → vs.length = ps.length
  run : ∀ (A : Around) (outer : List Env) (s : Shared) (H : Hp) (args : Args) (us : List Value) (vs : List V) (Q : VK) (E : XK), L2H.RoomH k A → L2H.Hot1 A p → L2H.PinOk outer H s p → Env0 P w K mg base A outer s H → BindsTo s fd args (ps.zip us) → Vals vs us → sp vs H Q E →
    codeAny (model P w) A (.call (.ref f) args) (CR CX outer P w H s Q E) s
theorem fn_ofE {p : Addr × Obj} {CX : CXT} {P : Program} {w : World} {K : PySem.W.Frag} {mg : Str → Option Value} {base : Heap} {k : Nat} {f : Addr} {name qual : Str} {params : Arguments} {body : List Stmt} {scope : Scope} {dV kV doc pm cdv ct oc : Value} {an od : Option Addr}
    {osl : Array (Option Value)} {N ps : List Str} {sp : Sp} (lk : K.lookup f = some ⟨oc, od, .func (PySem.W.fnOf name qual params body scope dV kV doc pm an cdv ct), osl⟩) (hcd : PySem.W.codeIn K cdv qual = true) (S : FnScope N ps scope)
    (len : ∀ vs H Q E, sp vs H Q E → vs.length = ps.length)
    (hbody : ∀ (A : Around) (outer : List Env) (s : Shared) (H : Hp) (vs : List V) (Q : VK) (E : XK), L2H.Hot1 A p → L2H.RoomH k (A.deeper (envOfC qual scope s.heap.objs.size f cdv)) → sp vs H Q E →
      ∃ t, PSs (L2H.cxH CX P w K mg base N qual scope f cdv A outer s H E p) body t ∧ t { nx := fun _ H' => Q .non H', rt := Q } (L2.start N vs) H) :
    FnE p P w K mg base CX (k + 1) f (PySem.W.fnOf name qual params body scope dV kV doc pm an cdv ct) ps sp := by
  refine ⟨len, fun A outer s H args us vs Q E hr hot hpin e0 hb r hsp => ?_⟩
  have hl := len _ _ _ _ hsp
  have KX : K.In s.heap := e0.mod.kin.keeps fun b o e => (e0.bs b o e).1
  have lim : s.heap.NoLimit := e0.mod.nolimit.keeps fun b o e => (e0.bs b o e).1
  have hkind : ∀ y ∈ ps.zip us, scope.names.lookup y.1 = some .local ∨ (scope.names.lookup y.1 = some .cell ∧ ((cellsFrom (s.heap.objs.size + 1) scope.names []).lookup y.1).isSome = true) := fun ⟨n, v⟩ hy => by
    rcases S.par n (List.of_mem_zip hy).1 with q | q
    · exact .inl q
    · exact .inr ⟨q, PySem.W.cellsFrom_some _ _ _ (.inl q)⟩
  refine codeAny_call_function hr.depth (KX _ _ lk) rfl S.co S.gen rfl (PySem.W.codeRec_of KX hcd) (hb _ _ _ _ ?_)
  refine wpAny_newFunctionEnv_cells S.kind hkind fun env he s1 x => ?_
  subst he
  refine ⟨lim.keeps x.toInCall.keep, codeAny_func ?_⟩
  obtain ⟨t, ht, hq⟩ := hbody A outer s H vs Q E hot (hr.deeper _) hsp
  have I : Inv (L2H.cxH CX P w K mg base N qual scope f cdv A outer s H E p) [] (L2.start N vs) H s1 := L2H.inv_startH S hpin e0 hl r x
  refine wpAny_mono (ht.run [] s1 (L2.start N vs) H _ I hq) (fun fl s' hs => ?_) fun e s' hs => hs
  have fin : ∀ {σ' : L2.St} {H' : Hp} {v : V} {u : Value}, Inv (L2H.cxH CX P w K mg base N qual scope f cdv A outer s H E p) [] σ' H' s' → RelV v u → Q v H' → CE outer P w H s Q u s' :=
    fun {σ' H' v u} J rv q => ⟨v, H', J.os, J.bare, J.base, J.hok, rv, q⟩
  cases fl with
  | ret u =>
    obtain ⟨v, σ', H', J, rv, q⟩ := hs
    exact fin J rv q
  | next =>
    obtain ⟨σ', H', J, q⟩ := hs
    exact fin (v := V.non) (u := Value.none) J rfl q
  | brk =>
    obtain ⟨_, _, _, q⟩ := hs
    exact False.elim q
  | cont =>
    obtain ⟨_, _, _, q⟩ := hs
    exact False.elim q


section
variable {X : Cx} {CX : CXT} {k : Nat} {f C : Addr} {fd : FuncData} {ps : List Str} {sp : Sp} {E : L2.St → XK} {x m : Str} {q pos apos : Pos} {e o : Expr} {es : List Expr} {ta : TE} {t : TA}
theorem run_fnE {p : Addr × Obj} {pins : List (Addr × Obj)} {σ : L2.St} {H : Hp} {s : Shared} {Q : VK} {us : List Value} {vs : List V} (F : FnE p X.prog X.w X.K X.mg X.base CX k f fd ps sp) (hr : L2H.RoomH k X.A) (hot : L2H.Hot1 X.A p) (hp : p ∈ X.pn) (hb : Binds X.K fd ps []) (hx : PassesAt CX X σ (E σ))
    (I : Inv X pins σ H s) (r : Vals vs us) (h : sp vs H Q (E σ)) : wpAny (model X.prog X.w) X.A (call (.ref f) us) (EP X pins σ Q) X.xe s := by
  have hl : us.length = ps.length := by rw [← r.length]; exact F.len _ _ _ _ h
  have b := hb s us I.kIn (by rw [List.append_nil]; exact hl)
  rw [List.append_nil] at b
  have P1 := I.pin p (List.mem_append_left _ hp)
  have hpin : L2H.PinOk X.stack H s p := ⟨P1.1, P1.2.1, fun hm => (List.mem_cons.mp (I.stkSub p.1 hm)).elim P1.2.2.1 P1.2.2.2.1, P1.2.2.2.2⟩
  refine wpAny_call (codeAny_mono (F.run X.A X.stack s H ⟨us, []⟩ us vs Q (E σ) hr hot hpin I.env0 b r h) fun r s' hq => ?_)
  cases r with
  | error e => exact hx pins H s e s' I hq
  | ok fl =>
    cases fl with
    | ret u => exact I.after hq
    | next => exact False.elim hq
    | brk => exact False.elim hq
    | cont => exact False.elim hq
theorem pe_callE {p : Addr × Obj} (F : FnE p X.prog X.w X.K X.mg X.base CX k f fd ps sp) (hr : L2H.RoomH k X.A) (hot : L2H.Hot1 X.A p) (hp : p ∈ X.pn) (hg : Gl X x) (hm : X.mg x = some (.ref f)) (hk : PySem.W.keepIn X.K (.ref f) = true) (hb : Binds X.K fd ps []) (hx : ∀ σ, PassesAt CX X σ (E σ))
    (ha : PA X (e :: es) t) (hdb : (x == ("__debug__" : Str)) = false := by decide) (he : starEach (e :: es) X.env = (false, eval e X.env) :: starEach es X.env := by rfl) (hpl : (backTo pos (starEach es X.env)).any (·.1) = false := by rfl) :
    PE X (.Call (.Name x q) (e :: es) [] pos) (tCallS sp E t) := by
  refine ⟨fun pins s σ H Q I h => ?_⟩
  refine wpAny_Call_Name_kw (ld_glob I hg hm ?_ hdb)
  refine PySem.W.callWith_K (h₀ := X.base) I.ok.mod.kin hk (thn (ha.run pos pins s σ H _ I h) fun us s1 ⟨vs, H1, I1, r, q⟩ => ⟨I1.kIn, ?_⟩) he hpl
  exact run_fnE F hr hot hp hb (hx σ) I1 r q

end
theorem call_isP {X : Cx} {a D : Addr} {oe : Obj} (hp : (a, oe) ∈ X.pn) (C : ExcC X.K D) (hz : Zc (.ref D) none oe) (hf : ∃ vs, oe.data = .fields vs) : CallR X (.builtin "isinstance") (rIsE X.K D a) := by
  intro pins s σ H xs us Q I r h
  obtain ⟨c, cv, b, rfl, hcv, e, q⟩ := h
  cases r with
  | cons rx rr =>
    cases rr with
    | cons rt rr =>
      cases rr
      cases rx
      have ec := hcv _ rt
      subst ec
      obtain ⟨hget, _⟩ := I.pin (a, oe) (List.mem_append.mpr (.inl hp))
      obtain ⟨vs, hv⟩ := hf
      have J : PySem.W.InstAt s.heap a oe D none := by
        obtain ⟨oc, od, oda, osl⟩ := oe
        obtain ⟨h1, h2⟩ := hz
        dsimp only at h1 h2 hv
        subst h1 h2 hv
        exact ⟨hget, rfl, rfl, trivial⟩
      exact PySem.W.kia_one (PySem.W.handS_kitx_exc C.hg C.hk C.hs C.hd C.ha C.hn C.ht C.hm) I.kIn J e (fun z => nomatch z) fun tk => ⟨.bl b, H, I.kept (t' := tk) fun _ _ z => z, rfl, q⟩

theorem Fun_okE {p : Addr × Obj} {P : Program} {w : World} {K : PySem.W.Frag} {mg : Str → Option Value} {base : Heap} {x qual : Str} {st : Stmt} {f : Addr} {fd : FuncData} {N ps : List Str} {k : Nat} {sp : Sp} (F : Fun K x qual st f fd) (S : FnScope N ps (defScope st)) (len : ∀ vs H Q E, sp vs H Q E → vs.length = ps.length)
    (hbody : ∀ (cdv : Value) (A : Around) (outer : List Env) (s : Shared) (H : Hp) (vs : List V) (Q : VK) (E : XK), L2H.Hot1 A p → L2H.RoomH k (A.deeper (envOfC qual (defScope st) s.heap.objs.size f cdv)) → sp vs H Q E →
      ∃ t, PSs (L2H.cxH CX0 P w K mg base N qual (defScope st) f cdv A outer s H E p) (defBody st) t ∧ t { nx := fun _ H' => Q .non H', rt := Q } (L2.start N vs) H) : FnE p P w K mg base CX0 (k + 1) f fd ps sp := by
  obtain ⟨oc, od, kV, doc, pm, an, cdv, ct, osl, rfl, lk, hcd⟩ := F.ex
  exact fn_ofE lk hcd S len fun A outer s H vs Q E hot hr hsp => hbody cdv A outer s H vs Q E hot hr hsp
theorem hot1_of {A : Around} {a : Addr} {oe : Obj} {cls : Value} {d : Option Addr} (hz : L2N.Zn cls d oe) (hf : ∃ vs, oe.data = .fields vs) : L2H.Hot1 (A.mark (some (.ref a))) (a, oe) := by
  obtain ⟨vs, e⟩ := hf
  exact ⟨rfl, vs, e, hz.2.2 vs e⟩
theorem call_isGP {Xc : Cx} {a : Addr} {oe : Obj} {cls : Value} {d : Option Addr} (hp : (a, oe) ∈ Xc.pn) (hz : Zc cls d oe) (hf : ∃ vs, oe.data = .fields vs) : CallR Xc (.builtin "isinstance") (rIsG Xc.K cls d a) := by
  intro pins s σ H xs us Q I r h
  obtain ⟨D, c, cv, b, rfl, rfl, E, rfl, hc, k, q⟩ := h
  exact call_isP hp E hz hf pins s σ H _ us Q I r ⟨c, cv, b, rfl, hc, k, q⟩
theorem _root_.L2H.RoomH.units {k : Nat} {A : Around} (r : L2H.RoomH k A) : A.units + 64 < cLine := by have := r.un; omega
theorem roomSH {k : Nat} {A : Around} {v : Option Value} (r : Room k A) : L2H.RoomH k (A.mark v) := ⟨r.dp, r.un⟩
theorem As.rf {K : PySem.W.Frag} {X : Addr → Prop} {H : Hp} {a : Addr} {Γ : List Sl} {vs : List V} (t : As K X H Γ vs) : As K X H (.ref a :: Γ) (.ref a :: vs) := ⟨_, vs, rfl, rfl, t⟩
def rMulS : R2 := fun x y H Q => ∃ z n, x = .str z ∧ y = .int n ∧ MulOk z n ∧ Q (.str (Txt.mul z n)) H
theorem op_mulS {Xc : Cx} : OpR Xc (binaryOp .Mult) rMulS := by
  intro pins s σ H x y v u Q I rx ry h
  obtain ⟨z, n, rfl, rfl, hok, q⟩ := h
  obtain ⟨t1, rfl⟩ := rx
  obtain ⟨t2, rfl⟩ := ry
  exact SB.mul hok fun t' k => ⟨.str (Txt.mul z n), H, I.kept (t' := k) fun _ _ z => z, ⟨t', rfl⟩, q⟩
instance (z : Str) (n : Int) : Decidable (MulOk z n) := by unfold MulOk; infer_instance
def mulS (z : Str) (n : Int) : Option Str := if MulOk z n then some (Txt.mul z n) else none
section
variable {H : Hp} {Q : VK} {ρ : Type}
theorem x_mulS {a : Str} {n : Int} {k : Str → Option ρ} {r : ρ} (hm : (mulS a n).bind k = some r) (h : ∀ z, k z = some r → Q (.str z) H) : rMulS (.str a) (.int n) H Q := by
  obtain ⟨z, hz, hk⟩ := ob hm
  unfold mulS at hz
  split at hz
  · next ok => cases hz; exact ⟨a, n, rfl, rfl, ok, h _ hk⟩
  · cases hz
end
/-! loops whose bodies raise -/
section
variable {C : Cn} {X : Addr → Prop} {H : Hp} {σ : L2.St} {Γ Γ' : List Sl} {Q : VK} {α β τ ρ : Type}
def BodyX (C : Cn) (X : Addr → Prop) (G : τ → List Sl) (d : PyData) (s : τ) (o : Option (Lp τ ρ)) (g : TG) (tb : TS) : Prop :=
  ∀ (H : Hp) (σ : L2.St) (u : V) (nx : L2.St → Hp → Prop) (rt : VK) (bk ct : L2.St → Hp → Prop) (o1 : Lp τ ρ), o = some o1 → Same C.H0 H → Lo ⟨C.K, X, H, muts (G s), C.n⟩ X H σ (G s) → (∀ a, C.H0 a ≠ none → H a ≠ none) → Rep C.K X H d u →
    (∀ s', o1 = .nxt s' → ∀ X' σ' H', Lo ⟨C.K, X, H, muts (G s), C.n⟩ X' H' σ' (G s') → nx σ' H') →
    (∀ s', o1 = .nxt s' → ∀ X' σ' H', Lo ⟨C.K, X, H, muts (G s), C.n⟩ X' H' σ' (G s') → ct σ' H') →
    (∀ s', o1 = .brk s' → ∀ X' σ' H', Lo ⟨C.K, X, H, muts (G s), C.n⟩ X' H' σ' (G s') → bk σ' H') → g u σ H fun σ2 H2 => tb ⟨nx, rt, bk, ct⟩ σ2 H2
theorem x_frY {x : Str} {f : Ch → τ → Option (Lp τ ρ)} {G : τ → List Sl} {s0 : τ} {g : TG} {tb : TS} {nx bk ct : L2.St → Hp → Prop} {rt : VK} {k : τ → Option β} {j : ρ → Option β} {res : β}
    (h0 : C.P0 = []) (L : Lo C X H σ (G s0)) (hG : ∀ s s', muts (G s) = muts (G s')) (hm : (loopL f (chs x) s0).bind (fun o => o.out j k) = some res)
    (body : ∀ x s, BodyX C X G (enc x) s (f x s) g tb) (done : ∀ s σ' H', k s = some res → Lo C X H' σ' (G s) → nx σ' H') : KForY g tb ⟨nx, rt, bk, ct⟩ σ (.str x) H := by
  obtain ⟨o, hm, ho⟩ := ob hm
  have hlen : (chs x).length = x.cps.size := by unfold chs; rw [List.length_map, Array.length_toList]
  refine ⟨x, rfl, for_chs (fun i σ' H' => ∃ s, Lo C X H' σ' (G s) ∧ loopL f ((chs x).drop i) s = some o) ⟨s0, L, hm⟩ ?_ ?_⟩
  · rintro i c σ' H' hc ⟨s, L', hm'⟩
    have hx : (chs x)[i]? = some ⟨c⟩ := by unfold chs; rw [List.getElem?_map, Array.getElem?_toList, hc]; rfl
    obtain ⟨o1, h1, h2, h3, h4⟩ := loop_drop hx hm'
    refine body ⟨c⟩ s H' σ' _ _ _ _ _ o1 h1 (L'.same0 h0) L'.enter L'.dom (.str _) ?_ ?_ ?_
    · intro s' e X' σ'' H'' L''
      exact ⟨s', L'.leave L'' (hG _ _), h2 s' e⟩
    · intro s' e X' σ'' H'' L''
      exact ⟨s', L'.leave L'' (hG _ _), h2 s' e⟩
    · intro s' e X' σ'' H'' L''
      have e1 := h3 s' e
      subst e1
      exact done s' _ _ ho (L'.leave L'' (hG _ _))
  · rintro σ' H' ⟨s, L', hm'⟩
    have : (chs x).drop x.cps.size = [] := List.drop_eq_nil_of_le (by omega)
    rw [this] at hm'
    cases hm'
    exact done s _ _ ho L'
end
/-! comprehensions over a text -/
theorem lc_chs {x : Str} {g : TG} {tt : TT} {te : TE} {vs : List Nat} {σ : L2.St} {H1 : Hp} {D : Addr} {Qd : Hp → Prop} (Pv : Nat → Hp → Prop) (h0 : Pv 0 (upd H1 D (.lst [])))
    (hs : ∀ i c H, x.cps[i]? = some c → Pv i H → g (.str ⟨#[c]⟩) (wipe σ vs) H fun σ2 H2 => wipe σ2 vs = wipe σ vs ∧ tt σ2 H2 fun b H3 =>
      if b = true then te σ2 H3 fun y H4 => ∃ acc, H4 D = some (.lst acc) ∧ acc.length < sizeLine ∧ Pv (i + 1) (upd H4 D (.lst (acc ++ [y]))) else Pv (i + 1) H3) (hd : ∀ H, Pv x.cps.size H → Qd H) :
    ∃ W : Nat → Nat → Hp → Prop, (∃ m, W 0 m (upd H1 D (.lst []))) ∧ ∀ i m H, W i m H →
      ((Its x).stop i H ∧ Qd H) ∨ ((Its x).go i H ∧ ∃ Nx : Hp → Prop, (∀ H', Nx H' → ∃ m', m' < m ∧ W (i + 1) m' H') ∧ ∀ x' H', (Its x).yld i H x' H' → g x' (wipe σ vs) H' fun σ2 H2 => wipe σ2 vs = wipe σ vs ∧ tt σ2 H2 fun b H3 =>
        if b = true then te σ2 H3 fun y H4 => ∃ acc, H4 D = some (.lst acc) ∧ acc.length < sizeLine ∧ Nx (upd H4 D (.lst (acc ++ [y]))) else Nx H3) := by
  refine ⟨fun i m H => m = x.cps.size - i ∧ i ≤ x.cps.size ∧ Pv i H, ⟨x.cps.size, by simp, Nat.zero_le _, h0⟩, ?_⟩
  rintro i m H ⟨rfl, hi, p⟩
  by_cases hlt : i < x.cps.size
  · refine .inr ⟨hlt, Pv (i + 1), fun H' p' => ⟨x.cps.size - (i + 1), by omega, rfl, hlt, p'⟩, ?_⟩
    rintro v H' ⟨rfl, c, hc, rfl⟩
    exact hs i c _ hc p
  · have e : i = x.cps.size := by omega
    subst e
    exact .inl ⟨Nat.le_refl _, hd H p⟩
section
variable {C : Cn} {X : Addr → Prop} {H : Hp} {σ : L2.St} {Γ Γ' : List Sl} {Q : VK} {α β τ ρ : Type}
def KLcY (g : TG) (tt : TT) (te : TE) (ws : List Nat) (σ : L2.St) (Q : VK) (v : V) (H : Hp) : Prop := ∃ x, v = V.str x ∧ ∀ D, H D = none → ∃ W : Nat → Nat → Hp → Prop, (∃ m, W 0 m (upd H D (.lst []))) ∧ ∀ i m H, W i m H →
      ((Its x).stop i H ∧ Q (.ref D) H) ∨ ((Its x).go i H ∧ ∃ Nx : Hp → Prop, (∀ H', Nx H' → ∃ m', m' < m ∧ W (i + 1) m' H') ∧ ∀ x' H', (Its x).yld i H x' H' → g x' (wipe σ ws) H' fun σ2 H2 => wipe σ2 ws = wipe σ ws ∧ tt σ2 H2 fun b H3 =>
        if b = true then te σ2 H3 fun y H4 => ∃ acc, H4 D = some (.lst acc) ∧ acc.length < sizeLine ∧ Nx (upd H4 D (.lst (acc ++ [y]))) else Nx H3)
theorem x_lcy {tl te : TE} {g : TG} {tt : TT} {ws : List Nat} (h : tl σ H (KLcY g tt te ws σ Q)) : tLc (iStr tl) g tt te ws σ H Q := h
theorem x_lcY0 [Py β] {x : Str} {f : Ch → τ → Option (Option β × τ)} {G : τ → List Sl} {s0 : τ} {q : List β × τ} {g : TG} {tt : TT} {te : TE} {ws : List Nat}
    (L : Lo C X H σ (G s0)) (hG : ∀ s s', muts (G s) = muts (G s')) (hm : compL f (chs x) s0 = some q) (hl : (chs x).length ≤ 16777216)
    (body : ∀ x s, BodyC C X G (enc x) s (f x s) g tt te ws)
    (done : ∀ D H', H D = none → C.H0 D = none → ¬ C.X0 D → Lo C (fun a => X a ∨ a = D) H' σ (G q.2) → Keep X H H' → MRep C.K (fun a => X a ∨ a = D) H' D (ml q.1) → Q (.ref D) H') :
    KLcY g tt te ws σ Q (.str x) H := by
  have hlen : (chs x).length = x.cps.size := by unfold chs; rw [List.length_map, Array.length_toList]
  refine ⟨x, rfl, fun D hD => ?_⟩
  have h0 : C.H0 D = none := by
    cases e : C.H0 D with
    | none => rfl
    | some o => exact (L.dom D (by rw [e]; exact fun z => nomatch z) hD).elim
  have hDm : ∀ s, D ∉ muts (G s) := fun s h => L.xd D (L.mx D (hG s s0 ▸ h)) hD
  have sm : Same H (upd H D (.lst [])) := same_upd hD
  have lay := L.lay (p := D) (o := .lst []) hD sm ⟨[], upd_same, .nil⟩
  have L1 : Lo C (fun a => X a ∨ a = D) (upd H D (.lst [])) σ (G s0) := by
    refine ⟨L.len, fun i s hi => ?_, L.nd, fun p hp => .inl (L.mx p hp), fun a h => .inl (L.m0 a h), lay.1.xd, lay.1.base, lay.1.dom, L.own, L.tf⟩
    refine lay.1.at_ i s ?_
    rw [List.getElem?_append_left (List.getElem?_eq_some_iff.mp hi).1]
    exact hi
  refine lc_chs (x := x) (fun i H' => ∃ s ys acc q', Lo C (fun a => X a ∨ a = D) H' σ (G s) ∧ H' D = some (.lst acc) ∧ Reps C.K (fun a => X a ∨ a = D) H' (ys.map enc) acc ∧
      compL f ((chs x).drop i) s = some q' ∧ q = (ys ++ q'.1, q'.2) ∧ ys.length ≤ i ∧ Keep X H H')
    ⟨s0, [], [], q, L1, upd_same, .nil, hm, rfl, Nat.le_refl _, .same sm⟩ ?_ ?_
  · rintro i c H' hc ⟨s, ys, acc, q', L', hacc, hys, hq', eq, hyl, hk⟩
    have hx : (chs x)[i]? = some ⟨c⟩ := by unfold chs; rw [List.getElem?_map, Array.getElem?_toList, hc]; rfl
    have hi : i < x.cps.size := (Array.getElem?_eq_some_iff.mp hc).1
    obtain ⟨r1, q1, h1, h2, h3⟩ := comp_drop hx hq'
    refine body ⟨c⟩ s _ H' σ _ r1 _ _ h1 L'.enter (.str _) ?_ ?_
    · intro e H'' M
      have k := L'.keep M
      have kd : H'' D = some (.lst acc) := M.base D _ hacc (hDm s)
      refine ⟨r1.2, ys, acc, q1, L'.leave M (hG _ _), kd, hys.keep k, h2, ?_, Nat.le_succ_of_le hyl, ?_⟩
      · rw [eq, h3, e]
      · refine ⟨fun b o hb n => ?_, fun b vs hb => k.2.1 b vs (hk.2.1 b vs hb), fun b o u hb => k.2.2 b o u (hk.2.2 b o u hb)⟩
        have hbD : b ≠ D := fun z => by rw [z, hD] at hb; cases hb
        exact k.1 b o (hk.1 b o hb n) fun z => z.elim n hbD
    · intro yv e v H'' M rv
      have k := L'.keep M
      have kd : H'' D = some (.lst acc) := M.base D _ hacc (hDm s)
      have L2 := L'.leave M (hG _ _)
      obtain ⟨L3, k3⟩ := L2.wroteX (p := D) (o' := .lst (acc ++ [v])) (.inr rfl) (hDm _) kd h0 (fun _ z => nomatch z) (fun _ _ z => nomatch z)
      have k4 := k.trans k3
      have hal : acc.length = ys.length := by rw [hys.length, List.length_map]
      refine ⟨acc, kd, by rw [line_eq]; omega, r1.2, ys ++ [yv], acc ++ [v], q1, L3, upd_same, ?_, h2, ?_, ?_, ?_⟩
      · rw [List.map_append]
        exact (hys.keep k4).append (.cons (rv.keep k3) .nil)
      · rw [eq, h3, e]
        show (ys ++ yv :: q1.1, q1.2) = (ys ++ [yv] ++ q1.1, q1.2)
        rw [List.append_assoc]; rfl
      · rw [List.length_append]; exact Nat.succ_le_succ hyl
      · refine ⟨fun b o hb n => ?_, fun b vs hb => k4.2.1 b vs (hk.2.1 b vs hb), fun b o u hb => k4.2.2 b o u (hk.2.2 b o u hb)⟩
        have hbD : b ≠ D := fun z => by rw [z, hD] at hb; cases hb
        exact k4.1 b o (hk.1 b o hb n) fun z => z.elim n hbD
  · rintro H' ⟨s, ys, acc, q', L', hacc, hys, hq', eq, _, hk⟩
    have : (chs x).drop x.cps.size = [] := List.drop_eq_nil_of_le (by omega)
    rw [this] at hq'
    cases hq'
    rw [List.append_nil] at eq
    subst eq
    exact done D H' hD h0 (fun z => L.xd D (L.m0 D z) hD) L' hk ⟨acc, hacc, hys⟩
theorem x_lcY [Py β] {x : Str} {f : Ch → τ → Option (Option β × τ)} {G : τ → List Sl} {s0 : τ} {q : List β × τ} {g : TG} {tt : TT} {te : TE} {ws : List Nat} (L : Lo C X H σ (G s0)) (hG : ∀ s s', muts (G s) = muts (G s')) (hm : compL f (chs x) s0 = some q) (hl : (chs x).length ≤ 16777216)
    (body : ∀ x s, BodyC C X G (enc x) s (f x s) g tt te ws) (h : ∀ D H', Lo C X H' σ (G q.2) → (∀ d u, Rep C.K X H d u → Rep C.K X H' d u) → Rep C.K X H' (enc q.1) (.ref D) → Q (.ref D) H') : KLcY g tt te ws σ Q (.str x) H :=
  x_lcY0 L hG hm hl body (fun D H' hD h0 hx M k m => lc_data L hD M (hG _ _) k m (h D H'))
end
def m__law_cell (a__law_script : (List Int)) (a__law_k : Int) : Option Int :=
 if (decide (a__law_k < (a__law_script.length : Int))) = true then
 ((ix a__law_script a__law_k).bind fun x1 =>
 some x1)
 else
 (some 0)
def m__law_bag (a__law_cell_here : Int) : Option (List Int) :=
 if (decide (1000000000000000000 ≤ a__law_cell_here)) = true then
 (some ([a__law_cell_here, (a__law_cell_here % 2147483647)]))
 else
 (some ([0, ((((a__law_cell_here % 2147483647) * 69621) + 7) % 2147483647)]))
def m__law_draw (a__law_bag_here : (List Int)) (a__law_many : Int) : Option (Int × (List Int)) :=
 (ix a__law_bag_here 0).bind fun x1 =>
 if (decide (0 < x1)) = true then
 ((ix a__law_bag_here 0).bind fun x2 =>
 (modG x2 a__law_many).bind fun z1 =>
 (ix a__law_bag_here 0).bind fun x3 =>
 (divG x3 a__law_many).bind fun z2 =>
 (setI a__law_bag_here 0 z2).bind fun y1 =>
 some ((z1, y1)))
 else
 ((ix a__law_bag_here 1).bind fun x4 =>
 (setI a__law_bag_here 1 ((((x4 * 48271) + 4099) % 2147483647))).bind fun y2 =>
 (ix y2 1).bind fun x5 =>
 (ix y2 1).bind fun x6 =>
 (mulG x5 (((x6 / 65536) + 7))).bind fun z3 =>
 (modG (((z3 % 2147483629) / 32)) a__law_many).bind fun z4 =>
 some ((z4, y2)))
def m__law_great (a__law_bag_here : (List Int)) : Option (Int × (List Int)) :=
 (m__law_draw a__law_bag_here 100).bind fun z1 =>
 (foldO (fun (x1 : Int) (s1 : ((List Int) × Int)) =>
 ((m__law_draw s1.1 10000000).bind fun z2 =>
 (some (((s1.2 * 10000000) + z2.1))).bind fun (number_1 : Int) =>
 some ((z2.2, number_1)))) (rangeL 0 4) ((z1.2, z1.1))).bind fun (s2 : ((List Int) × Int)) =>
 some ((s2.2, s2.1))
def m__law_signed (a__law_bag_here : (List Int)) : Option (Int × (List Int)) :=
 (m__law_draw a__law_bag_here 2).bind fun z1 =>
 if (decide (z1.1 = 0)) = true then
 ((m__law_great z1.2).bind fun z2 =>
 some ((z2.1, z2.2)))
 else
 ((m__law_great z1.2).bind fun z3 =>
 some (((-z3.1), z3.2)))
def m__law_gcd (a__law_one : Int) (a__law_two : Int) : Option Int :=
 (some ((iabs a__law_one))).bind fun (one_1 : Int) =>
 (some ((iabs a__law_two))).bind fun (two_1 : Int) =>
 (loopW (ρ := Empty) (fun (s1 : (Int × Int)) =>
 (if (decide (0 < s1.2)) = true then
 ((modG s1.1 s1.2).bind fun z1 =>
 some (.nxt ((s1.2, z1))))
 else
 (some (.brk ((s1.1, s1.2)))))) (two_1.natAbs + 2) ((one_1, two_1))).bind fun o => o.out (fun (e : Empty) => e.elim) fun (s2 : (Int × Int)) =>
 some s2.1
def m__law_lowest_b (a__law_top : Int) (a__law_bottom : Int) : Option (T2 Int Int) :=
 if (decide (a__law_bottom < 0)) = true then
 (none)
 else
 ((m__law_gcd a__law_top a__law_bottom).bind fun z1 =>
 (divG a__law_top z1).bind fun z2 =>
 (divG a__law_bottom z1).bind fun z3 =>
 some ((T2.mk z2 z3)))
def m__law_lowest (a__law_top : Int) (a__law_bottom : Int) : Option (T2 Int Int) :=
 if (decide (a__law_bottom < 0)) = true then
 ((m__law_lowest_b ((-a__law_top)) ((-a__law_bottom))).bind fun z1 =>
 some z1)
 else
 ((m__law_gcd a__law_top a__law_bottom).bind fun z2 =>
 (divG a__law_top z2).bind fun z3 =>
 (divG a__law_bottom z2).bind fun z4 =>
 some ((T2.mk z3 z4)))
def m__law_rat (a__law_bag_here : (List Int)) : Option ((T2 Int Int) × (List Int)) :=
 (m__law_draw a__law_bag_here 4).bind fun z1 =>
 if (decide (z1.1 = 0)) = true then
 ((m__law_signed z1.2).bind fun z2 =>
 (m__law_great z2.2).bind fun z3 =>
 (m__law_lowest z2.1 ((1 + (z3.1 / 2)))).bind fun z4 =>
 some ((z4, z3.2)))
 else
 (if (decide (z1.1 = 1)) = true then
 ((m__law_draw z1.2 20001).bind fun z5 =>
 (m__law_draw z5.2 500).bind fun z6 =>
 (m__law_lowest ((z5.1 - 10000)) ((1 + z6.1))).bind fun z7 =>
 some ((z7, z6.2)))
 else
 ((m__law_draw z1.2 25).bind fun z8 =>
 (m__law_draw z8.2 6).bind fun z9 =>
 (m__law_lowest ((z8.1 - 12)) ((1 + z9.1))).bind fun z10 =>
 some ((z10, z9.2))))
def m__law_text (a__law_one : (T2 Int Int)) : Option Str :=
 if (decide (a__law_one.b = 1)) = true then
 ((strI a__law_one.a).bind fun x1 =>
 some x1)
 else
 ((strI a__law_one.a).bind fun x2 =>
 (lenOk (x2.length + (("/" : Str)).length)).bind fun _ =>
 (strI a__law_one.b).bind fun x3 =>
 (lenOk (((x2 ++ ("/" : Str))).length + x3.length)).bind fun _ =>
 some (((x2 ++ ("/" : Str)) ++ x3)))
def m__law_is_whole (a__law_text_here : Str) : Option Bool :=
 (lenOk a__law_text_here.length).bind fun _ =>
 (if (!(((decide (1 ≤ (a__law_text_here.length : Int))) && (decide ((a__law_text_here.length : Int) ≤ 30))))) = true then some true else
 ((lenOk ((chs a__law_text_here).length)).bind fun _ =>
 (mapO (fun (x2 : Ch) =>
 (some ((inS x2 (("0123456789" : Str)))))) (chs a__law_text_here)).bind fun ys2 =>
 some ((!((ys2.all id)))))).bind fun w1 =>
 if w1 = true then
 (some false)
 else
 ((if (decide (a__law_text_here = ("0" : Str))) = true then some true else
 ((ixS a__law_text_here 0).bind fun x4 =>
 some ((!decide (x4 = ("0" : Str)))))).bind fun w2 =>
 some w2)
def m__law_ratio_in (a__law_text_here : Str) : Option (Option (T2 Int Int)) :=
 (lenOk a__law_text_here.length).bind fun _ =>
 (if (decide ((cutS a__law_text_here none (some 1)) = ("-" : Str))) = true then
 ((lenOk a__law_text_here.length).bind fun _ =>
 (some ((cutS a__law_text_here (some 1) none))).bind fun (rest_1 : Str) =>
 some rest_1)
 else
 (some a__law_text_here)).bind fun (s1 : Str) =>
 (lenOk (s1.length + 2)).bind fun _ =>
 (some ((Txt.split s1 (("/" : Str))))).bind fun (parts_1 : (List Str)) =>
 (if (decide (2 < (parts_1.length : Int))) = true then some true else
 ((lenOk parts_1.length).bind fun _ =>
 (mapO (fun (x2 : Str) =>
 ((m__law_is_whole x2).bind fun z2 =>
 some z2)) parts_1).bind fun ys2 =>
 (if (!((ys2.all id))) = true then some true else
 ((lenOk a__law_text_here.length).bind fun _ =>
 some ((decide ((cutS a__law_text_here none (some 2)) = ("-0" : Str)))))).bind fun w2 =>
 some w2)).bind fun w3 =>
 if w3 = true then
 (some ((none : (Option (T2 Int Int)))))
 else
 ((lenOk parts_1.length).bind fun _ =>
 (mapO (fun (x3 : Str) =>
 ((intT x3).bind fun x4 =>
 some x4)) parts_1).bind fun ys3 =>
 (lenOk (ys3.length + ([1]).length)).bind fun _ =>
 (if (decide ((parts_1.length : Int) = 2)) = true then
 ((ix ((ys3 ++ [1])) 1).bind fun x10 =>
 (if (decide (x10 < 2)) = true then some true else
 ((ix ((ys3 ++ [1])) 0).bind fun x13 =>
 (ix ((ys3 ++ [1])) 1).bind fun x14 =>
 (m__law_gcd x13 x14).bind fun z6 =>
 some ((!decide (z6 = 1))))).bind fun w5 =>
 some w5)
 else some false).bind fun w6 =>
 if w6 = true then
 (some ((none : (Option (T2 Int Int)))))
 else
 ((if (!decide (s1 = a__law_text_here)) = true then
 ((ix ((ys3 ++ [1])) 0).bind fun x15 =>
 (setI ((ys3 ++ [1])) 0 ((-x15))).bind fun y4 =>
 some y4)
 else
 (some ((ys3 ++ [1])))).bind fun (s11 : (List Int)) =>
 (ix s11 0).bind fun x16 =>
 (ix s11 1).bind fun x17 =>
 some ((some ((T2.mk x16 x17))))))
def m__law_point_in (a__law_text_here : Str) : Option (Option (T2 (T2 Int Int) (T2 Int Int))) :=
 (lenOk (a__law_text_here.length + 2)).bind fun _ =>
 (some ((Txt.split a__law_text_here (("," : Str))))).bind fun (parts_1 : (List Str)) =>
 if (!decide ((parts_1.length : Int) = 2)) = true then
 (some ((none : (Option (T2 (T2 Int Int) (T2 Int Int))))))
 else
 ((lenOk parts_1.length).bind fun _ =>
 (mapO (fun (x1 : Str) =>
 ((m__law_ratio_in x1).bind fun z1 =>
 some z1)) parts_1).bind fun ys1 =>
 if (memB ((none : (Option (T2 Int Int)))) ys1) = true then
 (some ((none : (Option (T2 (T2 Int Int) (T2 Int Int))))))
 else
 ((ix ys1 0).bind fun x2 =>
 x2.bind fun x3 =>
 (ix ys1 1).bind fun x4 =>
 x4.bind fun x5 =>
 some ((some ((T2.mk x3 x5))))))
def m_read_whole (a_text : Str) : Option Int :=
 (lenOk a_text.length).bind fun _ =>
 (if (!(((decide (1 ≤ (a_text.length : Int))) && (decide ((a_text.length : Int) ≤ 30))))) = true then some true else
 ((ixS a_text 0).bind fun x2 =>
 some (((decide (x2 = ("0" : Str))) && (!decide (a_text = ("0" : Str))))))).bind fun w1 =>
 if w1 = true then
 (none)
 else
 ((foldO (fun (x3 : Ch) (s2 : Unit) =>
 (if (!inS x3 (("0123456789" : Str))) = true then
 (none)
 else
 (some (())))) (chs a_text) (())).bind fun (s3 : Unit) =>
 (intT a_text).bind fun x4 =>
 some x4)
def m_read_whole_x (a_text : Str) : Option Unit :=
 (lenOk a_text.length).bind fun _ =>
 (if (!(((decide (1 ≤ (a_text.length : Int))) && (decide ((a_text.length : Int) ≤ 30))))) = true then some true else
 ((ixS a_text 0).bind fun x2 =>
 some (((decide (x2 = ("0" : Str))) && (!decide (a_text = ("0" : Str))))))).bind fun w1 =>
 if w1 = true then
 (some ())
 else
 ((loopL (ρ := Unit) (fun (x3 : Ch) (s2 : Unit) =>
 (if (!inS x3 (("0123456789" : Str))) = true then
 (some (.ret ()))
 else
 (some (.nxt (()))))) (chs a_text) (())).bind fun o => o.out (fun r => some r) fun (s3 : Unit) =>
 none)
def m_greatest_divisor (a_a : Int) (a_b : Int) : Option Int :=
 (some ((iabs a_a))).bind fun (one_1 : Int) =>
 (some ((iabs a_b))).bind fun (other_1 : Int) =>
 (loopW (ρ := Empty) (fun (s1 : (Int × Int)) =>
 (if (decide (0 < s1.2)) = true then
 ((modG s1.1 s1.2).bind fun z1 =>
 some (.nxt ((s1.2, z1))))
 else
 (some (.brk ((s1.1, s1.2)))))) (other_1.natAbs + 2) ((one_1, other_1))).bind fun o => o.out (fun (e : Empty) => e.elim) fun (s2 : (Int × Int)) =>
 some s2.1
def m_ratio (a_top : Int) (a_bottom : Int) : Option (T2 Int Int) :=
 if (decide (a_bottom = 0)) = true then
 (none)
 else
 ((m_greatest_divisor a_top a_bottom).bind fun z1 =>
 (if (decide (a_bottom < 0)) = true then
 ((some ((-z1))).bind fun (divisor_1 : Int) =>
 some divisor_1)
 else
 (some z1)).bind fun (s1 : Int) =>
 (divG a_top s1).bind fun z2 =>
 (divG a_bottom s1).bind fun z3 =>
 some ((T2.mk z2 z3)))
def m_read_ratio (a_text : Str) : Option (T2 Int Int) :=
 (if (Txt.startswith a_text (("-" : Str))) = true then
 ((lenOk a_text.length).bind fun _ =>
 (some ((cutS a_text (some 1) none))).bind fun (rest_1 : Str) =>
 some rest_1)
 else
 (some a_text)).bind fun (s1 : Str) =>
 (lenOk s1.length).bind fun _ =>
 (m_read_whole (((partS s1 (("/" : Str)))).a)).bind fun z1 =>
 (some ((T2.mk z1 1))).bind fun (found_1 : (T2 Int Int)) =>
 if (decide (((partS s1 (("/" : Str)))).b = ("/" : Str))) = true then
 ((m_read_whole (((partS s1 (("/" : Str)))).c)).bind fun z2 =>
 (some ((T2.mk found_1.a z2))).bind fun (found_2 : (T2 Int Int)) =>
 (if (decide (found_2.b < 2)) = true then some true else
 ((m_ratio found_2.a found_2.b).bind fun z4 =>
 some ((!decide (z4 = found_2))))).bind fun w1 =>
 if w1 = true then
 (none)
 else
 (if (decide (s1 = a_text)) = true then
 (some found_2)
 else
 (if (decide (found_2.a = 0)) = true then
 (none)
 else
 (some ((T2.mk ((-found_2.a)) found_2.b))))))
 else
 (if (decide (s1 = a_text)) = true then
 (some found_1)
 else
 (if (decide (found_1.a = 0)) = true then
 (none)
 else
 (some ((T2.mk ((-found_1.a)) found_1.b)))))
def m_read_ratio_x (a_text : Str) : Option Unit :=
 (if (Txt.startswith a_text (("-" : Str))) = true then
 ((lenOk a_text.length).bind fun _ =>
 (some ((cutS a_text (some 1) none))).bind fun (rest_1 : Str) =>
 some rest_1)
 else
 (some a_text)).bind fun (s1 : Str) =>
 (lenOk s1.length).bind fun _ =>
 if (m_read_whole_x (((partS s1 (("/" : Str)))).a)).isSome = true then
 (some ())
 else
 (m_read_whole (((partS s1 (("/" : Str)))).a)).bind fun z1 =>
 (some ((T2.mk z1 1))).bind fun (found_1 : (T2 Int Int)) =>
 if (decide (((partS s1 (("/" : Str)))).b = ("/" : Str))) = true then
 (if (m_read_whole_x (((partS s1 (("/" : Str)))).c)).isSome = true then
 (some ())
 else
 (m_read_whole (((partS s1 (("/" : Str)))).c)).bind fun z2 =>
 (some ((T2.mk found_1.a z2))).bind fun (found_2 : (T2 Int Int)) =>
 (if (decide (found_2.b < 2)) = true then some true else
 ((m_ratio found_2.a found_2.b).bind fun z4 =>
 some ((!decide (z4 = found_2))))).bind fun w1 =>
 if w1 = true then
 (some ())
 else
 (if (decide (s1 = a_text)) = true then
 (none)
 else
 (if (decide (found_2.a = 0)) = true then
 (some ())
 else
 (none))))
 else
 (if (decide (s1 = a_text)) = true then
 (none)
 else
 (if (decide (found_1.a = 0)) = true then
 (some ())
 else
 (none)))
def m_point (a_a : Int) (a_b : Int) (a_n : Int) : Option (T3 Int Int Int) :=
 if (decide (a_n = 0)) = true then
 (none)
 else
 ((m_greatest_divisor a_a a_n).bind fun z1 =>
 (m_greatest_divisor z1 a_b).bind fun z2 =>
 (if (decide (a_n < 0)) = true then
 ((some ((-z2))).bind fun (divisor_1 : Int) =>
 some divisor_1)
 else
 (some z2)).bind fun (s1 : Int) =>
 (divG a_a s1).bind fun z3 =>
 (divG a_b s1).bind fun z4 =>
 (divG a_n s1).bind fun z5 =>
 some ((T3.mk z3 z4 z5)))
def m_at (a_x : (T2 Int Int)) (a_y : (T2 Int Int)) : Option (T3 Int Int Int) :=
 (mulG a_x.a a_y.b).bind fun z1 =>
 (mulG a_y.a a_x.b).bind fun z2 =>
 (mulG a_x.b a_y.b).bind fun z3 =>
 (m_point z1 z2 z3).bind fun z4 =>
 some z4
def m_read_point (a_text : Str) : Option (T3 Int Int Int) :=
 (lenOk a_text.length).bind fun _ =>
 if (!decide (((partS a_text (("," : Str)))).b = ("," : Str))) = true then
 (none)
 else
 ((m_read_ratio (((partS a_text (("," : Str)))).a)).bind fun z1 =>
 (m_read_ratio (((partS a_text (("," : Str)))).c)).bind fun z2 =>
 (m_at z1 z2).bind fun z3 =>
 some z3)
def m_read_point_x (a_text : Str) : Option Unit :=
 (lenOk a_text.length).bind fun _ =>
 if (!decide (((partS a_text (("," : Str)))).b = ("," : Str))) = true then
 (some ())
 else
 (if (m_read_ratio_x (((partS a_text (("," : Str)))).a)).isSome = true then
 (some ())
 else
 (m_read_ratio (((partS a_text (("," : Str)))).a)).bind fun z1 =>
 if (m_read_ratio_x (((partS a_text (("," : Str)))).c)).isSome = true then
 (some ())
 else
 none)
def m__law_alone_NoText (a__law_kind : Int) : Option Bool :=
 (some ([false, false, false, false])).bind fun (kinds_1 : (List Bool)) =>
 (lenOk (kinds_1.length + ([false, false, false, true]).length)).bind fun _ =>
 (some ((kinds_1 ++ [false, false, false, true]))).bind fun (kinds_2 : (List Bool)) =>
 (if true = true then
 ((mapO (fun (x2 : Int) =>
 (some ((decide (a__law_kind = x2))))) (rangeL 0 8)).bind fun ys2 =>
 some ((decide (kinds_2 = ys2))))
 else some false).bind fun w1 =>
 some w1
def m__law_point (a__law_a : Int) (a__law_b : Int) (a__law_n : Int) : Option (T3 Int Int Int) :=
 (m__law_gcd a__law_a a__law_n).bind fun z1 =>
 (m__law_gcd z1 a__law_b).bind fun z2 =>
 (if (decide (a__law_n < 0)) = true then
 ((some ((-z2))).bind fun (both_1 : Int) =>
 some both_1)
 else
 (some z2)).bind fun (s1 : Int) =>
 (divG a__law_a s1).bind fun z3 =>
 (divG a__law_b s1).bind fun z4 =>
 (divG a__law_n s1).bind fun z5 =>
 some ((T3.mk z3 z4 z5))
def m__law_right (a__law_text_here : Str) : Option Bool :=
 (m__law_point_in a__law_text_here).bind fun z1 =>
 if (m_read_point_x a__law_text_here).isSome = true then
 ((if (z1.isNone) = true then
 ((m__law_alone_NoText 7).bind fun z3 =>
 some z3)
 else some false).bind fun w1 =>
 some w1)
 else
 ((m_read_point a__law_text_here).bind fun z4 =>
 if (z1.isNone) = true then
 (some false)
 else
 ((z1).bind fun due_1 =>
 (mulG due_1.a.a due_1.b.b).bind fun z5 =>
 (mulG due_1.b.a due_1.a.b).bind fun z6 =>
 (mulG due_1.a.b due_1.b.b).bind fun z7 =>
 (m__law_point z5 z6 z7).bind fun z8 =>
 some ((decide (z4 = z8)))))
def m__law_sign_spoiled (a__law_bag_here : (List Int)) (a__law_text_here : Str) : Option (Str × (List Int)) :=
 (lenOk a__law_text_here.length).bind fun _ =>
 (m__law_draw a__law_bag_here (((a__law_text_here.length : Int) + 1))).bind fun z1 =>
 (m__law_draw z1.2 22).bind fun z2 =>
 (ixS (("0123456789-/,; .+eE_xn" : Str)) z2.1).bind fun x1 =>
 (m__law_draw z2.2 4).bind fun z3 =>
 if (decide (z3.1 = 0)) = true then
 ((lenOk a__law_text_here.length).bind fun _ =>
 (lenOk a__law_text_here.length).bind fun _ =>
 (lenOk (((cutS a__law_text_here none (some z1.1))).length + ((cutS a__law_text_here (some ((z1.1 + 1))) none)).length)).bind fun _ =>
 some ((((cutS a__law_text_here none (some z1.1)) ++ (cutS a__law_text_here (some ((z1.1 + 1))) none)), z3.2)))
 else
 (if (decide (z3.1 = 1)) = true then
 ((lenOk a__law_text_here.length).bind fun _ =>
 (lenOk (((cutS a__law_text_here none (some z1.1))).length + x1.length)).bind fun _ =>
 (lenOk a__law_text_here.length).bind fun _ =>
 (lenOk ((((cutS a__law_text_here none (some z1.1)) ++ x1)).length + ((cutS a__law_text_here (some ((z1.1 + 1))) none)).length)).bind fun _ =>
 some (((((cutS a__law_text_here none (some z1.1)) ++ x1) ++ (cutS a__law_text_here (some ((z1.1 + 1))) none)), z3.2)))
 else
 (if (decide (z3.1 = 2)) = true then
 ((lenOk a__law_text_here.length).bind fun _ =>
 (lenOk (((cutS a__law_text_here none (some z1.1))).length + x1.length)).bind fun _ =>
 (lenOk a__law_text_here.length).bind fun _ =>
 (lenOk ((((cutS a__law_text_here none (some z1.1)) ++ x1)).length + ((cutS a__law_text_here (some z1.1) none)).length)).bind fun _ =>
 some (((((cutS a__law_text_here none (some z1.1)) ++ x1) ++ (cutS a__law_text_here (some z1.1) none)), z3.2)))
 else
 (some ((a__law_text_here, z3.2)))))
def m__law_odd (a__law_bag_here : (List Int)) : Option (Str × (List Int)) :=
 (some ([("" : Str), ("," : Str), ("1" : Str), ("1," : Str), (",1" : Str), ("1,2,3" : Str), ("01,2" : Str), ("1,02" : Str), ("1/1,2" : Str), ("2/4,1" : Str), ("-0,1" : Str), ("1/0,2" : Str), ("1/-2,3" : Str), ("--1,2" : Str)])).bind fun (some_1 : (List Str)) =>
 (lenOk (some_1.length + ([("1 ,2" : Str), ("1, 2" : Str), (" 1,2" : Str), ("1,2 " : Str), ("+1,2" : Str), ("a,b" : Str), ("1.5,2" : Str), ("1/2/3,4" : Str), ("0/2,1" : Str), ("1_0,2" : Str), ("1/02,3" : Str)]).length)).bind fun _ =>
 (some ((some_1 ++ [("1 ,2" : Str), ("1, 2" : Str), (" 1,2" : Str), ("1,2 " : Str), ("+1,2" : Str), ("a,b" : Str), ("1.5,2" : Str), ("1/2/3,4" : Str), ("0/2,1" : Str), ("1_0,2" : Str), ("1/02,3" : Str)]))).bind fun (some_2 : (List Str)) =>
 (mulS (("1" : Str)) 31).bind fun z1 =>
 (lenOk (z1.length + ((",2" : Str)).length)).bind fun _ =>
 (mulS (("1" : Str)) 31).bind fun z2 =>
 (lenOk ((("1/" : Str)).length + z2.length)).bind fun _ =>
 (lenOk (((("1/" : Str) ++ z2)).length + ((",2" : Str)).length)).bind fun _ =>
 (lenOk (some_2.length + ([(z1 ++ (",2" : Str)), ((("1/" : Str) ++ z2) ++ (",2" : Str)), ("/2,3" : Str), ("1/,2" : Str), ("none" : Str), ("1;2" : Str), ("-,1" : Str), ("-/2,1" : Str)]).length)).bind fun _ =>
 (some ((some_2 ++ [(z1 ++ (",2" : Str)), ((("1/" : Str) ++ z2) ++ (",2" : Str)), ("/2,3" : Str), ("1/,2" : Str), ("none" : Str), ("1;2" : Str), ("-,1" : Str), ("-/2,1" : Str)]))).bind fun (some_3 : (List Str)) =>
 (m__law_draw a__law_bag_here 33).bind fun z3 =>
 (ix some_3 z3.1).bind fun x1 =>
 some ((x1, z3.2))
def m_law (a__law_script : (List Int)) : Option Bool :=
 (m__law_cell a__law_script 0).bind fun z1 =>
 (lenOk (([z1]).length + ((slice a__law_script (some 1) (some 40))).length)).bind fun _ =>
 (loopL (ρ := Bool) (fun (x1 : Int) (s1 : Unit) =>
 ((m__law_bag x1).bind fun z2 =>
 (m__law_rat z2).bind fun z3 =>
 (m__law_text z3.1).bind fun z4 =>
 (lenOk (z4.length + (("," : Str)).length)).bind fun _ =>
 (m__law_rat z3.2).bind fun z5 =>
 (m__law_text z5.1).bind fun z6 =>
 (lenOk (((z4 ++ ("," : Str))).length + z6.length)).bind fun _ =>
 (some (((z4 ++ ("," : Str)) ++ z6))).bind fun (text_here_1 : Str) =>
 (m__law_right text_here_1).bind fun z7 =>
 (if (!z7) = true then some (true, z5.2) else
 ((m__law_sign_spoiled z5.2 text_here_1).bind fun z14 =>
 (m__law_right z14.1).bind fun z15 =>
 (if (!z15) = true then some (true, z14.2) else
 ((m__law_odd z14.2).bind fun z18 =>
 (m__law_right z18.1).bind fun z19 =>
 some ((!z19), z18.2))).bind fun w2 =>
 some (w2.1, w2.2))).bind fun w3 =>
 if w3.1 = true then
 (some (.ret false))
 else
 (some (.nxt (()))))) ([z1] ++ (slice a__law_script (some 1) (some 40))) (())).bind fun o => o.out (fun r => some r) fun (s2 : Unit) =>
 some true
/-! ### plain: loops, sizes -/
theorem foldO_inv {α τ : Type} {f : α → τ → Option τ} (I : Nat → τ → Prop) : ∀ {xs : List α} {s : τ} (k : Nat), (∀ j x s, I j s → ∃ s', f x s = some s' ∧ I (j + 1) s') → I k s → ∃ s', foldO f xs s = some s' ∧ I (k + xs.length) s'
  | [], s, k, _, h => ⟨s, rfl, h⟩
  | x :: xs, s, k, hf, h => by
    obtain ⟨s1, e1, h1⟩ := hf k x s h
    obtain ⟨s2, e2, h2⟩ := foldO_inv I (xs := xs) (k + 1) hf h1
    refine ⟨s2, ?_, by rw [List.length_cons, Nat.add_comm xs.length 1, ← Nat.add_assoc]; exact h2⟩
    show (f x s).bind _ = _
    rw [e1]; exact e2
/-- .. without a count -/
theorem foldO_inv' {α τ : Type} {f : α → τ → Option τ} (I : τ → Prop) {xs : List α} {s : τ} (hf : ∀ x s, I s → ∃ s', f x s = some s' ∧ I s') (h : I s) : ∃ s', foldO f xs s = some s' ∧ I s' :=
  foldO_inv (fun _ => I) 0 (fun _ => hf) h
/-- a loop that is never left early -/
theorem loopL_inv {α τ ρ : Type} {f : α → τ → Option (Lp τ ρ)} (I : τ → Prop) : ∀ {xs : List α} {s : τ}, (∀ x s, x ∈ xs → I s → ∃ s', f x s = some (.nxt s') ∧ I s') → I s → ∃ s', loopL f xs s = some (.nxt s') ∧ I s'
  | [], s, _, h => ⟨s, rfl, h⟩
  | x :: xs, s, hf, h => by
    obtain ⟨s1, e1, h1⟩ := hf x s List.mem_cons_self h
    obtain ⟨s2, e2, h2⟩ := loopL_inv I (xs := xs) (fun y s hy => hf y s (List.mem_cons_of_mem _ hy)) h1
    refine ⟨s2, ?_, h2⟩
    show (f x s).bind _ = _
    rw [e1]; exact e2
theorem log2_le {a n : Nat} (h : a < 2 ^ n) : a.log2 ≤ n := by
  by_cases z : a = 0
  · subst z; simp
  · exact Nat.le_of_lt ((Nat.log2_lt z).mpr h)
theorem mulG_ok (n m : Nat) {a b : Int} (ha : a.natAbs < 2 ^ n) (hb : b.natAbs < 2 ^ m) (h : n + m < 1000000) : mulG a b = some (a * b) := by
  unfold mulG
  rw [if_pos (Nat.lt_of_le_of_lt (Nat.add_le_add (log2_le ha) (log2_le hb)) h)]
theorem modG_pos {a b : Int} (h : 0 < b) : modG a b = some (a % b) := by
  unfold modG
  rw [if_pos (by omega), Int.fmod_eq_emod_of_nonneg _ (by omega)]
theorem divG_pos (n : Nat) {a b : Int} (h : 0 < b) (hb : b.natAbs < 2 ^ n) (hn : n < 9000) : divG a b = some (a / b) := by
  unfold divG
  rw [if_pos ⟨by omega, Nat.lt_of_le_of_lt (log2_le hb) hn⟩, Int.fdiv_eq_ediv_of_nonneg _ (by omega)]
theorem lenOk_ok {n : Nat} (h : n ≤ 16777216) : lenOk n = some () := by unfold lenOk; rw [if_pos h]
theorem slice_len {α : Type} (xs : List α) (lo hi : Option Int) : (slice xs lo hi).length ≤ xs.length := by
  unfold slice
  rw [List.length_take, List.length_drop]
  omega
theorem ix_lt {α : Type} {xs : List α} {k : Nat} (h : k < xs.length) : ix xs (k : Int) = some xs[k] := by
  unfold ix atI ixN
  have h1 : ¬ ((k : Int) < 0) := by omega
  simp [h]
theorem iabs_eq (i : Int) : iabs i = (i.natAbs : Int) := by unfold iabs; split <;> omega
theorem loopL_bind {α τ ρ β : Type} {f : α → τ → Option (Lp τ ρ)} {xs : List α} {s : τ} {g : Lp τ ρ → Option β} {v : β} (I : τ → Prop) (hf : ∀ x s, x ∈ xs → I s → ∃ s', f x s = some (.nxt s') ∧ I s') (h0 : I s) (hg : ∀ s', I s' → g (.nxt s') = some v) : (loopL f xs s).bind g = some v := by
  obtain ⟨s1, e, h⟩ := loopL_inv I hf h0
  rw [e]; exact hg s1 h
theorem foldO_bind {α τ β : Type} {f : α → τ → Option τ} {xs : List α} {s : τ} {g : τ → Option β} {v : β} (I : τ → Prop) (hf : ∀ x s, I s → ∃ s', f x s = some s' ∧ I s') (h0 : I s) (hg : ∀ s', I s' → g s' = some v) : (foldO f xs s).bind g = some v := by
  obtain ⟨s1, e, h⟩ := foldO_inv' I hf h0
  rw [e]; exact hg s1 h
/-! ### plain: the bag -/
def Bag (xs : List Int) : Prop := ∃ a b : Int, xs = [a, b] ∧ 0 ≤ a ∧ 0 ≤ b ∧ b < 2147483647
theorem draw_ok {xs : List Int} {many : Int} (h : Bag xs) (hm : 0 < many) (hM : many < 18446744073709551616) : ∃ r ys, m__law_draw xs many = some (r, ys) ∧ Bag ys ∧ 0 ≤ r ∧ r < many := by
  obtain ⟨a, b, rfl, h1, h2, h3⟩ := h
  unfold m__law_draw
  have i0 : ∀ x y : Int, ix [x, y] 0 = some x := fun _ _ => rfl
  have i1 : ∀ x y : Int, ix [x, y] 1 = some y := fun _ _ => rfl
  have s0 : ∀ x y z : Int, setI [x, y] 0 z = some [z, y] := fun _ _ _ => rfl
  have s1 : ∀ x y z : Int, setI [x, y] 1 z = some [x, z] := fun _ _ _ => rfl
  simp only [i0, i1, s0, s1, Option.bind_some]
  by_cases z : 0 < a
  · rw [if_pos (by simpa using z), modG_pos hm, divG_pos 64 hm (by omega) (by decide)]
    exact ⟨_, _, rfl, ⟨_, _, rfl, Int.ediv_nonneg h1 (by omega), h2, h3⟩, Int.emod_nonneg _ (by omega), Int.emod_lt_of_pos _ hm⟩
  · rw [if_neg (by simpa using z)]
    have e1 : 0 ≤ (b * 48271 + 4099) % 2147483647 := Int.emod_nonneg _ (by decide)
    have e2 : (b * 48271 + 4099) % 2147483647 < 2147483647 := Int.emod_lt_of_pos _ (by decide)
    rw [mulG_ok 64 64 (by omega) (by omega) (by decide)]
    simp only [Option.bind_some]
    rw [modG_pos hm]
    exact ⟨_, _, rfl, ⟨_, _, rfl, h1, e1, e2⟩, Int.emod_nonneg _ (by omega), Int.emod_lt_of_pos _ hm⟩
theorem bag_ok (n : Int) : ∃ xs, m__law_bag n = some xs ∧ Bag xs := by
  unfold m__law_bag
  by_cases z : 1000000000000000000 ≤ n
  · rw [if_pos (by simpa using z)]
    exact ⟨_, rfl, _, _, rfl, by omega, by omega, by omega⟩
  · rw [if_neg (by simpa using z)]
    exact ⟨_, rfl, _, _, rfl, by omega, by omega, by omega⟩
theorem great_ok {xs : List Int} (h : Bag xs) : ∃ r ys, m__law_great xs = some (r, ys) ∧ Bag ys ∧ 0 ≤ r ∧ r < 1000000000000000000000000000000 := by
  unfold m__law_great
  obtain ⟨r0, y0, e0, b0, l0, u0⟩ := draw_ok h (many := 100) (by decide) (by decide)
  obtain ⟨r1, y1, e1, b1, l1, u1⟩ := draw_ok b0 (many := 10000000) (by decide) (by decide)
  obtain ⟨r2, y2, e2, b2, l2, u2⟩ := draw_ok b1 (many := 10000000) (by decide) (by decide)
  obtain ⟨r3, y3, e3, b3, l3, u3⟩ := draw_ok b2 (many := 10000000) (by decide) (by decide)
  obtain ⟨r4, y4, e4, b4, l4, u4⟩ := draw_ok b3 (many := 10000000) (by decide) (by decide)
  have hr : rangeL 0 4 = [0, 1, 2, 3] := rfl
  simp only [e0, e1, e2, e3, e4, hr, foldO, Option.bind_some]
  exact ⟨_, _, rfl, b4, by omega, by omega⟩
theorem signed_ok {xs : List Int} (h : Bag xs) : ∃ r ys, m__law_signed xs = some (r, ys) ∧ Bag ys ∧ r.natAbs < 1000000000000000000000000000000 := by
  unfold m__law_signed
  obtain ⟨r0, y0, e0, b0, l0, u0⟩ := draw_ok h (many := 2) (by decide) (by decide)
  obtain ⟨r1, y1, e1, b1, l1, u1⟩ := great_ok b0
  simp only [e0, e1, Option.bind_some]
  by_cases z : r0 = 0
  · rw [if_pos (by simpa using z)]; exact ⟨_, _, rfl, b1, by omega⟩
  · rw [if_neg (by simpa using z)]; exact ⟨_, _, rfl, b1, by omega⟩
theorem gcd_loop {β : Type} : ∀ (n : Nat) (a b : Int), 0 ≤ a → 0 ≤ b → b.natAbs < n →
    loopW (ρ := β) (fun (s : Int × Int) => if (decide (0 < s.2)) = true then ((modG s.1 s.2).bind fun z => some (.nxt (s.2, z))) else (some (.brk (s.1, s.2)))) n (a, b) = some (.brk ((Int.gcd a b : Int), 0))
  | 0, a, b, _, _, h => by omega
  | n + 1, a, b, ha, hb, h => by
    unfold loopW
    by_cases z : 0 < b
    · have h1 := Int.emod_nonneg a (show b ≠ 0 by omega)
      have h2 := Int.emod_lt_of_pos a z
      rw [if_pos (by simpa using z), modG_pos z]
      simp only [Option.bind_some]
      rw [gcd_loop n b (a % b) (by omega) h1 (by omega)]
      congr 4
      rw [Int.gcd_comm, Int.emod_def, Int.gcd_comm]
      rw [show a - b * (a / b) = a + b * (-(a / b)) by rw [Int.mul_neg, Int.sub_eq_add_neg]]
      rw [Int.gcd_add_mul_left_right, Int.gcd_comm]
    · have e : b = 0 := by omega
      subst e
      rw [if_neg (by simp)]
      simp only [Option.bind_some]
      rw [Int.gcd_zero_right]
      congr 3
      omega
theorem gcd_pos {a b : Int} (h : 0 < b) : (0 : Int) < (Int.gcd a b : Int) := by
  have := Int.gcd_pos_of_ne_zero_right (a := a) (b := b) (by omega)
  omega
theorem gcd_le {a b : Int} (h : 0 < b) : (Int.gcd a b : Int) ≤ b := Int.le_of_dvd h (Int.gcd_dvd_right a b)
theorem gcd_ok (a b : Int) : m__law_gcd a b = some (Int.gcd a b : Int) := by
  unfold m__law_gcd
  simp only [Option.bind_some, iabs_eq]
  rw [gcd_loop _ _ _ (by omega) (by omega) (by omega)]
  simp only [Option.bind_some, Lp.out]
  congr 2
/-- lowest terms -/
structure Low (t b : Int) (r : T2 Int Int) : Prop where
  pos : 0 < r.b
  le : r.b ≤ b
  abs : r.a.natAbs ≤ t.natAbs
  eq : r.a * b = t * r.b
  one : Int.gcd r.a r.b = 1
theorem low_mk {t b : Int} (h : 0 < b) : Low t b ⟨t / (Int.gcd t b : Int), b / (Int.gcd t b : Int)⟩ := by
  have hg := gcd_pos (a := t) h
  have h1 : (Int.gcd t b : Int) * (t / (Int.gcd t b : Int)) = t := Int.mul_ediv_cancel' (Int.gcd_dvd_left t b)
  have h2 : (Int.gcd t b : Int) * (b / (Int.gcd t b : Int)) = b := Int.mul_ediv_cancel' (Int.gcd_dvd_right t b)
  have hp : 0 < b / (Int.gcd t b : Int) := by
    rcases Int.lt_trichotomy (b / (Int.gcd t b : Int)) 0 with z | z | z
    · have := Int.mul_neg_of_pos_of_neg hg z; omega
    · rw [z, Int.mul_zero] at h2; omega
    · exact z
  refine ⟨hp, Int.ediv_le_self _ (by omega), ?_, ?_, ?_⟩
  · exact Int.natAbs_ediv_le_natAbs _ _
  · show t / _ * b = t * (b / _)
    generalize hG : (Int.gcd t b : Int) = g at *
    generalize hx : t / g = x at *
    generalize hy : b / g = y at *
    rw [← h1, ← h2]
    rw [← Int.mul_assoc, Int.mul_comm x g]
  · show Int.gcd (t / _) (b / _) = 1
    exact Int.gcd_ediv_gcd_ediv_gcd (by omega)
theorem lowest_ok {t b : Int} (h : 0 < b) (hb : b.natAbs < 2 ^ 8000) : ∃ r, m__law_lowest t b = some r ∧ Low t b r := by
  unfold m__law_lowest
  have hg := gcd_pos (a := t) h
  have hl := gcd_le (a := t) h
  rw [if_neg (by simp; omega), gcd_ok]
  simp only [Option.bind_some]
  have hs : (Int.gcd t b : Int).natAbs < 2 ^ 8000 := Nat.lt_of_le_of_lt (by omega) hb
  rw [divG_pos 8000 hg hs (by decide), divG_pos 8000 hg hs (by decide)]
  exact ⟨_, rfl, low_mk h⟩
/-! ### plain: sizes -/
theorem pow_le {a n m : Nat} (h : a < 2 ^ n) (hn : n ≤ m) : a < 2 ^ m := Nat.lt_of_lt_of_le h (Nat.pow_le_pow_right (by decide) hn)
theorem sz_mul {a b : Int} {n m : Nat} (ha : a.natAbs < 2 ^ n) (hb : b.natAbs < 2 ^ m) : (a * b).natAbs < 2 ^ (n + m) := by
  rw [Int.natAbs_mul, Nat.pow_add]
  exact Nat.mul_lt_mul'' ha hb
theorem sz_add {a b : Int} {n : Nat} (ha : a.natAbs < 2 ^ n) (hb : b.natAbs < 2 ^ n) : (a + b).natAbs < 2 ^ (n + 1) := by
  rw [Nat.pow_succ]; omega
theorem sz_sub {a b : Int} {n : Nat} (ha : a.natAbs < 2 ^ n) (hb : b.natAbs < 2 ^ n) : (a - b).natAbs < 2 ^ (n + 1) := by
  rw [Nat.pow_succ]; omega
/-! ### plain: ratios -/
structure Rt (n : Nat) (r : T2 Int Int) : Prop where
  pos : 0 < r.b
  sa : r.a.natAbs < 2 ^ n
  sb : r.b.natAbs < 2 ^ n
  one : Int.gcd r.a r.b = 1
theorem Rt.mono {n m : Nat} {r : T2 Int Int} (h : Rt n r) (hn : n ≤ m) : Rt m r := ⟨h.pos, pow_le h.sa hn, pow_le h.sb hn, h.one⟩
theorem Low.rt {t b : Int} {r : T2 Int Int} {n : Nat} (w : Low t b r) (ht : t.natAbs < 2 ^ n) (hb : b.natAbs < 2 ^ n) : Rt n r :=
  ⟨w.pos, Nat.lt_of_le_of_lt w.abs ht, Nat.lt_of_le_of_lt (by have := w.pos; have := w.le; omega) hb, w.one⟩
theorem gcd_dvd {a b d : Int} (h : b ∣ a * d) (g : Int.gcd a b = 1) : b ∣ d := by
  rw [← Int.natAbs_dvd_natAbs, Int.natAbs_mul] at h
  rw [← Int.natAbs_dvd_natAbs]
  exact Nat.Coprime.dvd_of_dvd_mul_left (by rw [Nat.Coprime, Nat.gcd_comm]; exact g) h
theorem rt_same {r q : T2 Int Int} (h1 : 0 < r.b) (h2 : 0 < q.b) (g1 : Int.gcd r.a r.b = 1) (g2 : Int.gcd q.a q.b = 1) (e : r.a * q.b = q.a * r.b) : r = q := by
  obtain ⟨a, b⟩ := r
  obtain ⟨c, d⟩ := q
  simp only at *
  have d1 : b ∣ d := by
    have : b ∣ a * d := ⟨c, by rw [e, Int.mul_comm]⟩
    exact gcd_dvd this g1
  have d2 : d ∣ b := by
    have : d ∣ c * b := ⟨a, by rw [← e, Int.mul_comm]⟩
    exact gcd_dvd this g2
  have l1 := Int.le_of_dvd h2 d1
  have l2 := Int.le_of_dvd h1 d2
  have eb : b = d := by omega
  subst eb
  have : a = c := Int.eq_of_mul_eq_mul_right (by omega) e
  rw [this]
theorem Low.is {t b : Int} {r q : T2 Int Int} {n : Nat} (w : Low t b r) (hb : 0 < b) (h : Rt n q) (e : q.a * b = t * q.b) : r = q := by
  refine rt_same w.pos h.pos w.one h.one ?_
  have h1 := w.eq
  refine Int.eq_of_mul_eq_mul_right (show b ≠ 0 by omega) ?_
  grind
/-! ### plain: points -/
def g3 (a b n : Int) : Nat := Int.gcd (Int.gcd a n : Int) b
theorem g3_pos {a b n : Int} (h : n ≠ 0) : 0 < g3 a b n := by
  unfold g3
  have := Int.gcd_pos_of_ne_zero_right (a := a) (b := n) h
  exact Int.gcd_pos_of_ne_zero_left _ (by omega)
theorem g3_a {a b n : Int} : (g3 a b n : Int) ∣ a := Int.dvd_trans (Int.gcd_dvd_left _ _) (Int.gcd_dvd_left _ _)
theorem g3_n {a b n : Int} : (g3 a b n : Int) ∣ n := Int.dvd_trans (Int.gcd_dvd_left _ _) (Int.gcd_dvd_right _ _)
theorem g3_b {a b n : Int} : (g3 a b n : Int) ∣ b := Int.gcd_dvd_right _ _
theorem g3_le {a b n : Int} (h : 0 < n) : (g3 a b n : Int) ≤ n := Int.le_of_dvd h g3_n
theorem g3_mul (k a b n : Int) : g3 (k * a) (k * b) (k * n) = k.natAbs * g3 a b n := by
  unfold g3
  rw [Int.gcd_mul_left, Int.natCast_mul]
  rcases Int.natAbs_eq k with e | e
  · rw [← e, Int.gcd_mul_left]
  · have : (k.natAbs : Int) = -k := by omega
    rw [this, Int.neg_mul, Int.gcd_comm, Int.gcd_neg, Int.gcd_comm, Int.gcd_mul_left]
theorem g3_dvd {a b n d x : Int} (h : g3 a b n = 1) (ha : d ∣ a * x) (hb : d ∣ b * x) (hn : d ∣ n * x) : d ∣ x := by
  have h1 : g3 (x * a) (x * b) (x * n) = x.natAbs := by rw [g3_mul, h, Nat.mul_one]
  have h2 : d ∣ (g3 (x * a) (x * b) (x * n) : Int) := by
    unfold g3
    exact Int.dvd_coe_gcd (Int.dvd_coe_gcd (by rw [Int.mul_comm]; exact ha) (by rw [Int.mul_comm]; exact hn)) (by rw [Int.mul_comm]; exact hb)
  rw [h1] at h2
  exact Int.dvd_natAbs.mp h2
structure Low3 (a b n : Int) (r : T3 Int Int Int) : Prop where
  pos : 0 < r.c
  le : r.c ≤ n
  sa : r.a.natAbs ≤ a.natAbs
  sb : r.b.natAbs ≤ b.natAbs
  ea : r.a * n = a * r.c
  eb : r.b * n = b * r.c
  one : g3 r.a r.b r.c = 1
structure Pt (n : Nat) (r : T3 Int Int Int) : Prop where
  pos : 0 < r.c
  sa : r.a.natAbs < 2 ^ n
  sb : r.b.natAbs < 2 ^ n
  sc : r.c.natAbs < 2 ^ n
  one : g3 r.a r.b r.c = 1
theorem Pt.mono {n m : Nat} {r : T3 Int Int Int} (h : Pt n r) (hn : n ≤ m) : Pt m r := ⟨h.pos, pow_le h.sa hn, pow_le h.sb hn, pow_le h.sc hn, h.one⟩
theorem Low3.pt {a b n : Int} {r : T3 Int Int Int} {k : Nat} (w : Low3 a b n r) (ha : a.natAbs < 2 ^ k) (hb : b.natAbs < 2 ^ k) (hn : n.natAbs < 2 ^ k) : Pt k r :=
  ⟨w.pos, Nat.lt_of_le_of_lt w.sa ha, Nat.lt_of_le_of_lt w.sb hb, Nat.lt_of_le_of_lt (by have := w.pos; have := w.le; omega) hn, w.one⟩
theorem low3_mk {a b n : Int} (h : 0 < n) : Low3 a b n ⟨a / (g3 a b n : Int), b / (g3 a b n : Int), n / (g3 a b n : Int)⟩ := by
  have hg : (0 : Int) < (g3 a b n : Int) := by have := g3_pos (a := a) (b := b) (n := n) (by omega); omega
  have h1 : (g3 a b n : Int) * (a / (g3 a b n : Int)) = a := Int.mul_ediv_cancel' g3_a
  have h2 : (g3 a b n : Int) * (b / (g3 a b n : Int)) = b := Int.mul_ediv_cancel' g3_b
  have h3 : (g3 a b n : Int) * (n / (g3 a b n : Int)) = n := Int.mul_ediv_cancel' g3_n
  have hp : 0 < n / (g3 a b n : Int) := by
    rcases Int.lt_trichotomy (n / (g3 a b n : Int)) 0 with z | z | z
    · have := Int.mul_neg_of_pos_of_neg hg z; omega
    · rw [z, Int.mul_zero] at h3; omega
    · exact z
  have h4 := g3_mul (g3 a b n : Int) (a / (g3 a b n : Int)) (b / (g3 a b n : Int)) (n / (g3 a b n : Int))
  rw [h1, h2, h3] at h4
  have h5 : g3 (a / (g3 a b n : Int)) (b / (g3 a b n : Int)) (n / (g3 a b n : Int)) = 1 := by
    have e : ((g3 a b n : Nat) : Int).natAbs = g3 a b n := Int.natAbs_natCast _
    rw [e] at h4
    exact Nat.eq_of_mul_eq_mul_left (show 0 < g3 a b n by omega) (by rw [Nat.mul_one]; exact h4.symm)
  refine ⟨hp, Int.ediv_le_self _ (by omega), Int.natAbs_ediv_le_natAbs _ _, Int.natAbs_ediv_le_natAbs _ _, ?_, ?_, h5⟩
  · show a / _ * n = a * (n / _)
    generalize hG : (g3 a b n : Int) = g at *
    generalize hx : a / g = x at *
    generalize hy : n / g = y at *
    rw [← h1, ← h3]; grind
  · show b / _ * n = b * (n / _)
    generalize hG : (g3 a b n : Int) = g at *
    generalize hx : b / g = x at *
    generalize hy : n / g = y at *
    rw [← h2, ← h3]; grind
theorem pt_same {p q : T3 Int Int Int} (h1 : 0 < p.c) (h2 : 0 < q.c) (g1 : g3 p.a p.b p.c = 1) (g2 : g3 q.a q.b q.c = 1) (ea : p.a * q.c = q.a * p.c) (eb : p.b * q.c = q.b * p.c) : p = q := by
  obtain ⟨a, b, c⟩ := p
  obtain ⟨x, y, z⟩ := q
  simp only at *
  have d1 : c ∣ z := g3_dvd g1 ⟨x, by rw [ea, Int.mul_comm]⟩ ⟨y, by rw [eb, Int.mul_comm]⟩ ⟨z, rfl⟩
  have d2 : z ∣ c := g3_dvd g2 ⟨a, by rw [← ea, Int.mul_comm]⟩ ⟨b, by rw [← eb, Int.mul_comm]⟩ ⟨c, rfl⟩
  have l1 := Int.le_of_dvd h2 d1
  have l2 := Int.le_of_dvd h1 d2
  have e : c = z := by omega
  subst e
  have e1 : a = x := Int.eq_of_mul_eq_mul_right (by omega) ea
  have e2 : b = y := Int.eq_of_mul_eq_mul_right (by omega) eb
  rw [e1, e2]
theorem Low3.is' {a b n : Int} {r q : T3 Int Int Int} (w : Low3 a b n r) (hn : 0 < n) (h : 0 < q.c) (g : g3 q.a q.b q.c = 1) (ea : q.a * n = a * q.c) (eb : q.b * n = b * q.c) : r = q := by
  refine pt_same w.pos h w.one g ?_ ?_
  · have h1 := w.ea
    refine Int.eq_of_mul_eq_mul_right (show n ≠ 0 by omega) ?_
    grind
  · have h1 := w.eb
    refine Int.eq_of_mul_eq_mul_right (show n ≠ 0 by omega) ?_
    grind
theorem Low3.is {a b n : Int} {r q : T3 Int Int Int} {k : Nat} (w : Low3 a b n r) (hn : 0 < n) (h : Pt k q) (ea : q.a * n = a * q.c) (eb : q.b * n = b * q.c) : r = q := w.is' hn h.pos h.one ea eb
theorem Low3.both {a b n : Int} {r q : T3 Int Int Int} (w : Low3 a b n r) (v : Low3 a b n q) (hn : 0 < n) : r = q := w.is' hn v.pos v.one v.ea v.eb
theorem lawpt_ok {a b n : Int} (h : 0 < n) (hn : n.natAbs < 2 ^ 8000) : ∃ r, m__law_point a b n = some r ∧ Low3 a b n r := by
  unfold m__law_point
  have hg : (0 : Int) < (g3 a b n : Int) := by have := g3_pos (a := a) (b := b) (n := n) (by omega); omega
  have hl := g3_le (a := a) (b := b) h
  have hs : (g3 a b n : Int).natAbs < 2 ^ 8000 := Nat.lt_of_le_of_lt (by omega) hn
  rw [gcd_ok]
  simp only [Option.bind_some]
  rw [gcd_ok]
  simp only [Option.bind_some]
  rw [if_neg (by simp; omega)]
  simp only [Option.bind_some]
  have e3 : ((Int.gcd (Int.gcd a n : Int) b : Nat) : Int) = (g3 a b n : Int) := rfl
  rw [e3, divG_pos 8000 hg hs (by decide), divG_pos 8000 hg hs (by decide), divG_pos 8000 hg hs (by decide)]
  exact ⟨_, rfl, low3_mk h⟩
theorem divisor_ok (a b : Int) : m_greatest_divisor a b = some (Int.gcd a b : Int) := by
  unfold m_greatest_divisor
  simp only [Option.bind_some, iabs_eq]
  rw [gcd_loop _ _ _ (by omega) (by omega) (by omega)]
  simp only [Option.bind_some, Lp.out]
  congr 2
theorem divG_mul {u s : Int} (n : Nat) (h : s ≠ 0) (hb : s.natAbs < 2 ^ n) (hn : n < 9000) : divG (u * s) s = some u := by
  unfold divG
  rw [if_pos ⟨h, Nat.lt_of_le_of_lt (log2_le hb) hn⟩, Int.mul_fdiv_cancel _ h]
theorem pos_l {v s : Int} (hs : 0 < s) (h : 0 < v * s) : 0 < v := by
  rcases Int.lt_or_le 0 v with z | z
  · exact z
  · have := Int.mul_le_mul_of_nonneg_right z (Int.le_of_lt hs)
    rw [Int.zero_mul] at this; omega
theorem ratio_ok {t b : Int} (h : 0 < b) (hb : b.natAbs < 2 ^ 8000) : ∃ r, m_ratio t b = some r ∧ Low t b r := by
  unfold m_ratio
  have hg := gcd_pos (a := t) h
  have hl := gcd_le (a := t) h
  have hs : (Int.gcd t b : Int).natAbs < 2 ^ 8000 := Nat.lt_of_le_of_lt (by omega) hb
  rw [if_neg (by simp; omega), divisor_ok]
  simp only [Option.bind_some]
  rw [if_neg (by simp; omega)]
  simp only [Option.bind_some]
  rw [divG_pos 8000 hg hs (by decide), divG_pos 8000 hg hs (by decide)]
  exact ⟨_, rfl, low_mk h⟩
theorem point_ok {a b n : Int} (h : 0 < n) (hn : n.natAbs < 2 ^ 8000) : ∃ r, m_point a b n = some r ∧ Low3 a b n r := by
  unfold m_point
  have hg : (0 : Int) < (g3 a b n : Int) := by have := g3_pos (a := a) (b := b) (n := n) (by omega); omega
  have hl := g3_le (a := a) (b := b) h
  have hs : (g3 a b n : Int).natAbs < 2 ^ 8000 := Nat.lt_of_le_of_lt (by omega) hn
  rw [if_neg (by simp; omega), divisor_ok]
  simp only [Option.bind_some]
  rw [divisor_ok]
  simp only [Option.bind_some]
  rw [if_neg (by simp; omega)]
  simp only [Option.bind_some]
  have e3 : ((Int.gcd (Int.gcd a n : Int) b : Nat) : Int) = (g3 a b n : Int) := rfl
  rw [e3, divG_pos 8000 hg hs (by decide), divG_pos 8000 hg hs (by decide), divG_pos 8000 hg hs (by decide)]
  exact ⟨_, rfl, low3_mk h⟩
/-- the law's loop over its cells -/
theorem cell0_ok (ns : List Int) : ∃ c, m__law_cell ns 0 = some c := by
  unfold m__law_cell
  by_cases z : 0 < ns.length
  · rw [if_pos (by simpa using z)]
    have := ix_lt z
    rw [show ((0 : Nat) : Int) = 0 from rfl] at this
    rw [this]; exact ⟨_, rfl⟩
  · rw [if_neg (by simpa using z)]; exact ⟨_, rfl⟩
/-! ### plain: lists by place -/
theorem foldO_at {α τ : Type} {f : α → τ → Option τ} (I : Nat → τ → Prop) : ∀ {xs : List α} {s : τ} (k : Nat), (∀ j x s, xs[j]? = some x → I (k + j) s → ∃ s', f x s = some s' ∧ I (k + j + 1) s') → I k s → ∃ s', foldO f xs s = some s' ∧ I (k + xs.length) s'
  | [], s, k, _, h => ⟨s, rfl, h⟩
  | x :: xs, s, k, hf, h => by
    obtain ⟨s1, e1, h1⟩ := hf 0 x s rfl h
    obtain ⟨s2, e2, h2⟩ := foldO_at I (xs := xs) (s := s1) (k + 1) (fun j y s hy hi => by
      have := hf (j + 1) y s (by simpa using hy) (by rw [show k + (j + 1) = k + 1 + j by omega]; exact hi)
      rwa [show k + (j + 1) + 1 = k + 1 + j + 1 by omega] at this) (by simpa using h1)
    refine ⟨s2, ?_, by rw [List.length_cons, show k + (xs.length + 1) = k + 1 + xs.length by omega]; exact h2⟩
    show (f x s).bind _ = _
    rw [e1]; exact e2
theorem rangeL_len (lo : Int) (n : Nat) : (rangeL lo n).length = n := by unfold rangeL; rw [List.length_map, List.length_range]
theorem rangeL_at {lo : Int} {n j : Nat} {x : Int} (h : (rangeL lo n)[j]? = some x) : x = lo + (j : Int) ∧ j < n := by
  have hl : j < n := by
    have := (List.getElem?_eq_some_iff.mp h).1
    rwa [rangeL_len] at this
  rw [rangeL_get hl] at h
  exact ⟨(Option.some.inj h).symm, hl⟩
theorem foldO_range {τ : Type} {f : Int → τ → Option τ} {lo : Int} {n : Nat} {s : τ} (I : Nat → τ → Prop) (hf : ∀ j s, j < n → I j s → ∃ s', f (lo + (j : Int)) s = some s' ∧ I (j + 1) s') (h : I 0 s) : ∃ s', foldO f (rangeL lo n) s = some s' ∧ I n s' := by
  obtain ⟨s', e, h'⟩ := foldO_at I (xs := rangeL lo n) (s := s) (f := f) 0 (fun j x s hx hi => by
    obtain ⟨e, hl⟩ := rangeL_at hx
    subst e
    rw [Nat.zero_add] at hi ⊢
    exact hf j s hl hi) h
  rw [Nat.zero_add, rangeL_len] at h'
  exact ⟨s', e, h'⟩
theorem ix_neg {α : Type} {xs : List α} {k : Nat} (h : k < xs.length) : ix xs (-1 - (k : Int)) = some (xs[xs.length - 1 - k]'(by omega)) := by
  unfold ix atI ixN
  rw [if_neg (by omega), if_pos (by omega)]
  simp only [Option.bind_some]
  rw [show (-1 - (k : Int) + (xs.length : Int)).toNat = xs.length - 1 - k by omega]
  exact List.getElem?_eq_getElem _
theorem slice_from {α : Type} {xs : List α} {k : Nat} (h : k ≤ xs.length) : slice xs (some (k : Int)) none = xs.drop k := by
  unfold slice
  rw [HT.sIx_nat, HT.sIx_none, Nat.min_eq_left h]
  exact List.take_of_length_le (by rw [List.length_drop]; omega)
theorem slice_to {α : Type} {xs : List α} {k : Nat} (h : k ≤ xs.length) : slice xs none (some (k : Int)) = xs.take k := by
  unfold slice
  rw [HT.sIx_nat, HT.sIx_none, Nat.min_eq_left h]
  rfl
theorem mapO_all {α β : Type} {f : α → Option β} {g : α → β} : ∀ {xs : List α}, (∀ x ∈ xs, f x = some (g x)) → mapO f xs = some (xs.map g)
  | [], _ => rfl
  | x :: xs, h => by
    show (f x).bind _ = _
    rw [h x List.mem_cons_self]
    simp only [Option.bind_some]
    rw [mapO_all fun y hy => h y (List.mem_cons_of_mem _ hy)]
    rfl
theorem rat_ok {xs : List Int} (h : Bag xs) : ∃ r ys, m__law_rat xs = some (r, ys) ∧ Bag ys ∧ Rt 100 r ∧ r.a.natAbs < 10 ^ 30 ∧ r.b < 10 ^ 30 := by
  unfold m__law_rat
  obtain ⟨r0, y0, e0, b0, l0, u0⟩ := draw_ok h (many := 4) (by decide) (by decide)
  simp only [e0, Option.bind_some]
  by_cases z : r0 = 0
  · rw [if_pos (by simpa using z)]
    obtain ⟨r1, y1, e1, b1, u1⟩ := signed_ok b0
    obtain ⟨r2, y2, e2, b2, l2, u2⟩ := great_ok b1
    obtain ⟨q, e3, w⟩ := lowest_ok (t := r1) (b := 1 + r2 / 2) (by omega) (pow_le (n := 200) (by omega) (by decide))
    simp only [e1, e2, e3, Option.bind_some]
    exact ⟨_, _, rfl, b2, w.rt (by omega) (by omega), by have := w.abs; omega, by have := w.le; omega⟩
  · rw [if_neg (by simpa using z)]
    by_cases z : r0 = 1
    · rw [if_pos (by simpa using z)]
      obtain ⟨r1, y1, e1, b1, l1, u1⟩ := draw_ok b0 (many := 20001) (by decide) (by decide)
      obtain ⟨r2, y2, e2, b2, l2, u2⟩ := draw_ok b1 (many := 500) (by decide) (by decide)
      obtain ⟨q, e3, w⟩ := lowest_ok (t := r1 - 10000) (b := 1 + r2) (by omega) (pow_le (n := 200) (by omega) (by decide))
      simp only [e1, e2, e3, Option.bind_some]
      exact ⟨_, _, rfl, b2, w.rt (by omega) (by omega), by have := w.abs; omega, by have := w.le; omega⟩
    · rw [if_neg (by simpa using z)]
      obtain ⟨r1, y1, e1, b1, l1, u1⟩ := draw_ok b0 (many := 25) (by decide) (by decide)
      obtain ⟨r2, y2, e2, b2, l2, u2⟩ := draw_ok b1 (many := 6) (by decide) (by decide)
      obtain ⟨q, e3, w⟩ := lowest_ok (t := r1 - 12) (b := 1 + r2) (by omega) (pow_le (n := 200) (by omega) (by decide))
      simp only [e1, e2, e3, Option.bind_some]
      exact ⟨_, _, rfl, b2, w.rt (by omega) (by omega), by have := w.abs; omega, by have := w.le; omega⟩
section
open TL
/-! ### plain: numbers as texts (from k67) -/
def numS (n : Nat) : Str := Str.ofString (toString ((n : Nat) : Int))
theorem tl_numS (n : Nat) : tl (numS n) = numL n := tl_num n
theorem numS_len {n k : Nat} (hk : 0 < k) (h : n < 10 ^ k) : (numS n).length ≤ k := by
  rw [len_tl, tl_numS]; exact numL_len hk h
def sgS (i : Int) : Str := if i < 0 then ("-" : Str) ++ numS i.natAbs else numS i.natAbs
theorem tl_min : tl ("-" : Str) = [45] := by decide +kernel
theorem tl_sl : tl ("/" : Str) = [47] := by decide +kernel
theorem tl_co : tl ("," : Str) = [44] := by decide +kernel
theorem str_of (i : Int) : (Str.ofString (toString i)) = sgS i := by
  unfold sgS
  cases i with
  | ofNat n => rw [if_neg (by simp)]; rfl
  | negSucc n =>
    rw [if_pos (by exact Int.negSucc_lt_zero n)]
    apply ext_tl
    rw [tl_append, tl_min, tl_numS, ← tl_num, tl_ofString, tl_ofString]
    show List.map Char.toNat ("-" ++ Nat.repr (n + 1)).toList = [45] ++ List.map Char.toNat (Nat.repr (n + 1)).toList
    rw [String.toList_append, List.map_append]
    rfl
theorem strI_ok {i : Int} (h : i.natAbs < 10 ^ 30) : strI i = some (sgS i) := by
  unfold strI
  rw [if_pos (Nat.lt_of_le_of_lt (log2_le (n := 100) (Nat.lt_trans h (by decide))) (by decide)), str_of]
/-- a ratio as a text -/
def wr (r : T2 Int Int) : Str := if r.b = 1 then sgS r.a else sgS r.a ++ ("/" : Str) ++ numS r.b.natAbs
structure R30 (r : T2 Int Int) : Prop where
  rt : Rt 100 r
  sa : r.a.natAbs < 10 ^ 30
  sb : r.b < 10 ^ 30
theorem sgS_len {i : Int} (h : i.natAbs < 10 ^ 30) : (sgS i).length ≤ 31 := by
  have := numS_len (k := 30) (by decide) h
  unfold sgS
  split
  · rw [len_tl, tl_append, List.length_append, tl_min, ← len_tl]; simp only [List.length_cons, List.length_nil]; omega
  · omega
theorem app_len (a b : Str) : (a ++ b).length = a.length + b.length := by rw [len_tl, tl_append, List.length_append, ← len_tl, ← len_tl]
theorem sl_len : ("/" : Str).length = 1 := by decide +kernel
theorem co_len : ("," : Str).length = 1 := by decide +kernel
theorem mi_len : ("-" : Str).length = 1 := by decide +kernel
theorem wr_len {r : T2 Int Int} (h : R30 r) : (wr r).length ≤ 62 := by
  have h1 := sgS_len h.sa
  have h2 := numS_len (n := r.b.natAbs) (k := 30) (by decide) (by have := h.sb; have := h.rt.pos; omega)
  unfold wr
  split
  · omega
  · rw [app_len, app_len, sl_len]; omega
theorem sg_pos {i : Int} (h : 0 ≤ i) : sgS i = numS i.natAbs := if_neg (by omega)
/-! ### read again -/
theorem tl_wr_free {r : T2 Int Int} (h : R30 r) : 44 ∉ tl (wr r) := by
  have fr : ∀ n, 44 ∉ numL n := fun n => numL_free (.inl (by decide))
  have fs : 44 ∉ tl (sgS r.a) := by
    unfold sgS
    split
    · rw [tl_append, tl_min, tl_numS]
      intro m
      rcases List.mem_append.mp m with m | m
      · simp at m
      · exact fr _ m
    · rw [tl_numS]; exact fr _
  unfold wr
  split
  · exact fs
  · rw [tl_append, tl_append, tl_sl, tl_numS]
    intro m
    rcases List.mem_append.mp m with m | m
    · rcases List.mem_append.mp m with m | m
      · exact fs m
      · simp at m
    · exact fr _ m
theorem numL_head : ∀ (n : Nat), 0 < n → ∃ c cs, numL n = c :: cs ∧ c ≠ 48 := by
  intro n
  induction n using Nat.strongRecOn with
  | _ n ih =>
    intro h
    by_cases z : n < 10
    · exact ⟨48 + n, [], numL_lt z, by omega⟩
    · obtain ⟨c, cs, e, ne⟩ := ih (n / 10) (by omega) (by omega)
      exact ⟨c, cs ++ [48 + n % 10], by rw [numL_step (by omega), e]; rfl, ne⟩
theorem tl_zero : tl ("0" : Str) = [48] := by decide +kernel
theorem tl_figs : tl ("0123456789" : Str) = [48, 49, 50, 51, 52, 53, 54, 55, 56, 57] := by decide +kernel
theorem in_figs {c : Nat} (h1 : 48 ≤ c) (h2 : c ≤ 57) : inS ⟨c⟩ ("0123456789" : Str) = true := by
  unfold inS
  rw [decide_eq_true_eq]
  show c ∈ tl ("0123456789" : Str)
  rw [tl_figs]
  simp only [List.mem_cons, List.not_mem_nil, or_false]
  omega
theorem foldO_unit {α : Type} {f : α → Unit → Option Unit} : ∀ {xs : List α}, (∀ x ∈ xs, f x () = some ()) → foldO f xs () = some ()
  | [], _ => rfl
  | x :: xs, h => by
    show (f x ()).bind _ = _
    rw [h x List.mem_cons_self]
    exact foldO_unit fun y hy => h y (List.mem_cons_of_mem _ hy)
theorem whole_ok {n : Nat} (h : n < 10 ^ 30) : m_read_whole (numS n) = some (n : Int) := by
  unfold m_read_whole
  have hl := numS_len (n := n) (k := 30) (by decide) h
  have h1 : 1 ≤ (numS n).length := by
    rw [len_tl, tl_numS]
    have := numL_ne n
    cases e : numL n with
    | nil => exact absurd e this
    | cons c cs => simp
  rw [lenOk_ok (by omega), Option.bind_some, if_neg (by simp; omega)]
  obtain ⟨c, cs, e, hc⟩ : ∃ c cs, numL n = c :: cs ∧ (c = 48 → n = 0) := by
    by_cases z : n = 0
    · subst z; exact ⟨48, [], numL_lt (by decide), fun _ => rfl⟩
    · obtain ⟨c, cs, e, ne⟩ := numL_head n (by omega)
      exact ⟨c, cs, e, fun y => absurd y ne⟩
  have hx : ixS (numS n) 0 = some ⟨#[c]⟩ := by
    unfold ixS
    rw [lenOk_ok (by omega), Option.bind_some]
    show (atI (tl (numS n)) 0).map _ = _
    rw [tl_numS, e, atI_zero]; rfl
  have hb : (decide ((⟨#[c]⟩ : Str) = ("0" : Str)) && (!decide (numS n = ("0" : Str)))) = false := by
    by_cases z : (⟨#[c]⟩ : Str) = ("0" : Str)
    · have := congrArg tl z
      rw [tl_zero] at this
      have ec : c = 48 := by
        have : [c] = [48] := this
        simpa using this
      have en := hc ec
      subst en
      have : numS 0 = ("0" : Str) := ext_tl (by rw [tl_numS, tl_zero, numL_lt (by decide)])
      rw [decide_eq_true this]; simp
    · rw [decide_eq_false z]; rfl
  rw [hx, Option.bind_some, hb, Option.bind_some, if_neg (by decide)]
  rw [foldO_unit fun x hx => by
    unfold chs at hx
    obtain ⟨d, hd, e⟩ := List.mem_map.mp hx
    subst e
    have hd' : d ∈ numL n := by rw [← tl_numS]; exact hd
    obtain ⟨d1, d2⟩ := numL_digits n d hd'
    rw [in_figs d1 d2]; rfl]
  rw [Option.bind_some]
  unfold intT
  rw [if_pos (by omega)]
  show (PySem.intText? (Str.ofString (toString ((n : Nat) : Int)))).bind _ = _
  rw [int_num (by rw [← tl_numS, ← len_tl]; omega)]; rfl
theorem starts_neg (x : Str) : Txt.startswith (("-" : Str) ++ x) ("-" : Str) = true := by
  show (decide (0 + ("-" : Str).length ≤ (("-" : Str) ++ x).length) && Builtin.Str.subAt (("-" : Str) ++ x) ("-" : Str) 0) = true
  rw [PySem.StrLaws.subAt_eq, app_len, mi_len, decide_eq_true (by omega), Bool.true_and]
  show (((tl (("-" : Str) ++ x)).drop 0).take 1 == tl ("-" : Str)) = true
  rw [tl_append, tl_min]; simp
theorem starts_num {x : Str} {c : Nat} {cs : List Nat} (h : tl x = c :: cs) (hc : c ≠ 45) : Txt.startswith x ("-" : Str) = false := by
  show (decide (0 + ("-" : Str).length ≤ x.length) && Builtin.Str.subAt x ("-" : Str) 0) = false
  rw [PySem.StrLaws.subAt_eq, mi_len]
  show (_ && (((tl x).drop 0).take 1 == tl ("-" : Str))) = false
  rw [h, tl_min, Bool.and_eq_false_iff]
  right
  simp [hc]
theorem cut_one (x : Str) : cutS (("-" : Str) ++ x) (some 1) none = x := by
  apply ext_tl
  unfold cutS
  show ((tl (("-" : Str) ++ x)).drop _).take _ = tl x
  rw [show (some (1 : Int)) = some ((1 : Nat) : Int) from rfl, HT.sIx_nat, HT.sIx_none, app_len, mi_len, Nat.min_eq_left (by omega), tl_append, tl_min]
  show (tl x).take (1 + x.length - 1) = tl x
  rw [List.take_of_length_le (by rw [← len_tl]; omega)]
theorem num_first (n : Nat) (x : Str) : ∃ c cs, tl (numS n ++ x) = c :: cs ∧ c ≠ 45 := by
  rw [tl_append, tl_numS]
  cases e : numL n with
  | nil => exact absurd e (numL_ne n)
  | cons c cs =>
    have := numL_digits n c (by rw [e]; exact List.mem_cons_self)
    exact ⟨c, cs ++ tl x, rfl, by omega⟩
/-- the text behind its sign -/
def bare (r : T2 Int Int) : Str := if r.b = 1 then numS r.a.natAbs else numS r.a.natAbs ++ ("/" : Str) ++ numS r.b.natAbs
theorem wr_neg {r : T2 Int Int} (h : r.a < 0) : wr r = ("-" : Str) ++ bare r := by
  unfold wr bare sgS
  rw [if_pos h]
  split
  · rfl
  · apply ext_tl; simp only [tl_append, List.append_assoc]
theorem wr_pos {r : T2 Int Int} (h : ¬ r.a < 0) : wr r = bare r := by
  unfold wr bare sgS
  rw [if_neg h]
theorem bare_len {r : T2 Int Int} (h : R30 r) : (bare r).length ≤ 61 := by
  have h1 := numS_len (k := 30) (by decide) h.sa
  have h2 := numS_len (n := r.b.natAbs) (k := 30) (by decide) (by have := h.sb; have := h.rt.pos; omega)
  unfold bare
  split
  · omega
  · rw [app_len, app_len, sl_len]; omega
theorem sl_free (n : Nat) : 47 ∉ tl (numS n) := by rw [tl_numS]; exact numL_free (.inl (by decide))
theorem ratio_self {a b : Int} (hb : 0 < b) (sb : b.natAbs < 2 ^ 100) (sa : a.natAbs < 2 ^ 100) (g : Int.gcd a b = 1) : m_ratio a b = some ⟨a, b⟩ := by
  obtain ⟨r, e, w⟩ := ratio_ok (t := a) hb (pow_le sb (by decide))
  rw [e, w.is hb (q := ⟨a, b⟩) (n := 100) ⟨hb, sa, sb, g⟩ (by show a * b = a * b; rfl)]
theorem emp_ne : decide (Str.empty = (("/" : Str))) = false := by decide +kernel
theorem ratio_read {r : T2 Int Int} (h : R30 r) : m_read_ratio (wr r) = some r := by
  unfold m_read_ratio
  have hp := h.rt.pos
  have hsb := h.sb
  have hbl := bare_len h
  have hbb : r.b.natAbs < 10 ^ 30 := by omega
  have eb : ((r.b.natAbs : Nat) : Int) = r.b := by omega
  have e1 : (if (Txt.startswith (wr r) (("-" : Str))) = true then ((lenOk (wr r).length).bind fun _ => (some ((cutS (wr r) (some 1) none))).bind fun (rest_1 : Str) => some rest_1) else (some (wr r))) = some (bare r) := by
    by_cases z : r.a < 0
    · rw [wr_neg z, if_pos (starts_neg _), lenOk_ok (by rw [app_len, mi_len]; omega), Option.bind_some, cut_one]; rfl
    · rw [wr_pos z, if_neg]
      have : ∃ c cs, tl (bare r) = c :: cs ∧ c ≠ 45 := by
        unfold bare
        split
        · obtain ⟨c, cs, e, n⟩ := num_first r.a.natAbs ⟨#[]⟩
          rw [tl_append, show tl (⟨#[]⟩ : Str) = [] from rfl, List.append_nil] at e
          exact ⟨c, cs, e, n⟩
        · obtain ⟨c, cs, e, n⟩ := num_first r.a.natAbs (("/" : Str) ++ numS r.b.natAbs)
          exact ⟨c, cs, by rw [← e]; simp only [tl_append, List.append_assoc], n⟩
      obtain ⟨c, cs, e, n⟩ := this
      rw [starts_num e n]; decide
  refine (congrArg (fun o => Option.bind o _) e1).trans ?_
  rw [Option.bind_some, lenOk_ok (by omega), Option.bind_some]
  have es : ∀ {α : Type} (u v : α), (if (decide (bare r = wr r)) = true then u else v) = if r.a < 0 then v else u := fun u v => by
    by_cases z : r.a < 0
    · rw [if_neg, if_pos z]
      rw [decide_eq_true_eq, wr_neg z]
      intro e
      have := congrArg Str.length e
      rw [app_len, mi_len] at this
      omega
    · rw [if_pos (decide_eq_true (wr_pos z).symm), if_neg z]
  by_cases z : r.b = 1
  · have ep : partS (bare r) ("/" : Str) = ⟨numS r.a.natAbs, Str.empty, Str.empty⟩ := by
      unfold partS bare
      rw [if_pos z, partition_none tl_sl (sl_free _)]
    rw [ep]
    simp only
    rw [whole_ok h.sa, Option.bind_some, Option.bind_some, if_neg (by rw [emp_ne]; decide), es]
    by_cases y : r.a < 0
    · rw [if_pos y, if_neg (by simp; omega)]
      refine congrArg some ?_
      obtain ⟨a, b⟩ := r
      simp only at y z
      subst z
      show (T2.mk (-((a.natAbs : Nat) : Int)) 1 : T2 Int Int) = _
      rw [show -((a.natAbs : Nat) : Int) = a by omega]
    · rw [if_neg y]
      refine congrArg some ?_
      obtain ⟨a, b⟩ := r
      simp only at y z
      subst z
      show (T2.mk ((a.natAbs : Nat) : Int) 1 : T2 Int Int) = _
      rw [show ((a.natAbs : Nat) : Int) = a by omega]
  · have ep : partS (bare r) ("/" : Str) = ⟨numS r.a.natAbs, ("/" : Str), numS r.b.natAbs⟩ := by
      unfold partS bare
      rw [if_neg z, partition_app tl_sl (sl_free _)]
    rw [ep]
    simp only
    have g : Int.gcd ((r.a.natAbs : Nat) : Int) r.b = 1 := by
      have := h.rt.one
      rw [← this]
      show Nat.gcd (((r.a.natAbs : Nat) : Int)).natAbs r.b.natAbs = Nat.gcd r.a.natAbs r.b.natAbs
      rw [Int.natAbs_natCast]
    rw [whole_ok h.sa, Option.bind_some, Option.bind_some, if_pos (by decide +kernel), whole_ok hbb, Option.bind_some, Option.bind_some]
    simp only
    rw [eb, if_neg (by simp; omega), ratio_self hp h.rt.sb (by rw [Int.natAbs_natCast]; exact h.rt.sa) g, Option.bind_some, Option.bind_some, if_neg (by simp), es]
    by_cases y : r.a < 0
    · rw [if_pos y, if_neg (by simp; omega), show -((r.a.natAbs : Nat) : Int) = r.a by omega]
    · rw [if_neg y, show ((r.a.natAbs : Nat) : Int) = r.a by omega]
theorem at_low {x y : T2 Int Int} (hx : R30 x) (hy : R30 y) : ∃ r, m_at x y = some r ∧ Low3 (x.a * y.b) (y.a * x.b) (x.b * y.b) r := by
  unfold m_at
  have a := hx.rt
  have b := hy.rt
  obtain ⟨r, e, w⟩ := point_ok (a := x.a * y.b) (b := y.a * x.b) (Int.mul_pos a.pos b.pos) (pow_le (sz_mul a.sb b.sb) (by decide))
  rw [mulG_ok _ _ a.sa b.sb (by decide), Option.bind_some, mulG_ok _ _ b.sa a.sb (by decide), Option.bind_some, mulG_ok _ _ a.sb b.sb (by decide), Option.bind_some, e]
  exact ⟨r, rfl, w⟩
theorem readpt_ok {x y : T2 Int Int} (hx : R30 x) (hy : R30 y) {r : T3 Int Int Int} (e : m_at x y = some r) : m_read_point (wr x ++ ("," : Str) ++ wr y) = some r := by
  unfold m_read_point
  have h1 := wr_len hx
  have h2 := wr_len hy
  have ep : partS (wr x ++ ("," : Str) ++ wr y) ("," : Str) = ⟨wr x, ("," : Str), wr y⟩ := by
    unfold partS
    rw [partition_app tl_co (tl_wr_free hx)]
  rw [lenOk_ok (by rw [app_len, app_len, co_len]; omega), Option.bind_some, ep]
  simp only
  rw [if_neg (by simp), ratio_read hx, Option.bind_some, ratio_read hy, Option.bind_some, e]; rfl
end
section
open TL
/-! ### plain k68: what is one number, one ratio, one point -/
def Dg (c : Nat) : Prop := 48 ≤ c ∧ c ≤ 57
instance (c : Nat) : Decidable (Dg c) := by unfold Dg; infer_instance
theorem dig_num : ∀ (k : Nat) (l : List Nat), l.length = k + 1 → (∀ c ∈ l, Dg c) → (l = [48] ∨ l.head? ≠ some 48) → ∃ n, l = numL n ∧ n < 10 ^ (k + 1) ∧ (l.head? ≠ some 48 → 0 < n)
  | 0, l, hl, hd, hh => by
    obtain ⟨c, rfl⟩ : ∃ c, l = [c] := List.length_eq_one_iff.mp hl
    have := hd c List.mem_cons_self
    unfold Dg at this
    refine ⟨c - 48, by rw [numL_lt (by omega)]; congr 1; omega, by omega, fun h => ?_⟩
    have : c ≠ 48 := fun e => h (by rw [e]; rfl)
    omega
  | k + 1, l, hl, hd, hh => by
    have hne : l ≠ [] := fun e => by subst e; simp at hl
    have e := List.dropLast_concat_getLast hne
    have hl2 : l.dropLast.length = k + 1 := by rw [List.length_dropLast]; omega
    have hh2 : l.head? ≠ some 48 := hh.elim (fun e => by rw [e] at hl; simp at hl) id
    have hd2 : l.dropLast.head? = l.head? := by
      cases h : l.dropLast with
      | nil => rw [h] at hl2; simp at hl2
      | cons a t => rw [← e, h]; rfl
    obtain ⟨m, e1, m1, m2⟩ := dig_num k l.dropLast hl2 (fun c hc => hd c (List.dropLast_subset l hc)) (.inr (by rw [hd2]; exact hh2))
    have mp := m2 (by rw [hd2]; exact hh2)
    have hc := hd _ (List.getLast_mem hne)
    generalize l.getLast hne = c at e hc
    unfold Dg at hc
    refine ⟨10 * m + (c - 48), ?_, ?_, fun _ => by omega⟩
    · rw [numL_step (n := 10 * m + (c - 48)) (by omega), show (10 * m + (c - 48)) / 10 = m by omega, show (10 * m + (c - 48)) % 10 = c - 48 by omega, ← e1, show 48 + (c - 48) = c by omega, e]
    · rw [Nat.pow_succ] at m1 ⊢; omega
def Whole (t : Str) : Prop := ∃ n, n < 10 ^ 30 ∧ t = numS n
def WP (l : List Nat) : Prop := 1 ≤ l.length ∧ l.length ≤ 30 ∧ (∀ c ∈ l, Dg c) ∧ (l = [48] ∨ l.head? ≠ some 48)
theorem whole_wp (t : Str) : Whole t ↔ WP (tl t) := by
  constructor
  · rintro ⟨n, h, rfl⟩
    rw [tl_numS]
    have h1 := numL_ne n
    refine ⟨by cases e : numL n with
      | nil => exact absurd e h1
      | cons _ _ => simp, numL_len (by decide) h, fun c hc => numL_digits n c hc, ?_⟩
    by_cases z : n = 0
    · subst z; exact .inl (numL_lt (by decide))
    · obtain ⟨c, cs, e, ne⟩ := numL_head n (by omega)
      exact .inr (by rw [e]; simpa using ne)
  · rintro ⟨h1, h2, h3, h4⟩
    obtain ⟨n, e, hn, _⟩ := dig_num ((tl t).length - 1) (tl t) (by omega) h3 h4
    refine ⟨n, Nat.lt_of_lt_of_le hn (Nat.pow_le_pow_right (by decide) (by omega)), ext_tl (by rw [tl_numS]; exact e)⟩
theorem inS_dg (c : Nat) : inS ⟨c⟩ ("0123456789" : Str) = decide (Dg c) := by
  unfold inS
  show decide (c ∈ tl ("0123456789" : Str)) = _
  rw [tl_figs]
  refine decide_eq_decide.mpr ?_
  unfold Dg
  simp only [List.mem_cons, List.not_mem_nil, or_false]
  omega
theorem chs_tl (t : Str) : chs t = (tl t).map fun c => (⟨c⟩ : Ch) := rfl
theorem chs_len (t : Str) : (chs t).length = t.length := by rw [chs_tl, List.length_map, len_tl]
theorem ix0 {t : Str} {c : Nat} {cs : List Nat} (h : tl t = c :: cs) (hl : t.length ≤ 16777216) : ixS t 0 = some ⟨#[c]⟩ := by
  unfold ixS
  rw [lenOk_ok hl, Option.bind_some]
  show (atI (tl t) 0).map _ = _
  rw [h, atI_zero]; rfl
theorem one_eq (c : Nat) : ((⟨#[c]⟩ : Str) = ("0" : Str)) ↔ c = 48 := by
  constructor
  · intro e
    have := congrArg tl e
    rw [tl_zero] at this
    have : [c] = [48] := this
    simpa using this
  · rintro rfl
    exact ext_tl (by rw [tl_zero])
theorem zero_eq (t : Str) : (t = ("0" : Str)) ↔ tl t = [48] := ⟨fun e => by rw [e, tl_zero], fun e => ext_tl (by rw [e, tl_zero])⟩
theorem is_whole (t : Str) (hl : t.length ≤ 16777216) : ∃ b, m__law_is_whole t = some b ∧ (b = true ↔ Whole t) := by
  unfold m__law_is_whole
  rw [whole_wp, lenOk_ok hl, Option.bind_some, chs_len, lenOk_ok hl, Option.bind_some]
  rw [mapO_all (g := fun x2 : Ch => inS x2 ("0123456789" : Str)) (fun _ _ => rfl), Option.bind_some]
  have all : (((chs t).map fun x2 : Ch => inS x2 ("0123456789" : Str)).all id) = true ↔ ∀ c ∈ tl t, Dg c := by
    rw [chs_tl, List.map_map, List.all_map, List.all_eq_true]
    constructor
    · intro h c hc
      have := h c hc
      have : inS ⟨c⟩ ("0123456789" : Str) = true := this
      rw [inS_dg] at this
      exact of_decide_eq_true this
    · intro h c hc
      show inS ⟨c⟩ ("0123456789" : Str) = true
      rw [inS_dg]
      exact decide_eq_true (h c hc)
  unfold WP
  rw [← len_tl]
  by_cases z : (1 ≤ t.length ∧ t.length ≤ 30) ∧ ∀ c ∈ tl t, Dg c
  · obtain ⟨⟨z1, z2⟩, z3⟩ := z
    have e : (if (!(((decide (1 ≤ (t.length : Int))) && (decide ((t.length : Int) ≤ 30))))) = true then some true else some ((!((((chs t).map fun x2 : Ch => inS x2 ("0123456789" : Str)).all id))))) = some false := by
      rw [if_neg (by simp; omega), all.mpr z3]; rfl
    rw [e, Option.bind_some, if_neg (by decide)]
    cases h : tl t with
    | nil => rw [len_tl, h] at z1; simp at z1
    | cons c cs =>
      rw [ix0 h hl, Option.bind_some]
      rw [h] at z3
      by_cases y : t = ("0" : Str)
      · rw [if_pos (decide_eq_true y)]
        exact ⟨true, rfl, fun _ => ⟨z1, z2, z3, .inl (by rw [← h]; exact (zero_eq t).mp y)⟩, fun _ => rfl⟩
      · rw [if_neg (by simpa using y)]
        refine ⟨_, rfl, ?_⟩
        have y2 : ¬ (c :: cs = [48]) := fun e => y ((zero_eq t).mpr (by rw [h]; exact e))
        have : ((⟨#[c]⟩ : Str) = ("0" : Str)) ↔ c = 48 := one_eq c
        constructor
        · intro q
          refine ⟨z1, z2, z3, .inr ?_⟩
          have q : ¬ ((⟨#[c]⟩ : Str) = ("0" : Str)) := by simpa using q
          rw [this] at q
          simpa using q
        · rintro ⟨_, _, _, q⟩
          have q := q.resolve_left y2
          have q : c ≠ 48 := by simpa using q
          have : ¬ ((⟨#[c]⟩ : Str) = ("0" : Str)) := fun e => q (this.mp e)
          simpa using this
  · have e : (if (!(((decide (1 ≤ (t.length : Int))) && (decide ((t.length : Int) ≤ 30))))) = true then some true else some ((!((((chs t).map fun x2 : Ch => inS x2 ("0123456789" : Str)).all id))))) = some true := by
      by_cases y : 1 ≤ t.length ∧ t.length ≤ 30
      · rw [if_neg (by simp; omega)]
        have : (((chs t).map fun x2 : Ch => inS x2 ("0123456789" : Str)).all id) = false := by
          cases q : (((chs t).map fun x2 : Ch => inS x2 ("0123456789" : Str)).all id) with
          | false => rfl
          | true => exact absurd ⟨y, all.mp q⟩ z
        rw [this]; rfl
      · rw [if_pos (by simp; omega)]
    rw [e, Option.bind_some, if_pos rfl]
    exact ⟨false, rfl, fun e => (nomatch e), fun q => absurd ⟨⟨q.1, q.2.1⟩, q.2.2.1⟩ z⟩
theorem loop_dg : ∀ (l : List Nat), loopL (ρ := Unit) (fun (x3 : Ch) (s2 : Unit) => (if (!inS x3 (("0123456789" : Str))) = true then (some (.ret ())) else (some (.nxt (()))))) (l.map fun c => (⟨c⟩ : Ch)) () = some (if (∀ c ∈ l, Dg c) then .nxt () else .ret ())
  | [] => by rw [if_pos (fun _ h => nomatch h)]; rfl
  | c :: l => by
    show (Option.bind (if (!inS ⟨c⟩ _) = true then _ else _) _) = _
    rw [inS_dg]
    by_cases z : Dg c
    · rw [if_neg (by simpa using z), Option.bind_some]
      show loopL _ _ _ = _
      rw [loop_dg l]
      congr 1
      by_cases y : ∀ c ∈ l, Dg c
      · rw [if_pos y, if_pos (fun d hd => by rcases List.mem_cons.mp hd with rfl | hd
                                             · exact z
                                             · exact y d hd)]
      · rw [if_neg y, if_neg (fun q => y fun d hd => q d (List.mem_cons_of_mem _ hd))]
    · rw [if_pos (by simpa using z), if_neg (fun q => z (q c List.mem_cons_self))]; rfl
theorem whole_x (t : Str) (hl : t.length ≤ 16777216) : (Whole t → m_read_whole_x t = none) ∧ (¬ Whole t → m_read_whole_x t = some ()) := by
  unfold m_read_whole_x
  rw [whole_wp, lenOk_ok hl, Option.bind_some, chs_tl, loop_dg]
  unfold WP
  rw [← len_tl]
  by_cases z : 1 ≤ t.length ∧ t.length ≤ 30
  · rw [if_neg (by simp; omega)]
    cases h : tl t with
    | nil => rw [len_tl, h] at z; simp at z
    | cons c cs =>
      rw [ix0 h hl, Option.bind_some, Option.bind_some, Option.bind_some]
      have e1 := one_eq c
      have e2 := zero_eq t
      rw [h] at e2
      have e3 : (c :: cs).head? = some 48 ↔ c = 48 := by simp
      by_cases y : c = 48 ∧ ¬ (c :: cs = [48])
      · rw [if_pos (by simp only [Bool.and_eq_true, decide_eq_true_eq, Bool.not_eq_true', decide_eq_false_iff_not]; exact ⟨e1.mpr y.1, fun q => y.2 (e2.mp q)⟩)]
        refine ⟨fun q => absurd q.2.2.2 ?_, fun _ => rfl⟩
        rintro (q | q)
        · exact y.2 q
        · exact q (e3.mpr y.1)
      · rw [if_neg (by simp only [Bool.and_eq_true, decide_eq_true_eq, Bool.not_eq_true', decide_eq_false_iff_not]; exact fun q => y ⟨e1.mp q.1, fun q2 => q.2 (e2.mpr q2)⟩)]
        have hd : c :: cs = [48] ∨ (c :: cs).head? ≠ some 48 := by
          by_cases w : c = 48
          · exact .inl (Classical.byContradiction fun n => y ⟨w, n⟩)
          · exact .inr fun q => w (e3.mp q)
        by_cases x : ∀ d ∈ c :: cs, Dg d
        · rw [if_pos x]
          exact ⟨fun _ => rfl, fun q => absurd ⟨z.1, z.2, x, hd⟩ q⟩
        · rw [if_neg x]
          exact ⟨fun q => absurd q.2.2.1 x, fun _ => rfl⟩
  · rw [if_pos (by simp; omega)]
    exact ⟨fun q => absurd ⟨q.1, q.2.1⟩ z, fun _ => rfl⟩
end
section
open TL
theorem int_ok {n : Nat} (h : n < 10 ^ 30) : intT (numS n) = some (n : Int) := by
  have hl := numS_len (n := n) (k := 30) (by decide) h
  unfold intT
  rw [if_pos (by omega)]
  show PySem.intText? (Str.ofString (toString ((n : Nat) : Int))) = _
  rw [int_num (by rw [← tl_numS, ← len_tl]; omega)]
theorem split_one {y t : Str} {s : Nat} (ey : tl y = [s]) (hk : y.cps.all (· < 256) = true) (h : s ∉ tl t) : Txt.split t y = [t] := by
  refine map_tl_inj ?_
  rw [split_spl _ y (by rw [ey]; simp) (kind_ok hk), ey, spl_last1 h]
  rfl
theorem split_more {y a b : Str} {s : Nat} (ey : tl y = [s]) (hk : y.cps.all (· < 256) = true) (h : s ∉ tl a) : Txt.split (a ++ y ++ b) y = a :: Txt.split b y := by
  refine map_tl_inj ?_
  rw [List.map_cons, split_spl _ y (by rw [ey]; simp) (kind_ok hk), split_spl _ y (by rw [ey]; simp) (kind_ok hk), tl_append, tl_append, ey, List.append_assoc, spl_part1 h]
  rfl
theorem cut_first {y : Str} {s : Nat} (ey : tl y = [s]) {t : Str} (h : s ∈ tl t) : ∃ a b : Str, t = a ++ y ++ b ∧ s ∉ tl a := by
  obtain ⟨as, bs, e, n⟩ := List.eq_append_cons_of_mem h
  refine ⟨⟨as.toArray⟩, ⟨bs.toArray⟩, ext_tl ?_, n⟩
  rw [tl_append, tl_append, ey, e, List.append_assoc]
  rfl
theorem split_pos {y t : Str} {s : Nat} (ey : tl y = [s]) (hk : y.cps.all (· < 256) = true) : 1 ≤ (Txt.split t y).length := by
  by_cases h : s ∈ tl t
  · obtain ⟨a, b, rfl, n⟩ := cut_first ey h
    rw [split_more ey hk n]; simp
  · rw [split_one ey hk h]; simp
theorem split_two {y t : Str} {s : Nat} (ey : tl y = [s]) (hk : y.cps.all (· < 256) = true) (h : s ∈ tl t) : 2 ≤ (Txt.split t y).length := by
  obtain ⟨a, b, rfl, n⟩ := cut_first ey h
  rw [split_more ey hk n, List.length_cons]
  have := split_pos (t := b) ey hk
  omega
theorem split_le {y : Str} {s : Nat} (ey : tl y = [s]) (hk : y.cps.all (· < 256) = true) : ∀ (k : Nat) (t : Str), t.length ≤ k → (Txt.split t y).length ≤ k + 1 := by
  intro k
  induction k with
  | zero =>
    intro t ht
    rw [split_one ey hk (fun m => by
      rw [len_tl] at ht
      have := List.length_pos_of_mem m
      omega)]
    simp
  | succ k ih =>
    intro t ht
    by_cases h : s ∈ tl t
    · obtain ⟨a, b, rfl, n⟩ := cut_first ey h
      rw [split_more ey hk n, List.length_cons]
      have : b.length ≤ k := by
        rw [app_len, app_len] at ht
        have : y.length = 1 := by rw [len_tl, ey]; rfl
        omega
      have := ih b this
      omega
    · rw [split_one ey hk h]; simp
theorem cut_to (t : Str) (k : Nat) : tl (cutS t none (some (k : Int))) = (tl t).take k := by
  unfold cutS
  rw [HT.sIx_nat, HT.sIx_none]
  show ((tl t).drop 0).take _ = _
  rw [List.drop_zero, Nat.sub_zero, len_tl]
  rcases Nat.le_total k (tl t).length with h | h
  · rw [Nat.min_eq_left h]
  · rw [Nat.min_eq_right h, List.take_length, List.take_of_length_le h]
theorem tl_m0 : tl ("-0" : Str) = [45, 48] := by decide +kernel
theorem tl_inj {a b : Str} : a = b ↔ tl a = tl b := ⟨fun e => by rw [e], ext_tl⟩
/-- what is read of a text of a ratio -/
def RB (t : Str) : Prop := (∃ r, R30 r ∧ t = wr r ∧ m_read_ratio_x t = none ∧ m__law_ratio_in t = some (some r)) ∨ (m_read_ratio_x t = some () ∧ m__law_ratio_in t = some none)
theorem ksl : ("/" : Str).cps.all (· < 256) = true := by decide +kernel
theorem kco : ("," : Str).cps.all (· < 256) = true := by decide +kernel
theorem numS_inj {n : Nat} (h : (tl (numS n)).head? = some 48) : n = 0 := by
  rw [tl_numS] at h
  refine Classical.byContradiction fun z => ?_
  obtain ⟨c, cs, e, ne⟩ := numL_head n (by omega)
  rw [e] at h
  simp at h
  exact ne h
theorem head_zero : (tl (numS 0)).head? = some 48 := by rw [tl_numS, numL_lt (by decide)]; rfl
theorem head_app (a b : Str) (h : tl a ≠ []) : (tl (a ++ b)).head? = (tl a).head? := by
  rw [tl_append]
  cases e : tl a with
  | nil => exact absurd e h
  | cons c cs => rfl
theorem num_ne (n : Nat) : tl (numS n) ≠ [] := by rw [tl_numS]; exact numL_ne n
/-- a ratio of whole numbers -/
theorem r30_mk {n m : Nat} (sg : Bool) (hn : n < 10 ^ 30) (hm : m < 10 ^ 30) (m0 : 0 < m) (g : Nat.gcd n m = 1) : R30 ⟨if sg = true then -(n : Int) else (n : Int), (m : Int)⟩ := by
  have p1 : (10 : Nat) ^ 30 < 2 ^ 100 := by decide
  have ha : (if sg = true then -(n : Int) else (n : Int)).natAbs = n := by split <;> omega
  refine ⟨⟨by show (0 : Int) < (m : Int); omega, by rw [ha]; omega, by show ((m : Int)).natAbs < _; rw [Int.natAbs_natCast]; omega, ?_⟩, by rw [ha]; exact hn, by show (m : Int) < 10 ^ 30; omega⟩
  show Nat.gcd (if sg = true then -(n : Int) else (n : Int)).natAbs ((m : Int)).natAbs = 1
  rw [ha, Int.natAbs_natCast]; exact g
theorem wr_mk {n m : Nat} (sg : Bool) (z : sg = true → 0 < n) : wr ⟨if sg = true then -(n : Int) else (n : Int), (m : Int)⟩ = (if sg = true then ("-" : Str) ++ (if m = 1 then numS n else numS n ++ ("/" : Str) ++ numS m) else (if m = 1 then numS n else numS n ++ ("/" : Str) ++ numS m)) := by
  have ha : (if sg = true then -(n : Int) else (n : Int)).natAbs = n := by split <;> omega
  cases sg with
  | false =>
    rw [wr_pos (by simp)]
    unfold bare
    rw [ha]
    by_cases y : m = 1
    · rw [if_pos (by show (m : Int) = 1; omega), if_neg (by decide), if_pos y]
    · rw [if_neg (by show ¬ (m : Int) = 1; omega), if_neg (by decide), if_neg y]; rfl
  | true =>
    have := z rfl
    rw [wr_neg (by simp; omega)]
    unfold bare
    rw [ha]
    by_cases y : m = 1
    · rw [if_pos (by show (m : Int) = 1; omega), if_pos rfl, if_pos y]
    · rw [if_neg (by show ¬ (m : Int) = 1; omega), if_pos rfl, if_neg y]; rfl
theorem ratio_is {n m : Nat} (hm : 2 ≤ m) (hm2 : m < 10 ^ 30) (hn : n < 10 ^ 30) : ∃ r, m_ratio (n : Int) (m : Int) = some r ∧ (r = ⟨(n : Int), (m : Int)⟩ ↔ Nat.gcd n m = 1) := by
  have p1 : (10 : Nat) ^ 30 < 2 ^ 100 := by decide
  obtain ⟨r, e, w⟩ := ratio_ok (t := (n : Int)) (b := (m : Int)) (by omega) (pow_le (n := 100) (by omega) (by decide))
  refine ⟨r, e, fun q => ?_, fun g => ?_⟩
  · have := w.one
    rw [q] at this
    have h : Int.gcd (n : Int) (m : Int) = Nat.gcd n m := rfl
    rw [← h]; exact this
  · exact w.is (by omega) (q := ⟨(n : Int), (m : Int)⟩) (n := 100) ⟨by show (0 : Int) < (m : Int); omega, by show ((n : Int)).natAbs < _; rw [Int.natAbs_natCast]; omega, by show ((m : Int)).natAbs < _; rw [Int.natAbs_natCast]; omega, g⟩ rfl
end
section
open TL
/-- what the law asks of a text of a ratio whose parts are told -/
theorem ratio_body {t s : Str} (ls : s.length ≤ 1000) (lt : t.length ≤ 1000) (neg : Bool)
    (h1 : (if (Txt.startswith t (("-" : Str))) = true then ((lenOk t.length).bind fun _ => (some ((cutS t (some 1) none))).bind fun (rest_1 : Str) => some rest_1) else (some t)) = some s)
    (h2 : (if (decide ((cutS t none (some 1)) = ("-" : Str))) = true then ((lenOk t.length).bind fun _ => (some ((cutS t (some 1) none))).bind fun (rest_1 : Str) => some rest_1) else (some t)) = some s)
    (h3 : (s = t) ↔ neg = false) (h4 : decide ((cutS t none (some 2)) = ("-0" : Str)) = (neg && decide ((tl s).head? = some 48))) (h5 : t = if neg = true then ("-" : Str) ++ s else s) : RB t := by
  have L1 := lenOk_ok (n := t.length) (by omega)
  have eqd : ∀ {α : Type} (u v : α), (if (decide (s = t)) = true then u else v) = if neg = true then v else u := fun u v => by
    cases neg with
    | false => rw [if_pos (decide_eq_true (h3.mpr rfl)), if_neg (by decide)]
    | true => rw [if_neg (by rw [decide_eq_true_eq]; exact fun e => nomatch h3.mp e), if_pos rfl]
  have neqd : ∀ {α : Type} (u v : α), (if (!decide (s = t)) = true then u else v) = if neg = true then u else v := fun u v => by
    cases neg with
    | false => rw [if_neg (by rw [decide_eq_true (h3.mpr rfl)]; decide), if_neg (by decide)]
    | true => rw [if_pos (by simp only [Bool.not_eq_true', decide_eq_false_iff_not]; exact fun e => nomatch h3.mp e), if_pos rfl]
  unfold RB m_read_ratio_x m__law_ratio_in
  rw [h1, h2, L1]
  simp only [Option.bind_some]
  rw [lenOk_ok (n := s.length) (by omega), lenOk_ok (n := s.length + 2) (by omega)]
  simp only [Option.bind_some]
  by_cases hs : 47 ∈ tl s
  · obtain ⟨a, b, rfl, na⟩ := cut_first (y := ("/" : Str)) tl_sl hs
    have la : a.length ≤ 1000 := by rw [app_len, app_len] at ls; omega
    have lb : b.length ≤ 1000 := by rw [app_len, app_len] at ls; omega
    have ep : partS (a ++ ("/" : Str) ++ b) ("/" : Str) = ⟨a, ("/" : Str), b⟩ := by
      unfold partS
      rw [partition_app tl_sl na]
    rw [ep, split_more tl_sl ksl na]
    simp only
    obtain ⟨ba, ea, ia⟩ := is_whole a (by omega)
    obtain ⟨xa1, xa2⟩ := whole_x a (by omega)
    obtain ⟨xb1, xb2⟩ := whole_x b (by omega)
    by_cases hb : 47 ∈ tl b
    · -- a second stroke
      right
      have l2 := split_two (y := ("/" : Str)) (t := b) tl_sl ksl hb
      have nb : ¬ Whole b := by
        rintro ⟨m, _, rfl⟩
        exact sl_free m hb
      refine ⟨?_, ?_⟩
      · by_cases wa : Whole a
        · obtain ⟨n, hn, rfl⟩ := wa
          rw [xa1 ⟨n, hn, rfl⟩, if_neg (by decide), whole_ok hn, Option.bind_some, if_pos (by decide +kernel), xb2 nb]
          rfl
        · rw [xa2 wa]; rfl
      · rw [if_pos (by rw [decide_eq_true_eq, List.length_cons]; omega), Option.bind_some, if_pos rfl]
    · rw [split_one tl_sl ksl hb]
      obtain ⟨bb, eb, ib⟩ := is_whole b (by omega)
      rw [if_neg (c := decide (2 < (([a, b] : List Str).length : Int)) = true) (by simp), lenOk_ok (by simp), Option.bind_some]
      simp only [mapO, ea, eb, Option.bind_some, List.all_cons, List.all_nil, id, Bool.and_true]
      by_cases wa : Whole a
      · have : ba = true := ia.mpr wa
        subst this
        obtain ⟨n, hn, rfl⟩ := wa
        rw [xa1 ⟨n, hn, rfl⟩, if_neg (by decide), whole_ok hn, Option.bind_some]
        rw [if_pos (by decide +kernel)]
        by_cases wb : Whole b
        · have : bb = true := ib.mpr wb
          subst this
          obtain ⟨m, hm, rfl⟩ := wb
          rw [xb1 ⟨m, hm, rfl⟩, if_neg (by decide), whole_ok hm, Option.bind_some]
          rw [if_neg (c := (!(true && true)) = true) (by decide), h4, head_app _ _ (by rw [tl_append]; intro e; exact num_ne n (List.append_eq_nil_iff.mp e).1), head_app _ _ (num_ne n), int_ok hn, int_ok hm]
          simp only [Option.bind_some]
          have dash : (neg && decide ((tl (numS n)).head? = some 48)) = true ↔ neg = true ∧ n = 0 := by
            rw [Bool.and_eq_true, decide_eq_true_eq]
            exact ⟨fun q => ⟨q.1, numS_inj q.2⟩, fun q => ⟨q.1, by rw [q.2]; exact head_zero⟩⟩
          have x0 : ix ([(n : Int), (m : Int)] ++ [1]) 0 = some (n : Int) := rfl
          have x1 : ix ([(n : Int), (m : Int)] ++ [1]) 1 = some (m : Int) := rfl
          by_cases m2 : m < 2
          · -- the bottom too small
            right
            have c1 : (if (decide ((m : Int) < 2)) = true then some true else (m_ratio (n : Int) (m : Int)).bind fun z4 => some ((!decide (z4 = (⟨(n : Int), (m : Int)⟩ : T2 Int Int))))) = some true := if_pos (by rw [decide_eq_true_eq]; omega)
            refine ⟨by rw [c1, Option.bind_some, if_pos rfl], ?_⟩
            by_cases dz : (neg && decide ((tl (numS n)).head? = some 48)) = true
            · rw [dz]; rfl
            · rw [if_neg dz, lenOk_ok (by simp), Option.bind_some, if_pos (by simp), x1]
              simp only [Option.bind_some]
              rw [if_pos (by rw [decide_eq_true_eq]; omega)]
              rfl
          · obtain ⟨r, er, ir⟩ := ratio_is (n := n) (m := m) (by omega) hm hn
            have c1 : (if (decide ((m : Int) < 2)) = true then some true else (m_ratio (n : Int) (m : Int)).bind fun z4 => some ((!decide (z4 = (⟨(n : Int), (m : Int)⟩ : T2 Int Int))))) = some (!decide (Nat.gcd n m = 1)) := by
              rw [if_neg (by rw [decide_eq_true_eq]; omega), er, Option.bind_some]
              congr 2
              exact decide_eq_decide.mpr ir
            rw [c1, Option.bind_some]
            by_cases g : Nat.gcd n m = 1
            · rw [if_neg (by rw [decide_eq_true g]; decide)]
              by_cases dz : neg = true ∧ n = 0
              · right
                rw [dash.mpr dz]
                refine ⟨?_, rfl⟩
                rw [eqd, if_pos dz.1, if_pos (by rw [decide_eq_true_eq]; omega)]
              · left
                refine ⟨⟨if neg = true then -(n : Int) else (n : Int), (m : Int)⟩, r30_mk neg hn hm (by omega) g, ?_, ?_, ?_⟩
                · rw [wr_mk neg fun q => Nat.pos_of_ne_zero fun z => dz ⟨q, z⟩, if_neg (show ¬ m = 1 by omega)]
                  exact h5
                · rw [eqd]
                  cases neg with
                  | false => rw [if_neg (by decide)]
                  | true => rw [if_pos rfl, if_neg (by rw [decide_eq_true_eq]; exact fun e => dz ⟨rfl, by omega⟩)]
                · rw [if_neg (fun q => dz (dash.mp q)), lenOk_ok (by simp), Option.bind_some, if_pos (by simp), x1]
                  simp only [Option.bind_some]
                  rw [if_neg (by rw [decide_eq_true_eq]; omega), x0, Option.bind_some, gcd_ok]
                  simp only [Option.bind_some]
                  have : Int.gcd (n : Int) (m : Int) = 1 := g
                  rw [this, if_neg (by decide), neqd]
                  cases neg with
                  | false => rfl
                  | true => rfl
            · right
              rw [if_pos (by rw [decide_eq_false g]; decide)]
              refine ⟨rfl, ?_⟩
              by_cases dz : (neg && decide ((tl (numS n)).head? = some 48)) = true
              · rw [dz]; rfl
              · rw [if_neg dz, lenOk_ok (by simp), Option.bind_some, if_pos (by simp), x1]
                simp only [Option.bind_some]
                rw [if_neg (by rw [decide_eq_true_eq]; omega), x0, Option.bind_some, gcd_ok]
                simp only [Option.bind_some]
                have : ¬ ((Int.gcd (n : Int) (m : Int) : Nat) : Int) = 1 := fun e => g (show Int.gcd (n : Int) (m : Int) = 1 by omega)
                rw [if_pos (by simpa using this)]
        · have : bb = false := by
            cases bb with
            | false => rfl
            | true => exact absurd (ib.mp rfl) wb
          subst this
          right
          rw [xb2 wb]
          exact ⟨rfl, rfl⟩
      · have : ba = false := by
          cases ba with
          | false => rfl
          | true => exact absurd (ia.mp rfl) wa
        subst this
        right
        rw [xa2 wa]
        exact ⟨rfl, rfl⟩
  · have ep : partS s ("/" : Str) = ⟨s, Str.empty, Str.empty⟩ := by
      unfold partS
      rw [partition_none tl_sl hs]
    rw [ep, split_one tl_sl ksl hs]
    simp only
    obtain ⟨bs, es, is⟩ := is_whole s (by omega)
    obtain ⟨x1, x2⟩ := whole_x s (by omega)
    rw [if_neg (c := decide (2 < (([s] : List Str).length : Int)) = true) (by simp), lenOk_ok (by simp), Option.bind_some]
    simp only [mapO, es, Option.bind_some, List.all_cons, List.all_nil, id, Bool.and_true]
    by_cases ws : Whole s
    · have : bs = true := is.mpr ws
      subst this
      obtain ⟨n, hn, rfl⟩ := ws
      rw [x1 ⟨n, hn, rfl⟩, if_neg (by decide), whole_ok hn, Option.bind_some]
      rw [if_neg (by rw [emp_ne]; decide), if_neg (c := (!true) = true) (by decide), h4, int_ok hn]
      simp only [Option.bind_some]
      have dash : (neg && decide ((tl (numS n)).head? = some 48)) = true ↔ neg = true ∧ n = 0 := by
        rw [Bool.and_eq_true, decide_eq_true_eq]
        exact ⟨fun q => ⟨q.1, numS_inj q.2⟩, fun q => ⟨q.1, by rw [q.2]; exact head_zero⟩⟩
      have y0 : ix ([(n : Int)] ++ [1]) 0 = some (n : Int) := rfl
      have y1 : ix ([(n : Int)] ++ [1]) 1 = some 1 := rfl
      by_cases dz : neg = true ∧ n = 0
      · right
        rw [dash.mpr dz]
        refine ⟨?_, rfl⟩
        rw [eqd, if_pos dz.1, if_pos (by rw [decide_eq_true_eq]; omega)]
      · left
        refine ⟨⟨if neg = true then -(n : Int) else (n : Int), ((1 : Nat) : Int)⟩, r30_mk neg hn (by decide) (by decide) (Nat.gcd_one_right n), ?_, ?_, ?_⟩
        · rw [wr_mk neg fun q => Nat.pos_of_ne_zero fun z => dz ⟨q, z⟩, if_pos rfl]
          exact h5
        · rw [eqd]
          cases neg with
          | false => rw [if_neg (by decide)]
          | true => rw [if_pos rfl, if_neg (by rw [decide_eq_true_eq]; exact fun e => dz ⟨rfl, by omega⟩)]
        · rw [if_neg (fun q => dz (dash.mp q)), lenOk_ok (by simp), Option.bind_some, if_neg (by simp), Option.bind_some, if_neg (by decide), neqd]
          cases neg with
          | false => rfl
          | true => rfl
    · have : bs = false := by
        cases bs with
        | false => rfl
        | true => exact absurd (is.mp rfl) ws
      subst this
      right
      rw [x2 ws]
      exact ⟨rfl, rfl⟩
theorem rb_all (t : Str) (lt : t.length ≤ 1000) : RB t := by
  have e1 : (cutS t none (some 1) = ("-" : Str)) ↔ (tl t).take 1 = [45] := by
    rw [tl_inj, show (some (1 : Int)) = some ((1 : Nat) : Int) from rfl, cut_to, tl_min]
  have e2 : (cutS t none (some 2) = ("-0" : Str)) ↔ (tl t).take 2 = [45, 48] := by
    rw [tl_inj, show (some (2 : Int)) = some ((2 : Nat) : Int) from rfl, cut_to, tl_m0]
  cases h : tl t with
  | nil =>
    have et : t = (⟨#[]⟩ : Str) := ext_tl (by rw [h])
    have s0 : Txt.startswith t ("-" : Str) = false := by rw [et]; decide +kernel
    refine ratio_body (s := t) lt lt false (by rw [s0, if_neg (by decide)]) (by rw [if_neg (by rw [decide_eq_true_eq, e1, h]; decide)]) (by simp) ?_ rfl
    rw [Bool.false_and, decide_eq_false_iff_not, e2, h]; decide
  | cons c cs =>
    by_cases z : c = 45
    · subst z
      have et : t = ("-" : Str) ++ (⟨cs.toArray⟩ : Str) := ext_tl (by rw [tl_append, tl_min, h]; rfl)
      have ls : (⟨cs.toArray⟩ : Str).length ≤ 1000 := by rw [et, app_len] at lt; omega
      have st : Txt.startswith t ("-" : Str) = true := by rw [et]; exact starts_neg _
      have cu : cutS t (some 1) none = (⟨cs.toArray⟩ : Str) := by rw [et]; exact cut_one _
      refine ratio_body (s := ⟨cs.toArray⟩) ls lt true ?_ ?_ ?_ ?_ et
      · rw [st, if_pos rfl, lenOk_ok (by omega), Option.bind_some, cu]; rfl
      · rw [if_pos (by rw [decide_eq_true_eq, e1, h]; rfl), lenOk_ok (by omega), Option.bind_some, cu]; rfl
      · refine ⟨fun e => ?_, fun e => nomatch e⟩
        have := congrArg Str.length e
        rw [et, app_len, mi_len] at this
        omega
      · rw [Bool.true_and]
        refine decide_eq_decide.mpr ?_
        rw [e2, h]
        show (45 :: cs.take 1 = [45, 48]) ↔ (cs.head? = some 48)
        cases cs with
        | nil => simp
        | cons d ds => simp
    · have s0 := starts_num (x := t) h z
      refine ratio_body (s := t) lt lt false (by rw [s0, if_neg (by decide)]) (by rw [if_neg (by rw [decide_eq_true_eq, e1, h]; simp [z])]) (by simp) ?_ rfl
      rw [Bool.false_and, decide_eq_false_iff_not, e2, h]
      intro e
      simp at e
      exact z e.1
end
section
open TL
theorem right_ok (t : Str) (lt : t.length ≤ 1000) : m__law_right t = some true := by
  have al : m__law_alone_NoText 7 = some true := by decide +kernel
  have nn : (none : Option (T2 (T2 Int Int) (T2 Int Int))).isNone = true := rfl
  unfold m__law_right m__law_point_in m_read_point_x
  rw [lenOk_ok (n := t.length + 2) (by omega), lenOk_ok (n := t.length) (by omega)]
  simp only [Option.bind_some]
  by_cases hs : 44 ∈ tl t
  · obtain ⟨a, b, rfl, na⟩ := cut_first (y := ("," : Str)) tl_co hs
    have la : a.length ≤ 1000 := by rw [app_len, app_len] at lt; omega
    have lb : b.length ≤ 1000 := by rw [app_len, app_len] at lt; omega
    have ep : partS (a ++ ("," : Str) ++ b) ("," : Str) = ⟨a, ("," : Str), b⟩ := by
      unfold partS
      rw [partition_app tl_co na]
    rw [ep, split_more tl_co kco na]
    simp only
    have ra := rb_all a la
    have rb := rb_all b lb
    by_cases hb : 44 ∈ tl b
    · have l2 := split_two (y := ("," : Str)) (t := b) tl_co kco hb
      have rbx : m_read_ratio_x b = some () := by
        rcases rb with ⟨r, hr, e, _⟩ | ⟨h, _⟩
        · rw [e] at hb
          exact absurd hb (tl_wr_free hr)
        · exact h
      rw [if_pos (by simp only [Bool.not_eq_true', decide_eq_false_iff_not, List.length_cons]; omega), Option.bind_some]
      have x : (if (!decide True) = true then (some ()) else (if (m_read_ratio_x a).isSome = true then (some ()) else (m_read_ratio a).bind fun z1 => if (m_read_ratio_x b).isSome = true then (some ()) else none)) = some () := by
        rw [if_neg (c := (!decide True) = true) (by decide)]
        rcases ra with ⟨r, hr, e, h1, h2⟩ | ⟨h, _⟩
        · rw [h1, if_neg (by decide), e, ratio_read hr, Option.bind_some, rbx]; rfl
        · rw [h]; rfl
      rw [x, if_pos (by decide), if_pos nn, al]; rfl
    · rw [split_one tl_co kco hb]
      rw [if_neg (c := (!decide ((([a, b] : List Str).length : Int) = 2)) = true) (by simp), lenOk_ok (by simp), Option.bind_some]
      rw [if_neg (c := (!decide True) = true) (by decide)]
      simp only [mapO]
      rcases ra with ⟨r, hr, e1, h1, h2⟩ | ⟨h1, h2⟩
      · rw [h1, h2]
        simp only [Option.bind_some]
        rcases rb with ⟨q, hq, f1, g1, g2⟩ | ⟨g1, g2⟩
        · rw [g1, g2]
          simp only [Option.bind_some]
          have mb : memB (none : Option (T2 Int Int)) [some r, some q] = false := by unfold memB; simp
          have x0 : ix [some r, some q] 0 = some (some r) := rfl
          have x1 : ix [some r, some q] 1 = some (some q) := rfl
          rw [mb, if_neg (by decide), x0, x1]
          simp only [Option.bind_some]
          have hxn : (if (none : Option Unit).isSome = true then some () else (m_read_ratio a).bind fun z1 => if (none : Option Unit).isSome = true then some () else none) = none := by
            rw [if_neg (by decide), e1, ratio_read hr]; rfl
          rw [hxn, if_neg (c := (none : Option Unit).isSome = true) (by decide)]
          obtain ⟨p, er, w⟩ := at_low hr hq
          obtain ⟨p', eq, wq⟩ := lawpt_ok (a := r.a * q.b) (b := q.a * r.b) (Int.mul_pos hr.rt.pos hq.rt.pos) (pow_le (sz_mul hr.rt.sb hq.rt.sb) (by decide))
          have : p' = p := wq.both w (Int.mul_pos hr.rt.pos hq.rt.pos)
          subst this
          rw [e1, f1, readpt_ok hr hq er, Option.bind_some, if_neg (by simp)]
          rw [mulG_ok _ _ hr.rt.sa hq.rt.sb (by decide), Option.bind_some, mulG_ok _ _ hq.rt.sa hr.rt.sb (by decide), Option.bind_some, mulG_ok _ _ hr.rt.sb hq.rt.sb (by decide), Option.bind_some, eq, Option.bind_some]
          simp
        · rw [g1, g2]
          simp only [Option.bind_some]
          have mb : memB (none : Option (T2 Int Int)) [some r, none] = true := by unfold memB; simp
          rw [mb, if_pos rfl, if_neg (by decide), e1, ratio_read hr]
          simp only [Option.bind_some]
          rw [if_pos (by decide), if_pos (by decide), al]; rfl
      · rw [h1, h2]
        simp only [Option.bind_some]
        have hx : ∃ o, m__law_ratio_in b = some o := by
          rcases rb with ⟨q, hq, f1, g1, g2⟩ | ⟨g1, g2⟩
          · exact ⟨_, g2⟩
          · exact ⟨_, g2⟩
        obtain ⟨o, eo⟩ := hx
        have mb : memB (none : Option (T2 Int Int)) [none, o] = true := by unfold memB; simp
        rw [eo]
        simp only [Option.bind_some]
        rw [mb, if_pos rfl, if_pos (c := (some ()).isSome = true) (by decide)]
        simp only [Option.bind_some]
        rw [if_pos (by decide), if_pos nn, al]; rfl
  · have ep : partS t ("," : Str) = ⟨t, Str.empty, Str.empty⟩ := by
      unfold partS
      rw [partition_none tl_co hs]
    have ec : decide (Str.empty = (("," : Str))) = false := by decide +kernel
    rw [ep, split_one tl_co kco hs]
    simp only
    rw [if_pos (by simp), Option.bind_some, if_pos (by rw [ec]; rfl), if_pos nn, al]; rfl
theorem text_ok {r : T2 Int Int} (h : R30 r) : m__law_text r = some (wr r) := by
  unfold m__law_text wr
  have hp := h.rt.pos
  have h1 := sgS_len h.sa
  have h2 := numS_len (n := r.b.natAbs) (k := 30) (by decide) (by have := h.sb; omega)
  by_cases z : r.b = 1
  · rw [if_pos (decide_eq_true z), if_pos z, strI_ok h.sa]; rfl
  · rw [if_neg (by simpa using z), if_neg z, strI_ok h.sa, Option.bind_some, lenOk_ok (by rw [sl_len]; omega), Option.bind_some, strI_ok (by have := h.sb; omega), Option.bind_some, sg_pos (i := r.b) (by omega), lenOk_ok (by rw [app_len, sl_len]; omega), Option.bind_some]
theorem cut_le (t : Str) (lo hi : Option Int) : (cutS t lo hi).length ≤ t.length := by
  unfold cutS
  rw [len_tl, len_tl]
  show ((tl t).drop _ |>.take _).length ≤ _
  rw [List.length_take, List.length_drop]; omega
theorem spoiled_ok {xs : List Int} (h : Bag xs) {t : Str} (lt : t.length ≤ 200) : ∃ q ys, m__law_sign_spoiled xs t = some (q, ys) ∧ Bag ys ∧ q.length ≤ 500 := by
  unfold m__law_sign_spoiled
  obtain ⟨d1, y1, e1, b1, l1, u1⟩ := draw_ok h (many := (t.length : Int) + 1) (by omega) (by omega)
  obtain ⟨d2, y2, e2, b2, l2, u2⟩ := draw_ok b1 (many := 22) (by decide) (by decide)
  obtain ⟨d3, y3, e3, b3, l3, u3⟩ := draw_ok b2 (many := 4) (by decide) (by decide)
  have sg : ∃ c, ixS ("0123456789-/,; .+eE_xn" : Str) d2 = some ⟨#[c]⟩ := by
    obtain ⟨k, rfl⟩ : ∃ k : Nat, d2 = (k : Int) := ⟨d2.toNat, by omega⟩
    have : ∀ k : Nat, k < 22 → (ixS ("0123456789-/,; .+eE_xn" : Str) (k : Int)).any (fun z => z.length == 1) = true := by decide +kernel
    have := this k (by omega)
    cases e : ixS ("0123456789-/,; .+eE_xn" : Str) (k : Int) with
    | none => rw [e] at this; cases this
    | some z =>
      rw [e] at this
      have : z.length = 1 := by simpa using this
      rw [len_tl] at this
      obtain ⟨c, hc⟩ := List.length_eq_one_iff.mp this
      exact ⟨c, congrArg some (ext_tl hc)⟩
  obtain ⟨c, ec⟩ := sg
  have lc : (⟨#[c]⟩ : Str).length = 1 := rfl
  have c1 := cut_le t none (some d1)
  have c2 := cut_le t (some (d1 + 1)) none
  have c3 := cut_le t (some d1) none
  rw [lenOk_ok (by omega), Option.bind_some, e1, Option.bind_some]
  simp only
  rw [e2, Option.bind_some]
  simp only
  rw [ec, Option.bind_some, e3, Option.bind_some]
  simp only
  by_cases z : d3 = 0
  · rw [if_pos (by simpa using z)]
    simp only [Option.bind_some]
    rw [lenOk_ok (by omega), Option.bind_some]
    exact ⟨_, _, rfl, b3, by rw [app_len]; omega⟩
  · rw [if_neg (by simpa using z)]
    by_cases z : d3 = 1
    · rw [if_pos (by simpa using z)]
      simp only [Option.bind_some]
      rw [lenOk_ok (by omega), Option.bind_some, lenOk_ok (by rw [app_len]; omega), Option.bind_some]
      exact ⟨_, _, rfl, b3, by rw [app_len, app_len]; omega⟩
    · rw [if_neg (by simpa using z)]
      by_cases z : d3 = 2
      · rw [if_pos (by simpa using z)]
        simp only [Option.bind_some]
        rw [lenOk_ok (by omega), Option.bind_some, lenOk_ok (by rw [app_len]; omega), Option.bind_some]
        exact ⟨_, _, rfl, b3, by rw [app_len, app_len]; omega⟩
      · rw [if_neg (by simpa using z)]
        exact ⟨_, _, rfl, b3, by omega⟩
theorem odd_ok {xs : List Int} (h : Bag xs) : ∃ q ys, m__law_odd xs = some (q, ys) ∧ Bag ys ∧ q.length ≤ 500 := by
  unfold m__law_odd
  obtain ⟨d, y, e, b, l, u⟩ := draw_ok h (many := 33) (by decide) (by decide)
  have em : mulS ("1" : Str) 31 = some ("1111111111111111111111111111111" : Str) := by decide +kernel
  simp only [Option.bind_some, em, e]
  rw [lenOk_ok (by simp), Option.bind_some, lenOk_ok (by decide +kernel), Option.bind_some, lenOk_ok (by decide +kernel), Option.bind_some, lenOk_ok (by decide +kernel), Option.bind_some, lenOk_ok (by simp), Option.bind_some]
  obtain ⟨k, rfl⟩ : ∃ k : Nat, d = (k : Int) := ⟨d.toNat, by omega⟩
  have hk : k < 33 := by omega
  have all : ∀ z ∈ (([("" : Str), ("," : Str), ("1" : Str), ("1," : Str), (",1" : Str), ("1,2,3" : Str), ("01,2" : Str), ("1,02" : Str), ("1/1,2" : Str), ("2/4,1" : Str), ("-0,1" : Str), ("1/0,2" : Str), ("1/-2,3" : Str), ("--1,2" : Str)] ++ [("1 ,2" : Str), ("1, 2" : Str), (" 1,2" : Str), ("1,2 " : Str), ("+1,2" : Str), ("a,b" : Str), ("1.5,2" : Str), ("1/2/3,4" : Str), ("0/2,1" : Str), ("1_0,2" : Str), ("1/02,3" : Str)]) ++ [(("1111111111111111111111111111111" : Str) ++ (",2" : Str)), ((("1/" : Str) ++ ("1111111111111111111111111111111" : Str)) ++ (",2" : Str)), ("/2,3" : Str), ("1/,2" : Str), ("none" : Str), ("1;2" : Str), ("-,1" : Str), ("-/2,1" : Str)]), z.length ≤ 500 := by decide +kernel
  rw [ix_lt (k := k) (by simp; omega), Option.bind_some]
  exact ⟨_, _, rfl, b, all _ (List.getElem_mem _)⟩
theorem law_true : ∀ ns : List Int, ns.length ≤ 63 → m_law ns = some true := by
  intro ns hl
  unfold m_law
  obtain ⟨c, hc⟩ := cell0_ok ns
  have hs := slice_len ns (some 1) (some 40)
  rw [hc, Option.bind_some, lenOk_ok (by simp only [List.length_cons, List.length_nil]; omega), Option.bind_some]
  refine loopL_bind (fun _ => True) ?_ trivial fun _ _ => rfl
  intro t _ _ _
  refine ⟨(), ?_, trivial⟩
  obtain ⟨g, eg, bg⟩ := bag_ok t
  obtain ⟨x, y1, e1, b1, r1, s1, t1⟩ := rat_ok bg
  obtain ⟨y, y2, e2, b2, r2, s2, t2⟩ := rat_ok b1
  have hx : R30 x := ⟨r1, s1, t1⟩
  have hy : R30 y := ⟨r2, s2, t2⟩
  have h1 := wr_len hx
  have h2 := wr_len hy
  have lt : (wr x ++ ("," : Str) ++ wr y).length ≤ 200 := by rw [app_len, app_len, co_len]; omega
  obtain ⟨q3, y3, e3, b3, l3⟩ := spoiled_ok b2 lt
  obtain ⟨q4, y4, e4, b4, l4⟩ := odd_ok b3
  rw [eg, Option.bind_some, e1, Option.bind_some]
  simp only
  rw [text_ok hx, Option.bind_some, lenOk_ok (by rw [co_len]; omega), Option.bind_some, e2, Option.bind_some]
  simp only
  rw [text_ok hy, Option.bind_some, lenOk_ok (by rw [app_len, co_len]; omega), Option.bind_some, Option.bind_some, right_ok _ (by omega), Option.bind_some, if_neg (by decide), e3, Option.bind_some]
  simp only
  rw [right_ok _ (by omega), Option.bind_some, if_neg (by decide), e4, Option.bind_some]
  simp only
  rw [right_ok _ (by omega)]
  rfl
end
def top (i : Nat) : Stmt := PySem.Challenge.pw_slidecut_k68_texts_of_no_point.main.body.getD i (.Pass ⟨0, 0, 0, 0⟩)
abbrev s__law_cell : Stmt := top 23
abbrev s__law_bag : Stmt := top 24
abbrev s__law_draw : Stmt := top 25
abbrev s__law_great : Stmt := top 26
abbrev s__law_signed : Stmt := top 27
abbrev s__law_gcd : Stmt := top 28
abbrev s__law_lowest : Stmt := top 29
abbrev s__law_rat : Stmt := top 30
abbrev s__law_text : Stmt := top 37
abbrev s__law_is_whole : Stmt := top 32
abbrev s__law_ratio_in : Stmt := top 33
abbrev s__law_point_in : Stmt := top 34
abbrev s_read_whole : Stmt := top 19
abbrev s_greatest_divisor : Stmt := top 11
abbrev s_ratio : Stmt := top 12
abbrev s_read_ratio : Stmt := top 20
abbrev s_point : Stmt := top 14
abbrev s_at : Stmt := top 15
abbrev s_read_point : Stmt := top 21
abbrev s__law_alone : Stmt := top 36
abbrev s__law_point : Stmt := top 31
abbrev s__law_right : Stmt := top 39
abbrev s__law_sign_spoiled : Stmt := top 35
abbrev s__law_odd : Stmt := top 38
abbrev s_law : Stmt := top 40
structure Txt (K : PySem.W.Frag) (mg : Str → Option Value) where
  A__law_cell : Addr
  D__law_cell : FuncData
  F__law_cell : Fun K "_law_cell" "_law_cell" s__law_cell A__law_cell D__law_cell
  g__law_cell : mg "_law_cell" = some (.ref A__law_cell)
  b__law_cell : Binds K D__law_cell ["_law_script", "_law_k"] []
  A__law_bag : Addr
  D__law_bag : FuncData
  F__law_bag : Fun K "_law_bag" "_law_bag" s__law_bag A__law_bag D__law_bag
  g__law_bag : mg "_law_bag" = some (.ref A__law_bag)
  b__law_bag : Binds K D__law_bag ["_law_cell_here"] []
  A__law_draw : Addr
  D__law_draw : FuncData
  F__law_draw : Fun K "_law_draw" "_law_draw" s__law_draw A__law_draw D__law_draw
  g__law_draw : mg "_law_draw" = some (.ref A__law_draw)
  b__law_draw : Binds K D__law_draw ["_law_bag_here", "_law_many"] []
  A__law_great : Addr
  D__law_great : FuncData
  F__law_great : Fun K "_law_great" "_law_great" s__law_great A__law_great D__law_great
  g__law_great : mg "_law_great" = some (.ref A__law_great)
  b__law_great : Binds K D__law_great ["_law_bag_here"] []
  A__law_signed : Addr
  D__law_signed : FuncData
  F__law_signed : Fun K "_law_signed" "_law_signed" s__law_signed A__law_signed D__law_signed
  g__law_signed : mg "_law_signed" = some (.ref A__law_signed)
  b__law_signed : Binds K D__law_signed ["_law_bag_here"] []
  A__law_gcd : Addr
  D__law_gcd : FuncData
  F__law_gcd : Fun K "_law_gcd" "_law_gcd" s__law_gcd A__law_gcd D__law_gcd
  g__law_gcd : mg "_law_gcd" = some (.ref A__law_gcd)
  b__law_gcd : Binds K D__law_gcd ["_law_one", "_law_two"] []
  A__law_lowest : Addr
  D__law_lowest : FuncData
  F__law_lowest : Fun K "_law_lowest" "_law_lowest" s__law_lowest A__law_lowest D__law_lowest
  g__law_lowest : mg "_law_lowest" = some (.ref A__law_lowest)
  b__law_lowest : Binds K D__law_lowest ["_law_top", "_law_bottom"] []
  A__law_rat : Addr
  D__law_rat : FuncData
  F__law_rat : Fun K "_law_rat" "_law_rat" s__law_rat A__law_rat D__law_rat
  g__law_rat : mg "_law_rat" = some (.ref A__law_rat)
  b__law_rat : Binds K D__law_rat ["_law_bag_here"] []
  A__law_text : Addr
  D__law_text : FuncData
  F__law_text : Fun K "_law_text" "_law_text" s__law_text A__law_text D__law_text
  g__law_text : mg "_law_text" = some (.ref A__law_text)
  b__law_text : Binds K D__law_text ["_law_one"] []
  A__law_is_whole : Addr
  D__law_is_whole : FuncData
  F__law_is_whole : Fun K "_law_is_whole" "_law_is_whole" s__law_is_whole A__law_is_whole D__law_is_whole
  g__law_is_whole : mg "_law_is_whole" = some (.ref A__law_is_whole)
  b__law_is_whole : Binds K D__law_is_whole ["_law_text_here"] []
  A__law_ratio_in : Addr
  D__law_ratio_in : FuncData
  F__law_ratio_in : Fun K "_law_ratio_in" "_law_ratio_in" s__law_ratio_in A__law_ratio_in D__law_ratio_in
  g__law_ratio_in : mg "_law_ratio_in" = some (.ref A__law_ratio_in)
  b__law_ratio_in : Binds K D__law_ratio_in ["_law_text_here"] []
  A__law_point_in : Addr
  D__law_point_in : FuncData
  F__law_point_in : Fun K "_law_point_in" "_law_point_in" s__law_point_in A__law_point_in D__law_point_in
  g__law_point_in : mg "_law_point_in" = some (.ref A__law_point_in)
  b__law_point_in : Binds K D__law_point_in ["_law_text_here"] []
  A_read_whole : Addr
  D_read_whole : FuncData
  F_read_whole : Fun K "read_whole" "read_whole" s_read_whole A_read_whole D_read_whole
  g_read_whole : mg "read_whole" = some (.ref A_read_whole)
  b_read_whole : Binds K D_read_whole ["text"] []
  A_greatest_divisor : Addr
  D_greatest_divisor : FuncData
  F_greatest_divisor : Fun K "greatest_divisor" "greatest_divisor" s_greatest_divisor A_greatest_divisor D_greatest_divisor
  g_greatest_divisor : mg "greatest_divisor" = some (.ref A_greatest_divisor)
  b_greatest_divisor : Binds K D_greatest_divisor ["a", "b"] []
  A_ratio : Addr
  D_ratio : FuncData
  F_ratio : Fun K "ratio" "ratio" s_ratio A_ratio D_ratio
  g_ratio : mg "ratio" = some (.ref A_ratio)
  b_ratio : Binds K D_ratio ["top", "bottom"] []
  A_read_ratio : Addr
  D_read_ratio : FuncData
  F_read_ratio : Fun K "read_ratio" "read_ratio" s_read_ratio A_read_ratio D_read_ratio
  g_read_ratio : mg "read_ratio" = some (.ref A_read_ratio)
  b_read_ratio : Binds K D_read_ratio ["text"] []
  A_point : Addr
  D_point : FuncData
  F_point : Fun K "point" "point" s_point A_point D_point
  g_point : mg "point" = some (.ref A_point)
  b_point : Binds K D_point ["a", "b", "n"] []
  A_at : Addr
  D_at : FuncData
  F_at : Fun K "at" "at" s_at A_at D_at
  g_at : mg "at" = some (.ref A_at)
  b_at : Binds K D_at ["x", "y"] []
  A_read_point : Addr
  D_read_point : FuncData
  F_read_point : Fun K "read_point" "read_point" s_read_point A_read_point D_read_point
  g_read_point : mg "read_point" = some (.ref A_read_point)
  b_read_point : Binds K D_read_point ["text"] []
  A__law_alone : Addr
  D__law_alone : FuncData
  F__law_alone : Fun K "_law_alone" "_law_alone" s__law_alone A__law_alone D__law_alone
  g__law_alone : mg "_law_alone" = some (.ref A__law_alone)
  b__law_alone : Binds K D__law_alone ["_law_e", "_law_kind"] []
  A__law_point : Addr
  D__law_point : FuncData
  F__law_point : Fun K "_law_point" "_law_point" s__law_point A__law_point D__law_point
  g__law_point : mg "_law_point" = some (.ref A__law_point)
  b__law_point : Binds K D__law_point ["_law_a", "_law_b", "_law_n"] []
  A__law_right : Addr
  D__law_right : FuncData
  F__law_right : Fun K "_law_right" "_law_right" s__law_right A__law_right D__law_right
  g__law_right : mg "_law_right" = some (.ref A__law_right)
  b__law_right : Binds K D__law_right ["_law_text_here"] []
  A__law_sign_spoiled : Addr
  D__law_sign_spoiled : FuncData
  F__law_sign_spoiled : Fun K "_law_sign_spoiled" "_law_sign_spoiled" s__law_sign_spoiled A__law_sign_spoiled D__law_sign_spoiled
  g__law_sign_spoiled : mg "_law_sign_spoiled" = some (.ref A__law_sign_spoiled)
  b__law_sign_spoiled : Binds K D__law_sign_spoiled ["_law_bag_here", "_law_text_here"] []
  A__law_odd : Addr
  D__law_odd : FuncData
  F__law_odd : Fun K "_law_odd" "_law_odd" s__law_odd A__law_odd D__law_odd
  g__law_odd : mg "_law_odd" = some (.ref A__law_odd)
  b__law_odd : Binds K D__law_odd ["_law_bag_here"] []
  A_law : Addr
  D_law : FuncData
  F_law : Fun K "law" "law" s_law A_law D_law
  g_law : mg "law" = some (.ref A_law)
  b_law : Binds K D_law ["_law_script"] []
  C_NoText : Addr
  gC_NoText : mg "NoText" = some (.ref C_NoText)
  x_NoText : PySem.W.excIn K C_NoText [.type "ValueError", .type "Exception", .type "BaseException", .type "object"] "ValueError.__new__" = true
  kC_NoText : PySem.W.keepIn K (.ref C_NoText) = true
  bC_NoText : PySem.W.subIn K (.ref C_NoText) (.type "BaseException") = some true
  tC_NoText : PySem.W.typeIn K (.ref C_NoText) = some (.type "type")
  E_NoText : ExcC K C_NoText
  C_NoCloth : Addr
  gC_NoCloth : mg "NoCloth" = some (.ref C_NoCloth)
  bC_NoCloth : PySem.W.subIn K (.ref C_NoCloth) (.type "BaseException") = some true
  tC_NoCloth : PySem.W.typeIn K (.ref C_NoCloth) = some (.type "type")
  dC_NoCloth : PySem.W.hasDictIn K C_NoCloth = true
  s_NoText_NoCloth : PySem.W.subIn K (.ref C_NoText) (.ref C_NoCloth) = some false
  n_NoText_NoCloth : (Value.ref C_NoText == Value.ref C_NoCloth) = false
  io_NoText_NoCloth : PySem.W.kitOne K (.ref C_NoText) (.ref C_NoCloth) = some false
  C_NoMove : Addr
  gC_NoMove : mg "NoMove" = some (.ref C_NoMove)
  bC_NoMove : PySem.W.subIn K (.ref C_NoMove) (.type "BaseException") = some true
  tC_NoMove : PySem.W.typeIn K (.ref C_NoMove) = some (.type "type")
  dC_NoMove : PySem.W.hasDictIn K C_NoMove = true
  s_NoText_NoMove : PySem.W.subIn K (.ref C_NoText) (.ref C_NoMove) = some false
  n_NoText_NoMove : (Value.ref C_NoText == Value.ref C_NoMove) = false
  io_NoText_NoMove : PySem.W.kitOne K (.ref C_NoText) (.ref C_NoMove) = some false
  C_NoName : Addr
  gC_NoName : mg "NoName" = some (.ref C_NoName)
  bC_NoName : PySem.W.subIn K (.ref C_NoName) (.type "BaseException") = some true
  tC_NoName : PySem.W.typeIn K (.ref C_NoName) = some (.type "type")
  dC_NoName : PySem.W.hasDictIn K C_NoName = true
  s_NoText_NoName : PySem.W.subIn K (.ref C_NoText) (.ref C_NoName) = some false
  n_NoText_NoName : (Value.ref C_NoText == Value.ref C_NoName) = false
  io_NoText_NoName : PySem.W.kitOne K (.ref C_NoText) (.ref C_NoName) = some false
  C_NoPlan : Addr
  gC_NoPlan : mg "NoPlan" = some (.ref C_NoPlan)
  bC_NoPlan : PySem.W.subIn K (.ref C_NoPlan) (.type "BaseException") = some true
  tC_NoPlan : PySem.W.typeIn K (.ref C_NoPlan) = some (.type "type")
  dC_NoPlan : PySem.W.hasDictIn K C_NoPlan = true
  s_NoText_NoPlan : PySem.W.subIn K (.ref C_NoText) (.ref C_NoPlan) = some false
  n_NoText_NoPlan : (Value.ref C_NoText == Value.ref C_NoPlan) = false
  io_NoText_NoPlan : PySem.W.kitOne K (.ref C_NoText) (.ref C_NoPlan) = some false
  C_NoPoint : Addr
  gC_NoPoint : mg "NoPoint" = some (.ref C_NoPoint)
  bC_NoPoint : PySem.W.subIn K (.ref C_NoPoint) (.type "BaseException") = some true
  tC_NoPoint : PySem.W.typeIn K (.ref C_NoPoint) = some (.type "type")
  dC_NoPoint : PySem.W.hasDictIn K C_NoPoint = true
  s_NoText_NoPoint : PySem.W.subIn K (.ref C_NoText) (.ref C_NoPoint) = some false
  n_NoText_NoPoint : (Value.ref C_NoText == Value.ref C_NoPoint) = false
  io_NoText_NoPoint : PySem.W.kitOne K (.ref C_NoText) (.ref C_NoPoint) = some false
  C_NoRatio : Addr
  gC_NoRatio : mg "NoRatio" = some (.ref C_NoRatio)
  bC_NoRatio : PySem.W.subIn K (.ref C_NoRatio) (.type "BaseException") = some true
  tC_NoRatio : PySem.W.typeIn K (.ref C_NoRatio) = some (.type "type")
  dC_NoRatio : PySem.W.hasDictIn K C_NoRatio = true
  s_NoText_NoRatio : PySem.W.subIn K (.ref C_NoText) (.ref C_NoRatio) = some false
  n_NoText_NoRatio : (Value.ref C_NoText == Value.ref C_NoRatio) = false
  io_NoText_NoRatio : PySem.W.kitOne K (.ref C_NoText) (.ref C_NoRatio) = some false
  C_NoRow : Addr
  gC_NoRow : mg "NoRow" = some (.ref C_NoRow)
  bC_NoRow : PySem.W.subIn K (.ref C_NoRow) (.type "BaseException") = some true
  tC_NoRow : PySem.W.typeIn K (.ref C_NoRow) = some (.type "type")
  dC_NoRow : PySem.W.hasDictIn K C_NoRow = true
  s_NoText_NoRow : PySem.W.subIn K (.ref C_NoText) (.ref C_NoRow) = some false
  n_NoText_NoRow : (Value.ref C_NoText == Value.ref C_NoRow) = false
  io_NoText_NoRow : PySem.W.kitOne K (.ref C_NoText) (.ref C_NoRow) = some false
  dC_NoText : PySem.W.hasDictIn K C_NoText = true
  io_NoText_NoText : PySem.W.kitOne K (.ref C_NoText) (.ref C_NoText) = some true
  s_NoText_ValueError : PySem.W.subIn K (.ref C_NoText) (.type "ValueError") = some true
  io_NoText_ValueError : PySem.W.kitOne K (.ref C_NoText) (.type "ValueError") = some true
  C_CutError : Addr
  gC_CutError : mg "CutError" = some (.ref C_CutError)
  bC_CutError : PySem.W.subIn K (.ref C_CutError) (.type "BaseException") = some true
  tC_CutError : PySem.W.typeIn K (.ref C_CutError) = some (.type "type")
  dC_CutError : PySem.W.hasDictIn K C_CutError = true
  s_NoText_CutError : PySem.W.subIn K (.ref C_NoText) (.ref C_CutError) = some true
  em_NoText_CutError : PySem.W.exmOne K (.ref C_NoText) (.ref C_CutError) = some true
  z_ValueError : mg "ValueError" = none
  z_abs : mg "abs" = none
  z_all : mg "all" = none
  z_int : mg "int" = none
  z_isinstance : mg "isinstance" = none
  z_len : mg "len" = none
  z_range : mg "range" = none
  z_str : mg "str" = none
  t_FIGURES : Tok
  c_FIGURES : mg "FIGURES" = some (.str "0123456789" t_FIGURES)
  t_MOST_FIGURES : Tok
  c_MOST_FIGURES : mg "MOST_FIGURES" = some (.int (30) t_MOST_FIGURES)
section
variable {P : Program} {w : World} {K : PySem.W.Frag} {mg : Str → Option Value} {base : Heap}
abbrev sp__law_cell (K : PySem.W.Frag) : Sp := fun vs H Q _ => ∃ (X : Addr → Prop)  (a__law_script : (List Int)) (a__law_k : Int) (r : Int), m__law_cell a__law_script a__law_k = some r ∧ Cond K X H [.scr a__law_script, .imm (.int a__law_k)] vs ∧ ∀ H', Fin K X H [] [] (.imm (.int r)) (.int r) H' → Q (.int r) H'
theorem mk__law_cell {K : PySem.W.Frag} {X : Addr → Prop} {H : Hp} {vs : List V} {Q : VK} {E : XK}  {a__law_script : (List Int)} {a__law_k : Int} {r : Int} (hm : m__law_cell a__law_script a__law_k = some r) (c : Cond K X H [.scr a__law_script, .imm (.int a__law_k)] vs) (k : ∀ H', Fin K X H [] [] (.imm (.int r)) (.int r) H' → Q (.int r) H') : sp__law_cell K vs H Q E := ⟨X, a__law_script, a__law_k, r, hm, c, k⟩
abbrev n__law_cell : List Str := ["_law_script", "_law_k"]
theorem sc__law_cell : FnScope n__law_cell ["_law_script", "_law_k"] (defScope s__law_cell) := ⟨rfl, rfl, rfl, by decide +kernel, rfl, by decide +kernel, by decide +kernel⟩
theorem ok__law_cell (T : Txt K mg) : FnOk P w K mg base CX0 1 T.A__law_cell T.D__law_cell ["_law_script", "_law_k"] (sp__law_cell K) := by
  refine Fun.ok T.F__law_cell sc__law_cell (fun vs H Q E h => ?_) (fun cdv A outer s H vs Q E hr h => ?_)
  · obtain ⟨X, a__law_script, a__law_k, r, hm, c, kont⟩ := h
    exact c.len
  · obtain ⟨X, a__law_script, a__law_k, r, hm, c, kont⟩ := h
    refine ⟨_, (pss_cons (ps_if (pt_cmpR op_lt (pv 1) (pe_callB (r := rLenX K) call_lenX (by rfl) T.z_len (by decide +kernel) (pa_cons (pv 0) pa_nil)) (nomark _)) (pss_one (ps_ret (pe_ix (r := rIxL K) ix_list (pv 0) (pv 1) (fun _ _ => rfl)))) pss_nil)
      (pss_one (ps_ret pe_int))), ?_⟩
    have L0 : Lo ⟨K, X, H, muts [.scr a__law_script, .imm (.int a__law_k)], n__law_cell.length⟩ X H (L2.start n__law_cell vs) [.scr a__law_script, .imm (.int a__law_k)] := c.start n__law_cell (show (2 : Nat) ≤ 2 by decide)
    unfold m__law_cell at hm
    refine x_seq (x_ifS (x_test (x_op (x_vI (x := a__law_k) L0 rfl (x_cb (x_cons (x_vscr L0 rfl fun v1 r1 => x_nil (x_lenS r1 (x_r0 (x_kb (x_if hm (fun hm1 => ?_) fun hm1 => ?_)))))))))))
    · exact x_ret (x_op (x_vscr L0 rfl fun v2 r2 => x_vI (x := a__law_k) L0 rfl (x_ixS hm1 r2 fun x1 _ hm2 => x_finI (Q := Q) (ps := (fun (r : Int) => [])) (sc := fun (r : Int) => r) x1 hm2 kont (L0.fin hp0 (.int _)))))
    · refine x_next ?_
      exact x_ret (x_c (x_finI (Q := Q) (ps := (fun (r : Int) => [])) (sc := fun (r : Int) => r) 0 hm1 kont (L0.fin hp0 (.int _))))
abbrev sp__law_bag (K : PySem.W.Frag) : Sp := fun vs H Q _ => ∃ (X : Addr → Prop)  (a__law_cell_here : Int) (r : (List Int)), m__law_bag a__law_cell_here = some r ∧ Cond K X H [.imm (.int a__law_cell_here)] vs ∧ ∀ p H', Fin K X H [] [] (.new (ml (r : (List Int)))) (.ref p) H' → Q (.ref p) H'
theorem mk__law_bag {K : PySem.W.Frag} {X : Addr → Prop} {H : Hp} {vs : List V} {Q : VK} {E : XK}  {a__law_cell_here : Int} {r : (List Int)} (hm : m__law_bag a__law_cell_here = some r) (c : Cond K X H [.imm (.int a__law_cell_here)] vs) (k : ∀ p H', Fin K X H [] [] (.new (ml (r : (List Int)))) (.ref p) H' → Q (.ref p) H') : sp__law_bag K vs H Q E := ⟨X, a__law_cell_here, r, hm, c, k⟩
abbrev n__law_bag : List Str := ["_law_cell_here"]
theorem sc__law_bag : FnScope n__law_bag ["_law_cell_here"] (defScope s__law_bag) := ⟨rfl, rfl, rfl, by decide +kernel, rfl, by decide +kernel, by decide +kernel⟩
theorem ok__law_bag (T : Txt K mg) : FnOk P w K mg base CX0 1 T.A__law_bag T.D__law_bag ["_law_cell_here"] (sp__law_bag K) := by
  refine Fun.ok T.F__law_bag sc__law_bag (fun vs H Q E h => ?_) (fun cdv A outer s H vs Q E hr h => ?_)
  · obtain ⟨X, a__law_cell_here, r, hm, c, kont⟩ := h
    exact c.len
  · obtain ⟨X, a__law_cell_here, r, hm, c, kont⟩ := h
    refine ⟨_, (pss_cons (ps_if (pt_cmpR op_ge (pv 0) (pe_op op_pow pe_int pe_int) (nomark _)) (pss_one (ps_ret (pe_lst (pa_cons (pv 0) (pa_cons (pe_op op_mod (pv 0) pe_int) pa_nil))))) pss_nil)
      (pss_one (ps_ret (pe_lst (pa_cons pe_int (pa_cons (pe_op op_mod (pe_op op_add (pe_op op_mul (pe_op op_mod (pv 0) pe_int) pe_int) pe_int) pe_int) pa_nil)))))), ?_⟩
    have L0 : Lo ⟨K, X, H, muts [.imm (.int a__law_cell_here)], n__law_bag.length⟩ X H (L2.start n__law_bag vs) [.imm (.int a__law_cell_here)] := c.start n__law_bag (show (1 : Nat) ≤ 1 by decide)
    unfold m__law_bag at hm
    refine x_seq (x_ifS (x_test (x_op (x_vI (x := a__law_cell_here) L0 rfl (x_op (x_c (x_c (x_powc (n := 1000000000000000000) ⟨by decide, by decide, by decide⟩ (by decide +kernel) (x_r0 (x_kb (x_if hm (fun hm1 => ?_) fun hm1 => ?_)))))))))))
    · exact x_ret (x_lst (x_cons (x_vI (x := a__law_cell_here) L0 rfl (x_cons (x_op (x_vI (x := a__law_cell_here) L0 rfl (x_c (x_modc (by decide) (x_nil (x_mkN L0 (.cons (.int _) (.cons (.int _) .nil)) (show (2 : Nat) ≤ 16777216 by decide) fun p1 _ _ h01 hx1 L1 le1 => x_finP (Q := Q) (ps := (fun (r : (List Int)) => [])) (o := fun (r : (List Int)) => (ml (r : (List Int)))) (e := [a__law_cell_here, (a__law_cell_here % 2147483647)]) hm1 kont (L1.finT (p := p1) (i := 1) (o := (ml ([a__law_cell_here, (a__law_cell_here % 2147483647)] : (List Int)))) hp0 rfl h01)))))))))))
    · refine x_next ?_
      exact x_ret (x_lst (x_cons (x_c (x_cons (x_op (x_op (x_op (x_op (x_vI (x := a__law_cell_here) L0 rfl (x_c (x_modc (by decide) (x_c (x_mulR (by decide) (x_c (x_r0 (x_c (x_modc (by decide) (x_nil (x_mkN L0 (.cons (.int _) (.cons (.int _) .nil)) (show (2 : Nat) ≤ 16777216 by decide) fun p2 _ _ h02 hx2 L2 le2 => x_finP (Q := Q) (ps := (fun (r : (List Int)) => [])) (o := fun (r : (List Int)) => (ml (r : (List Int)))) (e := [0, ((((a__law_cell_here % 2147483647) * 69621) + 7) % 2147483647)]) hm1 kont (L2.finT (p := p2) (i := 1) (o := (ml ([0, ((((a__law_cell_here % 2147483647) * 69621) + 7) % 2147483647)] : (List Int)))) hp0 rfl h02))))))))))))))))))))
abbrev sp__law_draw (K : PySem.W.Frag) : Sp := fun vs H Q _ => ∃ (X : Addr → Prop) (p__law_bag_here : Addr) (a__law_bag_here : (List Int)) (a__law_many : Int) (r : (Int × (List Int))), m__law_draw a__law_bag_here a__law_many = some r ∧ Cond K X H [.mu p__law_bag_here (ml (a__law_bag_here : (List Int))), .imm (.int a__law_many)] vs ∧ ∀ H', Fin K X H [p__law_bag_here] [(p__law_bag_here, (ml (r.2 : (List Int))))] (.imm (.int r.1)) (.int r.1) H' → Q (.int r.1) H'
theorem mk__law_draw {K : PySem.W.Frag} {X : Addr → Prop} {H : Hp} {vs : List V} {Q : VK} {E : XK} {p__law_bag_here : Addr} {a__law_bag_here : (List Int)} {a__law_many : Int} {r : (Int × (List Int))} (hm : m__law_draw a__law_bag_here a__law_many = some r) (c : Cond K X H [.mu p__law_bag_here (ml (a__law_bag_here : (List Int))), .imm (.int a__law_many)] vs) (k : ∀ H', Fin K X H [p__law_bag_here] [(p__law_bag_here, (ml (r.2 : (List Int))))] (.imm (.int r.1)) (.int r.1) H' → Q (.int r.1) H') : sp__law_draw K vs H Q E := ⟨X, p__law_bag_here, a__law_bag_here, a__law_many, r, hm, c, k⟩
abbrev n__law_draw : List Str := ["_law_bag_here", "_law_many", "_law_found"]
theorem sc__law_draw : FnScope n__law_draw ["_law_bag_here", "_law_many"] (defScope s__law_draw) := ⟨rfl, rfl, rfl, by decide +kernel, rfl, by decide +kernel, by decide +kernel⟩
theorem ok__law_draw (T : Txt K mg) : FnOk P w K mg base CX0 1 T.A__law_draw T.D__law_draw ["_law_bag_here", "_law_many"] (sp__law_draw K) := by
  refine Fun.ok T.F__law_draw sc__law_draw (fun vs H Q E h => ?_) (fun cdv A outer s H vs Q E hr h => ?_)
  · obtain ⟨X, p__law_bag_here, a__law_bag_here, a__law_many, r, hm, c, kont⟩ := h
    exact c.len
  · obtain ⟨X, p__law_bag_here, a__law_bag_here, a__law_many, r, hm, c, kont⟩ := h
    refine ⟨_, (pss_cons (ps_if (pt_cmpR op_gt (pe_ix (r := rIxL K) ix_list (pv 0) pe_int (fun _ _ => rfl)) pe_int (nomark _)) (pss_cons (ps_set (i := 2) sc__law_draw.nd rfl (Or.inl rfl) (pe_op op_modN (pe_ix (r := rIxL K) ix_list (pv 0) pe_int (fun _ _ => rfl)) (pv 1)))
      (pss_cons (ps_asg (pe_op op_divG (pe_ix (r := rIxL K) ix_list (pv 0) pe_int (fun _ _ => rfl)) (pv 1)) (pg_sub (pv 0) pe_int set_list))
      (pss_one (ps_ret (pv 2))))) pss_nil)
      (pss_cons (ps_asg (pe_op op_mod (pe_op op_add (pe_op op_mul (pe_ix (r := rIxL K) ix_list (pv 0) pe_int (fun _ _ => rfl)) pe_int) pe_int) pe_int) (pg_sub (pv 0) pe_int set_list))
      (pss_one (ps_ret (pe_op op_modN (pe_op op_fdiv (pe_op op_mod (pe_op op_mulW (pe_ix (r := rIxL K) ix_list (pv 0) pe_int (fun _ _ => rfl)) (pe_op op_add (pe_op op_fdiv (pe_ix (r := rIxL K) ix_list (pv 0) pe_int (fun _ _ => rfl)) pe_int) pe_int)) pe_int) pe_int) (pv 1)))))), ?_⟩
    have L0 : Lo ⟨K, X, H, muts [.mu p__law_bag_here (ml (a__law_bag_here : (List Int))), .imm (.int a__law_many)], n__law_draw.length⟩ X H (L2.start n__law_draw vs) [.mu p__law_bag_here (ml (a__law_bag_here : (List Int))), .imm (.int a__law_many), .unk] := c.start n__law_draw (show (2 : Nat) ≤ 3 by decide)
    unfold m__law_draw at hm
    refine x_seq (x_ifS (x_test (x_op (x_op (x_vm L0 rfl (x_c (x_ixMI (xs := a__law_bag_here) (j := 0) L0 rfl hm fun x1 _ hm1 => x_c (x_r0 (x_kb (x_if hm1 (fun hm2 => ?_) fun hm2 => ?_))))))))))
    · refine x_seq (x_asg (x_op (x_op (x_vm L0 rfl (x_c (x_ixMI (xs := a__law_bag_here) (j := 0) L0 rfl hm2 fun x2 _ hm3 => x_vI (x := a__law_many) L0 rfl (x_mod hm3 fun z1 _ hm4 => x_set (d := (.int z1)) (Γ' := [.mu p__law_bag_here (ml (a__law_bag_here : (List Int))), .imm (.int a__law_many), .imm (.int z1)]) L0 (.int _) (show (2 : Nat) < 3 by decide) rfl fun _ L1 => ?_)))))))
      refine x_seq (x_asg (x_op (x_op (x_vm L1 rfl (x_c (x_ixMI (xs := a__law_bag_here) (j := 0) L1 rfl hm4 fun x3 _ hm5 => x_vI (x := a__law_many) L1 rfl (x_div hm5 fun z2 _ hm6 => x_gSub (x_vm L1 rfl (x_c (x_setI (xs := a__law_bag_here) (x := z2) (j := 0) L1 rfl hm6 (.int _) fun y1 _ _ hm7 L2 => have L3 : Lo _ _ _ _ [.mu p__law_bag_here (ml (y1 : (List Int))), .imm (.int a__law_many), .imm (.int z1)] := L2; ?_))))))))))
      exact x_ret (x_vI (x := z1) L3 rfl (x_finI (Q := Q) (ps := (fun (r : (Int × (List Int))) => [(p__law_bag_here, (ml (r.2 : (List Int))))])) (sc := fun (r : (Int × (List Int))) => r.1) ((z1, y1)) hm7 kont (L3.fin (hp1 (L3.mrep (i := 0) rfl)) (.int _))))
    · refine x_next ?_
      refine x_seq (x_asg (x_op (x_op (x_op (x_op (x_vm L0 rfl (x_c (x_ixMI (xs := a__law_bag_here) (j := 0) L0 rfl hm2 fun x4 _ hm8 => x_c (x_mulR (by decide) (x_c (x_r0 (x_c (x_modc (by decide) (x_gSub (x_vm L0 rfl (x_c (x_setI (xs := a__law_bag_here) (x := (((x4 * 48271) + 4099) % 2147483647)) (j := 0) L0 rfl hm8 (.int _) fun y2 _ _ hm9 L4 => have L5 : Lo _ _ _ _ [.mu p__law_bag_here (ml (y2 : (List Int))), .imm (.int a__law_many), .unk] := L4; ?_)))))))))))))))))
      exact x_ret (x_op (x_op (x_op (x_op (x_op (x_vm L5 rfl (x_c (x_ixMI (xs := y2) (j := 0) L5 rfl hm9 fun x5 _ hm10 => x_op (x_op (x_op (x_vm L5 rfl (x_c (x_ixMI (xs := y2) (j := 0) L5 rfl hm10 fun x6 _ hm11 => x_c (x_divc ⟨by decide, by decide⟩ (x_c (x_r0 (x_mul hm11 fun z3 _ hm12 => x_c (x_modc (by decide) (x_c (x_divc ⟨by decide, by decide⟩ (x_vI (x := a__law_many) L5 rfl (x_mod hm12 fun z4 _ hm13 => x_finI (Q := Q) (ps := (fun (r : (Int × (List Int))) => [(p__law_bag_here, (ml (r.2 : (List Int))))])) (sc := fun (r : (Int × (List Int))) => r.1) ((z4, y2)) hm13 kont (L5.fin (hp1 (L5.mrep (i := 0) rfl)) (.int _))))))))))))))))))))))))
abbrev sp__law_great (K : PySem.W.Frag) : Sp := fun vs H Q _ => ∃ (X : Addr → Prop) (p__law_bag_here : Addr) (a__law_bag_here : (List Int)) (r : (Int × (List Int))), m__law_great a__law_bag_here = some r ∧ Cond K X H [.mu p__law_bag_here (ml (a__law_bag_here : (List Int)))] vs ∧ ∀ H', Fin K X H [p__law_bag_here] [(p__law_bag_here, (ml (r.2 : (List Int))))] (.imm (.int r.1)) (.int r.1) H' → Q (.int r.1) H'
theorem mk__law_great {K : PySem.W.Frag} {X : Addr → Prop} {H : Hp} {vs : List V} {Q : VK} {E : XK} {p__law_bag_here : Addr} {a__law_bag_here : (List Int)} {r : (Int × (List Int))} (hm : m__law_great a__law_bag_here = some r) (c : Cond K X H [.mu p__law_bag_here (ml (a__law_bag_here : (List Int)))] vs) (k : ∀ H', Fin K X H [p__law_bag_here] [(p__law_bag_here, (ml (r.2 : (List Int))))] (.imm (.int r.1)) (.int r.1) H' → Q (.int r.1) H') : sp__law_great K vs H Q E := ⟨X, p__law_bag_here, a__law_bag_here, r, hm, c, k⟩
abbrev n__law_great : List Str := ["_law_bag_here", "_law_number", "_law_k"]
theorem sc__law_great : FnScope n__law_great ["_law_bag_here"] (defScope s__law_great) := ⟨rfl, rfl, rfl, by decide +kernel, rfl, by decide +kernel, by decide +kernel⟩
theorem ok__law_great (T : Txt K mg) : FnOk P w K mg base CX0 2 T.A__law_great T.D__law_great ["_law_bag_here"] (sp__law_great K) := by
  refine Fun.ok T.F__law_great sc__law_great (fun vs H Q E h => ?_) (fun cdv A outer s H vs Q E hr h => ?_)
  · obtain ⟨X, p__law_bag_here, a__law_bag_here, r, hm, c, kont⟩ := h
    exact c.len
  · obtain ⟨X, p__law_bag_here, a__law_bag_here, r, hm, c, kont⟩ := h
    refine ⟨_, (pss_cons (ps_set (i := 1) sc__law_great.nd rfl (Or.inl rfl) (pe_call (ok__law_draw T) hr (by rfl) T.g__law_draw T.F__law_draw.kp T.b__law_draw .nil pass0 (pa_cons (pv 0) (pa_cons pe_int pa_nil))))
      (pss_cons (ps_for PassesOwn.never rfl (pi_range1 (by rfl) T.z_range (pa_cons pe_int pa_nil)) (pg_name (i := 2) sc__law_great.nd rfl (Or.inl rfl)) (pss_one (ps_set (i := 1) sc__law_great.nd rfl (Or.inl rfl) (pe_op op_add (pe_op op_mul (pv 1) (pe_op op_pow pe_int pe_int)) (pe_call (ok__law_draw T) hr (by rfl) T.g__law_draw T.F__law_draw.kp T.b__law_draw .nil pass0 (pa_cons (pv 0) (pa_cons (pe_op op_pow pe_int pe_int) pa_nil)))))))
      (pss_one (ps_ret (pv 1))))), ?_⟩
    have L0 : Lo ⟨K, X, H, muts [.mu p__law_bag_here (ml (a__law_bag_here : (List Int)))], n__law_great.length⟩ X H (L2.start n__law_great vs) [.mu p__law_bag_here (ml (a__law_bag_here : (List Int))), .unk, .unk] := c.start n__law_great (show (1 : Nat) ≤ 3 by decide)
    unfold m__law_great at hm
    refine x_seq (x_asg (x_call (x_cons (x_vm L0 rfl (x_cons (x_c (x_nil (obE hm fun z1 hz1 hm1 => mk__law_draw hz1 (L0.cond1 (i := 0) (.m (L0.mrep (i := 0) rfl) (.im (.int _) .nil)) rfl rfl rfl) fun _ F1 => k1 L0 F1 (i := 0) (Γ' := [.mu p__law_bag_here (ml (z1.2 : (List Int))), .unk, .unk]) rfl rfl rfl fun L1 le1 => x_set (d := (.int z1.1)) (Γ' := [.mu p__law_bag_here (ml (z1.2 : (List Int))), .imm (.int z1.1), .unk]) L1 (.int _) (show (1 : Nat) < 3 by decide) rfl fun _ L2 => ?_))))))))
    refine x_seq (x_tforR1 (x_cons (x_c (x_nil (x_r1c (n := 4) (by decide) (x_foR (G := (fun (s1 : ((List Int) × Int)) => [.mu p__law_bag_here (ml (s1.1 : (List Int))), .imm (.int s1.2), .unk])) (s0 := (z1.2, z1.1)) (L2.weak (Γ' := [.mu p__law_bag_here (ml (z1.2 : (List Int))), .imm (.int z1.1), .unk]) (.k (.k (.k .e)))) (fun _ _ => rfl) hm1 (fun x1 s1 H1 _ u1 _ _ _ _ _ hm2 L3 _ r1 hN1 hC1 => ?_) (fun s2 _ _ hm3 L4 => ?_)))))))
    · refine x_set (d := (.int x1)) (Γ' := [.mu p__law_bag_here (ml (s1.1 : (List Int))), .imm (.int s1.2), .imm (.int x1)]) L3 r1 (show (2 : Nat) < 3 by decide) rfl fun _ L5 => ?_
      refine x_asg (x_op (x_op (x_vI (x := s1.2) L5 rfl (x_op (x_c (x_c (x_powc (n := 10000000) ⟨by decide, by decide, by decide⟩ (by decide +kernel) (x_mulR (by decide) (x_call (x_cons (x_vm L5 rfl (x_cons (x_op (x_c (x_c (x_powc (n := 10000000) ⟨by decide, by decide, by decide⟩ (by decide +kernel) (x_nil (obE hm2 fun z2 hz2 hm5 => mk__law_draw hz2 (L5.cond1 (i := 0) (.m (L5.mrep (i := 0) rfl) (.im (.int _) .nil)) rfl rfl rfl) fun _ F3 => k1 L5 F3 (i := 0) (Γ' := [.mu p__law_bag_here (ml (z2.2 : (List Int))), .imm (.int s1.2), .imm (.int x1)]) rfl rfl rfl fun L6 le2 => x_r0 (x_bset (x0 := ((s1.2 * 10000000) + z2.1)) (d := fun number_1 => (.int number_1)) (Γf := fun number_1 => [.mu p__law_bag_here (ml (z2.2 : (List Int))), .imm (.int number_1), .imm (.int x1)]) hm5 L6 (.int _) (show (1 : Nat) < 3 by decide) (fun _ => rfl) fun number_1 _ hm6 L7 => ?_)))))))))))))))))))
      exact x_leaf (G := (fun (s1 : ((List Int) × Int)) => [.mu p__law_bag_here (ml (s1.1 : (List Int))), .imm (.int s1.2), .unk])) (e := (z2.2, number_1)) hm6 hN1 (L7.weak (Γ' := [.mu p__law_bag_here (ml (z2.2 : (List Int))), .imm (.int number_1), .unk]) (.k (.k (.d .e))))
    exact x_ret (x_vI (x := s2.2) L4 rfl (x_finI (Q := Q) (ps := (fun (r : (Int × (List Int))) => [(p__law_bag_here, (ml (r.2 : (List Int))))])) (sc := fun (r : (Int × (List Int))) => r.1) ((s2.2, s2.1)) hm3 kont (L4.fin (hp1 (L4.mrep (i := 0) rfl)) (.int _))))
abbrev sp__law_signed (K : PySem.W.Frag) : Sp := fun vs H Q _ => ∃ (X : Addr → Prop) (p__law_bag_here : Addr) (a__law_bag_here : (List Int)) (r : (Int × (List Int))), m__law_signed a__law_bag_here = some r ∧ Cond K X H [.mu p__law_bag_here (ml (a__law_bag_here : (List Int)))] vs ∧ ∀ H', Fin K X H [p__law_bag_here] [(p__law_bag_here, (ml (r.2 : (List Int))))] (.imm (.int r.1)) (.int r.1) H' → Q (.int r.1) H'
theorem mk__law_signed {K : PySem.W.Frag} {X : Addr → Prop} {H : Hp} {vs : List V} {Q : VK} {E : XK} {p__law_bag_here : Addr} {a__law_bag_here : (List Int)} {r : (Int × (List Int))} (hm : m__law_signed a__law_bag_here = some r) (c : Cond K X H [.mu p__law_bag_here (ml (a__law_bag_here : (List Int)))] vs) (k : ∀ H', Fin K X H [p__law_bag_here] [(p__law_bag_here, (ml (r.2 : (List Int))))] (.imm (.int r.1)) (.int r.1) H' → Q (.int r.1) H') : sp__law_signed K vs H Q E := ⟨X, p__law_bag_here, a__law_bag_here, r, hm, c, k⟩
abbrev n__law_signed : List Str := ["_law_bag_here"]
theorem sc__law_signed : FnScope n__law_signed ["_law_bag_here"] (defScope s__law_signed) := ⟨rfl, rfl, rfl, by decide +kernel, rfl, by decide +kernel, by decide +kernel⟩
theorem ok__law_signed (T : Txt K mg) : FnOk P w K mg base CX0 3 T.A__law_signed T.D__law_signed ["_law_bag_here"] (sp__law_signed K) := by
  refine Fun.ok T.F__law_signed sc__law_signed (fun vs H Q E h => ?_) (fun cdv A outer s H vs Q E hr h => ?_)
  · obtain ⟨X, p__law_bag_here, a__law_bag_here, r, hm, c, kont⟩ := h
    exact c.len
  · obtain ⟨X, p__law_bag_here, a__law_bag_here, r, hm, c, kont⟩ := h
    refine ⟨_, (pss_cons (ps_if (pt_cmpR op_eq (pe_call (ok__law_draw T) (hr.mono (by decide)) (by rfl) T.g__law_draw T.F__law_draw.kp T.b__law_draw .nil pass0 (pa_cons (pv 0) (pa_cons pe_int pa_nil))) pe_int (nomark _)) (pss_one (ps_ret (pe_call (ok__law_great T) hr (by rfl) T.g__law_great T.F__law_great.kp T.b__law_great .nil pass0 (pa_cons (pv 0) pa_nil)))) pss_nil)
      (pss_one (ps_ret (pe_un un_neg (pe_call (ok__law_great T) hr (by rfl) T.g__law_great T.F__law_great.kp T.b__law_great .nil pass0 (pa_cons (pv 0) pa_nil)))))), ?_⟩
    have L0 : Lo ⟨K, X, H, muts [.mu p__law_bag_here (ml (a__law_bag_here : (List Int)))], n__law_signed.length⟩ X H (L2.start n__law_signed vs) [.mu p__law_bag_here (ml (a__law_bag_here : (List Int)))] := c.start n__law_signed (show (1 : Nat) ≤ 1 by decide)
    unfold m__law_signed at hm
    refine x_seq (x_ifS (x_test (x_op (x_call (x_cons (x_vm L0 rfl (x_cons (x_c (x_nil (obE hm fun z1 hz1 hm1 => mk__law_draw hz1 (L0.cond1 (i := 0) (.m (L0.mrep (i := 0) rfl) (.im (.int _) .nil)) rfl rfl rfl) fun _ F1 => k1 L0 F1 (i := 0) (Γ' := [.mu p__law_bag_here (ml (z1.2 : (List Int)))]) rfl rfl rfl fun L1 le1 => x_c (x_eqi (x_kb (x_if hm1 (fun hm2 => ?_) fun hm2 => ?_)))))))))))))
    · exact x_ret (x_call (x_cons (x_vm L1 rfl (x_nil (obE hm2 fun z2 hz2 hm3 => mk__law_great hz2 (L1.cond1 (i := 0) (.m (L1.mrep (i := 0) rfl) .nil) rfl rfl rfl) fun _ F2 => k1 L1 F2 (i := 0) (Γ' := [.mu p__law_bag_here (ml (z2.2 : (List Int)))]) rfl rfl rfl fun L2 le2 => x_finI (Q := Q) (ps := (fun (r : (Int × (List Int))) => [(p__law_bag_here, (ml (r.2 : (List Int))))])) (sc := fun (r : (Int × (List Int))) => r.1) ((z2.1, z2.2)) hm3 kont (L2.fin (hp1 (L2.mrep (i := 0) rfl)) (.int _)))))))
    · refine x_next ?_
      exact x_ret (x_un (x_call (x_cons (x_vm L1 rfl (x_nil (obE hm2 fun z3 hz3 hm4 => mk__law_great hz3 (L1.cond1 (i := 0) (.m (L1.mrep (i := 0) rfl) .nil) rfl rfl rfl) fun _ F3 => k1 L1 F3 (i := 0) (Γ' := [.mu p__law_bag_here (ml (z3.2 : (List Int)))]) rfl rfl rfl fun L3 le3 => x_u (x_finI (Q := Q) (ps := (fun (r : (Int × (List Int))) => [(p__law_bag_here, (ml (r.2 : (List Int))))])) (sc := fun (r : (Int × (List Int))) => r.1) (((-z3.1), z3.2)) hm4 kont (L3.fin (hp1 (L3.mrep (i := 0) rfl)) (.int _)))))))))
abbrev sp__law_gcd (K : PySem.W.Frag) : Sp := fun vs H Q _ => ∃ (X : Addr → Prop)  (a__law_one : Int) (a__law_two : Int) (r : Int), m__law_gcd a__law_one a__law_two = some r ∧ Cond K X H [.imm (.int a__law_one), .imm (.int a__law_two)] vs ∧ ∀ H', Fin K X H [] [] (.imm (.int r)) (.int r) H' → Q (.int r) H'
theorem mk__law_gcd {K : PySem.W.Frag} {X : Addr → Prop} {H : Hp} {vs : List V} {Q : VK} {E : XK}  {a__law_one : Int} {a__law_two : Int} {r : Int} (hm : m__law_gcd a__law_one a__law_two = some r) (c : Cond K X H [.imm (.int a__law_one), .imm (.int a__law_two)] vs) (k : ∀ H', Fin K X H [] [] (.imm (.int r)) (.int r) H' → Q (.int r) H') : sp__law_gcd K vs H Q E := ⟨X, a__law_one, a__law_two, r, hm, c, k⟩
abbrev n__law_gcd : List Str := ["_law_one", "_law_two", "_law_rest"]
theorem sc__law_gcd : FnScope n__law_gcd ["_law_one", "_law_two"] (defScope s__law_gcd) := ⟨rfl, rfl, rfl, by decide +kernel, rfl, by decide +kernel, by decide +kernel⟩
theorem ok__law_gcd (T : Txt K mg) : FnOk P w K mg base CX0 1 T.A__law_gcd T.D__law_gcd ["_law_one", "_law_two"] (sp__law_gcd K) := by
  refine Fun.ok T.F__law_gcd sc__law_gcd (fun vs H Q E h => ?_) (fun cdv A outer s H vs Q E hr h => ?_)
  · obtain ⟨X, a__law_one, a__law_two, r, hm, c, kont⟩ := h
    exact c.len
  · obtain ⟨X, a__law_one, a__law_two, r, hm, c, kont⟩ := h
    refine ⟨_, (pss_cons (ps_set (i := 0) sc__law_gcd.nd rfl (Or.inl rfl) (pe_callB call_absX (by rfl) T.z_abs (by decide +kernel) (pa_cons (pv 0) pa_nil)))
      (pss_cons (ps_set (i := 1) sc__law_gcd.nd rfl (Or.inl rfl) (pe_callB call_absX (by rfl) T.z_abs (by decide +kernel) (pa_cons (pv 1) pa_nil)))
      (pss_cons (ps_while PassesOwn.never (pt_cmpR op_gt (pv 1) pe_int (nomark _)) (pss_cons (ps_set (i := 2) sc__law_gcd.nd rfl (Or.inl rfl) (pe_op op_modN (pv 0) (pv 1)))
      (pss_cons (ps_set (i := 0) sc__law_gcd.nd rfl (Or.inl rfl) (pv 1))
      (pss_one (ps_set (i := 1) sc__law_gcd.nd rfl (Or.inl rfl) (pv 2))))))
      (pss_one (ps_ret (pv 0)))))), ?_⟩
    have L0 : Lo ⟨K, X, H, muts [.imm (.int a__law_one), .imm (.int a__law_two)], n__law_gcd.length⟩ X H (L2.start n__law_gcd vs) [.imm (.int a__law_one), .imm (.int a__law_two), .unk] := c.start n__law_gcd (show (2 : Nat) ≤ 3 by decide)
    unfold m__law_gcd at hm
    refine x_seq (x_asg (x_cb (x_cons (x_vI (x := a__law_one) L0 rfl (x_nil (x_abs (x_bset (x0 := (iabs a__law_one)) (d := fun one_1 => (.int one_1)) (Γf := fun one_1 => [.imm (.int one_1), .imm (.int a__law_two), .unk]) hm L0 (.int _) (show (0 : Nat) < 3 by decide) (fun _ => rfl) fun one_1 _ hm1 L1 => ?_)))))))
    refine x_seq (x_asg (x_cb (x_cons (x_vI (x := a__law_two) L1 rfl (x_nil (x_abs (x_bset (x0 := (iabs a__law_two)) (d := fun two_1 => (.int two_1)) (Γf := fun two_1 => [.imm (.int one_1), .imm (.int two_1), .unk]) hm1 L1 (.int _) (show (1 : Nat) < 3 by decide) (fun _ => rfl) fun two_1 _ hm2 L2 => ?_)))))))
    refine x_seq (x_wh (n := two_1.natAbs + 2) (G := (fun (s1 : (Int × Int)) => [.imm (.int s1.1), .imm (.int s1.2), .unk])) (s0 := (one_1, two_1)) (ρ := Empty) (ps := fun _ => []) (rs := fun _ => .imm .none) (L2.weak (Γ' := [.imm (.int one_1), .imm (.int two_1), .unk]) (.k (.k (.k .e)))) (fun _ _ => rfl) hm2 (fun s1 H1 _ _ _ _ _ _ hm3 L3 _ hN1 hC1 hB1 hR1 _ hQ1 => ?_) (fun s2 _ _ hm4 L4 => ?_) (fun q => q.elim))
    · refine x_test (x_op (x_vI (x := s1.2) L3 rfl (x_c (x_r0 (x_kb (hQ1 _ _ (x_whIf hm3 (fun hm6 => ?_) fun hm6 => ?_)))))))
      · refine x_seq (x_asg (x_op (x_vI (x := s1.1) L3 rfl (x_vI (x := s1.2) L3 rfl (x_mod hm6 fun z1 _ hm7 => x_set (d := (.int z1)) (Γ' := [.imm (.int s1.1), .imm (.int s1.2), .imm (.int z1)]) L3 (.int _) (show (2 : Nat) < 3 by decide) rfl fun _ L5 => ?_)))))
        refine x_seq (x_asg (x_vI (x := s1.2) L5 rfl (x_set (d := (.int s1.2)) (Γ' := [.imm (.int s1.2), .imm (.int s1.2), .imm (.int z1)]) L5 (.int _) (show (0 : Nat) < 3 by decide) rfl fun _ L6 => ?_)))
        refine x_asg (x_vI (x := z1) L6 rfl (x_set (d := (.int z1)) (Γ' := [.imm (.int s1.2), .imm (.int z1), .imm (.int z1)]) L6 (.int _) (show (1 : Nat) < 3 by decide) rfl fun _ L7 => ?_))
        exact x_leafN (G := (fun (s1 : (Int × Int)) => [.imm (.int s1.1), .imm (.int s1.2), .unk])) (e := (s1.2, z1)) hm7 hN1 (L7.weak (Γ' := [.imm (.int s1.2), .imm (.int z1), .unk]) (.k (.k (.d .e))))
      · exact x_leafB (G := (fun (s1 : (Int × Int)) => [.imm (.int s1.1), .imm (.int s1.2), .unk])) (e := (s1.1, s1.2)) hm6 hB1 (L3.weak (Γ' := [.imm (.int s1.1), .imm (.int s1.2), .unk]) (.k (.k (.k .e))))
    exact x_ret (x_vI (x := s2.1) L4 rfl (x_finI (Q := Q) (ps := (fun (r : Int) => [])) (sc := fun (r : Int) => r) s2.1 hm4 kont (L4.fin hp0 (.int _))))
abbrev n__law_lowest : List Str := ["_law_top", "_law_bottom", "_law_both"]
theorem sc__law_lowest : FnScope n__law_lowest ["_law_top", "_law_bottom"] (defScope s__law_lowest) := ⟨rfl, rfl, rfl, by decide +kernel, rfl, by decide +kernel, by decide +kernel⟩
abbrev sp__law_lowest_b (K : PySem.W.Frag) : Sp := fun vs H Q _ => ∃ (X : Addr → Prop)  (a__law_top : Int) (a__law_bottom : Int) (r : (T2 Int Int)), m__law_lowest_b a__law_top a__law_bottom = some r ∧ Cond K X H [.imm (.int a__law_top), .imm (.int a__law_bottom)] vs ∧ ∀ v H', Fin K X H [] [] (.imm (enc (r : (T2 Int Int)))) v H' → Q v H'
theorem mk__law_lowest_b {K : PySem.W.Frag} {X : Addr → Prop} {H : Hp} {vs : List V} {Q : VK} {E : XK}  {a__law_top : Int} {a__law_bottom : Int} {r : (T2 Int Int)} (hm : m__law_lowest_b a__law_top a__law_bottom = some r) (c : Cond K X H [.imm (.int a__law_top), .imm (.int a__law_bottom)] vs) (k : ∀ v H', Fin K X H [] [] (.imm (enc (r : (T2 Int Int)))) v H' → Q v H') : sp__law_lowest_b K vs H Q E := ⟨X, a__law_top, a__law_bottom, r, hm, c, k⟩
theorem ok__law_lowest_b (T : Txt K mg) : FnOk P w K mg base CX0 2 T.A__law_lowest T.D__law_lowest ["_law_top", "_law_bottom"] (sp__law_lowest_b K) := by
  refine Fun.ok T.F__law_lowest sc__law_lowest (fun vs H Q E h => ?_) (fun cdv A outer s H vs Q E hr h => ?_)
  · obtain ⟨X, a__law_top, a__law_bottom, r, hm, c, kont⟩ := h
    exact c.len
  · obtain ⟨X, a__law_top, a__law_bottom, r, hm, c, kont⟩ := h
    refine ⟨_, (pss_cons (ps_if (pt_cmpR op_lt (pv 1) pe_int (nomark _)) (pss_one ps_never) pss_nil)
      (pss_cons (ps_set (i := 2) sc__law_lowest.nd rfl (Or.inl rfl) (pe_call (ok__law_gcd T) (hr.mono (by decide)) (by rfl) T.g__law_gcd T.F__law_gcd.kp T.b__law_gcd .nil pass0 (pa_cons (pv 0) (pa_cons (pv 1) pa_nil))))
      (pss_one (ps_ret (pe_tup (pa_cons (pe_op op_divG (pv 0) (pv 2)) (pa_cons (pe_op op_divG (pv 1) (pv 2)) pa_nil))))))), ?_⟩
    have L0 : Lo ⟨K, X, H, muts [.imm (.int a__law_top), .imm (.int a__law_bottom)], n__law_lowest.length⟩ X H (L2.start n__law_lowest vs) [.imm (.int a__law_top), .imm (.int a__law_bottom), .unk] := c.start n__law_lowest (show (2 : Nat) ≤ 3 by decide)
    unfold m__law_lowest_b at hm
    refine x_seq (x_ifS (x_test (x_op (x_vI (x := a__law_bottom) L0 rfl (x_c (x_r0 (x_kb (x_if hm (fun hm1 => ?_) fun hm1 => ?_))))))))
    · exact (nomatch hm1)
    · refine x_next ?_
      refine x_seq (x_asg (x_call (x_cons (x_vI (x := a__law_top) L0 rfl (x_cons (x_vI (x := a__law_bottom) L0 rfl (x_nil (obE hm1 fun z1 hz1 hm2 => mk__law_gcd hz1 (L0.cond0 (.im (.int _) (.im (.int _) .nil)) rfl) fun _ F1 => k0 L0 F1 fun L1 le1 => x_set (d := (.int z1)) (Γ' := [.imm (.int a__law_top), .imm (.int a__law_bottom), .imm (.int z1)]) L1 (.int _) (show (2 : Nat) < 3 by decide) rfl fun _ L2 => ?_))))))))
      exact x_ret (x_tup (x_cons (x_op (x_vI (x := a__law_top) L2 rfl (x_vI (x := z1) L2 rfl (x_div hm2 fun z2 _ hm3 => x_cons (x_op (x_vI (x := a__law_bottom) L2 rfl (x_vI (x := z1) L2 rfl (x_div hm3 fun z3 _ hm4 => x_nil (x_mkT L2 (.cons (.int _) (.cons (.int _) .nil)) (show (2 : Nat) ≤ 16777216 by decide) fun v2 _ L3 le2 r1 => have r2 : Rep _ _ _ (enc ((T2.mk z2 z3) : (T2 Int Int))) v2 := r1; x_fin (Q := Q) (ps := (fun (r : (T2 Int Int)) => [])) (rs := (fun (r : (T2 Int Int)) => (.imm (enc (r : (T2 Int Int)))))) (e := (T2.mk z2 z3)) hm4 kont (L3.fin hp0 r2))))))))))))
abbrev sp__law_lowest (K : PySem.W.Frag) : Sp := fun vs H Q _ => ∃ (X : Addr → Prop)  (a__law_top : Int) (a__law_bottom : Int) (r : (T2 Int Int)), m__law_lowest a__law_top a__law_bottom = some r ∧ Cond K X H [.imm (.int a__law_top), .imm (.int a__law_bottom)] vs ∧ ∀ v H', Fin K X H [] [] (.imm (enc (r : (T2 Int Int)))) v H' → Q v H'
theorem mk__law_lowest {K : PySem.W.Frag} {X : Addr → Prop} {H : Hp} {vs : List V} {Q : VK} {E : XK}  {a__law_top : Int} {a__law_bottom : Int} {r : (T2 Int Int)} (hm : m__law_lowest a__law_top a__law_bottom = some r) (c : Cond K X H [.imm (.int a__law_top), .imm (.int a__law_bottom)] vs) (k : ∀ v H', Fin K X H [] [] (.imm (enc (r : (T2 Int Int)))) v H' → Q v H') : sp__law_lowest K vs H Q E := ⟨X, a__law_top, a__law_bottom, r, hm, c, k⟩
theorem ok__law_lowest (T : Txt K mg) : FnOk P w K mg base CX0 3 T.A__law_lowest T.D__law_lowest ["_law_top", "_law_bottom"] (sp__law_lowest K) := by
  refine Fun.ok T.F__law_lowest sc__law_lowest (fun vs H Q E h => ?_) (fun cdv A outer s H vs Q E hr h => ?_)
  · obtain ⟨X, a__law_top, a__law_bottom, r, hm, c, kont⟩ := h
    exact c.len
  · obtain ⟨X, a__law_top, a__law_bottom, r, hm, c, kont⟩ := h
    refine ⟨_, (pss_cons (ps_if (pt_cmpR op_lt (pv 1) pe_int (nomark _)) (pss_one (ps_ret (pe_call (ok__law_lowest_b T) (hr.mono (by decide)) (by rfl) T.g__law_lowest T.F__law_lowest.kp T.b__law_lowest .nil pass0 (pa_cons (pe_un un_neg (pv 0)) (pa_cons (pe_un un_neg (pv 1)) pa_nil))))) pss_nil)
      (pss_cons (ps_set (i := 2) sc__law_lowest.nd rfl (Or.inl rfl) (pe_call (ok__law_gcd T) (hr.mono (by decide)) (by rfl) T.g__law_gcd T.F__law_gcd.kp T.b__law_gcd .nil pass0 (pa_cons (pv 0) (pa_cons (pv 1) pa_nil))))
      (pss_one (ps_ret (pe_tup (pa_cons (pe_op op_divG (pv 0) (pv 2)) (pa_cons (pe_op op_divG (pv 1) (pv 2)) pa_nil))))))), ?_⟩
    have L0 : Lo ⟨K, X, H, muts [.imm (.int a__law_top), .imm (.int a__law_bottom)], n__law_lowest.length⟩ X H (L2.start n__law_lowest vs) [.imm (.int a__law_top), .imm (.int a__law_bottom), .unk] := c.start n__law_lowest (show (2 : Nat) ≤ 3 by decide)
    unfold m__law_lowest at hm
    refine x_seq (x_ifS (x_test (x_op (x_vI (x := a__law_bottom) L0 rfl (x_c (x_r0 (x_kb (x_if hm (fun hm1 => ?_) fun hm1 => ?_))))))))
    · exact x_ret (x_call (x_cons (x_un (x_vI (x := a__law_top) L0 rfl (x_u (x_cons (x_un (x_vI (x := a__law_bottom) L0 rfl (x_u (x_nil (obE hm1 fun z1 hz1 hm2 => mk__law_lowest_b hz1 (L0.cond0 (.im (.int _) (.im (.int _) .nil)) rfl) fun v1 _ F1 => k0d L0 F1 fun L1 le1 r1 => x_fin (Q := Q) (ps := (fun (r : (T2 Int Int)) => [])) (rs := (fun (r : (T2 Int Int)) => (.imm (enc (r : (T2 Int Int)))))) (e := z1) hm2 kont (L1.fin hp0 r1))))))))))))
    · refine x_next ?_
      refine x_seq (x_asg (x_call (x_cons (x_vI (x := a__law_top) L0 rfl (x_cons (x_vI (x := a__law_bottom) L0 rfl (x_nil (obE hm1 fun z2 hz2 hm3 => mk__law_gcd hz2 (L0.cond0 (.im (.int _) (.im (.int _) .nil)) rfl) fun _ F2 => k0 L0 F2 fun L2 le2 => x_set (d := (.int z2)) (Γ' := [.imm (.int a__law_top), .imm (.int a__law_bottom), .imm (.int z2)]) L2 (.int _) (show (2 : Nat) < 3 by decide) rfl fun _ L3 => ?_))))))))
      exact x_ret (x_tup (x_cons (x_op (x_vI (x := a__law_top) L3 rfl (x_vI (x := z2) L3 rfl (x_div hm3 fun z3 _ hm4 => x_cons (x_op (x_vI (x := a__law_bottom) L3 rfl (x_vI (x := z2) L3 rfl (x_div hm4 fun z4 _ hm5 => x_nil (x_mkT L3 (.cons (.int _) (.cons (.int _) .nil)) (show (2 : Nat) ≤ 16777216 by decide) fun v3 _ L4 le3 r2 => have r3 : Rep _ _ _ (enc ((T2.mk z3 z4) : (T2 Int Int))) v3 := r2; x_fin (Q := Q) (ps := (fun (r : (T2 Int Int)) => [])) (rs := (fun (r : (T2 Int Int)) => (.imm (enc (r : (T2 Int Int)))))) (e := (T2.mk z3 z4)) hm5 kont (L4.fin hp0 r3))))))))))))
abbrev sp__law_rat (K : PySem.W.Frag) : Sp := fun vs H Q _ => ∃ (X : Addr → Prop) (p__law_bag_here : Addr) (a__law_bag_here : (List Int)) (r : ((T2 Int Int) × (List Int))), m__law_rat a__law_bag_here = some r ∧ Cond K X H [.mu p__law_bag_here (ml (a__law_bag_here : (List Int)))] vs ∧ ∀ v H', Fin K X H [p__law_bag_here] [(p__law_bag_here, (ml (r.2 : (List Int))))] (.imm (enc (r.1 : (T2 Int Int)))) v H' → Q v H'
theorem mk__law_rat {K : PySem.W.Frag} {X : Addr → Prop} {H : Hp} {vs : List V} {Q : VK} {E : XK} {p__law_bag_here : Addr} {a__law_bag_here : (List Int)} {r : ((T2 Int Int) × (List Int))} (hm : m__law_rat a__law_bag_here = some r) (c : Cond K X H [.mu p__law_bag_here (ml (a__law_bag_here : (List Int)))] vs) (k : ∀ v H', Fin K X H [p__law_bag_here] [(p__law_bag_here, (ml (r.2 : (List Int))))] (.imm (enc (r.1 : (T2 Int Int)))) v H' → Q v H') : sp__law_rat K vs H Q E := ⟨X, p__law_bag_here, a__law_bag_here, r, hm, c, k⟩
abbrev n__law_rat : List Str := ["_law_bag_here", "_law_way"]
theorem sc__law_rat : FnScope n__law_rat ["_law_bag_here"] (defScope s__law_rat) := ⟨rfl, rfl, rfl, by decide +kernel, rfl, by decide +kernel, by decide +kernel⟩
theorem ok__law_rat (T : Txt K mg) : FnOk P w K mg base CX0 4 T.A__law_rat T.D__law_rat ["_law_bag_here"] (sp__law_rat K) := by
  refine Fun.ok T.F__law_rat sc__law_rat (fun vs H Q E h => ?_) (fun cdv A outer s H vs Q E hr h => ?_)
  · obtain ⟨X, p__law_bag_here, a__law_bag_here, r, hm, c, kont⟩ := h
    exact c.len
  · obtain ⟨X, p__law_bag_here, a__law_bag_here, r, hm, c, kont⟩ := h
    refine ⟨_, (pss_cons (ps_set (i := 1) sc__law_rat.nd rfl (Or.inl rfl) (pe_call (ok__law_draw T) (hr.mono (by decide)) (by rfl) T.g__law_draw T.F__law_draw.kp T.b__law_draw .nil pass0 (pa_cons (pv 0) (pa_cons pe_int pa_nil))))
      (pss_cons (ps_if (pt_cmpR op_eq (pv 1) pe_int (nomark _)) (pss_one (ps_ret (pe_call (ok__law_lowest T) hr (by rfl) T.g__law_lowest T.F__law_lowest.kp T.b__law_lowest .nil pass0 (pa_cons (pe_call (ok__law_signed T) hr (by rfl) T.g__law_signed T.F__law_signed.kp T.b__law_signed .nil pass0 (pa_cons (pv 0) pa_nil)) (pa_cons (pe_op op_add pe_int (pe_op op_fdiv (pe_call (ok__law_great T) (hr.mono (by decide)) (by rfl) T.g__law_great T.F__law_great.kp T.b__law_great .nil pass0 (pa_cons (pv 0) pa_nil)) pe_int)) pa_nil))))) pss_nil)
      (pss_cons (ps_if (pt_cmpR op_eq (pv 1) pe_int (nomark _)) (pss_one (ps_ret (pe_call (ok__law_lowest T) hr (by rfl) T.g__law_lowest T.F__law_lowest.kp T.b__law_lowest .nil pass0 (pa_cons (pe_op op_sub (pe_call (ok__law_draw T) (hr.mono (by decide)) (by rfl) T.g__law_draw T.F__law_draw.kp T.b__law_draw .nil pass0 (pa_cons (pv 0) (pa_cons pe_int pa_nil))) pe_int) (pa_cons (pe_op op_add pe_int (pe_call (ok__law_draw T) (hr.mono (by decide)) (by rfl) T.g__law_draw T.F__law_draw.kp T.b__law_draw .nil pass0 (pa_cons (pv 0) (pa_cons pe_int pa_nil)))) pa_nil))))) pss_nil)
      (pss_one (ps_ret (pe_call (ok__law_lowest T) hr (by rfl) T.g__law_lowest T.F__law_lowest.kp T.b__law_lowest .nil pass0 (pa_cons (pe_op op_sub (pe_call (ok__law_draw T) (hr.mono (by decide)) (by rfl) T.g__law_draw T.F__law_draw.kp T.b__law_draw .nil pass0 (pa_cons (pv 0) (pa_cons pe_int pa_nil))) pe_int) (pa_cons (pe_op op_add pe_int (pe_call (ok__law_draw T) (hr.mono (by decide)) (by rfl) T.g__law_draw T.F__law_draw.kp T.b__law_draw .nil pass0 (pa_cons (pv 0) (pa_cons pe_int pa_nil)))) pa_nil)))))))), ?_⟩
    have L0 : Lo ⟨K, X, H, muts [.mu p__law_bag_here (ml (a__law_bag_here : (List Int)))], n__law_rat.length⟩ X H (L2.start n__law_rat vs) [.mu p__law_bag_here (ml (a__law_bag_here : (List Int))), .unk] := c.start n__law_rat (show (1 : Nat) ≤ 2 by decide)
    unfold m__law_rat at hm
    refine x_seq (x_asg (x_call (x_cons (x_vm L0 rfl (x_cons (x_c (x_nil (obE hm fun z1 hz1 hm1 => mk__law_draw hz1 (L0.cond1 (i := 0) (.m (L0.mrep (i := 0) rfl) (.im (.int _) .nil)) rfl rfl rfl) fun _ F1 => k1 L0 F1 (i := 0) (Γ' := [.mu p__law_bag_here (ml (z1.2 : (List Int))), .unk]) rfl rfl rfl fun L1 le1 => x_set (d := (.int z1.1)) (Γ' := [.mu p__law_bag_here (ml (z1.2 : (List Int))), .imm (.int z1.1)]) L1 (.int _) (show (1 : Nat) < 2 by decide) rfl fun _ L2 => ?_))))))))
    refine x_seq (x_ifS (x_test (x_op (x_vI (x := z1.1) L2 rfl (x_c (x_eqi (x_kb (x_if hm1 (fun hm2 => ?_) fun hm2 => ?_))))))))
    · exact x_ret (x_call (x_cons (x_call (x_cons (x_vm L2 rfl (x_nil (obE hm2 fun z2 hz2 hm3 => mk__law_signed hz2 (L2.cond1 (i := 0) (.m (L2.mrep (i := 0) rfl) .nil) rfl rfl rfl) fun _ F2 => k1 L2 F2 (i := 0) (Γ' := [.mu p__law_bag_here (ml (z2.2 : (List Int))), .imm (.int z1.1)]) rfl rfl rfl fun L3 le2 => x_cons (x_op (x_c (x_op (x_call (x_cons (x_vm L3 rfl (x_nil (obE hm3 fun z3 hz3 hm4 => mk__law_great hz3 (L3.cond1 (i := 0) (.m (L3.mrep (i := 0) rfl) .nil) rfl rfl rfl) fun _ F3 => k1 L3 F3 (i := 0) (Γ' := [.mu p__law_bag_here (ml (z3.2 : (List Int))), .imm (.int z1.1)]) rfl rfl rfl fun L4 le3 => x_c (x_divc ⟨by decide, by decide⟩ (x_r0 (x_nil (obE hm4 fun z4 hz4 hm5 => mk__law_lowest hz4 (L4.cond0 (.im (.int _) (.im (.int _) .nil)) rfl) fun v4 _ F4 => k0d L4 F4 fun L5 le4 r1 => x_fin (Q := Q) (ps := (fun (r : ((T2 Int Int) × (List Int))) => [(p__law_bag_here, (ml (r.2 : (List Int))))])) (rs := (fun (r : ((T2 Int Int) × (List Int))) => (.imm (enc (r.1 : (T2 Int Int)))))) (e := (z4, z3.2)) hm5 kont (L5.fin (hp1 (L5.mrep (i := 0) rfl)) r1))))))))))))))))))))
    · refine x_next ?_
      refine x_seq (x_ifS (x_test (x_op (x_vI (x := z1.1) L2 rfl (x_c (x_eqi (x_kb (x_if hm2 (fun hm6 => ?_) fun hm6 => ?_))))))))
      · exact x_ret (x_call (x_cons (x_op (x_call (x_cons (x_vm L2 rfl (x_cons (x_c (x_nil (obE hm6 fun z5 hz5 hm7 => mk__law_draw hz5 (L2.cond1 (i := 0) (.m (L2.mrep (i := 0) rfl) (.im (.int _) .nil)) rfl rfl rfl) fun _ F5 => k1 L2 F5 (i := 0) (Γ' := [.mu p__law_bag_here (ml (z5.2 : (List Int))), .imm (.int z1.1)]) rfl rfl rfl fun L6 le5 => x_c (x_r0 (x_cons (x_op (x_c (x_call (x_cons (x_vm L6 rfl (x_cons (x_c (x_nil (obE hm7 fun z6 hz6 hm8 => mk__law_draw hz6 (L6.cond1 (i := 0) (.m (L6.mrep (i := 0) rfl) (.im (.int _) .nil)) rfl rfl rfl) fun _ F6 => k1 L6 F6 (i := 0) (Γ' := [.mu p__law_bag_here (ml (z6.2 : (List Int))), .imm (.int z1.1)]) rfl rfl rfl fun L7 le6 => x_r0 (x_nil (obE hm8 fun z7 hz7 hm9 => mk__law_lowest hz7 (L7.cond0 (.im (.int _) (.im (.int _) .nil)) rfl) fun v7 _ F7 => k0d L7 F7 fun L8 le7 r2 => x_fin (Q := Q) (ps := (fun (r : ((T2 Int Int) × (List Int))) => [(p__law_bag_here, (ml (r.2 : (List Int))))])) (rs := (fun (r : ((T2 Int Int) × (List Int))) => (.imm (enc (r.1 : (T2 Int Int)))))) (e := (z7, z6.2)) hm9 kont (L8.fin (hp1 (L8.mrep (i := 0) rfl)) r2))))))))))))))))))))))))
      · refine x_next ?_
        exact x_ret (x_call (x_cons (x_op (x_call (x_cons (x_vm L2 rfl (x_cons (x_c (x_nil (obE hm6 fun z8 hz8 hm10 => mk__law_draw hz8 (L2.cond1 (i := 0) (.m (L2.mrep (i := 0) rfl) (.im (.int _) .nil)) rfl rfl rfl) fun _ F8 => k1 L2 F8 (i := 0) (Γ' := [.mu p__law_bag_here (ml (z8.2 : (List Int))), .imm (.int z1.1)]) rfl rfl rfl fun L9 le8 => x_c (x_r0 (x_cons (x_op (x_c (x_call (x_cons (x_vm L9 rfl (x_cons (x_c (x_nil (obE hm10 fun z9 hz9 hm11 => mk__law_draw hz9 (L9.cond1 (i := 0) (.m (L9.mrep (i := 0) rfl) (.im (.int _) .nil)) rfl rfl rfl) fun _ F9 => k1 L9 F9 (i := 0) (Γ' := [.mu p__law_bag_here (ml (z9.2 : (List Int))), .imm (.int z1.1)]) rfl rfl rfl fun L10 le9 => x_r0 (x_nil (obE hm11 fun z10 hz10 hm12 => mk__law_lowest hz10 (L10.cond0 (.im (.int _) (.im (.int _) .nil)) rfl) fun v10 _ F10 => k0d L10 F10 fun L11 le10 r3 => x_fin (Q := Q) (ps := (fun (r : ((T2 Int Int) × (List Int))) => [(p__law_bag_here, (ml (r.2 : (List Int))))])) (rs := (fun (r : ((T2 Int Int) × (List Int))) => (.imm (enc (r.1 : (T2 Int Int)))))) (e := (z10, z9.2)) hm12 kont (L11.fin (hp1 (L11.mrep (i := 0) rfl)) r3))))))))))))))))))))))))
abbrev sp__law_text (K : PySem.W.Frag) : Sp := fun vs H Q _ => ∃ (X : Addr → Prop)  (a__law_one : (T2 Int Int)) (r : Str), m__law_text a__law_one = some r ∧ Cond K X H [.imm (enc (a__law_one : (T2 Int Int)))] vs ∧ ∀ H', Fin K X H [] [] (.imm (.str r)) (.str r) H' → Q (.str r) H'
theorem mk__law_text {K : PySem.W.Frag} {X : Addr → Prop} {H : Hp} {vs : List V} {Q : VK} {E : XK}  {a__law_one : (T2 Int Int)} {r : Str} (hm : m__law_text a__law_one = some r) (c : Cond K X H [.imm (enc (a__law_one : (T2 Int Int)))] vs) (k : ∀ H', Fin K X H [] [] (.imm (.str r)) (.str r) H' → Q (.str r) H') : sp__law_text K vs H Q E := ⟨X, a__law_one, r, hm, c, k⟩
abbrev n__law_text : List Str := ["_law_one"]
theorem sc__law_text : FnScope n__law_text ["_law_one"] (defScope s__law_text) := ⟨rfl, rfl, rfl, by decide +kernel, rfl, by decide +kernel, by decide +kernel⟩
theorem ok__law_text (T : Txt K mg) : FnOk P w K mg base CX0 1 T.A__law_text T.D__law_text ["_law_one"] (sp__law_text K) := by
  refine Fun.ok T.F__law_text sc__law_text (fun vs H Q E h => ?_) (fun cdv A outer s H vs Q E hr h => ?_)
  · obtain ⟨X, a__law_one, r, hm, c, kont⟩ := h
    exact c.len
  · obtain ⟨X, a__law_one, r, hm, c, kont⟩ := h
    refine ⟨_, (pss_cons (ps_if (pt_cmpR op_eq (pe_ix (r := rIxT K) ix_tup (pv 0) pe_int (fun _ _ => rfl)) pe_int (nomark _)) (pss_one (ps_ret (pe_callTy call_strX (by rfl) T.z_str (by decide +kernel) (pa_cons (pe_ix (r := rIxT K) ix_tup (pv 0) pe_int (fun _ _ => rfl)) pa_nil)))) pss_nil)
      (pss_one (ps_ret (pe_op op_addSX (pe_op op_addSX (pe_callTy call_strX (by rfl) T.z_str (by decide +kernel) (pa_cons (pe_ix (r := rIxT K) ix_tup (pv 0) pe_int (fun _ _ => rfl)) pa_nil)) pe_str) (pe_callTy call_strX (by rfl) T.z_str (by decide +kernel) (pa_cons (pe_ix (r := rIxT K) ix_tup (pv 0) pe_int (fun _ _ => rfl)) pa_nil)))))), ?_⟩
    have L0 : Lo ⟨K, X, H, muts [.imm (enc (a__law_one : (T2 Int Int)))], n__law_text.length⟩ X H (L2.start n__law_text vs) [.imm (enc (a__law_one : (T2 Int Int)))] := c.start n__law_text (show (1 : Nat) ≤ 1 by decide)
    unfold m__law_text at hm
    refine x_seq (x_ifS (x_test (x_op (x_op (x_vd (d := (enc (a__law_one : (T2 Int Int)))) L0 rfl fun v1 r1 => x_c (x_ixTI (x := a__law_one.b) r1 rfl (x_c (x_eqi (x_kb (x_if hm (fun hm1 => ?_) fun hm1 => ?_))))))))))
    · exact x_ret (x_cb (x_cons (x_op (x_vd (d := (enc (a__law_one : (T2 Int Int)))) L0 rfl fun v2 r2 => x_c (x_ixTI (x := a__law_one.a) r2 rfl (x_nil (x_strI (i := a__law_one.a) hm1 fun x1 hm2 => x_finS (Q := Q) (ps := (fun (r : Str) => [])) (sc := fun (r : Str) => r) x1 hm2 kont (L0.fin hp0 (.str _)))))))))
    · refine x_next ?_
      exact x_ret (x_op (x_op (x_cb (x_cons (x_op (x_vd (d := (enc (a__law_one : (T2 Int Int)))) L0 rfl fun v3 r3 => x_c (x_ixTI (x := a__law_one.a) r3 rfl (x_nil (x_strI (i := a__law_one.a) hm1 fun x2 hm3 => x_c (x_addS (a := x2) (b := ("/" : Str)) hm3 fun hm4 => x_cb (x_cons (x_op (x_vd (d := (enc (a__law_one : (T2 Int Int)))) L0 rfl fun v4 r4 => x_c (x_ixTI (x := a__law_one.b) r4 rfl (x_nil (x_strI (i := a__law_one.b) hm4 fun x3 hm5 => x_addS (a := (x2 ++ ("/" : Str))) (b := x3) hm5 fun hm6 => x_finS (Q := Q) (ps := (fun (r : Str) => [])) (sc := fun (r : Str) => r) (((x2 ++ ("/" : Str)) ++ x3)) hm6 kont (L0.fin hp0 (.str _))))))))))))))))))
abbrev sp__law_is_whole (K : PySem.W.Frag) : Sp := fun vs H Q _ => ∃ (X : Addr → Prop)  (a__law_text_here : Str) (r : Bool), m__law_is_whole a__law_text_here = some r ∧ Cond K X H [.imm (.str a__law_text_here)] vs ∧ ∀ H', Fin K X H [] [] (.imm (.bool r)) (.bl r) H' → Q (.bl r) H'
theorem mk__law_is_whole {K : PySem.W.Frag} {X : Addr → Prop} {H : Hp} {vs : List V} {Q : VK} {E : XK}  {a__law_text_here : Str} {r : Bool} (hm : m__law_is_whole a__law_text_here = some r) (c : Cond K X H [.imm (.str a__law_text_here)] vs) (k : ∀ H', Fin K X H [] [] (.imm (.bool r)) (.bl r) H' → Q (.bl r) H') : sp__law_is_whole K vs H Q E := ⟨X, a__law_text_here, r, hm, c, k⟩
abbrev n__law_is_whole : List Str := ["_law_text_here", "_law_sign"]
theorem sc__law_is_whole : FnScope n__law_is_whole ["_law_text_here"] (defScope s__law_is_whole) := ⟨rfl, rfl, rfl, by decide +kernel, rfl, by decide +kernel, by decide +kernel⟩
theorem ok__law_is_whole (T : Txt K mg) : FnOk P w K mg base CX0 1 T.A__law_is_whole T.D__law_is_whole ["_law_text_here"] (sp__law_is_whole K) := by
  refine Fun.ok T.F__law_is_whole sc__law_is_whole (fun vs H Q E h => ?_) (fun cdv A outer s H vs Q E hr h => ?_)
  · obtain ⟨X, a__law_text_here, r, hm, c, kont⟩ := h
    exact c.len
  · obtain ⟨X, a__law_text_here, r, hm, c, kont⟩ := h
    refine ⟨_, (pss_cons (ps_if (PW.pt (pw_or (pt_not (pt_chain op_le op_le pe_int (pe_callB (r := rLenStr K) call_lenStr (by rfl) T.z_len (by decide +kernel) (pa_cons (pv 0) pa_nil)) pe_int)) (pw_or1 (pt_not (pt_val (pe_callB (r := rAll K) (cr_all rfl) (by rfl) T.z_all (by decide +kernel) (pa_cons (pe_lc (own := [("_law_sign", 1)]) (g := gName 1) (tt := tYes) rfl sc__law_is_whole.nd (pi_str (pv 0)) (blkOk_by (N := n__law_is_whole) (sc := defScope s__law_is_whole) (by decide +kernel)) (fun _ _ _ _ _ => (pg_name (i := 1) sc__law_is_whole.nd rfl (Or.inl rfl))) (fun _ _ _ _ _ => pts_nil) (fun _ _ _ _ _ => (pe_cmpR op_inS (pv 1) pe_str (by rfl)))) pa_nil))))))) (pss_one (ps_ret pe_bl)) pss_nil)
      (pss_one (ps_ret (pe_or (pe_cmpR op_eq (pv 0) pe_str (nomark _)) (pe_one (pe_cmpR op_ne (pe_ix (r := rIxS) ix_str (pv 0) pe_int (fun _ _ => rfl)) pe_str (nomark _))))))), ?_⟩
    have L0 : Lo ⟨K, X, H, muts [.imm (.str a__law_text_here)], n__law_is_whole.length⟩ X H (L2.start n__law_is_whole vs) [.imm (.str a__law_text_here), .unk] := c.start n__law_is_whole (show (1 : Nat) ≤ 2 by decide)
    unfold m__law_is_whole at hm
    refine x_seq (x_ifS (x_or (x_not (x_test (x_chain (x_c (x_cb (x_cons (x_vS (x := a__law_text_here) L0 rfl (x_nil (x_lenStr (z := a__law_text_here) hm fun hm1 => x_r0 (x_chP (B := (decide ((a__law_text_here.length : Int) ≤ 30))) (fun _ hq => x_c (x_r0 (hq))) (x_kb (x_kn (x_orB L0 hm1 (fun _ hm5 _ hq => x_not (x_tB (x_cb (x_cons (x_lcy (x_vS (x := a__law_text_here) L0 rfl (obE hm5 fun _ hl2 hm6 => obE hm6 fun ys2 hy3 hm7 => x_lcY (G := (fun (s3 : Unit) => [.imm (.str a__law_text_here), .unk])) (s0 := ()) (x := a__law_text_here) L0 (fun _ _ => rfl) (mapO_comp hy3) (lenOk_le hl2) (fun x2 s3 _ H2 _ u2 _ _ _ hF2 L5 r4 hn2 hy4 => obE hF2 fun y2 hm8 he2 => x_cName (d := (.str ((chS x2)))) (Γ' := [.imm (.str a__law_text_here), .imm (.str ((chS x2)))]) L5 r4 (show (1 : Nat) < 2 by decide) rfl fun _ L6 => x_yes (x_op (x_vS (x := (chS x2)) L6 rfl (x_c (x_inS (x := x2) (z := ("0123456789" : Str)) (x_cy (G := (fun (s3 : Unit) => [.imm (.str a__law_text_here), .unk])) (s := s3) (s' := ()) (y := (inS x2 (("0123456789" : Str)))) (by cases hm8; cases he2; rfl) hy4 L5 L6 (.i rfl (.i rfl .e)) (.bl _))))))) fun p2 _ L7 le2 r5 => have L8 : Lo _ _ _ _ [.imm (.str a__law_text_here), .unk] := L7; have r6 : Rep _ _ _ (enc (ys2 : (List Bool))) (.ref p2) := r5; x_nil (x_all (bs := ys2) r6 (x_kb (x_kn (x_lfT hm7 hq L8))))))))))) fun w1 _ hm9 L9 => x_if hm9 (fun hm10 => ?_) fun hm10 => ?_)))))))))))))))
    · exact x_ret (x_c (x_finB (Q := Q) (ps := (fun (r : Bool) => [])) (sc := fun (r : Bool) => r) false hm10 kont (L9.fin hp0 (.bl _))))
    · refine x_next ?_
      exact x_ret (x_orV (x_op (x_vS (x := a__law_text_here) L9 rfl (x_c (x_eqs (x_kb (x_orVB L9 hm10 (fun _ hm12 _ hq => x_op (x_op (x_vS (x := a__law_text_here) L9 rfl (x_c (x_ixStr (z := a__law_text_here) (i := 0) hm12 fun x4 hm13 => x_c (x_nes (x_lfV hm13 hq L9))))))) fun w2 _ hm14 L10 => x_finB (Q := Q) (ps := (fun (r : Bool) => [])) (sc := fun (r : Bool) => r) w2 hm14 kont (L10.fin hp0 (.bl _)))))))))
abbrev sp__law_ratio_in (K : PySem.W.Frag) : Sp := fun vs H Q _ => ∃ (X : Addr → Prop)  (a__law_text_here : Str) (r : (Option (T2 Int Int))), m__law_ratio_in a__law_text_here = some r ∧ Cond K X H [.imm (.str a__law_text_here)] vs ∧ ∀ v H', Fin K X H [] [] (.imm (enc (r : (Option (T2 Int Int))))) v H' → Q v H'
theorem mk__law_ratio_in {K : PySem.W.Frag} {X : Addr → Prop} {H : Hp} {vs : List V} {Q : VK} {E : XK}  {a__law_text_here : Str} {r : (Option (T2 Int Int))} (hm : m__law_ratio_in a__law_text_here = some r) (c : Cond K X H [.imm (.str a__law_text_here)] vs) (k : ∀ v H', Fin K X H [] [] (.imm (enc (r : (Option (T2 Int Int))))) v H' → Q v H') : sp__law_ratio_in K vs H Q E := ⟨X, a__law_text_here, r, hm, c, k⟩
abbrev n__law_ratio_in : List Str := ["_law_text_here", "_law_rest", "_law_parts", "_law_found", "_law_part"]
theorem sc__law_ratio_in : FnScope n__law_ratio_in ["_law_text_here"] (defScope s__law_ratio_in) := ⟨rfl, rfl, rfl, by decide +kernel, rfl, by decide +kernel, by decide +kernel⟩
theorem ok__law_ratio_in (T : Txt K mg) : FnOk P w K mg base CX0 2 T.A__law_ratio_in T.D__law_ratio_in ["_law_text_here"] (sp__law_ratio_in K) := by
  refine Fun.ok T.F__law_ratio_in sc__law_ratio_in (fun vs H Q E h => ?_) (fun cdv A outer s H vs Q E hr h => ?_)
  · obtain ⟨X, a__law_text_here, r, hm, c, kont⟩ := h
    exact c.len
  · obtain ⟨X, a__law_text_here, r, hm, c, kont⟩ := h
    refine ⟨_, (pss_cons (ps_set (i := 1) sc__law_ratio_in.nd rfl (Or.inl rfl) (pv 0))
      (pss_cons (ps_if (pt_cmpR op_eq (pe_slice (r := rSlS) sl_str (pv 0) po_none (po_some pe_int)) pe_str (nomark _)) (pss_one (ps_set (i := 1) sc__law_ratio_in.nd rfl (Or.inl rfl) (pe_slice (r := rSlS) sl_str (pv 0) (po_some pe_int) po_none))) pss_nil)
      (pss_cons (ps_set (i := 2) sc__law_ratio_in.nd rfl (Or.inl rfl) (pe_m1 PySem.F.slot_str_split PySem.F.type_str_split mt_splitX (pv 1) pe_str))
      (pss_cons (ps_if (PW.pt (pw_or (pt_cmpR op_gt (pe_callB (r := rLenX K) call_lenX (by rfl) T.z_len (by decide +kernel) (pa_cons (pv 2) pa_nil)) pe_int (nomark _)) (pw_or (pt_not (pt_val (pe_callB (r := rAll K) (cr_all rfl) (by rfl) T.z_all (by decide +kernel) (pa_cons (pe_lc (own := [("_law_part", 4)]) (g := gName 4) (tt := tYes) rfl sc__law_ratio_in.nd (pi_list (pv 2)) (blkOk_by (N := n__law_ratio_in) (sc := defScope s__law_ratio_in) (by decide +kernel)) (fun _ _ _ _ _ => (pg_name (i := 4) sc__law_ratio_in.nd rfl (Or.inl rfl))) (fun _ _ _ _ _ => pts_nil) (fun _ _ _ _ _ => (pe_call (ok__law_is_whole T) hr (by rfl) T.g__law_is_whole T.F__law_is_whole.kp T.b__law_is_whole .nil pass0 (pa_cons (pv 4) pa_nil)))) pa_nil)))) (pw_or1 (pt_cmpR op_eq (pe_slice (r := rSlS) sl_str (pv 0) po_none (po_some pe_int)) pe_str (nomark _)))))) (pss_one (ps_ret pe_non)) pss_nil)
      (pss_cons (ps_set (i := 3) sc__law_ratio_in.nd rfl (Or.inl rfl) (pe_op op_catR (pe_lc (own := [("_law_part", 4)]) (g := gName 4) (tt := tYes) rfl sc__law_ratio_in.nd (pi_list (pv 2)) (blkOk_by (N := n__law_ratio_in) (sc := defScope s__law_ratio_in) (by decide +kernel)) (fun _ _ _ _ _ => (pg_name (i := 4) sc__law_ratio_in.nd rfl (Or.inl rfl))) (fun _ _ _ _ _ => pts_nil) (fun _ _ _ _ _ => (pe_callTy call_intT (by rfl) T.z_int (by decide +kernel) (pa_cons (pv 4) pa_nil)))) (pe_lst (pa_cons pe_int pa_nil))))
      (pss_cons (ps_if (PW.pt (pw_and (pt_cmpR op_eq (pe_callB (r := rLenX K) call_lenX (by rfl) T.z_len (by decide +kernel) (pa_cons (pv 2) pa_nil)) pe_int (nomark _)) (pw_and1 (PW.pt (pw_or (pt_cmpR op_lt (pe_ix (r := rIxL K) ix_list (pv 3) pe_int (fun _ _ => rfl)) pe_int (nomark _)) (pw_or1 (pt_cmpR op_ne (pe_call (ok__law_gcd T) hr (by rfl) T.g__law_gcd T.F__law_gcd.kp T.b__law_gcd .nil pass0 (pa_cons (pe_ix (r := rIxL K) ix_list (pv 3) pe_int (fun _ _ => rfl)) (pa_cons (pe_ix (r := rIxL K) ix_list (pv 3) pe_int (fun _ _ => rfl)) pa_nil))) pe_int (nomark _)))))))) (pss_one (ps_ret pe_non)) pss_nil)
      (pss_cons (ps_if (pt_cmpR op_ne (pv 1) (pv 0) (nomark _)) (pss_one (ps_asg (pe_un un_neg (pe_ix (r := rIxL K) ix_list (pv 3) pe_int (fun _ _ => rfl))) (pg_sub (pv 3) pe_int set_list))) pss_nil)
      (pss_one (ps_ret (pe_tup (pa_cons (pe_ix (r := rIxL K) ix_list (pv 3) pe_int (fun _ _ => rfl)) (pa_cons (pe_ix (r := rIxL K) ix_list (pv 3) pe_int (fun _ _ => rfl)) pa_nil)))))))))))), ?_⟩
    have L0 : Lo ⟨K, X, H, muts [.imm (.str a__law_text_here)], n__law_ratio_in.length⟩ X H (L2.start n__law_ratio_in vs) [.imm (.str a__law_text_here), .unk, .unk, .unk, .unk] := c.start n__law_ratio_in (show (1 : Nat) ≤ 5 by decide)
    unfold m__law_ratio_in at hm
    refine x_seq (x_asg (x_vS (x := a__law_text_here) L0 rfl (x_set (d := (.str a__law_text_here)) (Γ' := [.imm (.str a__law_text_here), .imm (.str a__law_text_here), .unk, .unk, .unk]) L0 (.str _) (show (1 : Nat) < 5 by decide) rfl fun _ L1 => ?_)))
    refine x_seq (x_ifS (x_test (x_op (x_sl (x_vS (x := a__law_text_here) L1 rfl (x_noP (x_part (x_c (x_partK (x_slStr (z := a__law_text_here) hm fun hm1 => x_c (x_eqs (x_kb (x_join (G := (fun (s1 : Str) => [.imm (.str a__law_text_here), .imm (.str s1), .unk, .unk, .unk])) L1 hm1 (fun _ hm2 _ hN1 => ?_) (fun _ hm2 _ hN1 => ?_) fun s1 X1 _ _ hm3 L2 => ?_)))))))))))))
    · refine x_asg (x_sl (x_vS (x := a__law_text_here) L1 rfl (x_part (x_c (x_partK (x_noP (x_slStr (z := a__law_text_here) hm2 fun hm4 => x_bset (x0 := (cutS a__law_text_here (some 1) none)) (d := fun rest_1 => (.str rest_1)) (Γf := fun rest_1 => [.imm (.str a__law_text_here), .imm (.str rest_1), .unk, .unk, .unk]) hm4 L1 (.str _) (show (1 : Nat) < 5 by decide) (fun _ => rfl) fun rest_1 _ hm5 L3 => ?_)))))))
      exact x_leaf (G := (fun (s1 : Str) => [.imm (.str a__law_text_here), .imm (.str s1), .unk, .unk, .unk])) (e := rest_1) hm5 hN1 (L3.weak (Γ' := [.imm (.str a__law_text_here), .imm (.str rest_1), .unk, .unk, .unk]) (.k (.k (.k (.k (.k .e))))))
    · refine x_next ?_
      exact x_leaf (G := (fun (s1 : Str) => [.imm (.str a__law_text_here), .imm (.str s1), .unk, .unk, .unk])) (e := a__law_text_here) hm2 hN1 (L1.weak (Γ' := [.imm (.str a__law_text_here), .imm (.str a__law_text_here), .unk, .unk, .unk]) (.k (.k (.k (.k (.k .e))))))
    refine x_seq (x_asg (x_m1 (x_vS (x := s1) L2 rfl (x_isS (x_c (x_split (a := s1) (b := ("/" : Str)) L2 hm3 (by decide +kernel) fun v1 _ hm6 L4 le1 r1 => have r2 : Rep _ _ _ (enc ((Txt.split s1 (("/" : Str))) : (List Str))) v1 := r1; x_bset (x0 := (Txt.split s1 (("/" : Str)))) (d := fun parts_1 => (enc (parts_1 : (List Str)))) (Γf := fun parts_1 => [.imm (.str a__law_text_here), .imm (.str s1), .imm (enc (parts_1 : (List Str))), .unk, .unk]) hm6 L4 r2 (show (2 : Nat) < 5 by decide) (fun _ => rfl) fun parts_1 _ hm7 L5 => ?_))))))
    refine x_seq (x_ifS (x_or (x_test (x_op (x_cb (x_cons (x_vd (d := (enc (parts_1 : (List Str)))) L5 rfl fun v2 r3 => x_nil (x_lenL (xs := parts_1) r3 (x_c (x_r0 (x_kb (x_orB L5 hm7 (fun _ hm16 _ hq => x_or (x_not (x_tB (x_cb (x_cons (x_lcl (x_vd (d := (enc (parts_1 : (List Str)))) L5 rfl fun v5 r8 => obE hm16 fun _ hl2 hm17 => obE hm17 fun ys2 hy3 hm18 => x_lcL (G := (fun (s5 : Unit) => [.imm (.str a__law_text_here), .imm (.str s1), .imm (enc (parts_1 : (List Str))), .unk, .unk])) (s0 := ()) (xs := parts_1) L5 (fun _ _ => rfl) r8 (mapO_comp hy3) (lenOk_le hl2) (fun x2 s5 _ H2 _ u2 _ _ _ hF2 L12 r9 hn2 hy4 => obE hF2 fun y2 hm19 he2 => x_cName (d := (.str x2)) (Γ' := [.imm (.str a__law_text_here), .imm (.str s1), .imm (enc (parts_1 : (List Str))), .unk, .imm (.str x2)]) L12 r9 (show (4 : Nat) < 5 by decide) rfl fun _ L13 => x_yes (x_call (x_cons (x_vS (x := x2) L13 rfl (x_nil (obE hm19 fun z2 hz4 hm20 => mk__law_is_whole hz4 (L13.cond0 (.im (.str _) .nil) rfl) fun _ F2 => k0 L13 F2 fun L14 le4 => x_cy (G := (fun (s5 : Unit) => [.imm (.str a__law_text_here), .imm (.str s1), .imm (enc (parts_1 : (List Str))), .unk, .unk])) (s := s5) (s' := ()) (y := z2) (by cases hm20; cases he2; rfl) hy4 L12 L14 (.i rfl (.i rfl (.i rfl (.i rfl (.i rfl .e))))) (.bl _))))))) fun p2 _ L15 le5 r10 => have L16 : Lo _ _ _ _ [.imm (.str a__law_text_here), .imm (.str s1), .imm (enc (parts_1 : (List Str))), .unk, .unk] := L15; have r11 : Rep _ _ _ (enc (ys2 : (List Bool))) (.ref p2) := r10; x_nil (x_all (bs := ys2) r11 (x_kb (x_kn (x_orB L16 hm18 (fun _ hm22 _ hq => x_test (x_op (x_sl (x_vS (x := a__law_text_here) L16 rfl (x_noP (x_part (x_c (x_partK (x_slStr (z := a__law_text_here) hm22 fun hm23 => x_c (x_eqs (x_kb (x_lfT hm23 hq L16)))))))))))) fun w2 _ hm24 L17 => x_lfT hm24 hq L17))))))))))) fun w3 _ hm25 L18 => x_if hm25 (fun hm26 => ?_) fun hm26 => ?_))))))))))))
    · exact x_ret (x_c (x_fin (Q := Q) (ps := (fun (r : (Option (T2 Int Int))) => [])) (rs := (fun (r : (Option (T2 Int Int))) => (.imm (enc (r : (Option (T2 Int Int))))))) (e := (none : (Option (T2 Int Int)))) hm26 kont (L18.fin hp0 .non)))
    · refine x_next ?_
      refine x_seq (x_asg (x_op (x_lcl (x_vd (d := (enc (parts_1 : (List Str)))) L18 rfl fun v7 r12 => obE hm26 fun _ hl3 hm27 => obE hm27 fun ys3 hy5 hm28 => x_lcL (G := (fun (s7 : Unit) => [.imm (.str a__law_text_here), .imm (.str s1), .imm (enc (parts_1 : (List Str))), .unk, .unk])) (s0 := ()) (xs := parts_1) L18 (fun _ _ => rfl) r12 (mapO_comp hy5) (lenOk_le hl3) (fun x3 s7 _ H3 _ u3 _ _ _ hF3 L19 r13 hn3 hy6 => obE hF3 fun y3 hm29 he3 => x_cName (d := (.str x3)) (Γ' := [.imm (.str a__law_text_here), .imm (.str s1), .imm (enc (parts_1 : (List Str))), .unk, .imm (.str x3)]) L19 r13 (show (4 : Nat) < 5 by decide) rfl fun _ L20 => x_yes (x_cb (x_cons (x_vS (x := x3) L20 rfl (x_nil (x_intT (a := x3) hm29 fun x4 hm30 => x_cy (G := (fun (s7 : Unit) => [.imm (.str a__law_text_here), .imm (.str s1), .imm (enc (parts_1 : (List Str))), .unk, .unk])) (s := s7) (s' := ()) (y := x4) (by cases hm30; cases he3; rfl) hy6 L19 L20 (.i rfl (.i rfl (.i rfl (.i rfl (.i rfl .e))))) (.int _))))))) fun p3 _ L21 le6 r14 => have L22 : Lo _ _ _ _ [.imm (.str a__law_text_here), .imm (.str s1), .imm (enc (parts_1 : (List Str))), .unk, .unk] := L21; have r15 : Rep _ _ _ (enc (ys3 : (List Int))) (.ref p3) := r14; x_lst (x_cons (x_c (x_nil (x_mkL L22 (.cons (.int _) .nil) (show (1 : Nat) ≤ 16777216 by decide) fun v8 _ L23 le7 r16 => have r17 := le7 _ _ r15; have r18 : Rep _ _ _ (enc ([1] : (List Int))) v8 := r16; x_catN L23 hm28 r17 r18 fun p4 _ _ hm31 h01 hx1 L24 le8 => x_setN (Γ := [.imm (.str a__law_text_here), .imm (.str s1), .imm (enc (parts_1 : (List Str))), .unk, .unk]) (p := p4) (o := (ml ((ys3 ++ [1]) : (List Int)))) (Γ' := [.imm (.str a__law_text_here), .imm (.str s1), .imm (enc (parts_1 : (List Str))), .mu p4 (ml ((ys3 ++ [1]) : (List Int))), .unk]) L24 (show (3 : Nat) < 5 by decide) (show (3 : Nat) < 5 by decide) rfl fun _ L25 => ?_))))))))
      refine x_seq (x_ifS (x_and (x_test (x_op (x_cb (x_cons (x_vd (d := (enc (parts_1 : (List Str)))) L25 rfl fun v9 r19 => x_nil (x_lenL (xs := parts_1) r19 (x_c (x_eqi (x_kb (x_andB L25 hm31 (fun _ hm41 _ hq => x_or (x_test (x_op (x_op (x_vm L25 rfl (x_c (x_ixMI (xs := (ys3 ++ [1])) (j := 3) L25 rfl hm41 fun x10 _ hm42 => x_c (x_r0 (x_kb (x_orB L25 hm42 (fun _ hm46 _ hq => x_test (x_op (x_call (x_cons (x_op (x_vm L25 rfl (x_c (x_ixMI (xs := (ys3 ++ [1])) (j := 3) L25 rfl hm46 fun x13 _ hm47 => x_cons (x_op (x_vm L25 rfl (x_c (x_ixMI (xs := (ys3 ++ [1])) (j := 3) L25 rfl hm47 fun x14 _ hm48 => x_nil (obE hm48 fun z6 hz9 hm49 => mk__law_gcd hz9 (L25.cond0 (.im (.int _) (.im (.int _) .nil)) rfl) fun _ F6 => k0 L25 F6 fun L30 le12 => x_c (x_nei (x_kb (x_lfT hm49 hq L30)))))))))))))))) fun w5 _ hm50 L31 => x_lfT hm50 hq L31)))))))))) fun w6 _ hm51 L32 => x_if hm51 (fun hm52 => ?_) fun hm52 => ?_))))))))))))
      · exact x_ret (x_c (x_fin (Q := Q) (ps := (fun (r : (Option (T2 Int Int))) => [])) (rs := (fun (r : (Option (T2 Int Int))) => (.imm (enc (r : (Option (T2 Int Int))))))) (e := (none : (Option (T2 Int Int)))) hm52 kont (L32.fin hp0 .non)))
      · refine x_next ?_
        refine x_seq (x_ifS (x_test (x_op (x_vS (x := s1) L32 rfl (x_vS (x := a__law_text_here) L32 rfl (x_nes (x_kb (x_join (G := (fun (s11 : (List Int)) => [.imm (.str a__law_text_here), .imm (.str s1), .imm (enc (parts_1 : (List Str))), .mu p4 (ml (s11 : (List Int))), .unk])) L32 hm52 (fun _ hm53 _ hN2 => ?_) (fun _ hm53 _ hN2 => ?_) fun s11 X2 _ _ hm54 L33 => ?_))))))))
        · refine x_asg (x_un (x_op (x_vm L32 rfl (x_c (x_ixMI (xs := (ys3 ++ [1])) (j := 3) L32 rfl hm53 fun x15 _ hm55 => x_u (x_gSub (x_vm L32 rfl (x_c (x_setI (xs := (ys3 ++ [1])) (x := (-x15)) (j := 3) L32 rfl hm55 (.int _) fun y4 _ _ hm56 L34 => have L35 : Lo _ _ _ _ [.imm (.str a__law_text_here), .imm (.str s1), .imm (enc (parts_1 : (List Str))), .mu p4 (ml (y4 : (List Int))), .unk] := L34; ?_)))))))))
          exact x_leaf (G := (fun (s11 : (List Int)) => [.imm (.str a__law_text_here), .imm (.str s1), .imm (enc (parts_1 : (List Str))), .mu p4 (ml (s11 : (List Int))), .unk])) (e := y4) hm56 hN2 (L35.weak (Γ' := [.imm (.str a__law_text_here), .imm (.str s1), .imm (enc (parts_1 : (List Str))), .mu p4 (ml (y4 : (List Int))), .unk]) (.k (.k (.k (.k (.k .e))))))
        · refine x_next ?_
          exact x_leaf (G := (fun (s11 : (List Int)) => [.imm (.str a__law_text_here), .imm (.str s1), .imm (enc (parts_1 : (List Str))), .mu p4 (ml (s11 : (List Int))), .unk])) (e := (ys3 ++ [1])) hm53 hN2 (L32.weak (Γ' := [.imm (.str a__law_text_here), .imm (.str s1), .imm (enc (parts_1 : (List Str))), .mu p4 (ml ((ys3 ++ [1]) : (List Int))), .unk]) (.k (.k (.k (.k (.k .e))))))
        exact x_ret (x_tup (x_cons (x_op (x_vm L33 rfl (x_c (x_ixMI (xs := s11) (j := 3) L33 rfl hm54 fun x16 _ hm57 => x_cons (x_op (x_vm L33 rfl (x_c (x_ixMI (xs := s11) (j := 3) L33 rfl hm57 fun x17 _ hm58 => x_nil (x_mkT L33 (.cons (.int _) (.cons (.int _) .nil)) (show (2 : Nat) ≤ 16777216 by decide) fun v14 _ L36 le13 r20 => have r21 : Rep _ _ _ (enc ((T2.mk x16 x17) : (T2 Int Int))) v14 := r20; x_fin (Q := Q) (ps := (fun (r : (Option (T2 Int Int))) => [])) (rs := (fun (r : (Option (T2 Int Int))) => (.imm (enc (r : (Option (T2 Int Int))))))) (e := (some ((T2.mk x16 x17)))) hm58 kont (L36.fin hp0 r21))))))))))))
abbrev sp__law_point_in (K : PySem.W.Frag) : Sp := fun vs H Q _ => ∃ (X : Addr → Prop)  (a__law_text_here : Str) (r : (Option (T2 (T2 Int Int) (T2 Int Int)))), m__law_point_in a__law_text_here = some r ∧ Cond K X H [.imm (.str a__law_text_here)] vs ∧ ∀ v H', Fin K X H [] [] (.imm (enc (r : (Option (T2 (T2 Int Int) (T2 Int Int)))))) v H' → Q v H'
theorem mk__law_point_in {K : PySem.W.Frag} {X : Addr → Prop} {H : Hp} {vs : List V} {Q : VK} {E : XK}  {a__law_text_here : Str} {r : (Option (T2 (T2 Int Int) (T2 Int Int)))} (hm : m__law_point_in a__law_text_here = some r) (c : Cond K X H [.imm (.str a__law_text_here)] vs) (k : ∀ v H', Fin K X H [] [] (.imm (enc (r : (Option (T2 (T2 Int Int) (T2 Int Int)))))) v H' → Q v H') : sp__law_point_in K vs H Q E := ⟨X, a__law_text_here, r, hm, c, k⟩
abbrev n__law_point_in : List Str := ["_law_text_here", "_law_parts", "_law_places", "_law_part"]
theorem sc__law_point_in : FnScope n__law_point_in ["_law_text_here"] (defScope s__law_point_in) := ⟨rfl, rfl, rfl, by decide +kernel, rfl, by decide +kernel, by decide +kernel⟩
theorem ok__law_point_in (T : Txt K mg) : FnOk P w K mg base CX0 3 T.A__law_point_in T.D__law_point_in ["_law_text_here"] (sp__law_point_in K) := by
  refine Fun.ok T.F__law_point_in sc__law_point_in (fun vs H Q E h => ?_) (fun cdv A outer s H vs Q E hr h => ?_)
  · obtain ⟨X, a__law_text_here, r, hm, c, kont⟩ := h
    exact c.len
  · obtain ⟨X, a__law_text_here, r, hm, c, kont⟩ := h
    refine ⟨_, (pss_cons (ps_set (i := 1) sc__law_point_in.nd rfl (Or.inl rfl) (pe_m1 PySem.F.slot_str_split PySem.F.type_str_split mt_splitX (pv 0) pe_str))
      (pss_cons (ps_if (pt_cmpR op_ne (pe_callB (r := rLenX K) call_lenX (by rfl) T.z_len (by decide +kernel) (pa_cons (pv 1) pa_nil)) pe_int (nomark _)) (pss_one (ps_ret pe_non)) pss_nil)
      (pss_cons (ps_setLc (i := 2) (own := [("_law_part", 3)])  (g := gName 3) (tt := tYes) rfl sc__law_point_in.nd rfl rfl (sw_true rfl rfl rfl (by decide +kernel)) (pi_list (pv 1)) (blkOk_by (N := n__law_point_in) (sc := defScope s__law_point_in) (by decide +kernel)) (fun _ _ _ _ _ => (pg_name (i := 3) sc__law_point_in.nd rfl (Or.inl rfl))) (fun _ _ _ _ _ => pts_nil) (fun _ _ _ _ _ => (pe_call (ok__law_ratio_in T) hr (by rfl) T.g__law_ratio_in T.F__law_ratio_in.kp T.b__law_ratio_in .nil pass0 (pa_cons (pv 3) pa_nil))))
      (pss_cons (ps_if (pt_cmpR (r := rInD K) (op_inD (room65 hr)) pe_non (pv 2) (by rfl)) (pss_one (ps_ret pe_non)) pss_nil)
      (pss_one (ps_ret (pe_tup (pa_cons (pe_ix (r := rIxL K) ix_list (pv 2) pe_int (fun _ _ => rfl)) (pa_cons (pe_ix (r := rIxL K) ix_list (pv 2) pe_int (fun _ _ => rfl)) pa_nil))))))))), ?_⟩
    have L0 : Lo ⟨K, X, H, muts [.imm (.str a__law_text_here)], n__law_point_in.length⟩ X H (L2.start n__law_point_in vs) [.imm (.str a__law_text_here), .unk, .unk, .unk] := c.start n__law_point_in (show (1 : Nat) ≤ 4 by decide)
    unfold m__law_point_in at hm
    refine x_seq (x_asg (x_m1 (x_vS (x := a__law_text_here) L0 rfl (x_isS (x_c (x_split (a := a__law_text_here) (b := ("," : Str)) L0 hm (by decide +kernel) fun v1 _ hm1 L1 le1 r1 => have r2 : Rep _ _ _ (enc ((Txt.split a__law_text_here (("," : Str))) : (List Str))) v1 := r1; x_bset (x0 := (Txt.split a__law_text_here (("," : Str)))) (d := fun parts_1 => (enc (parts_1 : (List Str)))) (Γf := fun parts_1 => [.imm (.str a__law_text_here), .imm (enc (parts_1 : (List Str))), .unk, .unk]) hm1 L1 r2 (show (1 : Nat) < 4 by decide) (fun _ => rfl) fun parts_1 _ hm2 L2 => ?_))))))
    refine x_seq (x_ifS (x_test (x_op (x_cb (x_cons (x_vd (d := (enc (parts_1 : (List Str)))) L2 rfl fun v2 r3 => x_nil (x_lenL (xs := parts_1) r3 (x_c (x_nei (x_kb (x_if hm2 (fun hm3 => ?_) fun hm3 => ?_)))))))))))
    · exact x_ret (x_c (x_fin (Q := Q) (ps := (fun (r : (Option (T2 (T2 Int Int) (T2 Int Int)))) => [])) (rs := (fun (r : (Option (T2 (T2 Int Int) (T2 Int Int)))) => (.imm (enc (r : (Option (T2 (T2 Int Int) (T2 Int Int)))))))) (e := (none : (Option (T2 (T2 Int Int) (T2 Int Int))))) hm3 kont (L2.fin hp0 .non)))
    · refine x_next ?_
      refine x_seq (x_asg (x_lcl (x_vd (d := (enc (parts_1 : (List Str)))) L2 rfl fun v3 r4 => obE hm3 fun _ hl1 hm4 => obE hm4 fun ys1 hy1 hm5 => x_lcL (G := (fun (s1 : Unit) => [.imm (.str a__law_text_here), .imm (enc (parts_1 : (List Str))), .unk, .unk])) (s0 := ()) (xs := parts_1) L2 (fun _ _ => rfl) r4 (mapO_comp hy1) (lenOk_le hl1) (fun x1 s1 _ H1 _ u1 _ _ _ hF1 L3 r5 hn1 hy2 => obE hF1 fun y1 hm6 he1 => x_cName (d := (.str x1)) (Γ' := [.imm (.str a__law_text_here), .imm (enc (parts_1 : (List Str))), .unk, .imm (.str x1)]) L3 r5 (show (3 : Nat) < 4 by decide) rfl fun _ L4 => x_yes (x_call (x_cons (x_vS (x := x1) L4 rfl (x_nil (obE hm6 fun z1 hz2 hm7 => mk__law_ratio_in hz2 (L4.cond0 (.im (.str _) .nil) rfl) fun v4 _ F1 => k0d L4 F1 fun L5 le2 r6 => x_cy (G := (fun (s1 : Unit) => [.imm (.str a__law_text_here), .imm (enc (parts_1 : (List Str))), .unk, .unk])) (s := s1) (s' := ()) (y := z1) (by cases hm7; cases he1; rfl) hy2 L3 L5 (.i rfl (.i rfl (.i rfl (.i rfl .e)))) r6)))))) fun p1 _ L6 le3 r7 => have L7 : Lo _ _ _ _ [.imm (.str a__law_text_here), .imm (enc (parts_1 : (List Str))), .unk, .unk] := L6; have r8 : Rep _ _ _ (enc (ys1 : (List (Option (T2 Int Int))))) (.ref p1) := r7; x_set (d := (enc (ys1 : (List (Option (T2 Int Int)))))) (Γ' := [.imm (.str a__law_text_here), .imm (enc (parts_1 : (List Str))), .imm (enc (ys1 : (List (Option (T2 Int Int))))), .unk]) L7 r8 (show (2 : Nat) < 4 by decide) rfl fun _ L8 => ?_)))
      refine x_seq (x_ifS (x_test (x_op (x_c (x_vd (d := (enc (ys1 : (List (Option (T2 Int Int)))))) L8 rfl fun v5 r9 => x_ind (x := (none : (Option (T2 Int Int)))) (ys := ys1) (Rep.dp (K := K) (X := fun _ => False) (d := .none) .non) r9.dp (by decide) (x_kb (x_if hm5 (fun hm8 => ?_) fun hm8 => ?_)))))))
      · exact x_ret (x_c (x_fin (Q := Q) (ps := (fun (r : (Option (T2 (T2 Int Int) (T2 Int Int)))) => [])) (rs := (fun (r : (Option (T2 (T2 Int Int) (T2 Int Int)))) => (.imm (enc (r : (Option (T2 (T2 Int Int) (T2 Int Int)))))))) (e := (none : (Option (T2 (T2 Int Int) (T2 Int Int))))) hm8 kont (L8.fin hp0 .non)))
      · refine x_next ?_
        exact x_ret (x_tup (x_cons (x_op (x_vd (d := (enc (ys1 : (List (Option (T2 Int Int)))))) L8 rfl fun v6 r10 => x_c (x_ixL (xs := ys1) hm8 r10 fun x2 v7 _ hm9 r11 => obE hm9 fun x3 ho1 hm10 => have r12 : Rep _ _ _ (enc (x3 : (T2 Int Int))) v7 := (by rw [ho1] at r11; exact r11); x_cons (x_op (x_vd (d := (enc (ys1 : (List (Option (T2 Int Int)))))) L8 rfl fun v8 r13 => x_c (x_ixL (xs := ys1) hm10 r13 fun x4 v9 _ hm11 r14 => obE hm11 fun x5 ho2 hm12 => have r15 : Rep _ _ _ (enc (x5 : (T2 Int Int))) v9 := (by rw [ho2] at r14; exact r14); x_nil (x_mkT L8 (.cons r12 (.cons r15 .nil)) (show (2 : Nat) ≤ 16777216 by decide) fun v10 _ L9 le4 r16 => have r17 : Rep _ _ _ (enc ((T2.mk x3 x5) : (T2 (T2 Int Int) (T2 Int Int)))) v10 := r16; x_fin (Q := Q) (ps := (fun (r : (Option (T2 (T2 Int Int) (T2 Int Int)))) => [])) (rs := (fun (r : (Option (T2 (T2 Int Int) (T2 Int Int)))) => (.imm (enc (r : (Option (T2 (T2 Int Int) (T2 Int Int)))))))) (e := (some ((T2.mk x3 x5)))) hm12 kont (L9.fin hp0 r17))))))))))
abbrev sp_read_whole (K : PySem.W.Frag) : Sp := fun vs H Q _ => ∃ (X : Addr → Prop)  (a_text : Str) (r : Int), m_read_whole a_text = some r ∧ Cond K X H [.imm (.str a_text)] vs ∧ ∀ H', Fin K X H [] [] (.imm (.int r)) (.int r) H' → Q (.int r) H'
theorem mk_read_whole {K : PySem.W.Frag} {X : Addr → Prop} {H : Hp} {vs : List V} {Q : VK} {E : XK}  {a_text : Str} {r : Int} (hm : m_read_whole a_text = some r) (c : Cond K X H [.imm (.str a_text)] vs) (k : ∀ H', Fin K X H [] [] (.imm (.int r)) (.int r) H' → Q (.int r) H') : sp_read_whole K vs H Q E := ⟨X, a_text, r, hm, c, k⟩
abbrev n_read_whole : List Str := ["text", "sign"]
theorem sc_read_whole : FnScope n_read_whole ["text"] (defScope s_read_whole) := ⟨rfl, rfl, rfl, by decide +kernel, rfl, by decide +kernel, by decide +kernel⟩
theorem ok_read_whole (T : Txt K mg) : FnOk P w K mg base CX0 1 T.A_read_whole T.D_read_whole ["text"] (sp_read_whole K) := by
  refine Fun.ok T.F_read_whole sc_read_whole (fun vs H Q E h => ?_) (fun cdv A outer s H vs Q E hr h => ?_)
  · obtain ⟨X, a_text, r, hm, c, kont⟩ := h
    exact c.len
  · obtain ⟨X, a_text, r, hm, c, kont⟩ := h
    refine ⟨_, (pss_cons (ps_if (PW.pt (pw_or (pt_not (pt_chain op_le op_le pe_int (pe_callB (r := rLenStr K) call_lenStr (by rfl) T.z_len (by decide +kernel) (pa_cons (pv 0) pa_nil)) (pe_glob (v := .int (30)) (u := .int (30) T.t_MOST_FIGURES) rfl T.c_MOST_FIGURES ⟨_, rfl⟩))) (pw_or1 (PW.pt (pw_and (pt_cmpR op_eq (pe_ix (r := rIxS) ix_str (pv 0) pe_int (fun _ _ => rfl)) pe_str (nomark _)) (pw_and1 (pt_cmpR op_ne (pv 0) pe_str (nomark _)))))))) (pss_one ps_never) pss_nil)
      (pss_cons (ps_for PassesOwn.never rfl (pi_str (pv 0)) (pg_name (i := 1) sc_read_whole.nd rfl (Or.inl rfl)) (pss_one (ps_if (pt_cmpR op_notInS (pv 1) (pe_glob (v := .str "0123456789") (u := .str "0123456789" T.t_FIGURES) rfl T.c_FIGURES ⟨_, rfl⟩) (by rfl)) (pss_one ps_never) pss_nil)))
      (pss_one (ps_ret (pe_callTy call_intT (by rfl) T.z_int (by decide +kernel) (pa_cons (pv 0) pa_nil)))))), ?_⟩
    have L0 : Lo ⟨K, X, H, muts [.imm (.str a_text)], n_read_whole.length⟩ X H (L2.start n_read_whole vs) [.imm (.str a_text), .unk] := c.start n_read_whole (show (1 : Nat) ≤ 2 by decide)
    unfold m_read_whole at hm
    refine x_seq (x_ifS (x_or (x_not (x_test (x_chain (x_c (x_cb (x_cons (x_vS (x := a_text) L0 rfl (x_nil (x_lenStr (z := a_text) hm fun hm1 => x_r0 (x_chP (B := (decide ((a_text.length : Int) ≤ 30))) (fun _ hq => x_c (x_r0 (hq))) (x_kb (x_kn (x_orB L0 hm1 (fun _ hm3 _ hq => x_and (x_test (x_op (x_op (x_vS (x := a_text) L0 rfl (x_c (x_ixStr (z := a_text) (i := 0) hm3 fun x2 hm4 => x_c (x_eqs (x_kb (x_andP (B := (!decide (a_text = ("0" : Str)))) (fun _ hq => x_test (x_op (x_vS (x := a_text) L0 rfl (x_c (x_nes (x_kb (hq))))))) (x_lfT hm4 hq L0))))))))))) fun w1 _ hm5 L1 => x_if hm5 (fun hm6 => ?_) fun hm6 => ?_)))))))))))))))
    · exact (nomatch hm6)
    · refine x_next ?_
      refine x_seq (x_tforY (x_vS (x := a_text) L1 rfl (x_foY (G := (fun (s2 : Unit) => [.imm (.str a_text), .unk])) (s0 := ()) (x := a_text) (L1.weak (Γ' := [.imm (.str a_text), .unk]) (.k (.k .e))) (fun _ _ => rfl) hm6 (fun x3 s2 H1 _ u1 _ _ _ _ _ hm7 L2 _ r1 hN1 hC1 => ?_) (fun s3 _ _ hm8 L3 => ?_))))
      · refine x_set (d := (.str ((chS x3)))) (Γ' := [.imm (.str a_text), .imm (.str ((chS x3)))]) L2 r1 (show (1 : Nat) < 2 by decide) rfl fun _ L4 => ?_
        refine x_ifS (x_test (x_op (x_vS (x := (chS x3)) L4 rfl (x_c (x_ninS (x := x3) (z := ("0123456789" : Str)) (x_kb (x_if hm7 (fun hm10 => ?_) fun hm10 => ?_)))))))
        · exact (nomatch hm10)
        · refine x_next ?_
          exact x_leaf (G := (fun (s2 : Unit) => [.imm (.str a_text), .unk])) (e := ()) hm10 hN1 (L4.weak (Γ' := [.imm (.str a_text), .unk]) (.k (.d .e)))
      exact x_ret (x_cb (x_cons (x_vS (x := a_text) L3 rfl (x_nil (x_intT (a := a_text) hm8 fun x4 hm11 => x_finI (Q := Q) (ps := (fun (r : Int) => [])) (sc := fun (r : Int) => r) x4 hm11 kont (L3.fin hp0 (.int _)))))))
abbrev sp_read_whole_x (K : PySem.W.Frag) (C : Addr) : Sp := fun vs H Q E => ∃ (X : Addr → Prop) (a_text : Str), m_read_whole_x a_text = some () ∧ Cond K X H [.imm (.str a_text)] vs ∧ ∀ H', Same H H' → E (.ref C) none H'
theorem mk_read_whole_x {K : PySem.W.Frag} {C : Addr} {X : Addr → Prop} {H : Hp} {vs : List V} {Q : VK} {E : XK} {a_text : Str} (hm : m_read_whole_x a_text = some ()) (c : Cond K X H [.imm (.str a_text)] vs) (k : ∀ H', Same H H' → E (.ref C) none H') : sp_read_whole_x K C vs H Q E := ⟨X, a_text, hm, c, k⟩
theorem ok_read_whole_x (T : Txt K mg) : FnOk P w K mg base (L2N.CX P w) 1 T.A_read_whole T.D_read_whole ["text"] (sp_read_whole_x K T.C_NoText) := by
  refine Fun_okC T.F_read_whole sc_read_whole (fun vs H Q E h => ?_) (fun cdv A outer s H vs Q E hr h => ?_)
  · obtain ⟨X, a_text, hm, c, kont⟩ := h
    exact c.len
  · obtain ⟨X, a_text, hm, c, kont⟩ := h
    refine ⟨_, (pss_cons (ps_if (PW.pt (pw_or (pt_not (pt_chain op_le op_le pe_int (pe_callB (r := rLenStr K) call_lenStr (by rfl) T.z_len (by decide +kernel) (pa_cons (pv 0) pa_nil)) (pe_glob (v := .int (30)) (u := .int (30) T.t_MOST_FIGURES) rfl T.c_MOST_FIGURES ⟨_, rfl⟩))) (pw_or1 (PW.pt (pw_and (pt_cmpR op_eq (pe_ix (r := rIxS) ix_str (pv 0) pe_int (fun _ _ => rfl)) pe_str (nomark _)) (pw_and1 (pt_cmpR op_ne (pv 0) pe_str (nomark _)))))))) (pss_one (L2N.ps_raise rfl (L2N.takes_of rfl rfl rfl rfl) (L2N.pmk_own PySem.F.excBase_ValueError T.x_NoText T.gC_NoText T.kC_NoText (raises_own T.bC_NoText T.tC_NoText) (by exact rfl)))) pss_nil)
      (pss_cons (ps_for (passes_of rfl) rfl (pi_str (pv 0)) (pg_name (i := 1) sc_read_whole.nd rfl (Or.inl rfl)) (pss_one (ps_if (pt_cmpR op_notInS (pv 1) (pe_glob (v := .str "0123456789") (u := .str "0123456789" T.t_FIGURES) rfl T.c_FIGURES ⟨_, rfl⟩) (by rfl)) (pss_one (L2N.ps_raise rfl (L2N.takes_of rfl rfl rfl rfl) (L2N.pmk_own PySem.F.excBase_ValueError T.x_NoText T.gC_NoText T.kC_NoText (raises_own T.bC_NoText T.tC_NoText) (by exact rfl)))) pss_nil)))
      (pss_one ps_never))), ?_⟩
    have L0 : Lo ⟨K, X, H, muts [.imm (.str a_text)], n_read_whole.length⟩ X H (L2.start n_read_whole vs) [.imm (.str a_text), .unk] := c.start n_read_whole (show (1 : Nat) ≤ 2 by decide)
    unfold m_read_whole_x at hm
    refine x_seq (x_ifS (x_or (x_not (x_test (x_chain (x_c (x_cb (x_cons (x_vS (x := a_text) L0 rfl (x_nil (x_lenStr (z := a_text) hm fun hm1 => x_r0 (x_chP (B := (decide ((a_text.length : Int) ≤ 30))) (fun _ hq => x_c (x_r0 (hq))) (x_kb (x_kn (x_orB L0 hm1 (fun _ hm3 _ hq => x_and (x_test (x_op (x_op (x_vS (x := a_text) L0 rfl (x_c (x_ixStr (z := a_text) (i := 0) hm3 fun x2 hm4 => x_c (x_eqs (x_kb (x_andP (B := (!decide (a_text = ("0" : Str)))) (fun _ hq => x_test (x_op (x_vS (x := a_text) L0 rfl (x_c (x_nes (x_kb (hq))))))) (x_lfT hm4 hq L0))))))))))) fun w1 _ hm5 L1 => x_if hm5 (fun hm6 => ?_) fun hm6 => ?_)))))))))))))))
    · exact kont _ (L1.same0 rfl)
    · refine x_next ?_
      refine x_seq (x_tforY (x_vS (x := a_text) L1 rfl (x_frY (G := (fun (s2 : Unit) => [.imm (.str a_text), .unk])) (s0 := ()) (x := a_text) rfl (L1.weak (Γ' := [.imm (.str a_text), .unk]) (.k (.k .e))) (fun _ _ => rfl) hm6 (fun x3 s2 H1 _ u1 _ _ _ _ _ hm7 hs1 L2 _ r1 hN1 hC1 hB1 => ?_) (fun s3 _ _ hm8 L3 => ?_))))
      · refine x_set (d := (.str ((chS x3)))) (Γ' := [.imm (.str a_text), .imm (.str ((chS x3)))]) L2 r1 (show (1 : Nat) < 2 by decide) rfl fun _ L4 => ?_
        refine x_ifS (x_test (x_op (x_vS (x := (chS x3)) L4 rfl (x_c (x_ninS (x := x3) (z := ("0123456789" : Str)) (x_kb (x_if hm7 (fun hm10 => ?_) fun hm10 => ?_)))))))
        · exact kont _ (fun a o h => L4.same0 rfl a o (hs1 a o h))
        · refine x_next ?_
          exact x_leafN (G := (fun (s2 : Unit) => [.imm (.str a_text), .unk])) (e := ()) hm10 hN1 (L4.weak (Γ' := [.imm (.str a_text), .unk]) (.k (.d .e)))
      exact (nomatch hm8)
abbrev sp_greatest_divisor (K : PySem.W.Frag) : Sp := fun vs H Q _ => ∃ (X : Addr → Prop)  (a_a : Int) (a_b : Int) (r : Int), m_greatest_divisor a_a a_b = some r ∧ Cond K X H [.imm (.int a_a), .imm (.int a_b)] vs ∧ ∀ H', Fin K X H [] [] (.imm (.int r)) (.int r) H' → Q (.int r) H'
theorem mk_greatest_divisor {K : PySem.W.Frag} {X : Addr → Prop} {H : Hp} {vs : List V} {Q : VK} {E : XK}  {a_a : Int} {a_b : Int} {r : Int} (hm : m_greatest_divisor a_a a_b = some r) (c : Cond K X H [.imm (.int a_a), .imm (.int a_b)] vs) (k : ∀ H', Fin K X H [] [] (.imm (.int r)) (.int r) H' → Q (.int r) H') : sp_greatest_divisor K vs H Q E := ⟨X, a_a, a_b, r, hm, c, k⟩
abbrev n_greatest_divisor : List Str := ["a", "b", "one", "other"]
theorem sc_greatest_divisor : FnScope n_greatest_divisor ["a", "b"] (defScope s_greatest_divisor) := ⟨rfl, rfl, rfl, by decide +kernel, rfl, by decide +kernel, by decide +kernel⟩
theorem ok_greatest_divisor (T : Txt K mg) : FnOk P w K mg base CX0 1 T.A_greatest_divisor T.D_greatest_divisor ["a", "b"] (sp_greatest_divisor K) := by
  refine Fun.ok T.F_greatest_divisor sc_greatest_divisor (fun vs H Q E h => ?_) (fun cdv A outer s H vs Q E hr h => ?_)
  · obtain ⟨X, a_a, a_b, r, hm, c, kont⟩ := h
    exact c.len
  · obtain ⟨X, a_a, a_b, r, hm, c, kont⟩ := h
    refine ⟨_, (pss_cons (ps_set (i := 2) sc_greatest_divisor.nd rfl (Or.inl rfl) (pe_callB call_absX (by rfl) T.z_abs (by decide +kernel) (pa_cons (pv 0) pa_nil)))
      (pss_cons (ps_set (i := 3) sc_greatest_divisor.nd rfl (Or.inl rfl) (pe_callB call_absX (by rfl) T.z_abs (by decide +kernel) (pa_cons (pv 1) pa_nil)))
      (pss_cons (ps_while PassesOwn.never (pt_cmpR op_gt (pv 3) pe_int (nomark _)) (pss_one (ps_par (i := 2) (j := 3) (by rfl) sc_greatest_divisor.nd rfl rfl (by decide) rfl rfl (pa_cons (pv 3) (pa_cons (pe_op op_modN (pv 2) (pv 3)) pa_nil)) (by rfl))))
      (pss_one (ps_ret (pv 2)))))), ?_⟩
    have L0 : Lo ⟨K, X, H, muts [.imm (.int a_a), .imm (.int a_b)], n_greatest_divisor.length⟩ X H (L2.start n_greatest_divisor vs) [.imm (.int a_a), .imm (.int a_b), .unk, .unk] := c.start n_greatest_divisor (show (2 : Nat) ≤ 4 by decide)
    unfold m_greatest_divisor at hm
    refine x_seq (x_asg (x_cb (x_cons (x_vI (x := a_a) L0 rfl (x_nil (x_abs (x_bset (x0 := (iabs a_a)) (d := fun one_1 => (.int one_1)) (Γf := fun one_1 => [.imm (.int a_a), .imm (.int a_b), .imm (.int one_1), .unk]) hm L0 (.int _) (show (2 : Nat) < 4 by decide) (fun _ => rfl) fun one_1 _ hm1 L1 => ?_)))))))
    refine x_seq (x_asg (x_cb (x_cons (x_vI (x := a_b) L1 rfl (x_nil (x_abs (x_bset (x0 := (iabs a_b)) (d := fun other_1 => (.int other_1)) (Γf := fun other_1 => [.imm (.int a_a), .imm (.int a_b), .imm (.int one_1), .imm (.int other_1)]) hm1 L1 (.int _) (show (3 : Nat) < 4 by decide) (fun _ => rfl) fun other_1 _ hm2 L2 => ?_)))))))
    refine x_seq (x_wh (n := other_1.natAbs + 2) (G := (fun (s1 : (Int × Int)) => [.imm (.int a_a), .imm (.int a_b), .imm (.int s1.1), .imm (.int s1.2)])) (s0 := (one_1, other_1)) (ρ := Empty) (ps := fun _ => []) (rs := fun _ => .imm .none) (L2.weak (Γ' := [.imm (.int a_a), .imm (.int a_b), .imm (.int one_1), .imm (.int other_1)]) (.k (.k (.k (.k .e))))) (fun _ _ => rfl) hm2 (fun s1 H1 _ _ _ _ _ _ hm3 L3 _ hN1 hC1 hB1 hR1 _ hQ1 => ?_) (fun s2 _ _ hm4 L4 => ?_) (fun q => q.elim))
    · refine x_test (x_op (x_vI (x := s1.2) L3 rfl (x_c (x_r0 (x_kb (hQ1 _ _ (x_whIf hm3 (fun hm6 => ?_) fun hm6 => ?_)))))))
      · refine x_par (x_cons (x_vI (x := s1.2) L3 rfl (x_cons (x_op (x_vI (x := s1.1) L3 rfl (x_vI (x := s1.2) L3 rfl (x_mod hm6 fun z1 _ hm7 => x_nil (x_par2 (x := (.int s1.2)) (y := (.int z1)) (Γ' := [.imm (.int a_a), .imm (.int a_b), .imm (.int s1.2), .imm (.int z1)]) L3 (.int _) (.int _) (show (2 : Nat) < 4 by decide) (show (3 : Nat) < 4 by decide) rfl fun _ L5 => ?_))))))))
        exact x_leafN (G := (fun (s1 : (Int × Int)) => [.imm (.int a_a), .imm (.int a_b), .imm (.int s1.1), .imm (.int s1.2)])) (e := (s1.2, z1)) hm7 hN1 (L5.weak (Γ' := [.imm (.int a_a), .imm (.int a_b), .imm (.int s1.2), .imm (.int z1)]) (.k (.k (.k (.k .e)))))
      · exact x_leafB (G := (fun (s1 : (Int × Int)) => [.imm (.int a_a), .imm (.int a_b), .imm (.int s1.1), .imm (.int s1.2)])) (e := (s1.1, s1.2)) hm6 hB1 (L3.weak (Γ' := [.imm (.int a_a), .imm (.int a_b), .imm (.int s1.1), .imm (.int s1.2)]) (.k (.k (.k (.k .e)))))
    exact x_ret (x_vI (x := s2.1) L4 rfl (x_finI (Q := Q) (ps := (fun (r : Int) => [])) (sc := fun (r : Int) => r) s2.1 hm4 kont (L4.fin hp0 (.int _))))
abbrev sp_ratio (K : PySem.W.Frag) : Sp := fun vs H Q _ => ∃ (X : Addr → Prop)  (a_top : Int) (a_bottom : Int) (r : (T2 Int Int)), m_ratio a_top a_bottom = some r ∧ Cond K X H [.imm (.int a_top), .imm (.int a_bottom)] vs ∧ ∀ v H', Fin K X H [] [] (.imm (enc (r : (T2 Int Int)))) v H' → Q v H'
theorem mk_ratio {K : PySem.W.Frag} {X : Addr → Prop} {H : Hp} {vs : List V} {Q : VK} {E : XK}  {a_top : Int} {a_bottom : Int} {r : (T2 Int Int)} (hm : m_ratio a_top a_bottom = some r) (c : Cond K X H [.imm (.int a_top), .imm (.int a_bottom)] vs) (k : ∀ v H', Fin K X H [] [] (.imm (enc (r : (T2 Int Int)))) v H' → Q v H') : sp_ratio K vs H Q E := ⟨X, a_top, a_bottom, r, hm, c, k⟩
abbrev n_ratio : List Str := ["top", "bottom", "divisor"]
theorem sc_ratio : FnScope n_ratio ["top", "bottom"] (defScope s_ratio) := ⟨rfl, rfl, rfl, by decide +kernel, rfl, by decide +kernel, by decide +kernel⟩
theorem ok_ratio (T : Txt K mg) : FnOk P w K mg base CX0 2 T.A_ratio T.D_ratio ["top", "bottom"] (sp_ratio K) := by
  refine Fun.ok T.F_ratio sc_ratio (fun vs H Q E h => ?_) (fun cdv A outer s H vs Q E hr h => ?_)
  · obtain ⟨X, a_top, a_bottom, r, hm, c, kont⟩ := h
    exact c.len
  · obtain ⟨X, a_top, a_bottom, r, hm, c, kont⟩ := h
    refine ⟨_, (pss_cons (ps_if (pt_cmpR op_eq (pv 1) pe_int (nomark _)) (pss_one ps_never) pss_nil)
      (pss_cons (ps_set (i := 2) sc_ratio.nd rfl (Or.inl rfl) (pe_call (ok_greatest_divisor T) hr (by rfl) T.g_greatest_divisor T.F_greatest_divisor.kp T.b_greatest_divisor .nil pass0 (pa_cons (pv 0) (pa_cons (pv 1) pa_nil))))
      (pss_cons (ps_if (pt_cmpR op_lt (pv 1) pe_int (nomark _)) (pss_one (ps_set (i := 2) sc_ratio.nd rfl (Or.inl rfl) (pe_un un_neg (pv 2)))) pss_nil)
      (pss_one (ps_ret (pe_tup (pa_cons (pe_op op_divG (pv 0) (pv 2)) (pa_cons (pe_op op_divG (pv 1) (pv 2)) pa_nil)))))))), ?_⟩
    have L0 : Lo ⟨K, X, H, muts [.imm (.int a_top), .imm (.int a_bottom)], n_ratio.length⟩ X H (L2.start n_ratio vs) [.imm (.int a_top), .imm (.int a_bottom), .unk] := c.start n_ratio (show (2 : Nat) ≤ 3 by decide)
    unfold m_ratio at hm
    refine x_seq (x_ifS (x_test (x_op (x_vI (x := a_bottom) L0 rfl (x_c (x_eqi (x_kb (x_if hm (fun hm1 => ?_) fun hm1 => ?_))))))))
    · exact (nomatch hm1)
    · refine x_next ?_
      refine x_seq (x_asg (x_call (x_cons (x_vI (x := a_top) L0 rfl (x_cons (x_vI (x := a_bottom) L0 rfl (x_nil (obE hm1 fun z1 hz1 hm2 => mk_greatest_divisor hz1 (L0.cond0 (.im (.int _) (.im (.int _) .nil)) rfl) fun _ F1 => k0 L0 F1 fun L1 le1 => x_set (d := (.int z1)) (Γ' := [.imm (.int a_top), .imm (.int a_bottom), .imm (.int z1)]) L1 (.int _) (show (2 : Nat) < 3 by decide) rfl fun _ L2 => ?_))))))))
      refine x_seq (x_ifS (x_test (x_op (x_vI (x := a_bottom) L2 rfl (x_c (x_r0 (x_kb (x_join (G := (fun (s1 : Int) => [.imm (.int a_top), .imm (.int a_bottom), .imm (.int s1)])) L2 hm2 (fun _ hm3 _ hN1 => ?_) (fun _ hm3 _ hN1 => ?_) fun s1 X1 _ _ hm4 L3 => ?_))))))))
      · refine x_asg (x_un (x_vI (x := z1) L2 rfl (x_u (x_bset (x0 := (-z1)) (d := fun divisor_1 => (.int divisor_1)) (Γf := fun divisor_1 => [.imm (.int a_top), .imm (.int a_bottom), .imm (.int divisor_1)]) hm3 L2 (.int _) (show (2 : Nat) < 3 by decide) (fun _ => rfl) fun divisor_1 _ hm5 L4 => ?_))))
        exact x_leaf (G := (fun (s1 : Int) => [.imm (.int a_top), .imm (.int a_bottom), .imm (.int s1)])) (e := divisor_1) hm5 hN1 (L4.weak (Γ' := [.imm (.int a_top), .imm (.int a_bottom), .imm (.int divisor_1)]) (.k (.k (.k .e))))
      · refine x_next ?_
        exact x_leaf (G := (fun (s1 : Int) => [.imm (.int a_top), .imm (.int a_bottom), .imm (.int s1)])) (e := z1) hm3 hN1 (L2.weak (Γ' := [.imm (.int a_top), .imm (.int a_bottom), .imm (.int z1)]) (.k (.k (.k .e))))
      exact x_ret (x_tup (x_cons (x_op (x_vI (x := a_top) L3 rfl (x_vI (x := s1) L3 rfl (x_div hm4 fun z2 _ hm6 => x_cons (x_op (x_vI (x := a_bottom) L3 rfl (x_vI (x := s1) L3 rfl (x_div hm6 fun z3 _ hm7 => x_nil (x_mkT L3 (.cons (.int _) (.cons (.int _) .nil)) (show (2 : Nat) ≤ 16777216 by decide) fun v2 _ L5 le2 r1 => have r2 : Rep _ _ _ (enc ((T2.mk z2 z3) : (T2 Int Int))) v2 := r1; x_fin (Q := Q) (ps := (fun (r : (T2 Int Int)) => [])) (rs := (fun (r : (T2 Int Int)) => (.imm (enc (r : (T2 Int Int)))))) (e := (T2.mk z2 z3)) hm7 kont (L5.fin hp0 r2))))))))))))
abbrev sp_read_ratio (K : PySem.W.Frag) : Sp := fun vs H Q _ => ∃ (X : Addr → Prop)  (a_text : Str) (r : (T2 Int Int)), m_read_ratio a_text = some r ∧ Cond K X H [.imm (.str a_text)] vs ∧ ∀ v H', Fin K X H [] [] (.imm (enc (r : (T2 Int Int)))) v H' → Q v H'
theorem mk_read_ratio {K : PySem.W.Frag} {X : Addr → Prop} {H : Hp} {vs : List V} {Q : VK} {E : XK}  {a_text : Str} {r : (T2 Int Int)} (hm : m_read_ratio a_text = some r) (c : Cond K X H [.imm (.str a_text)] vs) (k : ∀ v H', Fin K X H [] [] (.imm (enc (r : (T2 Int Int)))) v H' → Q v H') : sp_read_ratio K vs H Q E := ⟨X, a_text, r, hm, c, k⟩
abbrev n_read_ratio : List Str := ["text", "rest", "top", "stroke", "bottom", "found"]
theorem sc_read_ratio : FnScope n_read_ratio ["text"] (defScope s_read_ratio) := ⟨rfl, rfl, rfl, by decide +kernel, rfl, by decide +kernel, by decide +kernel⟩
theorem ok_read_ratio (T : Txt K mg) : FnOk P w K mg base CX0 3 T.A_read_ratio T.D_read_ratio ["text"] (sp_read_ratio K) := by
  refine Fun.ok T.F_read_ratio sc_read_ratio (fun vs H Q E h => ?_) (fun cdv A outer s H vs Q E hr h => ?_)
  · obtain ⟨X, a_text, r, hm, c, kont⟩ := h
    exact c.len
  · obtain ⟨X, a_text, r, hm, c, kont⟩ := h
    refine ⟨_, (pss_cons (ps_set (i := 1) sc_read_ratio.nd rfl (Or.inl rfl) (pv 0))
      (pss_cons (ps_if (pt_val (pe_m1 PySem.F.slot_str_startswith PySem.F.type_str_startswith mt_starts (pv 0) pe_str)) (pss_one (ps_set (i := 1) sc_read_ratio.nd rfl (Or.inl rfl) (pe_slice (r := rSlS) sl_str (pv 0) (po_some pe_int) po_none))) pss_nil)
      (pss_cons (ps_asg (pe_m1 PySem.F.slot_str_partition PySem.F.type_str_partition mt_part (pv 1) pe_str) (pg_tup rfl (pgs_cons (pg_name (i := 2) sc_read_ratio.nd rfl (Or.inl rfl)) (pgs_cons (pg_name (i := 3) sc_read_ratio.nd rfl (Or.inl rfl)) (pgs_cons (pg_name (i := 4) sc_read_ratio.nd rfl (Or.inl rfl)) pgs_nil)))))
      (pss_cons (ps_set (i := 5) sc_read_ratio.nd rfl (Or.inl rfl) (pe_tup (pa_cons (pe_call (ok_read_whole T) (hr.mono (by decide)) (by rfl) T.g_read_whole T.F_read_whole.kp T.b_read_whole .nil pass0 (pa_cons (pv 2) pa_nil)) (pa_cons pe_int pa_nil))))
      (pss_cons (ps_if (pt_cmpR op_eq (pv 3) pe_str (nomark _)) (pss_cons (ps_set (i := 5) sc_read_ratio.nd rfl (Or.inl rfl) (pe_tup (pa_cons (pe_ix (r := rIxT K) ix_tup (pv 5) pe_int (fun _ _ => rfl)) (pa_cons (pe_call (ok_read_whole T) (hr.mono (by decide)) (by rfl) T.g_read_whole T.F_read_whole.kp T.b_read_whole .nil pass0 (pa_cons (pv 4) pa_nil)) pa_nil))))
      (pss_one (ps_if (PW.pt (pw_or (pt_cmpR op_lt (pe_ix (r := rIxT K) ix_tup (pv 5) pe_int (fun _ _ => rfl)) pe_int (nomark _)) (pw_or1 (pt_cmpR (r := rNeD K) (op_neD hr.units) (pe_call (ok_ratio T) hr (by rfl) T.g_ratio T.F_ratio.kp T.b_ratio .nil pass0 (pa_cons (pe_ix (r := rIxT K) ix_tup (pv 5) pe_int (fun _ _ => rfl)) (pa_cons (pe_ix (r := rIxT K) ix_tup (pv 5) pe_int (fun _ _ => rfl)) pa_nil))) (pv 5) (nomark _))))) (pss_one ps_never) pss_nil))) pss_nil)
      (pss_cons (ps_if (pt_cmpR op_eq (pv 1) (pv 0) (nomark _)) (pss_one (ps_ret (pv 5))) pss_nil)
      (pss_cons (ps_if (pt_cmpR op_eq (pe_ix (r := rIxT K) ix_tup (pv 5) pe_int (fun _ _ => rfl)) pe_int (nomark _)) (pss_one ps_never) pss_nil)
      (pss_one (ps_ret (pe_tup (pa_cons (pe_un un_neg (pe_ix (r := rIxT K) ix_tup (pv 5) pe_int (fun _ _ => rfl))) (pa_cons (pe_ix (r := rIxT K) ix_tup (pv 5) pe_int (fun _ _ => rfl)) pa_nil)))))))))))), ?_⟩
    have L0 : Lo ⟨K, X, H, muts [.imm (.str a_text)], n_read_ratio.length⟩ X H (L2.start n_read_ratio vs) [.imm (.str a_text), .unk, .unk, .unk, .unk, .unk] := c.start n_read_ratio (show (1 : Nat) ≤ 6 by decide)
    unfold m_read_ratio at hm
    refine x_seq (x_asg (x_vS (x := a_text) L0 rfl (x_set (d := (.str a_text)) (Γ' := [.imm (.str a_text), .imm (.str a_text), .unk, .unk, .unk, .unk]) L0 (.str _) (show (1 : Nat) < 6 by decide) rfl fun _ L1 => ?_)))
    refine x_seq (x_ifS (x_tB (x_m1 (x_vS (x := a_text) L1 rfl (x_isS (x_c (x_starts (a := a_text) (b := ("-" : Str)) (x_kb (x_join (G := (fun (s1 : Str) => [.imm (.str a_text), .imm (.str s1), .unk, .unk, .unk, .unk])) L1 hm (fun _ hm1 _ hN1 => ?_) (fun _ hm1 _ hN1 => ?_) fun s1 X1 _ _ hm2 L2 => ?_)))))))))
    · refine x_asg (x_sl (x_vS (x := a_text) L1 rfl (x_part (x_c (x_partK (x_noP (x_slStr (z := a_text) hm1 fun hm3 => x_bset (x0 := (cutS a_text (some 1) none)) (d := fun rest_1 => (.str rest_1)) (Γf := fun rest_1 => [.imm (.str a_text), .imm (.str rest_1), .unk, .unk, .unk, .unk]) hm3 L1 (.str _) (show (1 : Nat) < 6 by decide) (fun _ => rfl) fun rest_1 _ hm4 L3 => ?_)))))))
      exact x_leaf (G := (fun (s1 : Str) => [.imm (.str a_text), .imm (.str s1), .unk, .unk, .unk, .unk])) (e := rest_1) hm4 hN1 (L3.weak (Γ' := [.imm (.str a_text), .imm (.str rest_1), .unk, .unk, .unk, .unk]) (.k (.k (.k (.k (.k (.k .e)))))))
    · refine x_next ?_
      exact x_leaf (G := (fun (s1 : Str) => [.imm (.str a_text), .imm (.str s1), .unk, .unk, .unk, .unk])) (e := a_text) hm1 hN1 (L1.weak (Γ' := [.imm (.str a_text), .imm (.str a_text), .unk, .unk, .unk, .unk]) (.k (.k (.k (.k (.k (.k .e)))))))
    refine x_seq (x_asg (x_m1 (x_vS (x := s1) L2 rfl (x_isS (x_c (x_partition (a := s1) (b := ("/" : Str)) L2 hm2 (by decide +kernel) fun v1 _ hm5 L4 le1 r1 => have r2 : Rep _ _ _ (enc ((partS s1 (("/" : Str))) : (T3 Str Str Str))) v1 := r1; x_gTup r2 rfl fun vs1 rs1 => x_gCons rs1 fun v2 _ r3 rs2 => x_set (d := (.str (((partS s1 (("/" : Str)))).a))) (Γ' := [.imm (.str a_text), .imm (.str s1), .imm (.str (((partS s1 (("/" : Str)))).a)), .unk, .unk, .unk]) L4 r3 (show (2 : Nat) < 6 by decide) rfl fun _ L5 => x_gCons rs2 fun v3 _ r4 rs3 => x_set (d := (.str (((partS s1 (("/" : Str)))).b))) (Γ' := [.imm (.str a_text), .imm (.str s1), .imm (.str (((partS s1 (("/" : Str)))).a)), .imm (.str (((partS s1 (("/" : Str)))).b)), .unk, .unk]) L5 r4 (show (3 : Nat) < 6 by decide) rfl fun _ L6 => x_gCons rs3 fun v4 _ r5 rs4 => x_set (d := (.str (((partS s1 (("/" : Str)))).c))) (Γ' := [.imm (.str a_text), .imm (.str s1), .imm (.str (((partS s1 (("/" : Str)))).a)), .imm (.str (((partS s1 (("/" : Str)))).b)), .imm (.str (((partS s1 (("/" : Str)))).c)), .unk]) L6 r5 (show (4 : Nat) < 6 by decide) rfl fun _ L7 => x_gNil rs4 (?_)))))))
    refine x_seq (x_asg (x_tup (x_cons (x_call (x_cons (x_vS (x := ((partS s1 (("/" : Str)))).a) L7 rfl (x_nil (obE hm5 fun z1 hz1 hm6 => mk_read_whole hz1 (L7.cond0 (.im (.str _) .nil) rfl) fun _ F1 => k0 L7 F1 fun L8 le2 => x_cons (x_c (x_nil (x_mkT L8 (.cons (.int _) (.cons (.int _) .nil)) (show (2 : Nat) ≤ 16777216 by decide) fun v6 _ L9 le3 r6 => have r7 : Rep _ _ _ (enc ((T2.mk z1 1) : (T2 Int Int))) v6 := r6; x_bset (x0 := (T2.mk z1 1)) (d := fun found_1 => (enc (found_1 : (T2 Int Int)))) (Γf := fun found_1 => [.imm (.str a_text), .imm (.str s1), .imm (.str (((partS s1 (("/" : Str)))).a)), .imm (.str (((partS s1 (("/" : Str)))).b)), .imm (.str (((partS s1 (("/" : Str)))).c)), .imm (enc (found_1 : (T2 Int Int)))]) hm6 L9 r7 (show (5 : Nat) < 6 by decide) (fun _ => rfl) fun found_1 _ hm7 L10 => ?_)))))))))))
    refine x_seq (x_ifS (x_test (x_op (x_vS (x := ((partS s1 (("/" : Str)))).b) L10 rfl (x_c (x_eqs (x_kb (x_if hm7 (fun hm8 => ?_) fun hm8 => ?_))))))))
    · refine x_seq (x_asg (x_tup (x_cons (x_op (x_vd (d := (enc (found_1 : (T2 Int Int)))) L10 rfl fun v7 r8 => x_c (x_ixTI (x := found_1.a) r8 rfl (x_cons (x_call (x_cons (x_vS (x := ((partS s1 (("/" : Str)))).c) L10 rfl (x_nil (obE hm8 fun z2 hz2 hm9 => mk_read_whole hz2 (L10.cond0 (.im (.str _) .nil) rfl) fun _ F2 => k0 L10 F2 fun L11 le4 => x_nil (x_mkT L11 (.cons (.int _) (.cons (.int _) .nil)) (show (2 : Nat) ≤ 16777216 by decide) fun v9 _ L12 le5 r9 => have r10 : Rep _ _ _ (enc ((T2.mk found_1.a z2) : (T2 Int Int))) v9 := r9; x_bset (x0 := (T2.mk found_1.a z2)) (d := fun found_2 => (enc (found_2 : (T2 Int Int)))) (Γf := fun found_2 => [.imm (.str a_text), .imm (.str s1), .imm (.str (((partS s1 (("/" : Str)))).a)), .imm (.str (((partS s1 (("/" : Str)))).b)), .imm (.str (((partS s1 (("/" : Str)))).c)), .imm (enc (found_2 : (T2 Int Int)))]) hm9 L12 r10 (show (5 : Nat) < 6 by decide) (fun _ => rfl) fun found_2 _ hm10 L13 => ?_)))))))))))))
      refine x_ifS (x_or (x_test (x_op (x_op (x_vd (d := (enc (found_2 : (T2 Int Int)))) L13 rfl fun v10 r11 => x_c (x_ixTI (x := found_2.b) r11 rfl (x_c (x_r0 (x_kb (x_orB L13 hm10 (fun _ hm12 _ hq => x_test (x_op (x_call (x_cons (x_op (x_vd (d := (enc (found_2 : (T2 Int Int)))) L13 rfl fun v15 r16 => x_c (x_ixTI (x := found_2.a) r16 rfl (x_cons (x_op (x_vd (d := (enc (found_2 : (T2 Int Int)))) L13 rfl fun v16 r17 => x_c (x_ixTI (x := found_2.b) r17 rfl (x_nil (obE hm12 fun z4 hz4 hm13 => mk_ratio hz4 (L13.cond0 (.im (.int _) (.im (.int _) .nil)) rfl) fun v17 _ F4 => k0d L13 F4 fun L15 le7 r18 => x_vd (d := (enc (found_2 : (T2 Int Int)))) L15 rfl fun v18 r19 => x_ned (x := z4) (y := found_2) r18.dp r19.dp (by decide) (x_kb (x_lfT hm13 hq L15))))))))))))))) fun w1 _ hm14 L16 => x_if hm14 (fun hm15 => ?_) fun hm15 => ?_))))))))))
      · exact (nomatch hm15)
      · refine x_next ?_
        refine x_seq (x_ifS (x_test (x_op (x_vS (x := s1) L16 rfl (x_vS (x := a_text) L16 rfl (x_eqs (x_kb (x_if hm15 (fun hm16 => ?_) fun hm16 => ?_))))))))
        · exact x_ret (x_vd (d := (enc (found_2 : (T2 Int Int)))) L16 rfl fun v19 r20 => x_fin (Q := Q) (ps := (fun (r : (T2 Int Int)) => [])) (rs := (fun (r : (T2 Int Int)) => (.imm (enc (r : (T2 Int Int)))))) (e := found_2) hm16 kont (L16.fin hp0 r20))
        · refine x_next ?_
          refine x_seq (x_ifS (x_test (x_op (x_op (x_vd (d := (enc (found_2 : (T2 Int Int)))) L16 rfl fun v20 r21 => x_c (x_ixTI (x := found_2.a) r21 rfl (x_c (x_eqi (x_kb (x_if hm16 (fun hm17 => ?_) fun hm17 => ?_))))))))))
          · exact (nomatch hm17)
          · refine x_next ?_
            exact x_ret (x_tup (x_cons (x_un (x_op (x_vd (d := (enc (found_2 : (T2 Int Int)))) L16 rfl fun v21 r22 => x_c (x_ixTI (x := found_2.a) r22 rfl (x_u (x_cons (x_op (x_vd (d := (enc (found_2 : (T2 Int Int)))) L16 rfl fun v22 r23 => x_c (x_ixTI (x := found_2.b) r23 rfl (x_nil (x_mkT L16 (.cons (.int _) (.cons (.int _) .nil)) (show (2 : Nat) ≤ 16777216 by decide) fun v23 _ L17 le8 r24 => have r25 : Rep _ _ _ (enc ((T2.mk ((-found_2.a)) found_2.b) : (T2 Int Int))) v23 := r24; x_fin (Q := Q) (ps := (fun (r : (T2 Int Int)) => [])) (rs := (fun (r : (T2 Int Int)) => (.imm (enc (r : (T2 Int Int)))))) (e := (T2.mk ((-found_2.a)) found_2.b)) hm17 kont (L17.fin hp0 r25))))))))))))))
    · refine x_next ?_
      refine x_seq (x_ifS (x_test (x_op (x_vS (x := s1) L10 rfl (x_vS (x := a_text) L10 rfl (x_eqs (x_kb (x_if hm8 (fun hm18 => ?_) fun hm18 => ?_))))))))
      · exact x_ret (x_vd (d := (enc (found_1 : (T2 Int Int)))) L10 rfl fun v24 r26 => x_fin (Q := Q) (ps := (fun (r : (T2 Int Int)) => [])) (rs := (fun (r : (T2 Int Int)) => (.imm (enc (r : (T2 Int Int)))))) (e := found_1) hm18 kont (L10.fin hp0 r26))
      · refine x_next ?_
        refine x_seq (x_ifS (x_test (x_op (x_op (x_vd (d := (enc (found_1 : (T2 Int Int)))) L10 rfl fun v25 r27 => x_c (x_ixTI (x := found_1.a) r27 rfl (x_c (x_eqi (x_kb (x_if hm18 (fun hm19 => ?_) fun hm19 => ?_))))))))))
        · exact (nomatch hm19)
        · refine x_next ?_
          exact x_ret (x_tup (x_cons (x_un (x_op (x_vd (d := (enc (found_1 : (T2 Int Int)))) L10 rfl fun v26 r28 => x_c (x_ixTI (x := found_1.a) r28 rfl (x_u (x_cons (x_op (x_vd (d := (enc (found_1 : (T2 Int Int)))) L10 rfl fun v27 r29 => x_c (x_ixTI (x := found_1.b) r29 rfl (x_nil (x_mkT L10 (.cons (.int _) (.cons (.int _) .nil)) (show (2 : Nat) ≤ 16777216 by decide) fun v28 _ L18 le9 r30 => have r31 : Rep _ _ _ (enc ((T2.mk ((-found_1.a)) found_1.b) : (T2 Int Int))) v28 := r30; x_fin (Q := Q) (ps := (fun (r : (T2 Int Int)) => [])) (rs := (fun (r : (T2 Int Int)) => (.imm (enc (r : (T2 Int Int)))))) (e := (T2.mk ((-found_1.a)) found_1.b)) hm19 kont (L18.fin hp0 r31))))))))))))))
abbrev sp_read_ratio_x (K : PySem.W.Frag) (C : Addr) : Sp := fun vs H Q E => ∃ (X : Addr → Prop) (a_text : Str), m_read_ratio_x a_text = some () ∧ Cond K X H [.imm (.str a_text)] vs ∧ ∀ H', Same H H' → E (.ref C) none H'
theorem mk_read_ratio_x {K : PySem.W.Frag} {C : Addr} {X : Addr → Prop} {H : Hp} {vs : List V} {Q : VK} {E : XK} {a_text : Str} (hm : m_read_ratio_x a_text = some ()) (c : Cond K X H [.imm (.str a_text)] vs) (k : ∀ H', Same H H' → E (.ref C) none H') : sp_read_ratio_x K C vs H Q E := ⟨X, a_text, hm, c, k⟩
theorem ok_read_ratio_x (T : Txt K mg) : FnOk P w K mg base (L2N.CX P w) 3 T.A_read_ratio T.D_read_ratio ["text"] (sp_read_ratio_x K T.C_NoText) := by
  refine Fun_okC T.F_read_ratio sc_read_ratio (fun vs H Q E h => ?_) (fun cdv A outer s H vs Q E hr h => ?_)
  · obtain ⟨X, a_text, hm, c, kont⟩ := h
    exact c.len
  · obtain ⟨X, a_text, hm, c, kont⟩ := h
    refine ⟨_, (pss_cons (ps_set (i := 1) sc_read_ratio.nd rfl (Or.inl rfl) (pv 0))
      (pss_cons (ps_if (pt_val (pe_m1 PySem.F.slot_str_startswith PySem.F.type_str_startswith mt_starts (pv 0) pe_str)) (pss_one (ps_set (i := 1) sc_read_ratio.nd rfl (Or.inl rfl) (pe_slice (r := rSlS) sl_str (pv 0) (po_some pe_int) po_none))) pss_nil)
      (pss_cons (ps_asg (pe_m1 PySem.F.slot_str_partition PySem.F.type_str_partition mt_part (pv 1) pe_str) (pg_tup rfl (pgs_cons (pg_name (i := 2) sc_read_ratio.nd rfl (Or.inl rfl)) (pgs_cons (pg_name (i := 3) sc_read_ratio.nd rfl (Or.inl rfl)) (pgs_cons (pg_name (i := 4) sc_read_ratio.nd rfl (Or.inl rfl)) pgs_nil)))))
      (pss_cons (ps_set (i := 5) sc_read_ratio.nd rfl (Or.inl rfl) (pe_tup (pa_cons (pe_callS (fn_orC (ok_read_whole_x T) (ok_read_whole T)) (hr.mono (by decide)) (by rfl) T.g_read_whole T.F_read_whole.kp T.b_read_whole (fun σ => L2N.passAt (L2N.takes_of rfl rfl rfl rfl) σ) (pa_cons (pv 2) pa_nil)) (pa_cons pe_int pa_nil))))
      (pss_cons (ps_if (pt_cmpR op_eq (pv 3) pe_str (nomark _)) (pss_cons (ps_set (i := 5) sc_read_ratio.nd rfl (Or.inl rfl) (pe_tup (pa_cons (pe_ix (r := rIxT K) ix_tup (pv 5) pe_int (fun _ _ => rfl)) (pa_cons (pe_callS (fn_orC (ok_read_whole_x T) (ok_read_whole T)) (hr.mono (by decide)) (by rfl) T.g_read_whole T.F_read_whole.kp T.b_read_whole (fun σ => L2N.passAt (L2N.takes_of rfl rfl rfl rfl) σ) (pa_cons (pv 4) pa_nil)) pa_nil))))
      (pss_one (ps_if (PW.pt (pw_or (pt_cmpR op_lt (pe_ix (r := rIxT K) ix_tup (pv 5) pe_int (fun _ _ => rfl)) pe_int (nomark _)) (pw_or1 (pt_cmpR (r := rNeD K) (op_neD hr.units) (pe_call (ok_ratio T) hr (by rfl) T.g_ratio T.F_ratio.kp T.b_ratio .nil pass0 (pa_cons (pe_ix (r := rIxT K) ix_tup (pv 5) pe_int (fun _ _ => rfl)) (pa_cons (pe_ix (r := rIxT K) ix_tup (pv 5) pe_int (fun _ _ => rfl)) pa_nil))) (pv 5) (nomark _))))) (pss_one (L2N.ps_raise rfl (L2N.takes_of rfl rfl rfl rfl) (L2N.pmk_own PySem.F.excBase_ValueError T.x_NoText T.gC_NoText T.kC_NoText (raises_own T.bC_NoText T.tC_NoText) (by exact rfl)))) pss_nil))) pss_nil)
      (pss_cons (ps_if (pt_cmpR op_eq (pv 1) (pv 0) (nomark _)) (pss_one ps_never) pss_nil)
      (pss_cons (ps_if (pt_cmpR op_eq (pe_ix (r := rIxT K) ix_tup (pv 5) pe_int (fun _ _ => rfl)) pe_int (nomark _)) (pss_one (L2N.ps_raise rfl (L2N.takes_of rfl rfl rfl rfl) (L2N.pmk_own PySem.F.excBase_ValueError T.x_NoText T.gC_NoText T.kC_NoText (raises_own T.bC_NoText T.tC_NoText) (by exact rfl)))) pss_nil)
      (pss_one ps_never)))))))), ?_⟩
    have L0 : Lo ⟨K, X, H, muts [.imm (.str a_text)], n_read_ratio.length⟩ X H (L2.start n_read_ratio vs) [.imm (.str a_text), .unk, .unk, .unk, .unk, .unk] := c.start n_read_ratio (show (1 : Nat) ≤ 6 by decide)
    unfold m_read_ratio_x at hm
    refine x_seq (x_asg (x_vS (x := a_text) L0 rfl (x_set (d := (.str a_text)) (Γ' := [.imm (.str a_text), .imm (.str a_text), .unk, .unk, .unk, .unk]) L0 (.str _) (show (1 : Nat) < 6 by decide) rfl fun _ L1 => ?_)))
    refine x_seq (x_ifS (x_tB (x_m1 (x_vS (x := a_text) L1 rfl (x_isS (x_c (x_starts (a := a_text) (b := ("-" : Str)) (x_kb (x_join (G := (fun (s1 : Str) => [.imm (.str a_text), .imm (.str s1), .unk, .unk, .unk, .unk])) L1 hm (fun _ hm1 _ hN1 => ?_) (fun _ hm1 _ hN1 => ?_) fun s1 X1 _ _ hm2 L2 => ?_)))))))))
    · refine x_asg (x_sl (x_vS (x := a_text) L1 rfl (x_part (x_c (x_partK (x_noP (x_slStr (z := a_text) hm1 fun hm3 => x_bset (x0 := (cutS a_text (some 1) none)) (d := fun rest_1 => (.str rest_1)) (Γf := fun rest_1 => [.imm (.str a_text), .imm (.str rest_1), .unk, .unk, .unk, .unk]) hm3 L1 (.str _) (show (1 : Nat) < 6 by decide) (fun _ => rfl) fun rest_1 _ hm4 L3 => ?_)))))))
      exact x_leaf (G := (fun (s1 : Str) => [.imm (.str a_text), .imm (.str s1), .unk, .unk, .unk, .unk])) (e := rest_1) hm4 hN1 (L3.weak (Γ' := [.imm (.str a_text), .imm (.str rest_1), .unk, .unk, .unk, .unk]) (.k (.k (.k (.k (.k (.k .e)))))))
    · refine x_next ?_
      exact x_leaf (G := (fun (s1 : Str) => [.imm (.str a_text), .imm (.str s1), .unk, .unk, .unk, .unk])) (e := a_text) hm1 hN1 (L1.weak (Γ' := [.imm (.str a_text), .imm (.str a_text), .unk, .unk, .unk, .unk]) (.k (.k (.k (.k (.k (.k .e)))))))
    refine x_seq (x_asg (x_m1 (x_vS (x := s1) L2 rfl (x_isS (x_c (x_partition (a := s1) (b := ("/" : Str)) L2 hm2 (by decide +kernel) fun v1 _ hm5 L4 le1 r1 => have r2 : Rep _ _ _ (enc ((partS s1 (("/" : Str))) : (T3 Str Str Str))) v1 := r1; x_gTup r2 rfl fun vs1 rs1 => x_gCons rs1 fun v2 _ r3 rs2 => x_set (d := (.str (((partS s1 (("/" : Str)))).a))) (Γ' := [.imm (.str a_text), .imm (.str s1), .imm (.str (((partS s1 (("/" : Str)))).a)), .unk, .unk, .unk]) L4 r3 (show (2 : Nat) < 6 by decide) rfl fun _ L5 => x_gCons rs2 fun v3 _ r4 rs3 => x_set (d := (.str (((partS s1 (("/" : Str)))).b))) (Γ' := [.imm (.str a_text), .imm (.str s1), .imm (.str (((partS s1 (("/" : Str)))).a)), .imm (.str (((partS s1 (("/" : Str)))).b)), .unk, .unk]) L5 r4 (show (3 : Nat) < 6 by decide) rfl fun _ L6 => x_gCons rs3 fun v4 _ r5 rs4 => x_set (d := (.str (((partS s1 (("/" : Str)))).c))) (Γ' := [.imm (.str a_text), .imm (.str s1), .imm (.str (((partS s1 (("/" : Str)))).a)), .imm (.str (((partS s1 (("/" : Str)))).b)), .imm (.str (((partS s1 (("/" : Str)))).c)), .unk]) L6 r5 (show (4 : Nat) < 6 by decide) rfl fun _ L7 => x_gNil rs4 (?_)))))))
    refine x_seq (x_asg (x_tup (x_cons (x_callS (x_cons (x_vS (x := ((partS s1 (("/" : Str)))).a) L7 rfl (x_nil (x_either (m := m_read_whole_x (((partS s1 (("/" : Str)))).a)) hm5 (fun hx _ => mk_read_whole_x hx (L7.cond0 (.im (.str _) .nil) rfl) fun _ same => kont _ fun a o h => same a o ((L7.same0 rfl) a o h)) fun hm6 => obE hm6 fun z1 hz1 hm7 => mk_read_whole hz1 (L7.cond0 (.im (.str _) .nil) rfl) fun _ F1 => k0 L7 F1 fun L8 le2 => x_cons (x_c (x_nil (x_mkT L8 (.cons (.int _) (.cons (.int _) .nil)) (show (2 : Nat) ≤ 16777216 by decide) fun v6 _ L9 le3 r6 => have r7 : Rep _ _ _ (enc ((T2.mk z1 1) : (T2 Int Int))) v6 := r6; x_bset (x0 := (T2.mk z1 1)) (d := fun found_1 => (enc (found_1 : (T2 Int Int)))) (Γf := fun found_1 => [.imm (.str a_text), .imm (.str s1), .imm (.str (((partS s1 (("/" : Str)))).a)), .imm (.str (((partS s1 (("/" : Str)))).b)), .imm (.str (((partS s1 (("/" : Str)))).c)), .imm (enc (found_1 : (T2 Int Int)))]) hm7 L9 r7 (show (5 : Nat) < 6 by decide) (fun _ => rfl) fun found_1 _ hm8 L10 => ?_)))))))))))
    refine x_seq (x_ifS (x_test (x_op (x_vS (x := ((partS s1 (("/" : Str)))).b) L10 rfl (x_c (x_eqs (x_kb (x_if hm8 (fun hm9 => ?_) fun hm9 => ?_))))))))
    · refine x_seq (x_asg (x_tup (x_cons (x_op (x_vd (d := (enc (found_1 : (T2 Int Int)))) L10 rfl fun v7 r8 => x_c (x_ixTI (x := found_1.a) r8 rfl (x_cons (x_callS (x_cons (x_vS (x := ((partS s1 (("/" : Str)))).c) L10 rfl (x_nil (x_either (m := m_read_whole_x (((partS s1 (("/" : Str)))).c)) hm9 (fun hx _ => mk_read_whole_x hx (L10.cond0 (.im (.str _) .nil) rfl) fun _ same => kont _ fun a o h => same a o ((L10.same0 rfl) a o h)) fun hm10 => obE hm10 fun z2 hz2 hm11 => mk_read_whole hz2 (L10.cond0 (.im (.str _) .nil) rfl) fun _ F2 => k0 L10 F2 fun L11 le4 => x_nil (x_mkT L11 (.cons (.int _) (.cons (.int _) .nil)) (show (2 : Nat) ≤ 16777216 by decide) fun v9 _ L12 le5 r9 => have r10 : Rep _ _ _ (enc ((T2.mk found_1.a z2) : (T2 Int Int))) v9 := r9; x_bset (x0 := (T2.mk found_1.a z2)) (d := fun found_2 => (enc (found_2 : (T2 Int Int)))) (Γf := fun found_2 => [.imm (.str a_text), .imm (.str s1), .imm (.str (((partS s1 (("/" : Str)))).a)), .imm (.str (((partS s1 (("/" : Str)))).b)), .imm (.str (((partS s1 (("/" : Str)))).c)), .imm (enc (found_2 : (T2 Int Int)))]) hm11 L12 r10 (show (5 : Nat) < 6 by decide) (fun _ => rfl) fun found_2 _ hm12 L13 => ?_)))))))))))))
      refine x_ifS (x_or (x_test (x_op (x_op (x_vd (d := (enc (found_2 : (T2 Int Int)))) L13 rfl fun v10 r11 => x_c (x_ixTI (x := found_2.b) r11 rfl (x_c (x_r0 (x_kb (x_orB L13 hm12 (fun _ hm14 _ hq => x_test (x_op (x_call (x_cons (x_op (x_vd (d := (enc (found_2 : (T2 Int Int)))) L13 rfl fun v15 r16 => x_c (x_ixTI (x := found_2.a) r16 rfl (x_cons (x_op (x_vd (d := (enc (found_2 : (T2 Int Int)))) L13 rfl fun v16 r17 => x_c (x_ixTI (x := found_2.b) r17 rfl (x_nil (obE hm14 fun z4 hz4 hm15 => mk_ratio hz4 (L13.cond0 (.im (.int _) (.im (.int _) .nil)) rfl) fun v17 _ F4 => k0d L13 F4 fun L15 le7 r18 => x_vd (d := (enc (found_2 : (T2 Int Int)))) L15 rfl fun v18 r19 => x_ned (x := z4) (y := found_2) r18.dp r19.dp (by decide) (x_kb (x_lfT hm15 hq L15))))))))))))))) fun w1 _ hm16 L16 => x_if hm16 (fun hm17 => ?_) fun hm17 => ?_))))))))))
      · exact kont _ (L16.same0 rfl)
      · refine x_next ?_
        refine x_seq (x_ifS (x_test (x_op (x_vS (x := s1) L16 rfl (x_vS (x := a_text) L16 rfl (x_eqs (x_kb (x_if hm17 (fun hm18 => ?_) fun hm18 => ?_))))))))
        · exact (nomatch hm18)
        · refine x_next ?_
          refine x_seq (x_ifS (x_test (x_op (x_op (x_vd (d := (enc (found_2 : (T2 Int Int)))) L16 rfl fun v19 r20 => x_c (x_ixTI (x := found_2.a) r20 rfl (x_c (x_eqi (x_kb (x_if hm18 (fun hm19 => ?_) fun hm19 => ?_))))))))))
          · exact kont _ (L16.same0 rfl)
          · refine x_next ?_
            exact (nomatch hm19)
    · refine x_next ?_
      refine x_seq (x_ifS (x_test (x_op (x_vS (x := s1) L10 rfl (x_vS (x := a_text) L10 rfl (x_eqs (x_kb (x_if hm9 (fun hm20 => ?_) fun hm20 => ?_))))))))
      · exact (nomatch hm20)
      · refine x_next ?_
        refine x_seq (x_ifS (x_test (x_op (x_op (x_vd (d := (enc (found_1 : (T2 Int Int)))) L10 rfl fun v20 r21 => x_c (x_ixTI (x := found_1.a) r21 rfl (x_c (x_eqi (x_kb (x_if hm20 (fun hm21 => ?_) fun hm21 => ?_))))))))))
        · exact kont _ (L10.same0 rfl)
        · refine x_next ?_
          exact (nomatch hm21)
abbrev sp_point (K : PySem.W.Frag) : Sp := fun vs H Q _ => ∃ (X : Addr → Prop)  (a_a : Int) (a_b : Int) (a_n : Int) (r : (T3 Int Int Int)), m_point a_a a_b a_n = some r ∧ Cond K X H [.imm (.int a_a), .imm (.int a_b), .imm (.int a_n)] vs ∧ ∀ v H', Fin K X H [] [] (.imm (enc (r : (T3 Int Int Int)))) v H' → Q v H'
theorem mk_point {K : PySem.W.Frag} {X : Addr → Prop} {H : Hp} {vs : List V} {Q : VK} {E : XK}  {a_a : Int} {a_b : Int} {a_n : Int} {r : (T3 Int Int Int)} (hm : m_point a_a a_b a_n = some r) (c : Cond K X H [.imm (.int a_a), .imm (.int a_b), .imm (.int a_n)] vs) (k : ∀ v H', Fin K X H [] [] (.imm (enc (r : (T3 Int Int Int)))) v H' → Q v H') : sp_point K vs H Q E := ⟨X, a_a, a_b, a_n, r, hm, c, k⟩
abbrev n_point : List Str := ["a", "b", "n", "divisor"]
theorem sc_point : FnScope n_point ["a", "b", "n"] (defScope s_point) := ⟨rfl, rfl, rfl, by decide +kernel, rfl, by decide +kernel, by decide +kernel⟩
theorem ok_point (T : Txt K mg) : FnOk P w K mg base CX0 2 T.A_point T.D_point ["a", "b", "n"] (sp_point K) := by
  refine Fun.ok T.F_point sc_point (fun vs H Q E h => ?_) (fun cdv A outer s H vs Q E hr h => ?_)
  · obtain ⟨X, a_a, a_b, a_n, r, hm, c, kont⟩ := h
    exact c.len
  · obtain ⟨X, a_a, a_b, a_n, r, hm, c, kont⟩ := h
    refine ⟨_, (pss_cons (ps_if (pt_cmpR op_eq (pv 2) pe_int (nomark _)) (pss_one ps_never) pss_nil)
      (pss_cons (ps_set (i := 3) sc_point.nd rfl (Or.inl rfl) (pe_call (ok_greatest_divisor T) hr (by rfl) T.g_greatest_divisor T.F_greatest_divisor.kp T.b_greatest_divisor .nil pass0 (pa_cons (pe_call (ok_greatest_divisor T) hr (by rfl) T.g_greatest_divisor T.F_greatest_divisor.kp T.b_greatest_divisor .nil pass0 (pa_cons (pv 0) (pa_cons (pv 2) pa_nil))) (pa_cons (pv 1) pa_nil))))
      (pss_cons (ps_if (pt_cmpR op_lt (pv 2) pe_int (nomark _)) (pss_one (ps_set (i := 3) sc_point.nd rfl (Or.inl rfl) (pe_un un_neg (pv 3)))) pss_nil)
      (pss_one (ps_ret (pe_tup (pa_cons (pe_op op_divG (pv 0) (pv 3)) (pa_cons (pe_op op_divG (pv 1) (pv 3)) (pa_cons (pe_op op_divG (pv 2) (pv 3)) pa_nil))))))))), ?_⟩
    have L0 : Lo ⟨K, X, H, muts [.imm (.int a_a), .imm (.int a_b), .imm (.int a_n)], n_point.length⟩ X H (L2.start n_point vs) [.imm (.int a_a), .imm (.int a_b), .imm (.int a_n), .unk] := c.start n_point (show (3 : Nat) ≤ 4 by decide)
    unfold m_point at hm
    refine x_seq (x_ifS (x_test (x_op (x_vI (x := a_n) L0 rfl (x_c (x_eqi (x_kb (x_if hm (fun hm1 => ?_) fun hm1 => ?_))))))))
    · exact (nomatch hm1)
    · refine x_next ?_
      refine x_seq (x_asg (x_call (x_cons (x_call (x_cons (x_vI (x := a_a) L0 rfl (x_cons (x_vI (x := a_n) L0 rfl (x_nil (obE hm1 fun z1 hz1 hm2 => mk_greatest_divisor hz1 (L0.cond0 (.im (.int _) (.im (.int _) .nil)) rfl) fun _ F1 => k0 L0 F1 fun L1 le1 => x_cons (x_vI (x := a_b) L1 rfl (x_nil (obE hm2 fun z2 hz2 hm3 => mk_greatest_divisor hz2 (L1.cond0 (.im (.int _) (.im (.int _) .nil)) rfl) fun _ F2 => k0 L1 F2 fun L2 le2 => x_set (d := (.int z2)) (Γ' := [.imm (.int a_a), .imm (.int a_b), .imm (.int a_n), .imm (.int z2)]) L2 (.int _) (show (3 : Nat) < 4 by decide) rfl fun _ L3 => ?_)))))))))))))
      refine x_seq (x_ifS (x_test (x_op (x_vI (x := a_n) L3 rfl (x_c (x_r0 (x_kb (x_join (G := (fun (s1 : Int) => [.imm (.int a_a), .imm (.int a_b), .imm (.int a_n), .imm (.int s1)])) L3 hm3 (fun _ hm4 _ hN1 => ?_) (fun _ hm4 _ hN1 => ?_) fun s1 X1 _ _ hm5 L4 => ?_))))))))
      · refine x_asg (x_un (x_vI (x := z2) L3 rfl (x_u (x_bset (x0 := (-z2)) (d := fun divisor_1 => (.int divisor_1)) (Γf := fun divisor_1 => [.imm (.int a_a), .imm (.int a_b), .imm (.int a_n), .imm (.int divisor_1)]) hm4 L3 (.int _) (show (3 : Nat) < 4 by decide) (fun _ => rfl) fun divisor_1 _ hm6 L5 => ?_))))
        exact x_leaf (G := (fun (s1 : Int) => [.imm (.int a_a), .imm (.int a_b), .imm (.int a_n), .imm (.int s1)])) (e := divisor_1) hm6 hN1 (L5.weak (Γ' := [.imm (.int a_a), .imm (.int a_b), .imm (.int a_n), .imm (.int divisor_1)]) (.k (.k (.k (.k .e)))))
      · refine x_next ?_
        exact x_leaf (G := (fun (s1 : Int) => [.imm (.int a_a), .imm (.int a_b), .imm (.int a_n), .imm (.int s1)])) (e := z2) hm4 hN1 (L3.weak (Γ' := [.imm (.int a_a), .imm (.int a_b), .imm (.int a_n), .imm (.int z2)]) (.k (.k (.k (.k .e)))))
      exact x_ret (x_tup (x_cons (x_op (x_vI (x := a_a) L4 rfl (x_vI (x := s1) L4 rfl (x_div hm5 fun z3 _ hm7 => x_cons (x_op (x_vI (x := a_b) L4 rfl (x_vI (x := s1) L4 rfl (x_div hm7 fun z4 _ hm8 => x_cons (x_op (x_vI (x := a_n) L4 rfl (x_vI (x := s1) L4 rfl (x_div hm8 fun z5 _ hm9 => x_nil (x_mkT L4 (.cons (.int _) (.cons (.int _) (.cons (.int _) .nil))) (show (3 : Nat) ≤ 16777216 by decide) fun v3 _ L6 le3 r1 => have r2 : Rep _ _ _ (enc ((T3.mk z3 z4 z5) : (T3 Int Int Int))) v3 := r1; x_fin (Q := Q) (ps := (fun (r : (T3 Int Int Int)) => [])) (rs := (fun (r : (T3 Int Int Int)) => (.imm (enc (r : (T3 Int Int Int)))))) (e := (T3.mk z3 z4 z5)) hm9 kont (L6.fin hp0 r2))))))))))))))))
abbrev sp_at (K : PySem.W.Frag) : Sp := fun vs H Q _ => ∃ (X : Addr → Prop)  (a_x : (T2 Int Int)) (a_y : (T2 Int Int)) (r : (T3 Int Int Int)), m_at a_x a_y = some r ∧ Cond K X H [.imm (enc (a_x : (T2 Int Int))), .imm (enc (a_y : (T2 Int Int)))] vs ∧ ∀ v H', Fin K X H [] [] (.imm (enc (r : (T3 Int Int Int)))) v H' → Q v H'
theorem mk_at {K : PySem.W.Frag} {X : Addr → Prop} {H : Hp} {vs : List V} {Q : VK} {E : XK}  {a_x : (T2 Int Int)} {a_y : (T2 Int Int)} {r : (T3 Int Int Int)} (hm : m_at a_x a_y = some r) (c : Cond K X H [.imm (enc (a_x : (T2 Int Int))), .imm (enc (a_y : (T2 Int Int)))] vs) (k : ∀ v H', Fin K X H [] [] (.imm (enc (r : (T3 Int Int Int)))) v H' → Q v H') : sp_at K vs H Q E := ⟨X, a_x, a_y, r, hm, c, k⟩
abbrev n_at : List Str := ["x", "y"]
theorem sc_at : FnScope n_at ["x", "y"] (defScope s_at) := ⟨rfl, rfl, rfl, by decide +kernel, rfl, by decide +kernel, by decide +kernel⟩
theorem ok_at (T : Txt K mg) : FnOk P w K mg base CX0 3 T.A_at T.D_at ["x", "y"] (sp_at K) := by
  refine Fun.ok T.F_at sc_at (fun vs H Q E h => ?_) (fun cdv A outer s H vs Q E hr h => ?_)
  · obtain ⟨X, a_x, a_y, r, hm, c, kont⟩ := h
    exact c.len
  · obtain ⟨X, a_x, a_y, r, hm, c, kont⟩ := h
    refine ⟨_, (pss_one (ps_ret (pe_call (ok_point T) hr (by rfl) T.g_point T.F_point.kp T.b_point .nil pass0 (pa_cons (pe_op op_mulW (pe_ix (r := rIxT K) ix_tup (pv 0) pe_int (fun _ _ => rfl)) (pe_ix (r := rIxT K) ix_tup (pv 1) pe_int (fun _ _ => rfl))) (pa_cons (pe_op op_mulW (pe_ix (r := rIxT K) ix_tup (pv 1) pe_int (fun _ _ => rfl)) (pe_ix (r := rIxT K) ix_tup (pv 0) pe_int (fun _ _ => rfl))) (pa_cons (pe_op op_mulW (pe_ix (r := rIxT K) ix_tup (pv 0) pe_int (fun _ _ => rfl)) (pe_ix (r := rIxT K) ix_tup (pv 1) pe_int (fun _ _ => rfl))) pa_nil)))))), ?_⟩
    have L0 : Lo ⟨K, X, H, muts [.imm (enc (a_x : (T2 Int Int))), .imm (enc (a_y : (T2 Int Int)))], n_at.length⟩ X H (L2.start n_at vs) [.imm (enc (a_x : (T2 Int Int))), .imm (enc (a_y : (T2 Int Int)))] := c.start n_at (show (2 : Nat) ≤ 2 by decide)
    unfold m_at at hm
    exact x_ret (x_call (x_cons (x_op (x_op (x_vd (d := (enc (a_x : (T2 Int Int)))) L0 rfl fun v1 r1 => x_c (x_ixTI (x := a_x.a) r1 rfl (x_op (x_vd (d := (enc (a_y : (T2 Int Int)))) L0 rfl fun v2 r2 => x_c (x_ixTI (x := a_y.b) r2 rfl (x_mul hm fun z1 _ hm1 => x_cons (x_op (x_op (x_vd (d := (enc (a_y : (T2 Int Int)))) L0 rfl fun v3 r3 => x_c (x_ixTI (x := a_y.a) r3 rfl (x_op (x_vd (d := (enc (a_x : (T2 Int Int)))) L0 rfl fun v4 r4 => x_c (x_ixTI (x := a_x.b) r4 rfl (x_mul hm1 fun z2 _ hm2 => x_cons (x_op (x_op (x_vd (d := (enc (a_x : (T2 Int Int)))) L0 rfl fun v5 r5 => x_c (x_ixTI (x := a_x.b) r5 rfl (x_op (x_vd (d := (enc (a_y : (T2 Int Int)))) L0 rfl fun v6 r6 => x_c (x_ixTI (x := a_y.b) r6 rfl (x_mul hm2 fun z3 _ hm3 => x_nil (obE hm3 fun z4 hz1 hm4 => mk_point hz1 (L0.cond0 (.im (.int _) (.im (.int _) (.im (.int _) .nil))) rfl) fun v7 _ F1 => k0d L0 F1 fun L1 le1 r7 => x_fin (Q := Q) (ps := (fun (r : (T3 Int Int Int)) => [])) (rs := (fun (r : (T3 Int Int Int)) => (.imm (enc (r : (T3 Int Int Int)))))) (e := z4) hm4 kont (L1.fin hp0 r7))))))))))))))))))))))))))))
abbrev sp_read_point (K : PySem.W.Frag) : Sp := fun vs H Q _ => ∃ (X : Addr → Prop)  (a_text : Str) (r : (T3 Int Int Int)), m_read_point a_text = some r ∧ Cond K X H [.imm (.str a_text)] vs ∧ ∀ v H', Fin K X H [] [] (.imm (enc (r : (T3 Int Int Int)))) v H' → Q v H'
theorem mk_read_point {K : PySem.W.Frag} {X : Addr → Prop} {H : Hp} {vs : List V} {Q : VK} {E : XK}  {a_text : Str} {r : (T3 Int Int Int)} (hm : m_read_point a_text = some r) (c : Cond K X H [.imm (.str a_text)] vs) (k : ∀ v H', Fin K X H [] [] (.imm (enc (r : (T3 Int Int Int)))) v H' → Q v H') : sp_read_point K vs H Q E := ⟨X, a_text, r, hm, c, k⟩
abbrev n_read_point : List Str := ["text", "x", "comma", "y"]
theorem sc_read_point : FnScope n_read_point ["text"] (defScope s_read_point) := ⟨rfl, rfl, rfl, by decide +kernel, rfl, by decide +kernel, by decide +kernel⟩
theorem ok_read_point (T : Txt K mg) : FnOk P w K mg base CX0 4 T.A_read_point T.D_read_point ["text"] (sp_read_point K) := by
  refine Fun.ok T.F_read_point sc_read_point (fun vs H Q E h => ?_) (fun cdv A outer s H vs Q E hr h => ?_)
  · obtain ⟨X, a_text, r, hm, c, kont⟩ := h
    exact c.len
  · obtain ⟨X, a_text, r, hm, c, kont⟩ := h
    refine ⟨_, (pss_cons (ps_asg (pe_m1 PySem.F.slot_str_partition PySem.F.type_str_partition mt_part (pv 0) pe_str) (pg_tup rfl (pgs_cons (pg_name (i := 1) sc_read_point.nd rfl (Or.inl rfl)) (pgs_cons (pg_name (i := 2) sc_read_point.nd rfl (Or.inl rfl)) (pgs_cons (pg_name (i := 3) sc_read_point.nd rfl (Or.inl rfl)) pgs_nil)))))
      (pss_cons (ps_if (pt_cmpR op_ne (pv 2) pe_str (nomark _)) (pss_one ps_never) pss_nil)
      (pss_one (ps_ret (pe_call (ok_at T) hr (by rfl) T.g_at T.F_at.kp T.b_at .nil pass0 (pa_cons (pe_call (ok_read_ratio T) hr (by rfl) T.g_read_ratio T.F_read_ratio.kp T.b_read_ratio .nil pass0 (pa_cons (pv 1) pa_nil)) (pa_cons (pe_call (ok_read_ratio T) hr (by rfl) T.g_read_ratio T.F_read_ratio.kp T.b_read_ratio .nil pass0 (pa_cons (pv 3) pa_nil)) pa_nil))))))), ?_⟩
    have L0 : Lo ⟨K, X, H, muts [.imm (.str a_text)], n_read_point.length⟩ X H (L2.start n_read_point vs) [.imm (.str a_text), .unk, .unk, .unk] := c.start n_read_point (show (1 : Nat) ≤ 4 by decide)
    unfold m_read_point at hm
    refine x_seq (x_asg (x_m1 (x_vS (x := a_text) L0 rfl (x_isS (x_c (x_partition (a := a_text) (b := ("," : Str)) L0 hm (by decide +kernel) fun v1 _ hm1 L1 le1 r1 => have r2 : Rep _ _ _ (enc ((partS a_text (("," : Str))) : (T3 Str Str Str))) v1 := r1; x_gTup r2 rfl fun vs1 rs1 => x_gCons rs1 fun v2 _ r3 rs2 => x_set (d := (.str (((partS a_text (("," : Str)))).a))) (Γ' := [.imm (.str a_text), .imm (.str (((partS a_text (("," : Str)))).a)), .unk, .unk]) L1 r3 (show (1 : Nat) < 4 by decide) rfl fun _ L2 => x_gCons rs2 fun v3 _ r4 rs3 => x_set (d := (.str (((partS a_text (("," : Str)))).b))) (Γ' := [.imm (.str a_text), .imm (.str (((partS a_text (("," : Str)))).a)), .imm (.str (((partS a_text (("," : Str)))).b)), .unk]) L2 r4 (show (2 : Nat) < 4 by decide) rfl fun _ L3 => x_gCons rs3 fun v4 _ r5 rs4 => x_set (d := (.str (((partS a_text (("," : Str)))).c))) (Γ' := [.imm (.str a_text), .imm (.str (((partS a_text (("," : Str)))).a)), .imm (.str (((partS a_text (("," : Str)))).b)), .imm (.str (((partS a_text (("," : Str)))).c))]) L3 r5 (show (3 : Nat) < 4 by decide) rfl fun _ L4 => x_gNil rs4 (?_)))))))
    refine x_seq (x_ifS (x_test (x_op (x_vS (x := ((partS a_text (("," : Str)))).b) L4 rfl (x_c (x_nes (x_kb (x_if hm1 (fun hm2 => ?_) fun hm2 => ?_))))))))
    · exact (nomatch hm2)
    · refine x_next ?_
      exact x_ret (x_call (x_cons (x_call (x_cons (x_vS (x := ((partS a_text (("," : Str)))).a) L4 rfl (x_nil (obE hm2 fun z1 hz1 hm3 => mk_read_ratio hz1 (L4.cond0 (.im (.str _) .nil) rfl) fun v5 _ F1 => k0d L4 F1 fun L5 le2 r6 => x_cons (x_call (x_cons (x_vS (x := ((partS a_text (("," : Str)))).c) L5 rfl (x_nil (obE hm3 fun z2 hz2 hm4 => mk_read_ratio hz2 (L5.cond0 (.im (.str _) .nil) rfl) fun v6 _ F2 => k0d L5 F2 fun L6 le3 r7 => have r8 := le3 _ _ r6; x_nil (obE hm4 fun z3 hz3 hm5 => mk_at hz3 (L6.cond0 (.im r8 (.im r7 .nil)) rfl) fun v7 _ F3 => k0d L6 F3 fun L7 le4 r9 => x_fin (Q := Q) (ps := (fun (r : (T3 Int Int Int)) => [])) (rs := (fun (r : (T3 Int Int Int)) => (.imm (enc (r : (T3 Int Int Int)))))) (e := z3) hm5 kont (L7.fin hp0 r9))))))))))))))
abbrev sp_read_point_x (K : PySem.W.Frag) (C : Addr) : Sp := fun vs H Q E => ∃ (X : Addr → Prop) (a_text : Str), m_read_point_x a_text = some () ∧ Cond K X H [.imm (.str a_text)] vs ∧ ∀ H', Same H H' → E (.ref C) none H'
theorem mk_read_point_x {K : PySem.W.Frag} {C : Addr} {X : Addr → Prop} {H : Hp} {vs : List V} {Q : VK} {E : XK} {a_text : Str} (hm : m_read_point_x a_text = some ()) (c : Cond K X H [.imm (.str a_text)] vs) (k : ∀ H', Same H H' → E (.ref C) none H') : sp_read_point_x K C vs H Q E := ⟨X, a_text, hm, c, k⟩
theorem ok_read_point_x (T : Txt K mg) : FnOk P w K mg base (L2N.CX P w) 4 T.A_read_point T.D_read_point ["text"] (sp_read_point_x K T.C_NoText) := by
  refine Fun_okC T.F_read_point sc_read_point (fun vs H Q E h => ?_) (fun cdv A outer s H vs Q E hr h => ?_)
  · obtain ⟨X, a_text, hm, c, kont⟩ := h
    exact c.len
  · obtain ⟨X, a_text, hm, c, kont⟩ := h
    refine ⟨_, (pss_cons (ps_asg (pe_m1 PySem.F.slot_str_partition PySem.F.type_str_partition mt_part (pv 0) pe_str) (pg_tup rfl (pgs_cons (pg_name (i := 1) sc_read_point.nd rfl (Or.inl rfl)) (pgs_cons (pg_name (i := 2) sc_read_point.nd rfl (Or.inl rfl)) (pgs_cons (pg_name (i := 3) sc_read_point.nd rfl (Or.inl rfl)) pgs_nil)))))
      (pss_cons (ps_if (pt_cmpR op_ne (pv 2) pe_str (nomark _)) (pss_one (L2N.ps_raise rfl (L2N.takes_of rfl rfl rfl rfl) (L2N.pmk_own PySem.F.excBase_ValueError T.x_NoText T.gC_NoText T.kC_NoText (raises_own T.bC_NoText T.tC_NoText) (by exact rfl)))) pss_nil)
      (pss_one (ps_ret (pe_call (ok_at T) hr (by rfl) T.g_at T.F_at.kp T.b_at .nil pass0 (pa_cons (pe_callS (fn_orC (ok_read_ratio_x T) (ok_read_ratio T)) hr (by rfl) T.g_read_ratio T.F_read_ratio.kp T.b_read_ratio (fun σ => L2N.passAt (L2N.takes_of rfl rfl rfl rfl) σ) (pa_cons (pv 1) pa_nil)) (pa_cons (pe_callS (fn_orC (ok_read_ratio_x T) (ok_read_ratio T)) hr (by rfl) T.g_read_ratio T.F_read_ratio.kp T.b_read_ratio (fun σ => L2N.passAt (L2N.takes_of rfl rfl rfl rfl) σ) (pa_cons (pv 3) pa_nil)) pa_nil))))))), ?_⟩
    have L0 : Lo ⟨K, X, H, muts [.imm (.str a_text)], n_read_point.length⟩ X H (L2.start n_read_point vs) [.imm (.str a_text), .unk, .unk, .unk] := c.start n_read_point (show (1 : Nat) ≤ 4 by decide)
    unfold m_read_point_x at hm
    refine x_seq (x_asg (x_m1 (x_vS (x := a_text) L0 rfl (x_isS (x_c (x_partition (a := a_text) (b := ("," : Str)) L0 hm (by decide +kernel) fun v1 _ hm1 L1 le1 r1 => have r2 : Rep _ _ _ (enc ((partS a_text (("," : Str))) : (T3 Str Str Str))) v1 := r1; x_gTup r2 rfl fun vs1 rs1 => x_gCons rs1 fun v2 _ r3 rs2 => x_set (d := (.str (((partS a_text (("," : Str)))).a))) (Γ' := [.imm (.str a_text), .imm (.str (((partS a_text (("," : Str)))).a)), .unk, .unk]) L1 r3 (show (1 : Nat) < 4 by decide) rfl fun _ L2 => x_gCons rs2 fun v3 _ r4 rs3 => x_set (d := (.str (((partS a_text (("," : Str)))).b))) (Γ' := [.imm (.str a_text), .imm (.str (((partS a_text (("," : Str)))).a)), .imm (.str (((partS a_text (("," : Str)))).b)), .unk]) L2 r4 (show (2 : Nat) < 4 by decide) rfl fun _ L3 => x_gCons rs3 fun v4 _ r5 rs4 => x_set (d := (.str (((partS a_text (("," : Str)))).c))) (Γ' := [.imm (.str a_text), .imm (.str (((partS a_text (("," : Str)))).a)), .imm (.str (((partS a_text (("," : Str)))).b)), .imm (.str (((partS a_text (("," : Str)))).c))]) L3 r5 (show (3 : Nat) < 4 by decide) rfl fun _ L4 => x_gNil rs4 (?_)))))))
    refine x_seq (x_ifS (x_test (x_op (x_vS (x := ((partS a_text (("," : Str)))).b) L4 rfl (x_c (x_nes (x_kb (x_if hm1 (fun hm2 => ?_) fun hm2 => ?_))))))))
    · exact kont _ (L4.same0 rfl)
    · refine x_next ?_
      exact x_ret (x_call (x_cons (x_callS (x_cons (x_vS (x := ((partS a_text (("," : Str)))).a) L4 rfl (x_nil (x_either (m := m_read_ratio_x (((partS a_text (("," : Str)))).a)) hm2 (fun hx _ => mk_read_ratio_x hx (L4.cond0 (.im (.str _) .nil) rfl) fun _ same => kont _ fun a o h => same a o ((L4.same0 rfl) a o h)) fun hm3 => obE hm3 fun z1 hz1 hm4 => mk_read_ratio hz1 (L4.cond0 (.im (.str _) .nil) rfl) fun v5 _ F1 => k0d L4 F1 fun L5 le2 r6 => x_cons (x_callS (x_cons (x_vS (x := ((partS a_text (("," : Str)))).c) L5 rfl (x_nil (x_either (m := m_read_ratio_x (((partS a_text (("," : Str)))).c)) hm4 (fun hx _ => mk_read_ratio_x hx (L5.cond0 (.im (.str _) .nil) rfl) fun _ same => kont _ fun a o h => same a o ((L5.same0 rfl) a o h)) fun hm5 => (nomatch hm5)))))))))))))
abbrev sp__law_alone_NoText (K : PySem.W.Frag) (C : Addr) (cls : Value) (d : Option Addr) (a : Addr) : Sp := fun vs H Q _ => ∃ (X : Addr → Prop) (a__law_kind : Int) (r : Bool), cls = .ref C ∧ d = none ∧ m__law_alone_NoText a__law_kind = some r ∧ Cond K X H [.ref a, .imm (.int a__law_kind)] vs ∧ ∀ H', Fin K X H [] [] (.imm (.bool r)) (.bl r) H' → Q (.bl r) H'
theorem mk__law_alone_NoText {K : PySem.W.Frag} {C a : Addr} {X : Addr → Prop} {H : Hp} {vs : List V} {Q : VK} {E : XK} {a__law_kind : Int} {r : Bool} (hm : m__law_alone_NoText a__law_kind = some r) (c : Cond K X H [.ref a, .imm (.int a__law_kind)] vs) (k : ∀ H', Fin K X H [] [] (.imm (.bool r)) (.bl r) H' → Q (.bl r) H') : sp__law_alone_NoText K C (.ref C) none a vs H Q E := ⟨X, a__law_kind, r, rfl, rfl, hm, c, k⟩
abbrev n__law_alone : List Str := ["_law_e", "_law_kind", "_law_kinds", "_law_k"]
theorem sc__law_alone : FnScope n__law_alone ["_law_e", "_law_kind"] (defScope s__law_alone) := ⟨rfl, rfl, rfl, by decide +kernel, rfl, by decide +kernel, by decide +kernel⟩
theorem ok__law_alone_NoText (T : Txt K mg) {a : Addr} {oe : Obj} {cls : Value} {d : Option Addr} (hz : Zc cls d oe) (hf : ∃ vs, oe.data = .fields vs) : FnE (a, oe) P w K mg base CX0 1 T.A__law_alone T.D__law_alone ["_law_e", "_law_kind"] (sp__law_alone_NoText K T.C_NoText cls d a) := by
  refine Fun_okE T.F__law_alone sc__law_alone (fun vs H Q E h => ?_) (fun cdv A outer s H vs Q E hot hr h => ?_)
  · obtain ⟨X, a__law_kind, r, hcl, hdd, hm, c, kont⟩ := h
    exact c.len
  · obtain ⟨X, a__law_kind, r, hcl, hdd, hm, c, kont⟩ := h
    subst hcl hdd
    refine ⟨_, (pss_cons (ps_set (i := 2) sc__law_alone.nd rfl (Or.inl rfl) (pe_lst (pa_cons (pe_callB (r := rIsG K (.ref T.C_NoText) none a) (call_isGP List.mem_cons_self hz hf) (by rfl) T.z_isinstance (by decide +kernel) (pa_cons (pv 0) (pa_cons (pe_glob (v := .ref T.C_NoCloth) rfl T.gC_NoCloth rfl) pa_nil))) (pa_cons (pe_callB (r := rIsG K (.ref T.C_NoText) none a) (call_isGP List.mem_cons_self hz hf) (by rfl) T.z_isinstance (by decide +kernel) (pa_cons (pv 0) (pa_cons (pe_glob (v := .ref T.C_NoMove) rfl T.gC_NoMove rfl) pa_nil))) (pa_cons (pe_callB (r := rIsG K (.ref T.C_NoText) none a) (call_isGP List.mem_cons_self hz hf) (by rfl) T.z_isinstance (by decide +kernel) (pa_cons (pv 0) (pa_cons (pe_glob (v := .ref T.C_NoName) rfl T.gC_NoName rfl) pa_nil))) (pa_cons (pe_callB (r := rIsG K (.ref T.C_NoText) none a) (call_isGP List.mem_cons_self hz hf) (by rfl) T.z_isinstance (by decide +kernel) (pa_cons (pv 0) (pa_cons (pe_glob (v := .ref T.C_NoPlan) rfl T.gC_NoPlan rfl) pa_nil))) pa_nil))))))
      (pss_cons (ps_set (i := 2) sc__law_alone.nd rfl (Or.inl rfl) (pe_op op_catR (pv 2) (pe_lst (pa_cons (pe_callB (r := rIsG K (.ref T.C_NoText) none a) (call_isGP List.mem_cons_self hz hf) (by rfl) T.z_isinstance (by decide +kernel) (pa_cons (pv 0) (pa_cons (pe_glob (v := .ref T.C_NoPoint) rfl T.gC_NoPoint rfl) pa_nil))) (pa_cons (pe_callB (r := rIsG K (.ref T.C_NoText) none a) (call_isGP List.mem_cons_self hz hf) (by rfl) T.z_isinstance (by decide +kernel) (pa_cons (pv 0) (pa_cons (pe_glob (v := .ref T.C_NoRatio) rfl T.gC_NoRatio rfl) pa_nil))) (pa_cons (pe_callB (r := rIsG K (.ref T.C_NoText) none a) (call_isGP List.mem_cons_self hz hf) (by rfl) T.z_isinstance (by decide +kernel) (pa_cons (pv 0) (pa_cons (pe_glob (v := .ref T.C_NoRow) rfl T.gC_NoRow rfl) pa_nil))) (pa_cons (pe_callB (r := rIsG K (.ref T.C_NoText) none a) (call_isGP List.mem_cons_self hz hf) (by rfl) T.z_isinstance (by decide +kernel) (pa_cons (pv 0) (pa_cons (pe_glob (v := .ref T.C_NoText) rfl T.gC_NoText rfl) pa_nil))) pa_nil)))))))
      (pss_one (ps_ret (pe_and (pe_callB (r := rIsG K (.ref T.C_NoText) none a) (call_isGP List.mem_cons_self hz hf) (by rfl) T.z_isinstance (by decide +kernel) (pa_cons (pv 0) (pa_cons (pe_bltn (v := .ty "ValueError") (u := .type "ValueError") (by rfl) T.z_ValueError (by decide +kernel) rfl) pa_nil))) (pe_one (pe_cmpR (r := rEqD K) (op_eqD hr.units) (pv 2) (pe_lcH (own := [("_law_k", 3)]) (g := gName 3) (tt := tYes) ⟨(a, oe), ⟨hot.1, hot.2⟩, List.mem_cons_self⟩ sc__law_alone.nd (L2H.pi_range1H (by rfl) T.z_range (pa_cons pe_int pa_nil)) (blkOk_by (N := n__law_alone) (sc := defScope s__law_alone) (by decide +kernel)) (fun _ _ _ _ _ => (pg_name (i := 3) sc__law_alone.nd rfl (Or.inl rfl))) (fun _ _ _ _ _ => pts_nil) (fun _ _ _ _ _ => (pe_cmpR op_eq (pv 1) (pv 3) (nomark _)))) (nomark _)))))))), ?_⟩
    have L0 : Lo ⟨K, X, H, muts [.ref a, .imm (.int a__law_kind)], n__law_alone.length⟩ X H (L2.start n__law_alone vs) [.ref a, .imm (.int a__law_kind), .unk, .unk] := c.start n__law_alone (show (2 : Nat) ≤ 4 by decide)
    unfold m__law_alone_NoText at hm
    refine x_seq (x_asg (x_lst (x_cons (x_cb (x_cons (x_vr L0 rfl (x_cons (x_c (x_nil (x_isG (C2 := T.C_NoCloth) T.E_NoText T.io_NoText_NoCloth (x_cons (x_cb (x_cons (x_vr L0 rfl (x_cons (x_c (x_nil (x_isG (C2 := T.C_NoMove) T.E_NoText T.io_NoText_NoMove (x_cons (x_cb (x_cons (x_vr L0 rfl (x_cons (x_c (x_nil (x_isG (C2 := T.C_NoName) T.E_NoText T.io_NoText_NoName (x_cons (x_cb (x_cons (x_vr L0 rfl (x_cons (x_c (x_nil (x_isG (C2 := T.C_NoPlan) T.E_NoText T.io_NoText_NoPlan (x_nil (x_mkL L0 (.cons (.bl _) (.cons (.bl _) (.cons (.bl _) (.cons (.bl _) .nil)))) (show (4 : Nat) ≤ 16777216 by decide) fun v1 _ L1 le1 r1 => have r2 : Rep _ _ _ (enc ([false, false, false, false] : (List Bool))) v1 := r1; x_bset (x0 := [false, false, false, false]) (d := fun kinds_1 => (enc (kinds_1 : (List Bool)))) (Γf := fun kinds_1 => [.ref a, .imm (.int a__law_kind), .imm (enc (kinds_1 : (List Bool))), .unk]) hm L1 r2 (show (2 : Nat) < 4 by decide) (fun _ => rfl) fun kinds_1 _ hm1 L2 => ?_))))))))))))))))))))))))))))))))))))
    refine x_seq (x_asg (x_op (x_vd (d := (enc (kinds_1 : (List Bool)))) L2 rfl fun v2 r3 => x_lst (x_cons (x_cb (x_cons (x_vr L2 rfl (x_cons (x_c (x_nil (x_isG (C2 := T.C_NoPoint) T.E_NoText T.io_NoText_NoPoint (x_cons (x_cb (x_cons (x_vr L2 rfl (x_cons (x_c (x_nil (x_isG (C2 := T.C_NoRatio) T.E_NoText T.io_NoText_NoRatio (x_cons (x_cb (x_cons (x_vr L2 rfl (x_cons (x_c (x_nil (x_isG (C2 := T.C_NoRow) T.E_NoText T.io_NoText_NoRow (x_cons (x_cb (x_cons (x_vr L2 rfl (x_cons (x_c (x_nil (x_isG (C2 := T.C_NoText) T.E_NoText T.io_NoText_NoText (x_nil (x_mkL L2 (.cons (.bl _) (.cons (.bl _) (.cons (.bl _) (.cons (.bl _) .nil)))) (show (4 : Nat) ≤ 16777216 by decide) fun v3 _ L3 le2 r4 => have r5 := le2 _ _ r3; have r6 : Rep _ _ _ (enc ([false, false, false, true] : (List Bool))) v3 := r4; x_cat L3 hm1 r5 r6 fun v4 _ hm2 L4 le3 r7 => have r8 : Rep _ _ _ (enc ((kinds_1 ++ [false, false, false, true]) : (List Bool))) v4 := r7; x_bset (x0 := (kinds_1 ++ [false, false, false, true])) (d := fun kinds_2 => (enc (kinds_2 : (List Bool)))) (Γf := fun kinds_2 => [.ref a, .imm (.int a__law_kind), .imm (enc (kinds_2 : (List Bool))), .unk]) hm2 L4 r8 (show (2 : Nat) < 4 by decide) (fun _ => rfl) fun kinds_2 _ hm3 L5 => ?_)))))))))))))))))))))))))))))))))))))
    exact x_ret (x_andV (x_cb (x_cons (x_vr L5 rfl (x_cons (x_c (x_nil (x_isGB (T := "ValueError") T.E_NoText T.io_NoText_ValueError (x_kb (x_andVB L5 hm3 (fun _ hm6 _ hq => x_op (x_vd (d := (enc (kinds_2 : (List Bool)))) L5 rfl fun v6 r14 => x_lcr1 (x_cons (x_c (x_nil (x_r1c (n := 8) (by decide) (obE hm6 fun ys2 hy3 hm7 => x_lcR (G := (fun (s3 : Unit) => [.ref a, .imm (.int a__law_kind), .imm (enc (kinds_2 : (List Bool))), .unk])) (s0 := ()) L5 (fun _ _ => rfl) (mapO_comp hy3) (show (8 : Nat) ≤ 16777216 by decide) (fun x2 s3 _ H2 _ u2 _ _ _ hF2 L10 r15 hn2 hy4 => obE hF2 fun y2 hm8 he2 => x_cName (d := (.int x2)) (Γ' := [.ref a, .imm (.int a__law_kind), .imm (enc (kinds_2 : (List Bool))), .imm (.int x2)]) L10 r15 (show (3 : Nat) < 4 by decide) rfl fun _ L11 => x_yes (x_op (x_vI (x := a__law_kind) L11 rfl (x_vI (x := x2) L11 rfl (x_eqi (x_cy (G := (fun (s3 : Unit) => [.ref a, .imm (.int a__law_kind), .imm (enc (kinds_2 : (List Bool))), .unk])) (s := s3) (s' := ()) (y := (decide (a__law_kind = x2))) (by cases hm8; cases he2; rfl) hy4 L10 L11 (.i rfl (.i rfl (.i rfl (.i rfl .e)))) (.bl _))))))) fun p2 _ L12 le5 r16 => have r17 := le5 _ _ r14; have L13 : Lo _ _ _ _ [.ref a, .imm (.int a__law_kind), .imm (enc (kinds_2 : (List Bool))), .unk] := L12; have r18 : Rep _ _ _ (enc (ys2 : (List Bool))) (.ref p2) := r16; x_eqd (x := kinds_2) (y := ys2) r17.dp r18.dp (by decide) (x_lfV hm7 hq L13)))))))) fun w1 _ hm9 L14 => x_finB (Q := Q) (ps := (fun (r : Bool) => [])) (sc := fun (r : Bool) => r) w1 hm9 kont (L14.fin hp0 (.bl _))))))))))))
abbrev sp__law_point (K : PySem.W.Frag) : Sp := fun vs H Q _ => ∃ (X : Addr → Prop)  (a__law_a : Int) (a__law_b : Int) (a__law_n : Int) (r : (T3 Int Int Int)), m__law_point a__law_a a__law_b a__law_n = some r ∧ Cond K X H [.imm (.int a__law_a), .imm (.int a__law_b), .imm (.int a__law_n)] vs ∧ ∀ v H', Fin K X H [] [] (.imm (enc (r : (T3 Int Int Int)))) v H' → Q v H'
theorem mk__law_point {K : PySem.W.Frag} {X : Addr → Prop} {H : Hp} {vs : List V} {Q : VK} {E : XK}  {a__law_a : Int} {a__law_b : Int} {a__law_n : Int} {r : (T3 Int Int Int)} (hm : m__law_point a__law_a a__law_b a__law_n = some r) (c : Cond K X H [.imm (.int a__law_a), .imm (.int a__law_b), .imm (.int a__law_n)] vs) (k : ∀ v H', Fin K X H [] [] (.imm (enc (r : (T3 Int Int Int)))) v H' → Q v H') : sp__law_point K vs H Q E := ⟨X, a__law_a, a__law_b, a__law_n, r, hm, c, k⟩
abbrev n__law_point : List Str := ["_law_a", "_law_b", "_law_n", "_law_both"]
theorem sc__law_point : FnScope n__law_point ["_law_a", "_law_b", "_law_n"] (defScope s__law_point) := ⟨rfl, rfl, rfl, by decide +kernel, rfl, by decide +kernel, by decide +kernel⟩
theorem ok__law_point (T : Txt K mg) : FnOk P w K mg base CX0 2 T.A__law_point T.D__law_point ["_law_a", "_law_b", "_law_n"] (sp__law_point K) := by
  refine Fun.ok T.F__law_point sc__law_point (fun vs H Q E h => ?_) (fun cdv A outer s H vs Q E hr h => ?_)
  · obtain ⟨X, a__law_a, a__law_b, a__law_n, r, hm, c, kont⟩ := h
    exact c.len
  · obtain ⟨X, a__law_a, a__law_b, a__law_n, r, hm, c, kont⟩ := h
    refine ⟨_, (pss_cons (ps_set (i := 3) sc__law_point.nd rfl (Or.inl rfl) (pe_call (ok__law_gcd T) hr (by rfl) T.g__law_gcd T.F__law_gcd.kp T.b__law_gcd .nil pass0 (pa_cons (pe_call (ok__law_gcd T) hr (by rfl) T.g__law_gcd T.F__law_gcd.kp T.b__law_gcd .nil pass0 (pa_cons (pv 0) (pa_cons (pv 2) pa_nil))) (pa_cons (pv 1) pa_nil))))
      (pss_cons (ps_if (pt_cmpR op_lt (pv 2) pe_int (nomark _)) (pss_one (ps_set (i := 3) sc__law_point.nd rfl (Or.inl rfl) (pe_un un_neg (pv 3)))) pss_nil)
      (pss_one (ps_ret (pe_tup (pa_cons (pe_op op_divG (pv 0) (pv 3)) (pa_cons (pe_op op_divG (pv 1) (pv 3)) (pa_cons (pe_op op_divG (pv 2) (pv 3)) pa_nil)))))))), ?_⟩
    have L0 : Lo ⟨K, X, H, muts [.imm (.int a__law_a), .imm (.int a__law_b), .imm (.int a__law_n)], n__law_point.length⟩ X H (L2.start n__law_point vs) [.imm (.int a__law_a), .imm (.int a__law_b), .imm (.int a__law_n), .unk] := c.start n__law_point (show (3 : Nat) ≤ 4 by decide)
    unfold m__law_point at hm
    refine x_seq (x_asg (x_call (x_cons (x_call (x_cons (x_vI (x := a__law_a) L0 rfl (x_cons (x_vI (x := a__law_n) L0 rfl (x_nil (obE hm fun z1 hz1 hm1 => mk__law_gcd hz1 (L0.cond0 (.im (.int _) (.im (.int _) .nil)) rfl) fun _ F1 => k0 L0 F1 fun L1 le1 => x_cons (x_vI (x := a__law_b) L1 rfl (x_nil (obE hm1 fun z2 hz2 hm2 => mk__law_gcd hz2 (L1.cond0 (.im (.int _) (.im (.int _) .nil)) rfl) fun _ F2 => k0 L1 F2 fun L2 le2 => x_set (d := (.int z2)) (Γ' := [.imm (.int a__law_a), .imm (.int a__law_b), .imm (.int a__law_n), .imm (.int z2)]) L2 (.int _) (show (3 : Nat) < 4 by decide) rfl fun _ L3 => ?_)))))))))))))
    refine x_seq (x_ifS (x_test (x_op (x_vI (x := a__law_n) L3 rfl (x_c (x_r0 (x_kb (x_join (G := (fun (s1 : Int) => [.imm (.int a__law_a), .imm (.int a__law_b), .imm (.int a__law_n), .imm (.int s1)])) L3 hm2 (fun _ hm3 _ hN1 => ?_) (fun _ hm3 _ hN1 => ?_) fun s1 X1 _ _ hm4 L4 => ?_))))))))
    · refine x_asg (x_un (x_vI (x := z2) L3 rfl (x_u (x_bset (x0 := (-z2)) (d := fun both_1 => (.int both_1)) (Γf := fun both_1 => [.imm (.int a__law_a), .imm (.int a__law_b), .imm (.int a__law_n), .imm (.int both_1)]) hm3 L3 (.int _) (show (3 : Nat) < 4 by decide) (fun _ => rfl) fun both_1 _ hm5 L5 => ?_))))
      exact x_leaf (G := (fun (s1 : Int) => [.imm (.int a__law_a), .imm (.int a__law_b), .imm (.int a__law_n), .imm (.int s1)])) (e := both_1) hm5 hN1 (L5.weak (Γ' := [.imm (.int a__law_a), .imm (.int a__law_b), .imm (.int a__law_n), .imm (.int both_1)]) (.k (.k (.k (.k .e)))))
    · refine x_next ?_
      exact x_leaf (G := (fun (s1 : Int) => [.imm (.int a__law_a), .imm (.int a__law_b), .imm (.int a__law_n), .imm (.int s1)])) (e := z2) hm3 hN1 (L3.weak (Γ' := [.imm (.int a__law_a), .imm (.int a__law_b), .imm (.int a__law_n), .imm (.int z2)]) (.k (.k (.k (.k .e)))))
    exact x_ret (x_tup (x_cons (x_op (x_vI (x := a__law_a) L4 rfl (x_vI (x := s1) L4 rfl (x_div hm4 fun z3 _ hm6 => x_cons (x_op (x_vI (x := a__law_b) L4 rfl (x_vI (x := s1) L4 rfl (x_div hm6 fun z4 _ hm7 => x_cons (x_op (x_vI (x := a__law_n) L4 rfl (x_vI (x := s1) L4 rfl (x_div hm7 fun z5 _ hm8 => x_nil (x_mkT L4 (.cons (.int _) (.cons (.int _) (.cons (.int _) .nil))) (show (3 : Nat) ≤ 16777216 by decide) fun v3 _ L6 le3 r1 => have r2 : Rep _ _ _ (enc ((T3.mk z3 z4 z5) : (T3 Int Int Int))) v3 := r1; x_fin (Q := Q) (ps := (fun (r : (T3 Int Int Int)) => [])) (rs := (fun (r : (T3 Int Int Int)) => (.imm (enc (r : (T3 Int Int Int)))))) (e := (T3.mk z3 z4 z5)) hm8 kont (L6.fin hp0 r2))))))))))))))))
abbrev sp__law_right (K : PySem.W.Frag) : Sp := fun vs H Q _ => ∃ (X : Addr → Prop)  (a__law_text_here : Str) (r : Bool), m__law_right a__law_text_here = some r ∧ Cond K X H [.imm (.str a__law_text_here)] vs ∧ ∀ H', Fin K X H [] [] (.imm (.bool r)) (.bl r) H' → Q (.bl r) H'
theorem mk__law_right {K : PySem.W.Frag} {X : Addr → Prop} {H : Hp} {vs : List V} {Q : VK} {E : XK}  {a__law_text_here : Str} {r : Bool} (hm : m__law_right a__law_text_here = some r) (c : Cond K X H [.imm (.str a__law_text_here)] vs) (k : ∀ H', Fin K X H [] [] (.imm (.bool r)) (.bl r) H' → Q (.bl r) H') : sp__law_right K vs H Q E := ⟨X, a__law_text_here, r, hm, c, k⟩
abbrev n__law_right : List Str := ["_law_text_here", "_law_due", "_law_found", "_law_e", "_law_one", "_law_two"]
theorem sc__law_right : FnScope n__law_right ["_law_text_here"] (defScope s__law_right) := ⟨rfl, rfl, rfl, by decide +kernel, rfl, by decide +kernel, by decide +kernel⟩
theorem ok__law_right (T : Txt K mg) : FnOk P w K mg base CX0 5 T.A__law_right T.D__law_right ["_law_text_here"] (sp__law_right K) := by
  refine Fun.ok T.F__law_right sc__law_right (fun vs H Q E h => ?_) (fun cdv A outer s H vs Q E hr h => ?_)
  · obtain ⟨X, a__law_text_here, r, hm, c, kont⟩ := h
    exact c.len
  · obtain ⟨X, a__law_text_here, r, hm, c, kont⟩ := h
    refine ⟨_, (pss_cons (ps_set (i := 1) sc__law_right.nd rfl (Or.inl rfl) (pe_call (ok__law_point_in T) (hr.mono (by decide)) (by rfl) T.g__law_point_in T.F__law_point_in.kp T.b__law_point_in .nil pass0 (pa_cons (pv 0) pa_nil)))
      (pss_cons (L2N.ps_try_as (i := 3) rfl rfl sc__law_right.nd rfl rfl ⟨rfl, by decide, .inl T.gC_CutError⟩ takes0N (fun W pn xe tk _ => (pss_one (ps_set (i := 2) sc__law_right.nd rfl (Or.inl rfl) (pe_callS (fn_orC (ok_read_point_x T) (ok_read_point T)) hr (by rfl) T.g_read_point T.F_read_point.kp T.b_read_point (fun σ => L2N.passAt tk σ) (pa_cons (pv 0) pa_nil))))) (fun a oe cls d pn hz hf => (pss_one (ps_ret (pe_and (pe_cmpR op_isNX (pv 1) pe_non (nomark _)) (pe_one (pe_callE (p := (a, oe)) (E := fun _ => E0) (ok__law_alone_NoText T hz.zc hf) (roomSH (hr.mono (by decide))) (hot1_of hz hf) List.mem_cons_self (by rfl) T.g__law_alone T.F__law_alone.kp T.b__law_alone (fun _ _ _ _ _ _ _ h => h.elim) (pa_cons (pv 3) (pa_cons pe_int pa_nil)))))))))
      (pss_cons (ps_if (pt_cmpR op_isNX (pv 1) pe_non (nomark _)) (pss_one (ps_ret pe_bl)) pss_nil)
      (pss_cons (ps_asg (pv 1) (pg_tup rfl (pgs_cons (pg_name (i := 4) sc__law_right.nd rfl (Or.inl rfl)) (pgs_cons (pg_name (i := 5) sc__law_right.nd rfl (Or.inl rfl)) pgs_nil))))
      (pss_one (ps_ret (pe_cmpR (r := rEqD K) (op_eqD hr.units) (pv 2) (pe_call (ok__law_point T) (hr.mono (by decide)) (by rfl) T.g__law_point T.F__law_point.kp T.b__law_point .nil pass0 (pa_cons (pe_op op_mulW (pe_ix (r := rIxT K) ix_tup (pv 4) pe_int (fun _ _ => rfl)) (pe_ix (r := rIxT K) ix_tup (pv 5) pe_int (fun _ _ => rfl))) (pa_cons (pe_op op_mulW (pe_ix (r := rIxT K) ix_tup (pv 5) pe_int (fun _ _ => rfl)) (pe_ix (r := rIxT K) ix_tup (pv 4) pe_int (fun _ _ => rfl))) (pa_cons (pe_op op_mulW (pe_ix (r := rIxT K) ix_tup (pv 4) pe_int (fun _ _ => rfl)) (pe_ix (r := rIxT K) ix_tup (pv 5) pe_int (fun _ _ => rfl))) pa_nil)))) (nomark _)))))))), ?_⟩
    have L0 : Lo ⟨K, X, H, muts [.imm (.str a__law_text_here)], n__law_right.length⟩ X H (L2.start n__law_right vs) [.imm (.str a__law_text_here), .unk, .unk, .unk, .unk, .unk] := c.start n__law_right (show (1 : Nat) ≤ 6 by decide)
    unfold m__law_right at hm
    refine x_seq (x_asg (x_call (x_cons (x_vS (x := a__law_text_here) L0 rfl (x_nil (obE hm fun z1 hz1 hm1 => mk__law_point_in hz1 (L0.cond0 (.im (.str _) .nil) rfl) fun v1 _ F1 => k0d L0 F1 fun L1 le1 r1 => x_set (d := (enc (z1 : (Option (T2 (T2 Int Int) (T2 Int Int)))))) (Γ' := [.imm (.str a__law_text_here), .imm (enc (z1 : (Option (T2 (T2 Int Int) (T2 Int Int))))), .unk, .unk, .unk, .unk]) L1 r1 (show (1 : Nat) < 6 by decide) rfl fun _ L2 => ?_))))))
    refine x_seq (x_asg (x_callS (x_cons (x_vS (x := a__law_text_here) L2 rfl (x_nil (x_either (m := m_read_point_x a__law_text_here) hm1 (fun hx1 hm2 => ?_) fun hm2 => ?_))))))
    · refine mk_read_point_x hx1 (L2.cond0 (.im (.str _) .nil) rfl) fun _ sm1 => ?_
      have L3 := L2.same sm1
      refine x_catch T.em_NoText_CutError fun a1 _ => ?_
      have L4 : Lo _ _ _ _ [.imm (.str a__law_text_here), .imm (enc (z1 : (Option (T2 (T2 Int Int) (T2 Int Int))))), .unk, .ref a1, .unk, .unk] := L3.setS (i := 3) (v := some (.ref a1)) (s := .ref a1) rfl rfl (show (3 : Nat) < 6 by decide)
      exact x_ret (x_andV (x_op (x_vd (d := (enc (z1 : (Option (T2 (T2 Int Int) (T2 Int Int)))))) L4 rfl fun v2 r2 => x_c (x_isNO (o := z1) r2 (x_kb (x_andVB L4 hm2 (fun _ hm4 _ hq => x_callS (x_cons (x_vr L4 rfl (x_cons (x_c (x_nil (obE hm4 fun z3 hz3 hm5 => mk__law_alone_NoText hz3 (L4.cond0 (As.rf (.im (.int _) .nil)) rfl) fun _ F3 => k0 L4 F3 fun L6 le3 => x_lfV hm5 hq L6))))))) fun w1 _ hm6 L7 => x_finB (Q := Q) (ps := (fun (r : Bool) => [])) (sc := fun (r : Bool) => r) w1 hm6 kont (L7.fin hp0 (.bl _))))))))
    refine obE hm2 fun z4 hz4 hm7 => mk_read_point hz4 (L2.cond0 (.im (.str _) .nil) rfl) fun v3 _ F4 => k0d L2 F4 fun L8 le4 r3 => x_set (d := (enc (z4 : (T3 Int Int Int)))) (Γ' := [.imm (.str a__law_text_here), .imm (enc (z1 : (Option (T2 (T2 Int Int) (T2 Int Int))))), .imm (enc (z4 : (T3 Int Int Int))), .unk, .unk, .unk]) L8 r3 (show (2 : Nat) < 6 by decide) rfl fun _ L9 => ?_
    refine x_seq (x_ifS (x_test (x_op (x_vd (d := (enc (z1 : (Option (T2 (T2 Int Int) (T2 Int Int)))))) L9 rfl fun v4 r4 => x_c (x_isNO (o := z1) r4 (x_kb (x_if hm7 (fun hm8 => ?_) fun hm8 => ?_)))))))
    · exact x_ret (x_c (x_finB (Q := Q) (ps := (fun (r : Bool) => [])) (sc := fun (r : Bool) => r) false hm8 kont (L9.fin hp0 (.bl _))))
    · refine obE hm8 fun due_1 ho1 hm9 => ?_
      have L10 : Lo _ _ _ _ [.imm (.str a__law_text_here), .imm (enc (due_1 : (T2 (T2 Int Int) (T2 Int Int)))), .imm (enc (z4 : (T3 Int Int Int))), .unk, .unk, .unk] := L9.someS (i := 1) rfl ho1 rfl
      refine x_next ?_
      refine x_seq (x_asg (x_vd (d := (enc (due_1 : (T2 (T2 Int Int) (T2 Int Int))))) L10 rfl fun v5 r5 => x_gTup r5 rfl fun vs1 rs1 => x_gCons rs1 fun v6 _ r6 rs2 => x_set (d := (enc (due_1.a : (T2 Int Int)))) (Γ' := [.imm (.str a__law_text_here), .imm (enc (due_1 : (T2 (T2 Int Int) (T2 Int Int)))), .imm (enc (z4 : (T3 Int Int Int))), .unk, .imm (enc (due_1.a : (T2 Int Int))), .unk]) L10 r6 (show (4 : Nat) < 6 by decide) rfl fun _ L11 => x_gCons rs2 fun v7 _ r7 rs3 => x_set (d := (enc (due_1.b : (T2 Int Int)))) (Γ' := [.imm (.str a__law_text_here), .imm (enc (due_1 : (T2 (T2 Int Int) (T2 Int Int)))), .imm (enc (z4 : (T3 Int Int Int))), .unk, .imm (enc (due_1.a : (T2 Int Int))), .imm (enc (due_1.b : (T2 Int Int)))]) L11 r7 (show (5 : Nat) < 6 by decide) rfl fun _ L12 => x_gNil rs3 (?_)))
      exact x_ret (x_op (x_vd (d := (enc (z4 : (T3 Int Int Int)))) L12 rfl fun v8 r8 => x_call (x_cons (x_op (x_op (x_vd (d := (enc (due_1.a : (T2 Int Int)))) L12 rfl fun v9 r9 => x_c (x_ixTI (x := due_1.a.a) r9 rfl (x_op (x_vd (d := (enc (due_1.b : (T2 Int Int)))) L12 rfl fun v10 r10 => x_c (x_ixTI (x := due_1.b.b) r10 rfl (x_mul hm9 fun z5 _ hm10 => x_cons (x_op (x_op (x_vd (d := (enc (due_1.b : (T2 Int Int)))) L12 rfl fun v11 r11 => x_c (x_ixTI (x := due_1.b.a) r11 rfl (x_op (x_vd (d := (enc (due_1.a : (T2 Int Int)))) L12 rfl fun v12 r12 => x_c (x_ixTI (x := due_1.a.b) r12 rfl (x_mul hm10 fun z6 _ hm11 => x_cons (x_op (x_op (x_vd (d := (enc (due_1.a : (T2 Int Int)))) L12 rfl fun v13 r13 => x_c (x_ixTI (x := due_1.a.b) r13 rfl (x_op (x_vd (d := (enc (due_1.b : (T2 Int Int)))) L12 rfl fun v14 r14 => x_c (x_ixTI (x := due_1.b.b) r14 rfl (x_mul hm11 fun z7 _ hm12 => x_nil (obE hm12 fun z8 hz5 hm13 => mk__law_point hz5 (L12.cond0 (.im (.int _) (.im (.int _) (.im (.int _) .nil))) rfl) fun v15 _ F5 => k0d L12 F5 fun L13 le5 r15 => have r16 := le5 _ _ r8; x_eqd (x := z4) (y := z8) r16.dp r15.dp (by decide) (x_finB (Q := Q) (ps := (fun (r : Bool) => [])) (sc := fun (r : Bool) => r) ((decide (z4 = z8))) hm13 kont (L13.fin hp0 (.bl _)))))))))))))))))))))))))))))))
abbrev sp__law_sign_spoiled (K : PySem.W.Frag) : Sp := fun vs H Q _ => ∃ (X : Addr → Prop) (p__law_bag_here : Addr) (a__law_bag_here : (List Int)) (a__law_text_here : Str) (r : (Str × (List Int))), m__law_sign_spoiled a__law_bag_here a__law_text_here = some r ∧ Cond K X H [.mu p__law_bag_here (ml (a__law_bag_here : (List Int))), .imm (.str a__law_text_here)] vs ∧ ∀ H', Fin K X H [p__law_bag_here] [(p__law_bag_here, (ml (r.2 : (List Int))))] (.imm (.str r.1)) (.str r.1) H' → Q (.str r.1) H'
theorem mk__law_sign_spoiled {K : PySem.W.Frag} {X : Addr → Prop} {H : Hp} {vs : List V} {Q : VK} {E : XK} {p__law_bag_here : Addr} {a__law_bag_here : (List Int)} {a__law_text_here : Str} {r : (Str × (List Int))} (hm : m__law_sign_spoiled a__law_bag_here a__law_text_here = some r) (c : Cond K X H [.mu p__law_bag_here (ml (a__law_bag_here : (List Int))), .imm (.str a__law_text_here)] vs) (k : ∀ H', Fin K X H [p__law_bag_here] [(p__law_bag_here, (ml (r.2 : (List Int))))] (.imm (.str r.1)) (.str r.1) H' → Q (.str r.1) H') : sp__law_sign_spoiled K vs H Q E := ⟨X, p__law_bag_here, a__law_bag_here, a__law_text_here, r, hm, c, k⟩
abbrev n__law_sign_spoiled : List Str := ["_law_bag_here", "_law_text_here", "_law_spot", "_law_sign", "_law_way"]
theorem sc__law_sign_spoiled : FnScope n__law_sign_spoiled ["_law_bag_here", "_law_text_here"] (defScope s__law_sign_spoiled) := ⟨rfl, rfl, rfl, by decide +kernel, rfl, by decide +kernel, by decide +kernel⟩
theorem ok__law_sign_spoiled (T : Txt K mg) : FnOk P w K mg base CX0 2 T.A__law_sign_spoiled T.D__law_sign_spoiled ["_law_bag_here", "_law_text_here"] (sp__law_sign_spoiled K) := by
  refine Fun.ok T.F__law_sign_spoiled sc__law_sign_spoiled (fun vs H Q E h => ?_) (fun cdv A outer s H vs Q E hr h => ?_)
  · obtain ⟨X, p__law_bag_here, a__law_bag_here, a__law_text_here, r, hm, c, kont⟩ := h
    exact c.len
  · obtain ⟨X, p__law_bag_here, a__law_bag_here, a__law_text_here, r, hm, c, kont⟩ := h
    refine ⟨_, (pss_cons (ps_set (i := 2) sc__law_sign_spoiled.nd rfl (Or.inl rfl) (pe_call (ok__law_draw T) hr (by rfl) T.g__law_draw T.F__law_draw.kp T.b__law_draw .nil pass0 (pa_cons (pv 0) (pa_cons (pe_op op_add (pe_callB (r := rLenStr K) call_lenStr (by rfl) T.z_len (by decide +kernel) (pa_cons (pv 1) pa_nil)) pe_int) pa_nil))))
      (pss_cons (ps_set (i := 3) sc__law_sign_spoiled.nd rfl (Or.inl rfl) (pe_ix (r := rIxS) ix_str pe_str (pe_call (ok__law_draw T) hr (by rfl) T.g__law_draw T.F__law_draw.kp T.b__law_draw .nil pass0 (pa_cons (pv 0) (pa_cons pe_int pa_nil))) (fun _ _ => rfl)))
      (pss_cons (ps_set (i := 4) sc__law_sign_spoiled.nd rfl (Or.inl rfl) (pe_call (ok__law_draw T) hr (by rfl) T.g__law_draw T.F__law_draw.kp T.b__law_draw .nil pass0 (pa_cons (pv 0) (pa_cons pe_int pa_nil))))
      (pss_cons (ps_if (pt_cmpR op_eq (pv 4) pe_int (nomark _)) (pss_one (ps_ret (pe_op op_addSX (pe_slice (r := rSlS) sl_str (pv 1) po_none (po_some (pv 2))) (pe_slice (r := rSlS) sl_str (pv 1) (po_some (pe_op op_add (pv 2) pe_int)) po_none)))) pss_nil)
      (pss_cons (ps_if (pt_cmpR op_eq (pv 4) pe_int (nomark _)) (pss_one (ps_ret (pe_op op_addSX (pe_op op_addSX (pe_slice (r := rSlS) sl_str (pv 1) po_none (po_some (pv 2))) (pv 3)) (pe_slice (r := rSlS) sl_str (pv 1) (po_some (pe_op op_add (pv 2) pe_int)) po_none)))) pss_nil)
      (pss_cons (ps_if (pt_cmpR op_eq (pv 4) pe_int (nomark _)) (pss_one (ps_ret (pe_op op_addSX (pe_op op_addSX (pe_slice (r := rSlS) sl_str (pv 1) po_none (po_some (pv 2))) (pv 3)) (pe_slice (r := rSlS) sl_str (pv 1) (po_some (pv 2)) po_none)))) pss_nil)
      (pss_one (ps_ret (pv 1))))))))), ?_⟩
    have L0 : Lo ⟨K, X, H, muts [.mu p__law_bag_here (ml (a__law_bag_here : (List Int))), .imm (.str a__law_text_here)], n__law_sign_spoiled.length⟩ X H (L2.start n__law_sign_spoiled vs) [.mu p__law_bag_here (ml (a__law_bag_here : (List Int))), .imm (.str a__law_text_here), .unk, .unk, .unk] := c.start n__law_sign_spoiled (show (2 : Nat) ≤ 5 by decide)
    unfold m__law_sign_spoiled at hm
    refine x_seq (x_asg (x_call (x_cons (x_vm L0 rfl (x_cons (x_op (x_cb (x_cons (x_vS (x := a__law_text_here) L0 rfl (x_nil (x_lenStr (z := a__law_text_here) hm fun hm1 => x_c (x_r0 (x_nil (obE hm1 fun z1 hz1 hm2 => mk__law_draw hz1 (L0.cond1 (i := 0) (.m (L0.mrep (i := 0) rfl) (.im (.int _) .nil)) rfl rfl rfl) fun _ F1 => k1 L0 F1 (i := 0) (Γ' := [.mu p__law_bag_here (ml (z1.2 : (List Int))), .imm (.str a__law_text_here), .unk, .unk, .unk]) rfl rfl rfl fun L1 le1 => x_set (d := (.int z1.1)) (Γ' := [.mu p__law_bag_here (ml (z1.2 : (List Int))), .imm (.str a__law_text_here), .imm (.int z1.1), .unk, .unk]) L1 (.int _) (show (2 : Nat) < 5 by decide) rfl fun _ L2 => ?_))))))))))))))
    refine x_seq (x_asg (x_op (x_c (x_call (x_cons (x_vm L2 rfl (x_cons (x_c (x_nil (obE hm2 fun z2 hz2 hm3 => mk__law_draw hz2 (L2.cond1 (i := 0) (.m (L2.mrep (i := 0) rfl) (.im (.int _) .nil)) rfl rfl rfl) fun _ F2 => k1 L2 F2 (i := 0) (Γ' := [.mu p__law_bag_here (ml (z2.2 : (List Int))), .imm (.str a__law_text_here), .imm (.int z1.1), .unk, .unk]) rfl rfl rfl fun L3 le2 => x_ixStr (z := ("0123456789-/,; .+eE_xn" : Str)) (i := z2.1) hm3 fun x1 hm4 => x_set (d := (.str x1)) (Γ' := [.mu p__law_bag_here (ml (z2.2 : (List Int))), .imm (.str a__law_text_here), .imm (.int z1.1), .imm (.str x1), .unk]) L3 (.str _) (show (3 : Nat) < 5 by decide) rfl fun _ L4 => ?_))))))))))
    refine x_seq (x_asg (x_call (x_cons (x_vm L4 rfl (x_cons (x_c (x_nil (obE hm4 fun z3 hz3 hm5 => mk__law_draw hz3 (L4.cond1 (i := 0) (.m (L4.mrep (i := 0) rfl) (.im (.int _) .nil)) rfl rfl rfl) fun _ F3 => k1 L4 F3 (i := 0) (Γ' := [.mu p__law_bag_here (ml (z3.2 : (List Int))), .imm (.str a__law_text_here), .imm (.int z1.1), .imm (.str x1), .unk]) rfl rfl rfl fun L5 le3 => x_set (d := (.int z3.1)) (Γ' := [.mu p__law_bag_here (ml (z3.2 : (List Int))), .imm (.str a__law_text_here), .imm (.int z1.1), .imm (.str x1), .imm (.int z3.1)]) L5 (.int _) (show (4 : Nat) < 5 by decide) rfl fun _ L6 => ?_))))))))
    refine x_seq (x_ifS (x_test (x_op (x_vI (x := z3.1) L6 rfl (x_c (x_eqi (x_kb (x_if hm5 (fun hm6 => ?_) fun hm6 => ?_))))))))
    · exact x_ret (x_op (x_sl (x_vS (x := a__law_text_here) L6 rfl (x_noP (x_part (x_vI (x := z1.1) L6 rfl (x_partK (x_slStr (z := a__law_text_here) hm6 fun hm7 => x_sl (x_vS (x := a__law_text_here) L6 rfl (x_part (x_op (x_vI (x := z1.1) L6 rfl (x_c (x_r0 (x_partK (x_noP (x_slStr (z := a__law_text_here) hm7 fun hm8 => x_addS (a := (cutS a__law_text_here none (some z1.1))) (b := (cutS a__law_text_here (some ((z1.1 + 1))) none)) hm8 fun hm9 => x_finS (Q := Q) (ps := (fun (r : (Str × (List Int))) => [(p__law_bag_here, (ml (r.2 : (List Int))))])) (sc := fun (r : (Str × (List Int))) => r.1) ((((cutS a__law_text_here none (some z1.1)) ++ (cutS a__law_text_here (some ((z1.1 + 1))) none)), z3.2)) hm9 kont (L6.fin (hp1 (L6.mrep (i := 0) rfl)) (.str _)))))))))))))))))))
    · refine x_next ?_
      refine x_seq (x_ifS (x_test (x_op (x_vI (x := z3.1) L6 rfl (x_c (x_eqi (x_kb (x_if hm6 (fun hm10 => ?_) fun hm10 => ?_))))))))
      · exact x_ret (x_op (x_op (x_sl (x_vS (x := a__law_text_here) L6 rfl (x_noP (x_part (x_vI (x := z1.1) L6 rfl (x_partK (x_slStr (z := a__law_text_here) hm10 fun hm11 => x_vS (x := x1) L6 rfl (x_addS (a := (cutS a__law_text_here none (some z1.1))) (b := x1) hm11 fun hm12 => x_sl (x_vS (x := a__law_text_here) L6 rfl (x_part (x_op (x_vI (x := z1.1) L6 rfl (x_c (x_r0 (x_partK (x_noP (x_slStr (z := a__law_text_here) hm12 fun hm13 => x_addS (a := ((cutS a__law_text_here none (some z1.1)) ++ x1)) (b := (cutS a__law_text_here (some ((z1.1 + 1))) none)) hm13 fun hm14 => x_finS (Q := Q) (ps := (fun (r : (Str × (List Int))) => [(p__law_bag_here, (ml (r.2 : (List Int))))])) (sc := fun (r : (Str × (List Int))) => r.1) (((((cutS a__law_text_here none (some z1.1)) ++ x1) ++ (cutS a__law_text_here (some ((z1.1 + 1))) none)), z3.2)) hm14 kont (L6.fin (hp1 (L6.mrep (i := 0) rfl)) (.str _)))))))))))))))))))))
      · refine x_next ?_
        refine x_seq (x_ifS (x_test (x_op (x_vI (x := z3.1) L6 rfl (x_c (x_eqi (x_kb (x_if hm10 (fun hm15 => ?_) fun hm15 => ?_))))))))
        · exact x_ret (x_op (x_op (x_sl (x_vS (x := a__law_text_here) L6 rfl (x_noP (x_part (x_vI (x := z1.1) L6 rfl (x_partK (x_slStr (z := a__law_text_here) hm15 fun hm16 => x_vS (x := x1) L6 rfl (x_addS (a := (cutS a__law_text_here none (some z1.1))) (b := x1) hm16 fun hm17 => x_sl (x_vS (x := a__law_text_here) L6 rfl (x_part (x_vI (x := z1.1) L6 rfl (x_partK (x_noP (x_slStr (z := a__law_text_here) hm17 fun hm18 => x_addS (a := ((cutS a__law_text_here none (some z1.1)) ++ x1)) (b := (cutS a__law_text_here (some z1.1) none)) hm18 fun hm19 => x_finS (Q := Q) (ps := (fun (r : (Str × (List Int))) => [(p__law_bag_here, (ml (r.2 : (List Int))))])) (sc := fun (r : (Str × (List Int))) => r.1) (((((cutS a__law_text_here none (some z1.1)) ++ x1) ++ (cutS a__law_text_here (some z1.1) none)), z3.2)) hm19 kont (L6.fin (hp1 (L6.mrep (i := 0) rfl)) (.str _))))))))))))))))))
        · refine x_next ?_
          exact x_ret (x_vS (x := a__law_text_here) L6 rfl (x_finS (Q := Q) (ps := (fun (r : (Str × (List Int))) => [(p__law_bag_here, (ml (r.2 : (List Int))))])) (sc := fun (r : (Str × (List Int))) => r.1) ((a__law_text_here, z3.2)) hm15 kont (L6.fin (hp1 (L6.mrep (i := 0) rfl)) (.str _))))
abbrev sp__law_odd (K : PySem.W.Frag) : Sp := fun vs H Q _ => ∃ (X : Addr → Prop) (p__law_bag_here : Addr) (a__law_bag_here : (List Int)) (r : (Str × (List Int))), m__law_odd a__law_bag_here = some r ∧ Cond K X H [.mu p__law_bag_here (ml (a__law_bag_here : (List Int)))] vs ∧ ∀ H', Fin K X H [p__law_bag_here] [(p__law_bag_here, (ml (r.2 : (List Int))))] (.imm (.str r.1)) (.str r.1) H' → Q (.str r.1) H'
theorem mk__law_odd {K : PySem.W.Frag} {X : Addr → Prop} {H : Hp} {vs : List V} {Q : VK} {E : XK} {p__law_bag_here : Addr} {a__law_bag_here : (List Int)} {r : (Str × (List Int))} (hm : m__law_odd a__law_bag_here = some r) (c : Cond K X H [.mu p__law_bag_here (ml (a__law_bag_here : (List Int)))] vs) (k : ∀ H', Fin K X H [p__law_bag_here] [(p__law_bag_here, (ml (r.2 : (List Int))))] (.imm (.str r.1)) (.str r.1) H' → Q (.str r.1) H') : sp__law_odd K vs H Q E := ⟨X, p__law_bag_here, a__law_bag_here, r, hm, c, k⟩
abbrev n__law_odd : List Str := ["_law_bag_here", "_law_some"]
theorem sc__law_odd : FnScope n__law_odd ["_law_bag_here"] (defScope s__law_odd) := ⟨rfl, rfl, rfl, by decide +kernel, rfl, by decide +kernel, by decide +kernel⟩
theorem ok__law_odd (T : Txt K mg) : FnOk P w K mg base CX0 2 T.A__law_odd T.D__law_odd ["_law_bag_here"] (sp__law_odd K) := by
  refine Fun.ok T.F__law_odd sc__law_odd (fun vs H Q E h => ?_) (fun cdv A outer s H vs Q E hr h => ?_)
  · obtain ⟨X, p__law_bag_here, a__law_bag_here, r, hm, c, kont⟩ := h
    exact c.len
  · obtain ⟨X, p__law_bag_here, a__law_bag_here, r, hm, c, kont⟩ := h
    refine ⟨_, (pss_cons (ps_set (i := 1) sc__law_odd.nd rfl (Or.inl rfl) (pe_lst (pa_cons pe_str (pa_cons pe_str (pa_cons pe_str (pa_cons pe_str (pa_cons pe_str (pa_cons pe_str (pa_cons pe_str (pa_cons pe_str (pa_cons pe_str (pa_cons pe_str (pa_cons pe_str (pa_cons pe_str (pa_cons pe_str (pa_cons pe_str pa_nil))))))))))))))))
      (pss_cons (ps_set (i := 1) sc__law_odd.nd rfl (Or.inl rfl) (pe_op op_catR (pv 1) (pe_lst (pa_cons pe_str (pa_cons pe_str (pa_cons pe_str (pa_cons pe_str (pa_cons pe_str (pa_cons pe_str (pa_cons pe_str (pa_cons pe_str (pa_cons pe_str (pa_cons pe_str (pa_cons pe_str pa_nil))))))))))))))
      (pss_cons (ps_set (i := 1) sc__law_odd.nd rfl (Or.inl rfl) (pe_op op_catR (pv 1) (pe_lst (pa_cons (pe_op op_addSX (pe_op op_mulS pe_str pe_int) pe_str) (pa_cons (pe_op op_addSX (pe_op op_addSX pe_str (pe_op op_mulS pe_str pe_int)) pe_str) (pa_cons pe_str (pa_cons pe_str (pa_cons pe_str (pa_cons pe_str (pa_cons pe_str (pa_cons pe_str pa_nil)))))))))))
      (pss_one (ps_ret (pe_ix (r := rIxL K) ix_list (pv 1) (pe_call (ok__law_draw T) hr (by rfl) T.g__law_draw T.F__law_draw.kp T.b__law_draw .nil pass0 (pa_cons (pv 0) (pa_cons pe_int pa_nil))) (fun _ _ => rfl))))))), ?_⟩
    have L0 : Lo ⟨K, X, H, muts [.mu p__law_bag_here (ml (a__law_bag_here : (List Int)))], n__law_odd.length⟩ X H (L2.start n__law_odd vs) [.mu p__law_bag_here (ml (a__law_bag_here : (List Int))), .unk] := c.start n__law_odd (show (1 : Nat) ≤ 2 by decide)
    unfold m__law_odd at hm
    refine x_seq (x_asg (x_lst (x_cons (x_c (x_cons (x_c (x_cons (x_c (x_cons (x_c (x_cons (x_c (x_cons (x_c (x_cons (x_c (x_cons (x_c (x_cons (x_c (x_cons (x_c (x_cons (x_c (x_cons (x_c (x_cons (x_c (x_cons (x_c (x_nil (x_mkL L0 (.cons (.str _) (.cons (.str _) (.cons (.str _) (.cons (.str _) (.cons (.str _) (.cons (.str _) (.cons (.str _) (.cons (.str _) (.cons (.str _) (.cons (.str _) (.cons (.str _) (.cons (.str _) (.cons (.str _) (.cons (.str _) .nil)))))))))))))) (show (14 : Nat) ≤ 16777216 by decide) fun v1 _ L1 le1 r1 => have r2 : Rep _ _ _ (enc ([("" : Str), ("," : Str), ("1" : Str), ("1," : Str), (",1" : Str), ("1,2,3" : Str), ("01,2" : Str), ("1,02" : Str), ("1/1,2" : Str), ("2/4,1" : Str), ("-0,1" : Str), ("1/0,2" : Str), ("1/-2,3" : Str), ("--1,2" : Str)] : (List Str))) v1 := r1; x_bset (x0 := [("" : Str), ("," : Str), ("1" : Str), ("1," : Str), (",1" : Str), ("1,2,3" : Str), ("01,2" : Str), ("1,02" : Str), ("1/1,2" : Str), ("2/4,1" : Str), ("-0,1" : Str), ("1/0,2" : Str), ("1/-2,3" : Str), ("--1,2" : Str)]) (d := fun some_1 => (enc (some_1 : (List Str)))) (Γf := fun some_1 => [.mu p__law_bag_here (ml (a__law_bag_here : (List Int))), .imm (enc (some_1 : (List Str)))]) hm L1 r2 (show (1 : Nat) < 2 by decide) (fun _ => rfl) fun some_1 _ hm1 L2 => ?_))))))))))))))))))))))))))))))))
    refine x_seq (x_asg (x_op (x_vd (d := (enc (some_1 : (List Str)))) L2 rfl fun v2 r3 => x_lst (x_cons (x_c (x_cons (x_c (x_cons (x_c (x_cons (x_c (x_cons (x_c (x_cons (x_c (x_cons (x_c (x_cons (x_c (x_cons (x_c (x_cons (x_c (x_cons (x_c (x_nil (x_mkL L2 (.cons (.str _) (.cons (.str _) (.cons (.str _) (.cons (.str _) (.cons (.str _) (.cons (.str _) (.cons (.str _) (.cons (.str _) (.cons (.str _) (.cons (.str _) (.cons (.str _) .nil))))))))))) (show (11 : Nat) ≤ 16777216 by decide) fun v3 _ L3 le2 r4 => have r5 := le2 _ _ r3; have r6 : Rep _ _ _ (enc ([("1 ,2" : Str), ("1, 2" : Str), (" 1,2" : Str), ("1,2 " : Str), ("+1,2" : Str), ("a,b" : Str), ("1.5,2" : Str), ("1/2/3,4" : Str), ("0/2,1" : Str), ("1_0,2" : Str), ("1/02,3" : Str)] : (List Str))) v3 := r4; x_cat L3 hm1 r5 r6 fun v4 _ hm2 L4 le3 r7 => have r8 : Rep _ _ _ (enc ((some_1 ++ [("1 ,2" : Str), ("1, 2" : Str), (" 1,2" : Str), ("1,2 " : Str), ("+1,2" : Str), ("a,b" : Str), ("1.5,2" : Str), ("1/2/3,4" : Str), ("0/2,1" : Str), ("1_0,2" : Str), ("1/02,3" : Str)]) : (List Str))) v4 := r7; x_bset (x0 := (some_1 ++ [("1 ,2" : Str), ("1, 2" : Str), (" 1,2" : Str), ("1,2 " : Str), ("+1,2" : Str), ("a,b" : Str), ("1.5,2" : Str), ("1/2/3,4" : Str), ("0/2,1" : Str), ("1_0,2" : Str), ("1/02,3" : Str)])) (d := fun some_2 => (enc (some_2 : (List Str)))) (Γf := fun some_2 => [.mu p__law_bag_here (ml (a__law_bag_here : (List Int))), .imm (enc (some_2 : (List Str)))]) hm2 L4 r8 (show (1 : Nat) < 2 by decide) (fun _ => rfl) fun some_2 _ hm3 L5 => ?_)))))))))))))))))))))))))))
    refine x_seq (x_asg (x_op (x_vd (d := (enc (some_2 : (List Str)))) L5 rfl fun v5 r9 => x_lst (x_cons (x_op (x_op (x_c (x_c (x_mulS hm3 fun z1 hm4 => x_c (x_addS (a := z1) (b := (",2" : Str)) hm4 fun hm5 => x_cons (x_op (x_op (x_c (x_op (x_c (x_c (x_mulS hm5 fun z2 hm6 => x_addS (a := ("1/" : Str)) (b := z2) hm6 fun hm7 => x_c (x_addS (a := (("1/" : Str) ++ z2)) (b := (",2" : Str)) hm7 fun hm8 => x_cons (x_c (x_cons (x_c (x_cons (x_c (x_cons (x_c (x_cons (x_c (x_cons (x_c (x_nil (x_mkL L5 (.cons (.str _) (.cons (.str _) (.cons (.str _) (.cons (.str _) (.cons (.str _) (.cons (.str _) (.cons (.str _) (.cons (.str _) .nil)))))))) (show (8 : Nat) ≤ 16777216 by decide) fun v6 _ L6 le4 r10 => have r11 := le4 _ _ r9; have r12 : Rep _ _ _ (enc ([(z1 ++ (",2" : Str)), ((("1/" : Str) ++ z2) ++ (",2" : Str)), ("/2,3" : Str), ("1/,2" : Str), ("none" : Str), ("1;2" : Str), ("-,1" : Str), ("-/2,1" : Str)] : (List Str))) v6 := r10; x_cat L6 hm8 r11 r12 fun v7 _ hm9 L7 le5 r13 => have r14 : Rep _ _ _ (enc ((some_2 ++ [(z1 ++ (",2" : Str)), ((("1/" : Str) ++ z2) ++ (",2" : Str)), ("/2,3" : Str), ("1/,2" : Str), ("none" : Str), ("1;2" : Str), ("-,1" : Str), ("-/2,1" : Str)]) : (List Str))) v7 := r13; x_bset (x0 := (some_2 ++ [(z1 ++ (",2" : Str)), ((("1/" : Str) ++ z2) ++ (",2" : Str)), ("/2,3" : Str), ("1/,2" : Str), ("none" : Str), ("1;2" : Str), ("-,1" : Str), ("-/2,1" : Str)])) (d := fun some_3 => (enc (some_3 : (List Str)))) (Γf := fun some_3 => [.mu p__law_bag_here (ml (a__law_bag_here : (List Int))), .imm (enc (some_3 : (List Str)))]) hm9 L7 r14 (show (1 : Nat) < 2 by decide) (fun _ => rfl) fun some_3 _ hm10 L8 => ?_)))))))))))))))))))))))))))))))
    exact x_ret (x_op (x_vd (d := (enc (some_3 : (List Str)))) L8 rfl fun v8 r15 => x_call (x_cons (x_vm L8 rfl (x_cons (x_c (x_nil (obE hm10 fun z3 hz1 hm11 => mk__law_draw hz1 (L8.cond1 (i := 0) (.m (L8.mrep (i := 0) rfl) (.im (.int _) .nil)) rfl rfl rfl) fun _ F1 => k1 L8 F1 (i := 0) (Γ' := [.mu p__law_bag_here (ml (z3.2 : (List Int))), .imm (enc (some_3 : (List Str)))]) rfl rfl rfl fun L9 le6 => have r16 := le6 _ _ r15; x_ixLS (xs := some_3) hm11 r16 fun x1 _ hm12 => x_finS (Q := Q) (ps := (fun (r : (Str × (List Int))) => [(p__law_bag_here, (ml (r.2 : (List Int))))])) (sc := fun (r : (Str × (List Int))) => r.1) ((x1, z3.2)) hm12 kont (L9.fin (hp1 (L9.mrep (i := 0) rfl)) (.str _))))))))))
abbrev sp_law (K : PySem.W.Frag) : Sp := fun vs H Q _ => ∃ (X : Addr → Prop)  (a__law_script : (List Int)) (r : Bool), m_law a__law_script = some r ∧ Cond K X H [.scr a__law_script] vs ∧ ∀ H', Fin K X H [] [] (.imm (.bool r)) (.bl r) H' → Q (.bl r) H'
theorem mk_law {K : PySem.W.Frag} {X : Addr → Prop} {H : Hp} {vs : List V} {Q : VK} {E : XK}  {a__law_script : (List Int)} {r : Bool} (hm : m_law a__law_script = some r) (c : Cond K X H [.scr a__law_script] vs) (k : ∀ H', Fin K X H [] [] (.imm (.bool r)) (.bl r) H' → Q (.bl r) H') : sp_law K vs H Q E := ⟨X, a__law_script, r, hm, c, k⟩
abbrev n_law : List Str := ["_law_script", "_law_cell_here", "_law_bag_here", "_law_text_here"]
theorem sc_law : FnScope n_law ["_law_script"] (defScope s_law) := ⟨rfl, rfl, rfl, by decide +kernel, rfl, by decide +kernel, by decide +kernel⟩
theorem ok_law (T : Txt K mg) : FnOk P w K mg base CX0 6 T.A_law T.D_law ["_law_script"] (sp_law K) := by
  refine Fun.ok T.F_law sc_law (fun vs H Q E h => ?_) (fun cdv A outer s H vs Q E hr h => ?_)
  · obtain ⟨X, a__law_script, r, hm, c, kont⟩ := h
    exact c.len
  · obtain ⟨X, a__law_script, r, hm, c, kont⟩ := h
    refine ⟨_, (pss_cons (ps_for PassesOwn.never rfl (pi_list (pe_op op_catR (pe_lst (pa_cons (pe_call (ok__law_cell T) (hr.mono (by decide)) (by rfl) T.g__law_cell T.F__law_cell.kp T.b__law_cell .nil pass0 (pa_cons (pv 0) (pa_cons pe_int pa_nil))) pa_nil)) (pe_slice (r := rSlL K) sl_list (pv 0) (po_some pe_int) (po_some pe_int)))) (pg_name (i := 1) sc_law.nd rfl (Or.inl rfl)) (pss_cons (ps_set (i := 2) sc_law.nd rfl (Or.inl rfl) (pe_call (ok__law_bag T) (hr.mono (by decide)) (by rfl) T.g__law_bag T.F__law_bag.kp T.b__law_bag .nil pass0 (pa_cons (pv 1) pa_nil)))
      (pss_cons (ps_set (i := 3) sc_law.nd rfl (Or.inl rfl) (pe_op op_addSX (pe_op op_addSX (pe_call (ok__law_text T) (hr.mono (by decide)) (by rfl) T.g__law_text T.F__law_text.kp T.b__law_text .nil pass0 (pa_cons (pe_call (ok__law_rat T) (hr.mono (by decide)) (by rfl) T.g__law_rat T.F__law_rat.kp T.b__law_rat .nil pass0 (pa_cons (pv 2) pa_nil)) pa_nil)) pe_str) (pe_call (ok__law_text T) (hr.mono (by decide)) (by rfl) T.g__law_text T.F__law_text.kp T.b__law_text .nil pass0 (pa_cons (pe_call (ok__law_rat T) (hr.mono (by decide)) (by rfl) T.g__law_rat T.F__law_rat.kp T.b__law_rat .nil pass0 (pa_cons (pv 2) pa_nil)) pa_nil))))
      (pss_one (ps_if (PW.pt (pw_or (pt_not (pt_val (pe_call (ok__law_right T) hr (by rfl) T.g__law_right T.F__law_right.kp T.b__law_right .nil pass0 (pa_cons (pv 3) pa_nil)))) (pw_or (pt_not (pt_val (pe_call (ok__law_right T) hr (by rfl) T.g__law_right T.F__law_right.kp T.b__law_right .nil pass0 (pa_cons (pe_call (ok__law_sign_spoiled T) (hr.mono (by decide)) (by rfl) T.g__law_sign_spoiled T.F__law_sign_spoiled.kp T.b__law_sign_spoiled .nil pass0 (pa_cons (pv 2) (pa_cons (pv 3) pa_nil))) pa_nil)))) (pw_or1 (pt_not (pt_val (pe_call (ok__law_right T) hr (by rfl) T.g__law_right T.F__law_right.kp T.b__law_right .nil pass0 (pa_cons (pe_call (ok__law_odd T) (hr.mono (by decide)) (by rfl) T.g__law_odd T.F__law_odd.kp T.b__law_odd .nil pass0 (pa_cons (pv 2) pa_nil)) pa_nil)))))))) (pss_one (ps_ret pe_bl)) pss_nil)))))
      (pss_one (ps_ret pe_bl))), ?_⟩
    have L0 : Lo ⟨K, X, H, muts [.scr a__law_script], n_law.length⟩ X H (L2.start n_law vs) [.scr a__law_script, .unk, .unk, .unk] := c.start n_law (show (1 : Nat) ≤ 4 by decide)
    unfold m_law at hm
    refine x_seq (x_tforL (x_op (x_lst (x_cons (x_call (x_cons (x_vscr L0 rfl fun v1 r1 => x_cons (x_c (x_nil (obE hm fun z1 hz1 hm1 => mk__law_cell hz1 (L0.cond0 (.s r1 (.im (.int _) .nil)) rfl) fun _ F1 => k0 L0 F1 fun L1 le1 => x_nil (x_mkL L1 (.cons (.int _) .nil) (show (1 : Nat) ≤ 16777216 by decide) fun v3 _ L2 le2 r2 => have r3 : Rep _ _ _ (enc ([z1] : (List Int))) v3 := r2; x_sl (x_vscr L2 rfl fun v4 r4 => x_part (x_c (x_partK (x_part (x_c (x_partK (x_slS L2 r4 fun v5 _ L3 le3 r5 => have r6 := le3 _ _ r3; have r7 : Rep _ _ _ (enc ((slice a__law_script (some 1) (some 40)) : (List Int))) v5 := r5; x_cat L3 hm1 r6 r7 fun v6 _ hm2 L4 le4 r8 => have r9 : Rep _ _ _ (enc (([z1] ++ (slice a__law_script (some 1) (some 40))) : (List Int))) v6 := r8; x_flL (G := (fun (s1 : Unit) => [.scr a__law_script, .unk, .unk, .unk])) (s0 := ()) (xs := ([z1] ++ (slice a__law_script (some 1) (some 40)))) (ps := (fun (r : Bool) => [])) (rs := (fun (r : Bool) => (.imm (.bool r)))) (L4.weak (Γ' := [.scr a__law_script, .unk, .unk, .unk]) (.k (.k (.k (.k .e))))) (fun _ _ => rfl) r9 hm2 (fun x1 s1 H1 _ u1 _ _ _ _ _ hm3 L5 _ r10 hN1 hC1 hB1 hR1 => ?_) (fun s2 _ _ hm4 L6 => ?_) (fun _ _ _ hm5 F2 => x_finRB (Q := Q) (ps := (fun (r : Bool) => [])) (sc := fun (r : Bool) => r) hm5 kont F2)))))))))))))))))))
    · refine x_set (d := (.int x1)) (Γ' := [.scr a__law_script, .imm (.int x1), .unk, .unk]) L5 r10 (show (1 : Nat) < 4 by decide) rfl fun _ L7 => ?_
      refine x_seq (x_asg (x_call (x_cons (x_vI (x := x1) L7 rfl (x_nil (obE hm3 fun z2 hz2 hm6 => mk__law_bag hz2 (L7.cond0 (.im (.int _) .nil) rfl) fun p1 _ F3 => k0N L7 F3 fun _ h01 hx1 L8 le5 => x_setN (Γ := [.scr a__law_script, .imm (.int x1), .unk, .unk]) (p := p1) (o := (ml (z2 : (List Int)))) (Γ' := [.scr a__law_script, .imm (.int x1), .mu p1 (ml (z2 : (List Int))), .unk]) L8 (show (2 : Nat) < 4 by decide) (show (2 : Nat) < 4 by decide) rfl fun _ L9 => ?_))))))
      refine x_seq (x_asg (x_op (x_op (x_call (x_cons (x_call (x_cons (x_vm L9 rfl (x_nil (obE hm6 fun z3 hz3 hm7 => mk__law_rat hz3 (L9.cond1 (i := 2) (.m (L9.mrep (i := 2) rfl) .nil) rfl rfl rfl) fun v7 _ F4 => k1d L9 F4 (i := 2) (Γ' := [.scr a__law_script, .imm (.int x1), .mu p1 (ml (z3.2 : (List Int))), .unk]) rfl rfl rfl fun L10 le6 r12 => x_nil (obE hm7 fun z4 hz4 hm8 => mk__law_text hz4 (L10.cond0 (.im r12 .nil) rfl) fun _ F5 => k0 L10 F5 fun L11 le7 => x_c (x_addS (a := z4) (b := ("," : Str)) hm8 fun hm9 => x_call (x_cons (x_call (x_cons (x_vm L11 rfl (x_nil (obE hm9 fun z5 hz5 hm10 => mk__law_rat hz5 (L11.cond1 (i := 2) (.m (L11.mrep (i := 2) rfl) .nil) rfl rfl rfl) fun v9 _ F6 => k1d L11 F6 (i := 2) (Γ' := [.scr a__law_script, .imm (.int x1), .mu p1 (ml (z5.2 : (List Int))), .unk]) rfl rfl rfl fun L12 le8 r13 => x_nil (obE hm10 fun z6 hz6 hm11 => mk__law_text hz6 (L12.cond0 (.im r13 .nil) rfl) fun _ F7 => k0 L12 F7 fun L13 le9 => x_addS (a := (z4 ++ ("," : Str))) (b := z6) hm11 fun hm12 => x_bset (x0 := ((z4 ++ ("," : Str)) ++ z6)) (d := fun text_here_1 => (.str text_here_1)) (Γf := fun text_here_1 => [.scr a__law_script, .imm (.int x1), .mu p1 (ml (z5.2 : (List Int))), .imm (.str text_here_1)]) hm12 L13 (.str _) (show (3 : Nat) < 4 by decide) (fun _ => rfl) fun text_here_1 _ hm13 L14 => ?_)))))))))))))))))))
      refine x_ifS (x_or (x_not (x_tB (x_call (x_cons (x_vS (x := text_here_1) L14 rfl (x_nil (obE hm13 fun z7 hz7 hm14 => mk__law_right hz7 (L14.cond0 (.im (.str _) .nil) rfl) fun _ F8 => k0 L14 F8 fun L15 le10 => x_kb (x_kn (x_orG (G := (fun (s4 : (List Int)) => [.scr a__law_script, .imm (.int x1), .mu p1 (ml (s4 : (List Int))), .imm (.str text_here_1)])) (s0 := z5.2) L15 hm14 (fun _ hm23 _ hq => x_or (x_not (x_tB (x_call (x_cons (x_call (x_cons (x_vm L15 rfl (x_cons (x_vS (x := text_here_1) L15 rfl (x_nil (obE hm23 fun z14 hz14 hm24 => mk__law_sign_spoiled hz14 (L15.cond1 (i := 2) (.m (L15.mrep (i := 2) rfl) (.im (.str _) .nil)) rfl rfl rfl) fun _ F15 => k1 L15 F15 (i := 2) (Γ' := [.scr a__law_script, .imm (.int x1), .mu p1 (ml (z14.2 : (List Int))), .imm (.str text_here_1)]) rfl rfl rfl fun L23 le17 => x_nil (obE hm24 fun z15 hz15 hm25 => mk__law_right hz15 (L23.cond0 (.im (.str _) .nil) rfl) fun _ F16 => k0 L23 F16 fun L24 le18 => x_kb (x_kn (x_orG (G := (fun (s5 : (List Int)) => [.scr a__law_script, .imm (.int x1), .mu p1 (ml (s5 : (List Int))), .imm (.str text_here_1)])) (s0 := z14.2) L24 hm25 (fun _ hm28 _ hq => x_not (x_tB (x_call (x_cons (x_call (x_cons (x_vm L24 rfl (x_nil (obE hm28 fun z18 hz18 hm29 => mk__law_odd hz18 (L24.cond1 (i := 2) (.m (L24.mrep (i := 2) rfl) .nil) rfl rfl rfl) fun _ F19 => k1 L24 F19 (i := 2) (Γ' := [.scr a__law_script, .imm (.int x1), .mu p1 (ml (z18.2 : (List Int))), .imm (.str text_here_1)]) rfl rfl rfl fun L27 le21 => x_nil (obE hm29 fun z19 hz19 hm30 => mk__law_right hz19 (L27.cond0 (.im (.str _) .nil) rfl) fun _ F20 => k0 L27 F20 fun L28 le22 => x_kb (x_kn (x_lfTG (G := (fun (s5 : (List Int)) => [.scr a__law_script, .imm (.int x1), .mu p1 (ml (s5 : (List Int))), .imm (.str text_here_1)])) (e := z18.2) hm30 hq L28)))))))))))) fun w2 _ _ hm31 L29 => x_lfTG (G := (fun (s4 : (List Int)) => [.scr a__law_script, .imm (.int x1), .mu p1 (ml (s4 : (List Int))), .imm (.str text_here_1)])) (e := w2.2) hm31 hq L29))))))))))))))) fun w3 _ _ hm32 L30 => x_if hm32 (fun hm33 => ?_) fun hm33 => ?_))))))))))
      · exact x_ret (x_c (x_leafR (ps := (fun (r : Bool) => [])) (rs := (fun (r : Bool) => (.imm (.bool r)))) (e := false) hm33 hR1 (L30.fin hp0 (.bl _))))
      · refine x_next ?_
        exact x_leafN (G := (fun (s1 : Unit) => [.scr a__law_script, .unk, .unk, .unk])) (e := ()) hm33 hN1 (L30.weak (Γ' := [.scr a__law_script, .unk, .unk, .unk]) (.k (.d (.d (.d .e)))))
    exact x_ret (x_c (x_finB (Q := Q) (ps := (fun (r : Bool) => [])) (sc := fun (r : Bool) => r) true hm4 kont (L6.fin hp0 (.bl _))))
end
theorem all_mk {l : PySem.W.OpenLaw} {w : World} {K : PySem.W.Frag} {h : Heap} {mg : Str → Option Value} {fa : Addr} (X : K.In h) (G : h.Ns mainGlobals mg) (hfa : mg "law" = some (.ref fa))
    {f0 : Addr} {od0 an0 : Option Addr} {sl0 : Array (Option Value)} {oc0 kV0 dc0 pm0 cd0 ct0 : Value}
    (a0 : PySem.W.nsIn K mainGlobals "_law_cell" = some (some (.ref f0))) (l0 : K.lookup f0 = some ⟨oc0, od0, .func (PySem.W.fnOf "_law_cell" "_law_cell" (defArgs s__law_cell) (defBody s__law_cell) (defScope s__law_cell) .none kV0 dc0 pm0 an0 cd0 ct0), sl0⟩) (c0 : PySem.W.codeIn K cd0 "_law_cell" = true) (k0 : PySem.W.keepIn K (.ref f0) = true)
    {f1 : Addr} {od1 an1 : Option Addr} {sl1 : Array (Option Value)} {oc1 kV1 dc1 pm1 cd1 ct1 : Value}
    (a1 : PySem.W.nsIn K mainGlobals "_law_bag" = some (some (.ref f1))) (l1 : K.lookup f1 = some ⟨oc1, od1, .func (PySem.W.fnOf "_law_bag" "_law_bag" (defArgs s__law_bag) (defBody s__law_bag) (defScope s__law_bag) .none kV1 dc1 pm1 an1 cd1 ct1), sl1⟩) (c1 : PySem.W.codeIn K cd1 "_law_bag" = true) (k1 : PySem.W.keepIn K (.ref f1) = true)
    {f2 : Addr} {od2 an2 : Option Addr} {sl2 : Array (Option Value)} {oc2 kV2 dc2 pm2 cd2 ct2 : Value}
    (a2 : PySem.W.nsIn K mainGlobals "_law_draw" = some (some (.ref f2))) (l2 : K.lookup f2 = some ⟨oc2, od2, .func (PySem.W.fnOf "_law_draw" "_law_draw" (defArgs s__law_draw) (defBody s__law_draw) (defScope s__law_draw) .none kV2 dc2 pm2 an2 cd2 ct2), sl2⟩) (c2 : PySem.W.codeIn K cd2 "_law_draw" = true) (k2 : PySem.W.keepIn K (.ref f2) = true)
    {f3 : Addr} {od3 an3 : Option Addr} {sl3 : Array (Option Value)} {oc3 kV3 dc3 pm3 cd3 ct3 : Value}
    (a3 : PySem.W.nsIn K mainGlobals "_law_great" = some (some (.ref f3))) (l3 : K.lookup f3 = some ⟨oc3, od3, .func (PySem.W.fnOf "_law_great" "_law_great" (defArgs s__law_great) (defBody s__law_great) (defScope s__law_great) .none kV3 dc3 pm3 an3 cd3 ct3), sl3⟩) (c3 : PySem.W.codeIn K cd3 "_law_great" = true) (k3 : PySem.W.keepIn K (.ref f3) = true)
    {f4 : Addr} {od4 an4 : Option Addr} {sl4 : Array (Option Value)} {oc4 kV4 dc4 pm4 cd4 ct4 : Value}
    (a4 : PySem.W.nsIn K mainGlobals "_law_signed" = some (some (.ref f4))) (l4 : K.lookup f4 = some ⟨oc4, od4, .func (PySem.W.fnOf "_law_signed" "_law_signed" (defArgs s__law_signed) (defBody s__law_signed) (defScope s__law_signed) .none kV4 dc4 pm4 an4 cd4 ct4), sl4⟩) (c4 : PySem.W.codeIn K cd4 "_law_signed" = true) (k4 : PySem.W.keepIn K (.ref f4) = true)
    {f5 : Addr} {od5 an5 : Option Addr} {sl5 : Array (Option Value)} {oc5 kV5 dc5 pm5 cd5 ct5 : Value}
    (a5 : PySem.W.nsIn K mainGlobals "_law_gcd" = some (some (.ref f5))) (l5 : K.lookup f5 = some ⟨oc5, od5, .func (PySem.W.fnOf "_law_gcd" "_law_gcd" (defArgs s__law_gcd) (defBody s__law_gcd) (defScope s__law_gcd) .none kV5 dc5 pm5 an5 cd5 ct5), sl5⟩) (c5 : PySem.W.codeIn K cd5 "_law_gcd" = true) (k5 : PySem.W.keepIn K (.ref f5) = true)
    {f6 : Addr} {od6 an6 : Option Addr} {sl6 : Array (Option Value)} {oc6 kV6 dc6 pm6 cd6 ct6 : Value}
    (a6 : PySem.W.nsIn K mainGlobals "_law_lowest" = some (some (.ref f6))) (l6 : K.lookup f6 = some ⟨oc6, od6, .func (PySem.W.fnOf "_law_lowest" "_law_lowest" (defArgs s__law_lowest) (defBody s__law_lowest) (defScope s__law_lowest) .none kV6 dc6 pm6 an6 cd6 ct6), sl6⟩) (c6 : PySem.W.codeIn K cd6 "_law_lowest" = true) (k6 : PySem.W.keepIn K (.ref f6) = true)
    {f7 : Addr} {od7 an7 : Option Addr} {sl7 : Array (Option Value)} {oc7 kV7 dc7 pm7 cd7 ct7 : Value}
    (a7 : PySem.W.nsIn K mainGlobals "_law_rat" = some (some (.ref f7))) (l7 : K.lookup f7 = some ⟨oc7, od7, .func (PySem.W.fnOf "_law_rat" "_law_rat" (defArgs s__law_rat) (defBody s__law_rat) (defScope s__law_rat) .none kV7 dc7 pm7 an7 cd7 ct7), sl7⟩) (c7 : PySem.W.codeIn K cd7 "_law_rat" = true) (k7 : PySem.W.keepIn K (.ref f7) = true)
    {f8 : Addr} {od8 an8 : Option Addr} {sl8 : Array (Option Value)} {oc8 kV8 dc8 pm8 cd8 ct8 : Value}
    (a8 : PySem.W.nsIn K mainGlobals "_law_text" = some (some (.ref f8))) (l8 : K.lookup f8 = some ⟨oc8, od8, .func (PySem.W.fnOf "_law_text" "_law_text" (defArgs s__law_text) (defBody s__law_text) (defScope s__law_text) .none kV8 dc8 pm8 an8 cd8 ct8), sl8⟩) (c8 : PySem.W.codeIn K cd8 "_law_text" = true) (k8 : PySem.W.keepIn K (.ref f8) = true)
    {f9 : Addr} {od9 an9 : Option Addr} {sl9 : Array (Option Value)} {oc9 kV9 dc9 pm9 cd9 ct9 : Value}
    (a9 : PySem.W.nsIn K mainGlobals "_law_is_whole" = some (some (.ref f9))) (l9 : K.lookup f9 = some ⟨oc9, od9, .func (PySem.W.fnOf "_law_is_whole" "_law_is_whole" (defArgs s__law_is_whole) (defBody s__law_is_whole) (defScope s__law_is_whole) .none kV9 dc9 pm9 an9 cd9 ct9), sl9⟩) (c9 : PySem.W.codeIn K cd9 "_law_is_whole" = true) (k9 : PySem.W.keepIn K (.ref f9) = true)
    {f10 : Addr} {od10 an10 : Option Addr} {sl10 : Array (Option Value)} {oc10 kV10 dc10 pm10 cd10 ct10 : Value}
    (a10 : PySem.W.nsIn K mainGlobals "_law_ratio_in" = some (some (.ref f10))) (l10 : K.lookup f10 = some ⟨oc10, od10, .func (PySem.W.fnOf "_law_ratio_in" "_law_ratio_in" (defArgs s__law_ratio_in) (defBody s__law_ratio_in) (defScope s__law_ratio_in) .none kV10 dc10 pm10 an10 cd10 ct10), sl10⟩) (c10 : PySem.W.codeIn K cd10 "_law_ratio_in" = true) (k10 : PySem.W.keepIn K (.ref f10) = true)
    {f11 : Addr} {od11 an11 : Option Addr} {sl11 : Array (Option Value)} {oc11 kV11 dc11 pm11 cd11 ct11 : Value}
    (a11 : PySem.W.nsIn K mainGlobals "_law_point_in" = some (some (.ref f11))) (l11 : K.lookup f11 = some ⟨oc11, od11, .func (PySem.W.fnOf "_law_point_in" "_law_point_in" (defArgs s__law_point_in) (defBody s__law_point_in) (defScope s__law_point_in) .none kV11 dc11 pm11 an11 cd11 ct11), sl11⟩) (c11 : PySem.W.codeIn K cd11 "_law_point_in" = true) (k11 : PySem.W.keepIn K (.ref f11) = true)
    {f12 : Addr} {od12 an12 : Option Addr} {sl12 : Array (Option Value)} {oc12 kV12 dc12 pm12 cd12 ct12 : Value}
    (a12 : PySem.W.nsIn K mainGlobals "read_whole" = some (some (.ref f12))) (l12 : K.lookup f12 = some ⟨oc12, od12, .func (PySem.W.fnOf "read_whole" "read_whole" (defArgs s_read_whole) (defBody s_read_whole) (defScope s_read_whole) .none kV12 dc12 pm12 an12 cd12 ct12), sl12⟩) (c12 : PySem.W.codeIn K cd12 "read_whole" = true) (k12 : PySem.W.keepIn K (.ref f12) = true)
    {f13 : Addr} {od13 an13 : Option Addr} {sl13 : Array (Option Value)} {oc13 kV13 dc13 pm13 cd13 ct13 : Value}
    (a13 : PySem.W.nsIn K mainGlobals "greatest_divisor" = some (some (.ref f13))) (l13 : K.lookup f13 = some ⟨oc13, od13, .func (PySem.W.fnOf "greatest_divisor" "greatest_divisor" (defArgs s_greatest_divisor) (defBody s_greatest_divisor) (defScope s_greatest_divisor) .none kV13 dc13 pm13 an13 cd13 ct13), sl13⟩) (c13 : PySem.W.codeIn K cd13 "greatest_divisor" = true) (k13 : PySem.W.keepIn K (.ref f13) = true)
    {f14 : Addr} {od14 an14 : Option Addr} {sl14 : Array (Option Value)} {oc14 kV14 dc14 pm14 cd14 ct14 : Value}
    (a14 : PySem.W.nsIn K mainGlobals "ratio" = some (some (.ref f14))) (l14 : K.lookup f14 = some ⟨oc14, od14, .func (PySem.W.fnOf "ratio" "ratio" (defArgs s_ratio) (defBody s_ratio) (defScope s_ratio) .none kV14 dc14 pm14 an14 cd14 ct14), sl14⟩) (c14 : PySem.W.codeIn K cd14 "ratio" = true) (k14 : PySem.W.keepIn K (.ref f14) = true)
    {f15 : Addr} {od15 an15 : Option Addr} {sl15 : Array (Option Value)} {oc15 kV15 dc15 pm15 cd15 ct15 : Value}
    (a15 : PySem.W.nsIn K mainGlobals "read_ratio" = some (some (.ref f15))) (l15 : K.lookup f15 = some ⟨oc15, od15, .func (PySem.W.fnOf "read_ratio" "read_ratio" (defArgs s_read_ratio) (defBody s_read_ratio) (defScope s_read_ratio) .none kV15 dc15 pm15 an15 cd15 ct15), sl15⟩) (c15 : PySem.W.codeIn K cd15 "read_ratio" = true) (k15 : PySem.W.keepIn K (.ref f15) = true)
    {f16 : Addr} {od16 an16 : Option Addr} {sl16 : Array (Option Value)} {oc16 kV16 dc16 pm16 cd16 ct16 : Value}
    (a16 : PySem.W.nsIn K mainGlobals "point" = some (some (.ref f16))) (l16 : K.lookup f16 = some ⟨oc16, od16, .func (PySem.W.fnOf "point" "point" (defArgs s_point) (defBody s_point) (defScope s_point) .none kV16 dc16 pm16 an16 cd16 ct16), sl16⟩) (c16 : PySem.W.codeIn K cd16 "point" = true) (k16 : PySem.W.keepIn K (.ref f16) = true)
    {f17 : Addr} {od17 an17 : Option Addr} {sl17 : Array (Option Value)} {oc17 kV17 dc17 pm17 cd17 ct17 : Value}
    (a17 : PySem.W.nsIn K mainGlobals "at" = some (some (.ref f17))) (l17 : K.lookup f17 = some ⟨oc17, od17, .func (PySem.W.fnOf "at" "at" (defArgs s_at) (defBody s_at) (defScope s_at) .none kV17 dc17 pm17 an17 cd17 ct17), sl17⟩) (c17 : PySem.W.codeIn K cd17 "at" = true) (k17 : PySem.W.keepIn K (.ref f17) = true)
    {f18 : Addr} {od18 an18 : Option Addr} {sl18 : Array (Option Value)} {oc18 kV18 dc18 pm18 cd18 ct18 : Value}
    (a18 : PySem.W.nsIn K mainGlobals "read_point" = some (some (.ref f18))) (l18 : K.lookup f18 = some ⟨oc18, od18, .func (PySem.W.fnOf "read_point" "read_point" (defArgs s_read_point) (defBody s_read_point) (defScope s_read_point) .none kV18 dc18 pm18 an18 cd18 ct18), sl18⟩) (c18 : PySem.W.codeIn K cd18 "read_point" = true) (k18 : PySem.W.keepIn K (.ref f18) = true)
    {f19 : Addr} {od19 an19 : Option Addr} {sl19 : Array (Option Value)} {oc19 kV19 dc19 pm19 cd19 ct19 : Value}
    (a19 : PySem.W.nsIn K mainGlobals "_law_alone" = some (some (.ref f19))) (l19 : K.lookup f19 = some ⟨oc19, od19, .func (PySem.W.fnOf "_law_alone" "_law_alone" (defArgs s__law_alone) (defBody s__law_alone) (defScope s__law_alone) .none kV19 dc19 pm19 an19 cd19 ct19), sl19⟩) (c19 : PySem.W.codeIn K cd19 "_law_alone" = true) (k19 : PySem.W.keepIn K (.ref f19) = true)
    {f20 : Addr} {od20 an20 : Option Addr} {sl20 : Array (Option Value)} {oc20 kV20 dc20 pm20 cd20 ct20 : Value}
    (a20 : PySem.W.nsIn K mainGlobals "_law_point" = some (some (.ref f20))) (l20 : K.lookup f20 = some ⟨oc20, od20, .func (PySem.W.fnOf "_law_point" "_law_point" (defArgs s__law_point) (defBody s__law_point) (defScope s__law_point) .none kV20 dc20 pm20 an20 cd20 ct20), sl20⟩) (c20 : PySem.W.codeIn K cd20 "_law_point" = true) (k20 : PySem.W.keepIn K (.ref f20) = true)
    {f21 : Addr} {od21 an21 : Option Addr} {sl21 : Array (Option Value)} {oc21 kV21 dc21 pm21 cd21 ct21 : Value}
    (a21 : PySem.W.nsIn K mainGlobals "_law_right" = some (some (.ref f21))) (l21 : K.lookup f21 = some ⟨oc21, od21, .func (PySem.W.fnOf "_law_right" "_law_right" (defArgs s__law_right) (defBody s__law_right) (defScope s__law_right) .none kV21 dc21 pm21 an21 cd21 ct21), sl21⟩) (c21 : PySem.W.codeIn K cd21 "_law_right" = true) (k21 : PySem.W.keepIn K (.ref f21) = true)
    {f22 : Addr} {od22 an22 : Option Addr} {sl22 : Array (Option Value)} {oc22 kV22 dc22 pm22 cd22 ct22 : Value}
    (a22 : PySem.W.nsIn K mainGlobals "_law_sign_spoiled" = some (some (.ref f22))) (l22 : K.lookup f22 = some ⟨oc22, od22, .func (PySem.W.fnOf "_law_sign_spoiled" "_law_sign_spoiled" (defArgs s__law_sign_spoiled) (defBody s__law_sign_spoiled) (defScope s__law_sign_spoiled) .none kV22 dc22 pm22 an22 cd22 ct22), sl22⟩) (c22 : PySem.W.codeIn K cd22 "_law_sign_spoiled" = true) (k22 : PySem.W.keepIn K (.ref f22) = true)
    {f23 : Addr} {od23 an23 : Option Addr} {sl23 : Array (Option Value)} {oc23 kV23 dc23 pm23 cd23 ct23 : Value}
    (a23 : PySem.W.nsIn K mainGlobals "_law_odd" = some (some (.ref f23))) (l23 : K.lookup f23 = some ⟨oc23, od23, .func (PySem.W.fnOf "_law_odd" "_law_odd" (defArgs s__law_odd) (defBody s__law_odd) (defScope s__law_odd) .none kV23 dc23 pm23 an23 cd23 ct23), sl23⟩) (c23 : PySem.W.codeIn K cd23 "_law_odd" = true) (k23 : PySem.W.keepIn K (.ref f23) = true)
    {f24 : Addr} {od24 an24 : Option Addr} {sl24 : Array (Option Value)} {oc24 kV24 dc24 pm24 cd24 ct24 : Value}
    (a24 : PySem.W.nsIn K mainGlobals "law" = some (some (.ref f24))) (l24 : K.lookup f24 = some ⟨oc24, od24, .func (PySem.W.fnOf "law" "law" (defArgs s_law) (defBody s_law) (defScope s_law) .none kV24 dc24 pm24 an24 cd24 ct24), sl24⟩) (c24 : PySem.W.codeIn K cd24 "law" = true) (k24 : PySem.W.keepIn K (.ref f24) = true)
    {C_NoText : Addr}
    (gC_NoText : PySem.W.nsIn K mainGlobals "NoText" = some (some (.ref C_NoText)))
    (x_NoText : PySem.W.excIn K C_NoText [.type "ValueError", .type "Exception", .type "BaseException", .type "object"] "ValueError.__new__" = true)
    (kC_NoText : PySem.W.keepIn K (.ref C_NoText) = true)
    (bC_NoText : PySem.W.subIn K (.ref C_NoText) (.type "BaseException") = some true)
    (tC_NoText : PySem.W.typeIn K (.ref C_NoText) = some (.type "type"))
    (E_NoTexthg : PySem.W.findIn K (.ref C_NoText) "__getattribute__" = some (some (.builtin "BaseException.__getattribute__")))
    (E_NoTexthk : PySem.W.findIn K (.ref C_NoText) "__getattr__" = some none)
    (E_NoTexths : PySem.W.subIn K (.ref C_NoText) (.type "BaseException") = some true)
    (E_NoTexthd : PySem.W.hasDictIn K C_NoText = true)
    (E_NoTextha : PySem.W.findIn K (.ref C_NoText) "__class__" = some (some (.builtin "object.__class__")))
    (E_NoTexthn : PySem.W.specialIn K (.builtin "object.__class__") "__get__" = some (some (.builtin "getset_descriptor.__get__")))
    (E_NoTextht : PySem.W.takesIn K (.builtin "object.__class__") = some true)
    (E_NoTexthm : PySem.W.mroIn K C_NoText (.type "object") = some true)
    {C_NoCloth : Addr}
    (gC_NoCloth : PySem.W.nsIn K mainGlobals "NoCloth" = some (some (.ref C_NoCloth)))
    (bC_NoCloth : PySem.W.subIn K (.ref C_NoCloth) (.type "BaseException") = some true)
    (tC_NoCloth : PySem.W.typeIn K (.ref C_NoCloth) = some (.type "type"))
    (dC_NoCloth : PySem.W.hasDictIn K C_NoCloth = true)
    (s_NoText_NoCloth : PySem.W.subIn K (.ref C_NoText) (.ref C_NoCloth) = some false)
    (n_NoText_NoCloth : (Value.ref C_NoText == Value.ref C_NoCloth) = false)
    {C_NoMove : Addr}
    (gC_NoMove : PySem.W.nsIn K mainGlobals "NoMove" = some (some (.ref C_NoMove)))
    (bC_NoMove : PySem.W.subIn K (.ref C_NoMove) (.type "BaseException") = some true)
    (tC_NoMove : PySem.W.typeIn K (.ref C_NoMove) = some (.type "type"))
    (dC_NoMove : PySem.W.hasDictIn K C_NoMove = true)
    (s_NoText_NoMove : PySem.W.subIn K (.ref C_NoText) (.ref C_NoMove) = some false)
    (n_NoText_NoMove : (Value.ref C_NoText == Value.ref C_NoMove) = false)
    {C_NoName : Addr}
    (gC_NoName : PySem.W.nsIn K mainGlobals "NoName" = some (some (.ref C_NoName)))
    (bC_NoName : PySem.W.subIn K (.ref C_NoName) (.type "BaseException") = some true)
    (tC_NoName : PySem.W.typeIn K (.ref C_NoName) = some (.type "type"))
    (dC_NoName : PySem.W.hasDictIn K C_NoName = true)
    (s_NoText_NoName : PySem.W.subIn K (.ref C_NoText) (.ref C_NoName) = some false)
    (n_NoText_NoName : (Value.ref C_NoText == Value.ref C_NoName) = false)
    {C_NoPlan : Addr}
    (gC_NoPlan : PySem.W.nsIn K mainGlobals "NoPlan" = some (some (.ref C_NoPlan)))
    (bC_NoPlan : PySem.W.subIn K (.ref C_NoPlan) (.type "BaseException") = some true)
    (tC_NoPlan : PySem.W.typeIn K (.ref C_NoPlan) = some (.type "type"))
    (dC_NoPlan : PySem.W.hasDictIn K C_NoPlan = true)
    (s_NoText_NoPlan : PySem.W.subIn K (.ref C_NoText) (.ref C_NoPlan) = some false)
    (n_NoText_NoPlan : (Value.ref C_NoText == Value.ref C_NoPlan) = false)
    {C_NoPoint : Addr}
    (gC_NoPoint : PySem.W.nsIn K mainGlobals "NoPoint" = some (some (.ref C_NoPoint)))
    (bC_NoPoint : PySem.W.subIn K (.ref C_NoPoint) (.type "BaseException") = some true)
    (tC_NoPoint : PySem.W.typeIn K (.ref C_NoPoint) = some (.type "type"))
    (dC_NoPoint : PySem.W.hasDictIn K C_NoPoint = true)
    (s_NoText_NoPoint : PySem.W.subIn K (.ref C_NoText) (.ref C_NoPoint) = some false)
    (n_NoText_NoPoint : (Value.ref C_NoText == Value.ref C_NoPoint) = false)
    {C_NoRatio : Addr}
    (gC_NoRatio : PySem.W.nsIn K mainGlobals "NoRatio" = some (some (.ref C_NoRatio)))
    (bC_NoRatio : PySem.W.subIn K (.ref C_NoRatio) (.type "BaseException") = some true)
    (tC_NoRatio : PySem.W.typeIn K (.ref C_NoRatio) = some (.type "type"))
    (dC_NoRatio : PySem.W.hasDictIn K C_NoRatio = true)
    (s_NoText_NoRatio : PySem.W.subIn K (.ref C_NoText) (.ref C_NoRatio) = some false)
    (n_NoText_NoRatio : (Value.ref C_NoText == Value.ref C_NoRatio) = false)
    {C_NoRow : Addr}
    (gC_NoRow : PySem.W.nsIn K mainGlobals "NoRow" = some (some (.ref C_NoRow)))
    (bC_NoRow : PySem.W.subIn K (.ref C_NoRow) (.type "BaseException") = some true)
    (tC_NoRow : PySem.W.typeIn K (.ref C_NoRow) = some (.type "type"))
    (dC_NoRow : PySem.W.hasDictIn K C_NoRow = true)
    (s_NoText_NoRow : PySem.W.subIn K (.ref C_NoText) (.ref C_NoRow) = some false)
    (n_NoText_NoRow : (Value.ref C_NoText == Value.ref C_NoRow) = false)
    (dC_NoText : PySem.W.hasDictIn K C_NoText = true)
    (s_NoText_ValueError : PySem.W.subIn K (.ref C_NoText) (.type "ValueError") = some true)
    {C_CutError : Addr}
    (gC_CutError : PySem.W.nsIn K mainGlobals "CutError" = some (some (.ref C_CutError)))
    (bC_CutError : PySem.W.subIn K (.ref C_CutError) (.type "BaseException") = some true)
    (tC_CutError : PySem.W.typeIn K (.ref C_CutError) = some (.type "type"))
    (dC_CutError : PySem.W.hasDictIn K C_CutError = true)
    (s_NoText_CutError : PySem.W.subIn K (.ref C_NoText) (.ref C_CutError) = some true)
    (z_ValueError : PySem.W.nsIn K mainGlobals "ValueError" = some none)
    (z_abs : PySem.W.nsIn K mainGlobals "abs" = some none)
    (z_all : PySem.W.nsIn K mainGlobals "all" = some none)
    (z_int : PySem.W.nsIn K mainGlobals "int" = some none)
    (z_isinstance : PySem.W.nsIn K mainGlobals "isinstance" = some none)
    (z_len : PySem.W.nsIn K mainGlobals "len" = some none)
    (z_range : PySem.W.nsIn K mainGlobals "range" = some none)
    (z_str : PySem.W.nsIn K mainGlobals "str" = some none)
    {t_FIGURES : Tok} (c_FIGURES : PySem.W.nsIn K mainGlobals "FIGURES" = some (some (.str "0123456789" t_FIGURES)))
    {t_MOST_FIGURES : Tok} (c_MOST_FIGURES : PySem.W.nsIn K mainGlobals "MOST_FIGURES" = some (some (.int (30) t_MOST_FIGURES)))
    : ∃ fd : FuncData, (∀ (s : Shared) (v : Value), BindsTo s fd ⟨[v], []⟩ [("_law_script", v)]) ∧ ∀ base : Heap, K.In base → base.Ns mainGlobals mg → FnOk l.prog w K mg base CX0 6 fa fd ["_law_script"] (sp_law K) := by
  have e := hfa.symm.trans (PySem.W.mg_of X G a24)
  cases e
  have io_NoText_NoCloth : PySem.W.kitOne K (.ref C_NoText) (.ref C_NoCloth) = some false := kit_ref n_NoText_NoCloth dC_NoCloth tC_NoCloth s_NoText_NoCloth
  have io_NoText_NoMove : PySem.W.kitOne K (.ref C_NoText) (.ref C_NoMove) = some false := kit_ref n_NoText_NoMove dC_NoMove tC_NoMove s_NoText_NoMove
  have io_NoText_NoName : PySem.W.kitOne K (.ref C_NoText) (.ref C_NoName) = some false := kit_ref n_NoText_NoName dC_NoName tC_NoName s_NoText_NoName
  have io_NoText_NoPlan : PySem.W.kitOne K (.ref C_NoText) (.ref C_NoPlan) = some false := kit_ref n_NoText_NoPlan dC_NoPlan tC_NoPlan s_NoText_NoPlan
  have io_NoText_NoPoint : PySem.W.kitOne K (.ref C_NoText) (.ref C_NoPoint) = some false := kit_ref n_NoText_NoPoint dC_NoPoint tC_NoPoint s_NoText_NoPoint
  have io_NoText_NoRatio : PySem.W.kitOne K (.ref C_NoText) (.ref C_NoRatio) = some false := kit_ref n_NoText_NoRatio dC_NoRatio tC_NoRatio s_NoText_NoRatio
  have io_NoText_NoRow : PySem.W.kitOne K (.ref C_NoText) (.ref C_NoRow) = some false := kit_ref n_NoText_NoRow dC_NoRow tC_NoRow s_NoText_NoRow
  have io_NoText_NoText : PySem.W.kitOne K (.ref C_NoText) (.ref C_NoText) = some true := kit_self
  have io_NoText_ValueError : PySem.W.kitOne K (.ref C_NoText) (.type "ValueError") = some true := kit_typ (by decide +kernel) s_NoText_ValueError
  have em_NoText_CutError : PySem.W.exmOne K (.ref C_NoText) (.ref C_CutError) = some true := PySem.W.exm_ref bC_CutError dC_CutError tC_CutError s_NoText_CutError
  let T : Txt K mg := {
    A__law_cell := f0, D__law_cell := PySem.W.fnOf "_law_cell" "_law_cell" (defArgs s__law_cell) (defBody s__law_cell) (defScope s__law_cell) .none kV0 dc0 pm0 an0 cd0 ct0, F__law_cell := fun_mk (st := s__law_cell) l0 c0 k0, g__law_cell := PySem.W.mg_of X G a0, b__law_cell := (fun_mk (st := s__law_cell) l0 c0 k0).binds (ps := ["_law_script", "_law_k"]) fun _ _ _ _ _ _ us hl => match us, hl with | [_, _], _ => rfl,
    A__law_bag := f1, D__law_bag := PySem.W.fnOf "_law_bag" "_law_bag" (defArgs s__law_bag) (defBody s__law_bag) (defScope s__law_bag) .none kV1 dc1 pm1 an1 cd1 ct1, F__law_bag := fun_mk (st := s__law_bag) l1 c1 k1, g__law_bag := PySem.W.mg_of X G a1, b__law_bag := (fun_mk (st := s__law_bag) l1 c1 k1).binds (ps := ["_law_cell_here"]) fun _ _ _ _ _ _ us hl => match us, hl with | [_], _ => rfl,
    A__law_draw := f2, D__law_draw := PySem.W.fnOf "_law_draw" "_law_draw" (defArgs s__law_draw) (defBody s__law_draw) (defScope s__law_draw) .none kV2 dc2 pm2 an2 cd2 ct2, F__law_draw := fun_mk (st := s__law_draw) l2 c2 k2, g__law_draw := PySem.W.mg_of X G a2, b__law_draw := (fun_mk (st := s__law_draw) l2 c2 k2).binds (ps := ["_law_bag_here", "_law_many"]) fun _ _ _ _ _ _ us hl => match us, hl with | [_, _], _ => rfl,
    A__law_great := f3, D__law_great := PySem.W.fnOf "_law_great" "_law_great" (defArgs s__law_great) (defBody s__law_great) (defScope s__law_great) .none kV3 dc3 pm3 an3 cd3 ct3, F__law_great := fun_mk (st := s__law_great) l3 c3 k3, g__law_great := PySem.W.mg_of X G a3, b__law_great := (fun_mk (st := s__law_great) l3 c3 k3).binds (ps := ["_law_bag_here"]) fun _ _ _ _ _ _ us hl => match us, hl with | [_], _ => rfl,
    A__law_signed := f4, D__law_signed := PySem.W.fnOf "_law_signed" "_law_signed" (defArgs s__law_signed) (defBody s__law_signed) (defScope s__law_signed) .none kV4 dc4 pm4 an4 cd4 ct4, F__law_signed := fun_mk (st := s__law_signed) l4 c4 k4, g__law_signed := PySem.W.mg_of X G a4, b__law_signed := (fun_mk (st := s__law_signed) l4 c4 k4).binds (ps := ["_law_bag_here"]) fun _ _ _ _ _ _ us hl => match us, hl with | [_], _ => rfl,
    A__law_gcd := f5, D__law_gcd := PySem.W.fnOf "_law_gcd" "_law_gcd" (defArgs s__law_gcd) (defBody s__law_gcd) (defScope s__law_gcd) .none kV5 dc5 pm5 an5 cd5 ct5, F__law_gcd := fun_mk (st := s__law_gcd) l5 c5 k5, g__law_gcd := PySem.W.mg_of X G a5, b__law_gcd := (fun_mk (st := s__law_gcd) l5 c5 k5).binds (ps := ["_law_one", "_law_two"]) fun _ _ _ _ _ _ us hl => match us, hl with | [_, _], _ => rfl,
    A__law_lowest := f6, D__law_lowest := PySem.W.fnOf "_law_lowest" "_law_lowest" (defArgs s__law_lowest) (defBody s__law_lowest) (defScope s__law_lowest) .none kV6 dc6 pm6 an6 cd6 ct6, F__law_lowest := fun_mk (st := s__law_lowest) l6 c6 k6, g__law_lowest := PySem.W.mg_of X G a6, b__law_lowest := (fun_mk (st := s__law_lowest) l6 c6 k6).binds (ps := ["_law_top", "_law_bottom"]) fun _ _ _ _ _ _ us hl => match us, hl with | [_, _], _ => rfl,
    A__law_rat := f7, D__law_rat := PySem.W.fnOf "_law_rat" "_law_rat" (defArgs s__law_rat) (defBody s__law_rat) (defScope s__law_rat) .none kV7 dc7 pm7 an7 cd7 ct7, F__law_rat := fun_mk (st := s__law_rat) l7 c7 k7, g__law_rat := PySem.W.mg_of X G a7, b__law_rat := (fun_mk (st := s__law_rat) l7 c7 k7).binds (ps := ["_law_bag_here"]) fun _ _ _ _ _ _ us hl => match us, hl with | [_], _ => rfl,
    A__law_text := f8, D__law_text := PySem.W.fnOf "_law_text" "_law_text" (defArgs s__law_text) (defBody s__law_text) (defScope s__law_text) .none kV8 dc8 pm8 an8 cd8 ct8, F__law_text := fun_mk (st := s__law_text) l8 c8 k8, g__law_text := PySem.W.mg_of X G a8, b__law_text := (fun_mk (st := s__law_text) l8 c8 k8).binds (ps := ["_law_one"]) fun _ _ _ _ _ _ us hl => match us, hl with | [_], _ => rfl,
    A__law_is_whole := f9, D__law_is_whole := PySem.W.fnOf "_law_is_whole" "_law_is_whole" (defArgs s__law_is_whole) (defBody s__law_is_whole) (defScope s__law_is_whole) .none kV9 dc9 pm9 an9 cd9 ct9, F__law_is_whole := fun_mk (st := s__law_is_whole) l9 c9 k9, g__law_is_whole := PySem.W.mg_of X G a9, b__law_is_whole := (fun_mk (st := s__law_is_whole) l9 c9 k9).binds (ps := ["_law_text_here"]) fun _ _ _ _ _ _ us hl => match us, hl with | [_], _ => rfl,
    A__law_ratio_in := f10, D__law_ratio_in := PySem.W.fnOf "_law_ratio_in" "_law_ratio_in" (defArgs s__law_ratio_in) (defBody s__law_ratio_in) (defScope s__law_ratio_in) .none kV10 dc10 pm10 an10 cd10 ct10, F__law_ratio_in := fun_mk (st := s__law_ratio_in) l10 c10 k10, g__law_ratio_in := PySem.W.mg_of X G a10, b__law_ratio_in := (fun_mk (st := s__law_ratio_in) l10 c10 k10).binds (ps := ["_law_text_here"]) fun _ _ _ _ _ _ us hl => match us, hl with | [_], _ => rfl,
    A__law_point_in := f11, D__law_point_in := PySem.W.fnOf "_law_point_in" "_law_point_in" (defArgs s__law_point_in) (defBody s__law_point_in) (defScope s__law_point_in) .none kV11 dc11 pm11 an11 cd11 ct11, F__law_point_in := fun_mk (st := s__law_point_in) l11 c11 k11, g__law_point_in := PySem.W.mg_of X G a11, b__law_point_in := (fun_mk (st := s__law_point_in) l11 c11 k11).binds (ps := ["_law_text_here"]) fun _ _ _ _ _ _ us hl => match us, hl with | [_], _ => rfl,
    A_read_whole := f12, D_read_whole := PySem.W.fnOf "read_whole" "read_whole" (defArgs s_read_whole) (defBody s_read_whole) (defScope s_read_whole) .none kV12 dc12 pm12 an12 cd12 ct12, F_read_whole := fun_mk (st := s_read_whole) l12 c12 k12, g_read_whole := PySem.W.mg_of X G a12, b_read_whole := (fun_mk (st := s_read_whole) l12 c12 k12).binds (ps := ["text"]) fun _ _ _ _ _ _ us hl => match us, hl with | [_], _ => rfl,
    A_greatest_divisor := f13, D_greatest_divisor := PySem.W.fnOf "greatest_divisor" "greatest_divisor" (defArgs s_greatest_divisor) (defBody s_greatest_divisor) (defScope s_greatest_divisor) .none kV13 dc13 pm13 an13 cd13 ct13, F_greatest_divisor := fun_mk (st := s_greatest_divisor) l13 c13 k13, g_greatest_divisor := PySem.W.mg_of X G a13, b_greatest_divisor := (fun_mk (st := s_greatest_divisor) l13 c13 k13).binds (ps := ["a", "b"]) fun _ _ _ _ _ _ us hl => match us, hl with | [_, _], _ => rfl,
    A_ratio := f14, D_ratio := PySem.W.fnOf "ratio" "ratio" (defArgs s_ratio) (defBody s_ratio) (defScope s_ratio) .none kV14 dc14 pm14 an14 cd14 ct14, F_ratio := fun_mk (st := s_ratio) l14 c14 k14, g_ratio := PySem.W.mg_of X G a14, b_ratio := (fun_mk (st := s_ratio) l14 c14 k14).binds (ps := ["top", "bottom"]) fun _ _ _ _ _ _ us hl => match us, hl with | [_, _], _ => rfl,
    A_read_ratio := f15, D_read_ratio := PySem.W.fnOf "read_ratio" "read_ratio" (defArgs s_read_ratio) (defBody s_read_ratio) (defScope s_read_ratio) .none kV15 dc15 pm15 an15 cd15 ct15, F_read_ratio := fun_mk (st := s_read_ratio) l15 c15 k15, g_read_ratio := PySem.W.mg_of X G a15, b_read_ratio := (fun_mk (st := s_read_ratio) l15 c15 k15).binds (ps := ["text"]) fun _ _ _ _ _ _ us hl => match us, hl with | [_], _ => rfl,
    A_point := f16, D_point := PySem.W.fnOf "point" "point" (defArgs s_point) (defBody s_point) (defScope s_point) .none kV16 dc16 pm16 an16 cd16 ct16, F_point := fun_mk (st := s_point) l16 c16 k16, g_point := PySem.W.mg_of X G a16, b_point := (fun_mk (st := s_point) l16 c16 k16).binds (ps := ["a", "b", "n"]) fun _ _ _ _ _ _ us hl => match us, hl with | [_, _, _], _ => rfl,
    A_at := f17, D_at := PySem.W.fnOf "at" "at" (defArgs s_at) (defBody s_at) (defScope s_at) .none kV17 dc17 pm17 an17 cd17 ct17, F_at := fun_mk (st := s_at) l17 c17 k17, g_at := PySem.W.mg_of X G a17, b_at := (fun_mk (st := s_at) l17 c17 k17).binds (ps := ["x", "y"]) fun _ _ _ _ _ _ us hl => match us, hl with | [_, _], _ => rfl,
    A_read_point := f18, D_read_point := PySem.W.fnOf "read_point" "read_point" (defArgs s_read_point) (defBody s_read_point) (defScope s_read_point) .none kV18 dc18 pm18 an18 cd18 ct18, F_read_point := fun_mk (st := s_read_point) l18 c18 k18, g_read_point := PySem.W.mg_of X G a18, b_read_point := (fun_mk (st := s_read_point) l18 c18 k18).binds (ps := ["text"]) fun _ _ _ _ _ _ us hl => match us, hl with | [_], _ => rfl,
    A__law_alone := f19, D__law_alone := PySem.W.fnOf "_law_alone" "_law_alone" (defArgs s__law_alone) (defBody s__law_alone) (defScope s__law_alone) .none kV19 dc19 pm19 an19 cd19 ct19, F__law_alone := fun_mk (st := s__law_alone) l19 c19 k19, g__law_alone := PySem.W.mg_of X G a19, b__law_alone := (fun_mk (st := s__law_alone) l19 c19 k19).binds (ps := ["_law_e", "_law_kind"]) fun _ _ _ _ _ _ us hl => match us, hl with | [_, _], _ => rfl,
    A__law_point := f20, D__law_point := PySem.W.fnOf "_law_point" "_law_point" (defArgs s__law_point) (defBody s__law_point) (defScope s__law_point) .none kV20 dc20 pm20 an20 cd20 ct20, F__law_point := fun_mk (st := s__law_point) l20 c20 k20, g__law_point := PySem.W.mg_of X G a20, b__law_point := (fun_mk (st := s__law_point) l20 c20 k20).binds (ps := ["_law_a", "_law_b", "_law_n"]) fun _ _ _ _ _ _ us hl => match us, hl with | [_, _, _], _ => rfl,
    A__law_right := f21, D__law_right := PySem.W.fnOf "_law_right" "_law_right" (defArgs s__law_right) (defBody s__law_right) (defScope s__law_right) .none kV21 dc21 pm21 an21 cd21 ct21, F__law_right := fun_mk (st := s__law_right) l21 c21 k21, g__law_right := PySem.W.mg_of X G a21, b__law_right := (fun_mk (st := s__law_right) l21 c21 k21).binds (ps := ["_law_text_here"]) fun _ _ _ _ _ _ us hl => match us, hl with | [_], _ => rfl,
    A__law_sign_spoiled := f22, D__law_sign_spoiled := PySem.W.fnOf "_law_sign_spoiled" "_law_sign_spoiled" (defArgs s__law_sign_spoiled) (defBody s__law_sign_spoiled) (defScope s__law_sign_spoiled) .none kV22 dc22 pm22 an22 cd22 ct22, F__law_sign_spoiled := fun_mk (st := s__law_sign_spoiled) l22 c22 k22, g__law_sign_spoiled := PySem.W.mg_of X G a22, b__law_sign_spoiled := (fun_mk (st := s__law_sign_spoiled) l22 c22 k22).binds (ps := ["_law_bag_here", "_law_text_here"]) fun _ _ _ _ _ _ us hl => match us, hl with | [_, _], _ => rfl,
    A__law_odd := f23, D__law_odd := PySem.W.fnOf "_law_odd" "_law_odd" (defArgs s__law_odd) (defBody s__law_odd) (defScope s__law_odd) .none kV23 dc23 pm23 an23 cd23 ct23, F__law_odd := fun_mk (st := s__law_odd) l23 c23 k23, g__law_odd := PySem.W.mg_of X G a23, b__law_odd := (fun_mk (st := s__law_odd) l23 c23 k23).binds (ps := ["_law_bag_here"]) fun _ _ _ _ _ _ us hl => match us, hl with | [_], _ => rfl,
    A_law := fa, D_law := PySem.W.fnOf "law" "law" (defArgs s_law) (defBody s_law) (defScope s_law) .none kV24 dc24 pm24 an24 cd24 ct24, F_law := fun_mk (st := s_law) l24 c24 k24, g_law := PySem.W.mg_of X G a24, b_law := (fun_mk (st := s_law) l24 c24 k24).binds (ps := ["_law_script"]) fun _ _ _ _ _ _ us hl => match us, hl with | [_], _ => rfl,
    C_NoText := C_NoText,
    gC_NoText := PySem.W.mg_of X G gC_NoText,
    x_NoText := x_NoText,
    kC_NoText := kC_NoText,
    bC_NoText := bC_NoText,
    tC_NoText := tC_NoText,
    E_NoText := ⟨E_NoTexthg, E_NoTexthk, E_NoTexths, E_NoTexthd, E_NoTextha, E_NoTexthn, E_NoTextht, E_NoTexthm⟩,
    C_NoCloth := C_NoCloth,
    gC_NoCloth := PySem.W.mg_of X G gC_NoCloth,
    bC_NoCloth := bC_NoCloth,
    tC_NoCloth := tC_NoCloth,
    dC_NoCloth := dC_NoCloth,
    s_NoText_NoCloth := s_NoText_NoCloth,
    n_NoText_NoCloth := n_NoText_NoCloth,
    io_NoText_NoCloth := io_NoText_NoCloth,
    C_NoMove := C_NoMove,
    gC_NoMove := PySem.W.mg_of X G gC_NoMove,
    bC_NoMove := bC_NoMove,
    tC_NoMove := tC_NoMove,
    dC_NoMove := dC_NoMove,
    s_NoText_NoMove := s_NoText_NoMove,
    n_NoText_NoMove := n_NoText_NoMove,
    io_NoText_NoMove := io_NoText_NoMove,
    C_NoName := C_NoName,
    gC_NoName := PySem.W.mg_of X G gC_NoName,
    bC_NoName := bC_NoName,
    tC_NoName := tC_NoName,
    dC_NoName := dC_NoName,
    s_NoText_NoName := s_NoText_NoName,
    n_NoText_NoName := n_NoText_NoName,
    io_NoText_NoName := io_NoText_NoName,
    C_NoPlan := C_NoPlan,
    gC_NoPlan := PySem.W.mg_of X G gC_NoPlan,
    bC_NoPlan := bC_NoPlan,
    tC_NoPlan := tC_NoPlan,
    dC_NoPlan := dC_NoPlan,
    s_NoText_NoPlan := s_NoText_NoPlan,
    n_NoText_NoPlan := n_NoText_NoPlan,
    io_NoText_NoPlan := io_NoText_NoPlan,
    C_NoPoint := C_NoPoint,
    gC_NoPoint := PySem.W.mg_of X G gC_NoPoint,
    bC_NoPoint := bC_NoPoint,
    tC_NoPoint := tC_NoPoint,
    dC_NoPoint := dC_NoPoint,
    s_NoText_NoPoint := s_NoText_NoPoint,
    n_NoText_NoPoint := n_NoText_NoPoint,
    io_NoText_NoPoint := io_NoText_NoPoint,
    C_NoRatio := C_NoRatio,
    gC_NoRatio := PySem.W.mg_of X G gC_NoRatio,
    bC_NoRatio := bC_NoRatio,
    tC_NoRatio := tC_NoRatio,
    dC_NoRatio := dC_NoRatio,
    s_NoText_NoRatio := s_NoText_NoRatio,
    n_NoText_NoRatio := n_NoText_NoRatio,
    io_NoText_NoRatio := io_NoText_NoRatio,
    C_NoRow := C_NoRow,
    gC_NoRow := PySem.W.mg_of X G gC_NoRow,
    bC_NoRow := bC_NoRow,
    tC_NoRow := tC_NoRow,
    dC_NoRow := dC_NoRow,
    s_NoText_NoRow := s_NoText_NoRow,
    n_NoText_NoRow := n_NoText_NoRow,
    io_NoText_NoRow := io_NoText_NoRow,
    dC_NoText := dC_NoText,
    io_NoText_NoText := io_NoText_NoText,
    s_NoText_ValueError := s_NoText_ValueError,
    io_NoText_ValueError := io_NoText_ValueError,
    C_CutError := C_CutError,
    gC_CutError := PySem.W.mg_of X G gC_CutError,
    bC_CutError := bC_CutError,
    tC_CutError := tC_CutError,
    dC_CutError := dC_CutError,
    s_NoText_CutError := s_NoText_CutError,
    em_NoText_CutError := em_NoText_CutError,
    z_ValueError := PySem.W.mg_none_of X G z_ValueError,
    z_abs := PySem.W.mg_none_of X G z_abs,
    z_all := PySem.W.mg_none_of X G z_all,
    z_int := PySem.W.mg_none_of X G z_int,
    z_isinstance := PySem.W.mg_none_of X G z_isinstance,
    z_len := PySem.W.mg_none_of X G z_len,
    z_range := PySem.W.mg_none_of X G z_range,
    z_str := PySem.W.mg_none_of X G z_str,
    t_FIGURES := t_FIGURES, c_FIGURES := PySem.W.mg_of X G c_FIGURES,
    t_MOST_FIGURES := t_MOST_FIGURES, c_MOST_FIGURES := PySem.W.mg_of X G c_MOST_FIGURES }
  exact ⟨_, fun s v => .of_eq rfl, fun base _ _ => ok_law (P := l.prog) (w := w) (base := base) T⟩
theorem walk {l : PySem.W.OpenLaw} {q : Program} {loose : List Str} {XP : (Str → Option Value) → Heap → Prop} {YP : World → Heap → Prop} {d : DefRec} {K : Params → PySem.W.Frag} (hn : l.most = some 63) (hdf : d.params.defaults = [])
    (hY : ∀ (w : World) (h : Heap), YP w h → (K w.params).In h)
    (F : ∀ (w : World) (mg : Str → Option Value) (fa : Addr) (h : Heap), (K w.params).In h → h.Ns mainGlobals mg → mg d.name = some (.ref fa) →
      ∃ fd : FuncData, (∀ (s : Shared) (u : Value), BindsTo s fd ⟨[u], []⟩ [("_law_script", u)]) ∧ ∀ base : Heap, (K w.params).In base → base.Ns mainGlobals mg → FnOk l.prog w (K w.params) mg base CX0 6 fa fd ["_law_script"] (sp_law (K w.params))) :
    PySem.W.WalkO q loose XP YP l.row.toRowW d [] (fun f vs => PySem.call f vs) :=
  L2.walk_of (n := 63) (k := 6) (x := "_law_script") (CX := fun _ => CX0) (sp := fun w => sp_law (K w.params)) hn (by decide) hdf ⟨rfl, by decide, by decide⟩ hY F (fun _ H a ns hl _ hS => mk_law (X := fun _ => False) (law_true ns hl) ⟨.s (.of hS) .nil, List.nodup_nil, fun _ h => (nomatch h), fun _ h => h.elim⟩ fun _ _ => rfl) fun _ _ _ _ _ z => z
end Sc
open PySem PySem.W PyProof.Rows
set_option maxRecDepth 100000 in
set_option maxHeartbeats 0 in
theorem PySem.Challenge.cw_slidecut_k68_texts_of_no_point_holds : PySem.Challenge.rw_slidecut_k68_texts_of_no_point.Holds := by
  w_on; o_law; k_head; (case hw => w_witness2)
  k_fill
  refine Sc.walk (l := PySem.Challenge.rw_slidecut_k68_texts_of_no_point) rfl rfl (fun w h Y => PySem.W.kIn_of Y) ?F
  case F =>
    intro w mg fa h KX G hmg
    refine' Sc.all_mk KX G hmg ?a0 ?l0 ?c0 ?k0 ?a1 ?l1 ?c1 ?k1 ?a2 ?l2 ?c2 ?k2 ?a3 ?l3 ?c3 ?k3 ?a4 ?l4 ?c4 ?k4 ?a5 ?l5 ?c5 ?k5 ?a6 ?l6 ?c6 ?k6 ?a7 ?l7 ?c7 ?k7 ?a8 ?l8 ?c8 ?k8 ?a9 ?l9 ?c9 ?k9 ?a10 ?l10 ?c10 ?k10 ?a11 ?l11 ?c11 ?k11 ?a12 ?l12 ?c12 ?k12 ?a13 ?l13 ?c13 ?k13 ?a14 ?l14 ?c14 ?k14 ?a15 ?l15 ?c15 ?k15 ?a16 ?l16 ?c16 ?k16 ?a17 ?l17 ?c17 ?k17 ?a18 ?l18 ?c18 ?k18 ?a19 ?l19 ?c19 ?k19 ?a20 ?l20 ?c20 ?k20 ?a21 ?l21 ?c21 ?k21 ?a22 ?l22 ?c22 ?k22 ?a23 ?l23 ?c23 ?k23 ?a24 ?l24 ?c24 ?k24 ?gC_NoText ?x_NoText ?kC_NoText ?bC_NoText ?tC_NoText ?E_NoTexthg ?E_NoTexthk ?E_NoTexths ?E_NoTexthd ?E_NoTextha ?E_NoTexthn ?E_NoTextht ?E_NoTexthm ?gC_NoCloth ?bC_NoCloth ?tC_NoCloth ?dC_NoCloth ?s_NoText_NoCloth ?n_NoText_NoCloth ?gC_NoMove ?bC_NoMove ?tC_NoMove ?dC_NoMove ?s_NoText_NoMove ?n_NoText_NoMove ?gC_NoName ?bC_NoName ?tC_NoName ?dC_NoName ?s_NoText_NoName ?n_NoText_NoName ?gC_NoPlan ?bC_NoPlan ?tC_NoPlan ?dC_NoPlan ?s_NoText_NoPlan ?n_NoText_NoPlan ?gC_NoPoint ?bC_NoPoint ?tC_NoPoint ?dC_NoPoint ?s_NoText_NoPoint ?n_NoText_NoPoint ?gC_NoRatio ?bC_NoRatio ?tC_NoRatio ?dC_NoRatio ?s_NoText_NoRatio ?n_NoText_NoRatio ?gC_NoRow ?bC_NoRow ?tC_NoRow ?dC_NoRow ?s_NoText_NoRow ?n_NoText_NoRow ?dC_NoText ?s_NoText_ValueError ?gC_CutError ?bC_CutError ?tC_CutError ?dC_CutError ?s_NoText_CutError ?z_ValueError ?z_abs ?z_all ?z_int ?z_isinstance ?z_len ?z_range ?z_str ?c_FIGURES ?c_MOST_FIGURES
    (case a0 => k_is)
    (case l0 => k_is)
    (case c0 => k_is)
    (case k0 => k_is)
    (case a1 => k_is)
    (case l1 => k_is)
    (case c1 => k_is)
    (case k1 => k_is)
    (case a2 => k_is)
    (case l2 => k_is)
    (case c2 => k_is)
    (case k2 => k_is)
    (case a3 => k_is)
    (case l3 => k_is)
    (case c3 => k_is)
    (case k3 => k_is)
    (case a4 => k_is)
    (case l4 => k_is)
    (case c4 => k_is)
    (case k4 => k_is)
    (case a5 => k_is)
    (case l5 => k_is)
    (case c5 => k_is)
    (case k5 => k_is)
    (case a6 => k_is)
    (case l6 => k_is)
    (case c6 => k_is)
    (case k6 => k_is)
    (case a7 => k_is)
    (case l7 => k_is)
    (case c7 => k_is)
    (case k7 => k_is)
    (case a8 => k_is)
    (case l8 => k_is)
    (case c8 => k_is)
    (case k8 => k_is)
    (case a9 => k_is)
    (case l9 => k_is)
    (case c9 => k_is)
    (case k9 => k_is)
    (case a10 => k_is)
    (case l10 => k_is)
    (case c10 => k_is)
    (case k10 => k_is)
    (case a11 => k_is)
    (case l11 => k_is)
    (case c11 => k_is)
    (case k11 => k_is)
    (case a12 => k_is)
    (case l12 => k_is)
    (case c12 => k_is)
    (case k12 => k_is)
    (case a13 => k_is)
    (case l13 => k_is)
    (case c13 => k_is)
    (case k13 => k_is)
    (case a14 => k_is)
    (case l14 => k_is)
    (case c14 => k_is)
    (case k14 => k_is)
    (case a15 => k_is)
    (case l15 => k_is)
    (case c15 => k_is)
    (case k15 => k_is)
    (case a16 => k_is)
    (case l16 => k_is)
    (case c16 => k_is)
    (case k16 => k_is)
    (case a17 => k_is)
    (case l17 => k_is)
    (case c17 => k_is)
    (case k17 => k_is)
    (case a18 => k_is)
    (case l18 => k_is)
    (case c18 => k_is)
    (case k18 => k_is)
    (case a19 => k_is)
    (case l19 => k_is)
    (case c19 => k_is)
    (case k19 => k_is)
    (case a20 => k_is)
    (case l20 => k_is)
    (case c20 => k_is)
    (case k20 => k_is)
    (case a21 => k_is)
    (case l21 => k_is)
    (case c21 => k_is)
    (case k21 => k_is)
    (case a22 => k_is)
    (case l22 => k_is)
    (case c22 => k_is)
    (case k22 => k_is)
    (case a23 => k_is)
    (case l23 => k_is)
    (case c23 => k_is)
    (case k23 => k_is)
    (case a24 => k_is)
    (case l24 => k_is)
    (case c24 => k_is)
    (case k24 => k_is)
    (case gC_NoText => k_is)
    (case x_NoText => k_exc)
    (case kC_NoText => k_is)
    (case bC_NoText => k_is)
    (case tC_NoText => k_is)
    (case E_NoTexthg => k_is)
    (case E_NoTexthk => k_is)
    (case E_NoTexths => k_is)
    (case E_NoTexthd => k_is)
    (case E_NoTextha => k_is)
    (case E_NoTexthn => k_is)
    (case E_NoTextht => k_is)
    (case E_NoTexthm => k_is)
    (case gC_NoCloth => k_is)
    (case bC_NoCloth => k_is)
    (case tC_NoCloth => k_is)
    (case dC_NoCloth => k_is)
    (case s_NoText_NoCloth => k_is)
    (case n_NoText_NoCloth => first | rfl | decide)
    (case gC_NoMove => k_is)
    (case bC_NoMove => k_is)
    (case tC_NoMove => k_is)
    (case dC_NoMove => k_is)
    (case s_NoText_NoMove => k_is)
    (case n_NoText_NoMove => first | rfl | decide)
    (case gC_NoName => k_is)
    (case bC_NoName => k_is)
    (case tC_NoName => k_is)
    (case dC_NoName => k_is)
    (case s_NoText_NoName => k_is)
    (case n_NoText_NoName => first | rfl | decide)
    (case gC_NoPlan => k_is)
    (case bC_NoPlan => k_is)
    (case tC_NoPlan => k_is)
    (case dC_NoPlan => k_is)
    (case s_NoText_NoPlan => k_is)
    (case n_NoText_NoPlan => first | rfl | decide)
    (case gC_NoPoint => k_is)
    (case bC_NoPoint => k_is)
    (case tC_NoPoint => k_is)
    (case dC_NoPoint => k_is)
    (case s_NoText_NoPoint => k_is)
    (case n_NoText_NoPoint => first | rfl | decide)
    (case gC_NoRatio => k_is)
    (case bC_NoRatio => k_is)
    (case tC_NoRatio => k_is)
    (case dC_NoRatio => k_is)
    (case s_NoText_NoRatio => k_is)
    (case n_NoText_NoRatio => first | rfl | decide)
    (case gC_NoRow => k_is)
    (case bC_NoRow => k_is)
    (case tC_NoRow => k_is)
    (case dC_NoRow => k_is)
    (case s_NoText_NoRow => k_is)
    (case n_NoText_NoRow => first | rfl | decide)
    (case dC_NoText => k_is)
    (case s_NoText_ValueError => k_is)
    (case gC_CutError => k_is)
    (case bC_CutError => k_is)
    (case tC_CutError => k_is)
    (case dC_CutError => k_is)
    (case s_NoText_CutError => k_is)
    (case z_ValueError => k_is)
    (case z_abs => k_is)
    (case z_all => k_is)
    (case z_int => k_is)
    (case z_isinstance => k_is)
    (case z_len => k_is)
    (case z_range => k_is)
    (case z_str => k_is)
    (case c_FIGURES => k_is)
    (case c_MOST_FIGURES => k_is)
#print axioms PySem.Challenge.cw_slidecut_k68_texts_of_no_point_holds
